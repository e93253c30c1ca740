import PyProof.Rows.All
import Wide.All
import OpenK.AllK
import Wide.FinOn
import HandS.ForMost
import HandS.ForExc
import HandS.Property
import HandS.ClsMeth
import HandS.Wide
import HandS.TupLe
import HandS.IsInst
import HandS.FStr
import HandS.RaiseMore
import HandS.EndBits
import HandS.AnyAll
import PySem.Challenge.RW_marklessways_k02_kinds_and_names
import KE.RegKIsAll
set_option Elab.async false
set_option linter.all false
set_option maxRecDepth 100000
set_option maxHeartbeats 4000000
/-! MW: a canonical store over the hand layer. -/
namespace MW
open PySem PySem.Spec PyProof.Rows L2

/-- a value; tuples are values, everything else that lives on the heap is an index into the store -/
inductive CV where
  | non | bl (b : Bool) | int (i : Int) | str (x : Str) | tup (xs : List CV) | ref (n : Nat) | cls (x : Str) | ty (x : String) | scr (ns : List Int)

mutual
def CV.beq : CV → CV → Bool
  | .non, .non => true
  | .bl a, .bl b => a == b
  | .int a, .int b => decide (a = b)
  | .str a, .str b => decide (a = b)
  | .tup a, .tup b => CV.beqs a b
  | .ref a, .ref b => decide (a = b)
  | .cls a, .cls b => decide (a = b)
  | .ty a, .ty b => decide (a = b)
  | .scr a, .scr b => decide (a = b)
  | _, _ => false
def CV.beqs : List CV → List CV → Bool
  | [], [] => true
  | a :: as, b :: bs => CV.beq a b && CV.beqs as bs
  | _, _ => false
end
mutual
theorem CV.beq_eq : ∀ (a b : CV), CV.beq a b = true → a = b
  | .non, b, h => by cases b <;> first | rfl | (simp [CV.beq] at h)
  | .bl x, b, h => by cases b <;> simp_all [CV.beq]
  | .int x, b, h => by cases b <;> simp_all [CV.beq]
  | .str x, b, h => by cases b <;> simp_all [CV.beq]
  | .tup x, b, h => by
    cases b with
    | tup y => rw [CV.beqs_eq x y (by simpa [CV.beq] using h)]
    | _ => simp [CV.beq] at h
  | .ref x, b, h => by cases b <;> simp_all [CV.beq]
  | .cls x, b, h => by cases b <;> simp_all [CV.beq]
  | .ty x, b, h => by cases b <;> simp_all [CV.beq]
  | .scr x, b, h => by cases b <;> simp_all [CV.beq]
theorem CV.beqs_eq : ∀ (a b : List CV), CV.beqs a b = true → a = b
  | [], b, h => by cases b <;> first | rfl | (simp [CV.beqs] at h)
  | a :: as, b, h => by
    cases b with
    | nil => simp [CV.beqs] at h
    | cons c cs =>
      simp only [CV.beqs, Bool.and_eq_true] at h
      rw [CV.beq_eq a c h.1, CV.beqs_eq as cs h.2]
end
mutual
theorem CV.beq_refl : ∀ (a : CV), CV.beq a a = true
  | .non => rfl
  | .bl x => by simp [CV.beq]
  | .int x => by simp [CV.beq]
  | .str x => by simp [CV.beq]
  | .tup x => by simp only [CV.beq]; exact CV.beqs_refl x
  | .ref x => by simp [CV.beq]
  | .cls x => by simp [CV.beq]
  | .ty x => by simp [CV.beq]
  | .scr x => by simp [CV.beq]
theorem CV.beqs_refl : ∀ (a : List CV), CV.beqs a a = true
  | [] => rfl
  | a :: as => by simp only [CV.beqs, CV.beq_refl a, CV.beqs_refl as, Bool.and_self]
end
instance : DecidableEq CV := fun a b => if h : CV.beq a b = true then .isTrue (CV.beq_eq a b h) else .isFalse fun e => h (e ▸ CV.beq_refl a)

/-- what stands in the store -/
inductive CO where
  | lst (xs : List CV) | dic (kvs : List (CV × CV)) | ins (c : Str) (fs : List (Str × CV)) | exc (c : Str) (fs : List (Str × CV)) | frz (o : CO)
  deriving DecidableEq
abbrev Sto := List CO
abbrev Rho := List (Option CV)

inductive Res (α : Type) where
  | ok (a : α) (S : Sto) | exc (c : Str) (fs : List (Str × CV)) (S : Sto) | bad
abbrev M (α : Type) := Sto → Res α
def Res.bnd {α β : Type} (r : Res α) (k : α → M β) : Res β := match r with
  | .ok a S => k a S
  | .exc c fs S => .exc c fs S
  | .bad => .bad
def bnd {α β : Type} (m : M α) (k : α → M β) : M β := fun S => (m S).bnd k
def ret {α : Type} (a : α) : M α := fun S => .ok a S
def bad {α : Type} : M α := fun _ => .bad

mutual
/-- the value c of the store stands for v -/
inductive RepV (K : PySem.W.Frag) (mg : Str → Option Value) (ι : List Addr) (H : Hp) : CV → V → Prop where
  | non : RepV K mg ι H .non .non
  | bl (b : Bool) : RepV K mg ι H (.bl b) (.bl b)
  | int (i : Int) : RepV K mg ι H (.int i) (.int i)
  | str (x : Str) : RepV K mg ι H (.str x) (.str x)
  | tup {a : Addr} {cs : List CV} {vs : List V} (h : SqT K H a vs) (r : RepVs K mg ι H cs vs) : RepV K mg ι H (.tup cs) (.ref a)
  | ref {n : Nat} {a : Addr} (h : ι[n]? = some a) : RepV K mg ι H (.ref n) (.ref a)
  | cls {x : Str} {C : Addr} (h : mg x = some (.ref C)) : RepV K mg ι H (.cls x) (.ref C)
  | ty (x : String) : RepV K mg ι H (.ty x) (.ty x)
  | scr {a : Addr} {ns : List Int} (h : (∃ o, H a = some (.frz o (.lst (ns.map V.int)))) ∨ (∀ H', SqL K H' a (ns.map V.int))) : RepV K mg ι H (.scr ns) (.ref a)
inductive RepVs (K : PySem.W.Frag) (mg : Str → Option Value) (ι : List Addr) (H : Hp) : List CV → List V → Prop where
  | nil : RepVs K mg ι H [] []
  | cons {c : CV} {v : V} {cs : List CV} {vs : List V} (r : RepV K mg ι H c v) (rs : RepVs K mg ι H cs vs) : RepVs K mg ι H (c :: cs) (v :: vs)
end

section
variable {K : PySem.W.Frag} {mg : Str → Option Value} {ι ι' : List Addr} {H H' : Hp} {cs : List CV} {vs : List V}
theorem RepVs.length : ∀ {cs : List CV} {vs : List V}, RepVs K mg ι H cs vs → cs.length = vs.length
  | _, _, .nil => rfl
  | _, _, .cons _ rs => by rw [List.length_cons, List.length_cons, RepVs.length rs]
theorem RepVs.get : ∀ {cs : List CV} {vs : List V} {i : Nat} {c : CV}, RepVs K mg ι H cs vs → cs[i]? = some c → ∃ v, vs[i]? = some v ∧ RepV K mg ι H c v
  | _, _, _, _, .nil, e => by simp at e
  | _, _, 0, _, .cons r _, e => by simp at e; subst e; exact ⟨_, rfl, r⟩
  | _, _, i + 1, c, .cons _ t, e => by
    obtain ⟨u, h1, h2⟩ := RepVs.get (i := i) (c := c) t (by simpa using e)
    exact ⟨u, by simpa using h1, h2⟩
theorem RepVs.append : ∀ {cs ds : List CV} {vs us : List V}, RepVs K mg ι H cs vs → RepVs K mg ι H ds us → RepVs K mg ι H (cs ++ ds) (vs ++ us)
  | _, _, _, _, .nil, s => s
  | _, _, _, _, .cons r t, s => .cons r (RepVs.append t s)
theorem RepVs.set {c : CV} {v : V} (r : RepV K mg ι H c v) : ∀ {cs : List CV} {vs : List V} (i : Nat), RepVs K mg ι H cs vs → RepVs K mg ι H (cs.set i c) (vs.set i v)
  | _, _, _, .nil => .nil
  | _, _, 0, .cons _ t => .cons r t
  | _, _, i + 1, .cons q t => .cons q (RepVs.set r i t)
theorem RepVs.take : ∀ {cs : List CV} {vs : List V} (n : Nat), RepVs K mg ι H cs vs → RepVs K mg ι H (cs.take n) (vs.take n)
  | _, _, 0, _ => .nil
  | _, _, _ + 1, .nil => .nil
  | _, _, n + 1, .cons r t => .cons r (RepVs.take n t)
theorem RepVs.drop : ∀ {cs : List CV} {vs : List V} (n : Nat), RepVs K mg ι H cs vs → RepVs K mg ι H (cs.drop n) (vs.drop n)
  | _, _, 0, r => r
  | _, _, _ + 1, .nil => .nil
  | _, _, n + 1, .cons _ t => RepVs.drop n t
theorem RepVs.ints (ns : List Int) : RepVs K mg ι H (ns.map CV.int) (ns.map V.int) := by
  induction ns with
  | nil => exact .nil
  | cons n r ih => exact .cons (.int n) ih
theorem RepVs.strs (ns : List Str) : RepVs K mg ι H (ns.map CV.str) (ns.map V.str) := by
  induction ns with
  | nil => exact .nil
  | cons n r ih => exact .cons (.str n) ih

/-- attributes, in order -/
inductive RepFs (K : PySem.W.Frag) (mg : Str → Option Value) (ι : List Addr) (H : Hp) : List (Str × CV) → List (Str × V) → Prop where
  | nil : RepFs K mg ι H [] []
  | cons {f : Str} {c : CV} {v : V} {cs : List (Str × CV)} {vs : List (Str × V)} (r : RepV K mg ι H c v) (rs : RepFs K mg ι H cs vs) : RepFs K mg ι H ((f, c) :: cs) ((f, v) :: vs)

/-- what is a tuple, or the script, stays -/
structure Tk (H H' : Hp) : Prop where
  tup : ∀ b xs, Rd H b (.tup xs) → Rd H' b (.tup xs)
  scr : ∀ b o xs, H b = some (.frz o (.lst xs)) → H' b = some (.frz o (.lst xs))
theorem Tk.refl (H : Hp) : Tk H H := ⟨fun _ _ h => h, fun _ _ _ h => h⟩
theorem SqT.tk {a : Addr} {xs : List V} (t : Tk H H') (h : SqT K H a xs) : SqT K H' a xs := by
  rcases h with h | h
  · exact .inl (t.tup _ _ h)
  · exact .inr h
mutual
theorem RepV.mono (t : Tk H H') (m : List Addr) : ∀ {c : CV} {v : V}, RepV K mg ι H c v → RepV K mg (ι ++ m) H' c v
  | _, _, .non => .non
  | _, _, .bl b => .bl b
  | _, _, .int i => .int i
  | _, _, .str x => .str x
  | _, _, .tup h r => .tup (SqT.tk t h) (RepVs.mono t m r)
  | _, _, .ref h => .ref (by rw [List.getElem?_append_left (List.getElem?_eq_some_iff.mp h).1]; exact h)
  | _, _, .cls h => .cls h
  | _, _, .ty x => .ty x
  | _, _, .scr h => .scr (h.imp (fun ⟨o, e⟩ => ⟨o, t.scr _ _ _ e⟩) id)
theorem RepVs.mono (t : Tk H H') (m : List Addr) : ∀ {cs : List CV} {vs : List V}, RepVs K mg ι H cs vs → RepVs K mg (ι ++ m) H' cs vs
  | _, _, .nil => .nil
  | _, _, .cons r rs => .cons (RepV.mono t m r) (RepVs.mono t m rs)
end
theorem RepFs.mono (t : Tk H H') (m : List Addr) : ∀ {cs : List (Str × CV)} {vs : List (Str × V)}, RepFs K mg ι H cs vs → RepFs K mg (ι ++ m) H' cs vs
  | _, _, .nil => .nil
  | _, _, .cons r rs => .cons (r.mono t m) (RepFs.mono t m rs)
end

/-- dict entries: keys are ints and texts -/
def ckey : CV → Option Key
  | .int i => some (.inl i)
  | .str x => some (.inr x)
  | _ => none
inductive RepKs (K : PySem.W.Frag) (mg : Str → Option Value) (ι : List Addr) (H : Hp) : List (CV × CV) → List (Key × V) → Prop where
  | nil : RepKs K mg ι H [] []
  | cons {k : CV} {k' : Key} {c : CV} {v : V} {cs : List (CV × CV)} {vs : List (Key × V)} (hk : ckey k = some k') (r : RepV K mg ι H c v) (rs : RepKs K mg ι H cs vs) : RepKs K mg ι H ((k, c) :: cs) ((k', v) :: vs)
def ckeys : CV → Option (List Key)
  | .tup cs => cs.mapM ckey
  | _ => none
inductive RepTs (K : PySem.W.Frag) (mg : Str → Option Value) (ι : List Addr) (H : Hp) : List (CV × CV) → List (List Key × V) → Prop where
  | nil : RepTs K mg ι H [] []
  | cons {k : CV} {k' : List Key} {c : CV} {v : V} {cs : List (CV × CV)} {vs : List (List Key × V)} (hk : ckeys k = some k') (r : RepV K mg ι H c v) (rs : RepTs K mg ι H cs vs) : RepTs K mg ι H ((k, c) :: cs) ((k', v) :: vs)

/-- an exception that is kept as a value: its object, by its class and its own dict -/
def ExcO (a C d : Addr) : HO := .ext fun h => ∃ (o : Obj) (vs : Array Value), h.get? a = some o ∧ o.cls = .ref C ∧ o.dict = some d ∧ o.data = .fields vs

/-- the store's object o stands at a -/
def RepO (K : PySem.W.Frag) (mg : Str → Option Value) (ι : List Addr) (H : Hp) (a : Addr) : CO → Prop
  | .lst cs => ∃ vs, H a = some (.lst vs) ∧ RepVs K mg ι H cs vs
  | .dic kvs => (∃ ps, H a = some (.dK ps) ∧ RepKs K mg ι H kvs ps) ∨ (∃ ps, H a = some (.dT ps) ∧ RepTs K mg ι H kvs ps)
  | .ins c fs => ∃ C dx gs, mg c = some (.ref C) ∧ H a = some (.ins C dx gs) ∧ RepFs K mg ι H fs gs
  | .exc c fs => ∃ C d gs, mg c = some (.ref C) ∧ H a = some (ExcO a C d) ∧ H d = some (.xd gs) ∧ RepFs K mg ι H fs gs
  | .frz (.dic kvs) => (∃ o ps, H a = some (.frz o (.dK ps)) ∧ RepKs K mg ι H kvs ps) ∨ (∃ o ps, H a = some (.frz o (.dT ps)) ∧ RepTs K mg ι H kvs ps)
  | .frz _ => False

/-- the store S, laid at ι, is held by H -/
structure RS (K : PySem.W.Frag) (mg : Str → Option Value) (ι : List Addr) (S : Sto) (H : Hp) : Prop where
  len : ι.length = S.length
  nd : ι.Nodup
  obj : ∀ (n : Nat) (a : Addr) (o : CO), ι[n]? = some a → S[n]? = some o → RepO K mg ι H a o

section
variable {K : PySem.W.Frag} {mg : Str → Option Value} {ι ι' ι1 ι2 : List Addr} {H H' H1 H2 : Hp} {S S' S1 S2 : Sto} {a : Addr}
theorem RepKs.mono (t : Tk H H') (m : List Addr) : ∀ {cs : List (CV × CV)} {vs : List (Key × V)}, RepKs K mg ι H cs vs → RepKs K mg (ι ++ m) H' cs vs
  | _, _, .nil => .nil
  | _, _, .cons hk r rs => .cons hk (r.mono t m) (RepKs.mono t m rs)
theorem RepTs.mono (t : Tk H H') (m : List Addr) : ∀ {cs : List (CV × CV)} {vs : List (List Key × V)}, RepTs K mg ι H cs vs → RepTs K mg (ι ++ m) H' cs vs
  | _, _, .nil => .nil
  | _, _, .cons hk r rs => .cons hk (r.mono t m) (RepTs.mono t m rs)
/-- what stands at a stays, the tuples stay -/
theorem RepO.mono {o : CO} (t : Tk H H') (m : List Addr) (h : RepO K mg ι H a o) (ha : H' a = H a) (hx : ∀ d gs, H d = some (.xd gs) → H' d = some (.xd gs)) : RepO K mg (ι ++ m) H' a o := by
  cases o with
  | lst cs => obtain ⟨vs, e, r⟩ := h; exact ⟨vs, ha.trans e, r.mono t m⟩
  | dic kvs =>
    rcases h with ⟨ps, e, r⟩ | ⟨ps, e, r⟩
    · exact .inl ⟨ps, ha.trans e, r.mono t m⟩
    · exact .inr ⟨ps, ha.trans e, r.mono t m⟩
  | ins c fs => obtain ⟨C, dx, gs, e1, e, r⟩ := h; exact ⟨C, dx, gs, e1, ha.trans e, r.mono t m⟩
  | exc c fs => obtain ⟨C, d, gs, e1, e, ed, r⟩ := h; exact ⟨C, d, gs, e1, ha.trans e, hx _ _ ed, r.mono t m⟩
  | frz o =>
    cases o with
    | dic kvs =>
      rcases h with ⟨o, ps, e, r⟩ | ⟨o, ps, e, r⟩
      · exact .inl ⟨o, ps, ha.trans e, r.mono t m⟩
      · exact .inr ⟨o, ps, ha.trans e, r.mono t m⟩
    | lst _ => exact h.elim
    | ins _ _ => exact h.elim
    | exc _ _ => exact h.elim
    | frz _ => exact h.elim
/-- an object of the store is no tuple, no script, no exception's dict -/
def Plain : HO → Prop
  | .tup _ => False
  | .frz _ (.tup _) => False
  | .frz _ (.lst _) => False
  | .xd _ => False
  | _ => True
theorem RepO.plain {o : CO} (h : RepO K mg ι H a o) : ∃ u, H a = some u ∧ Plain u := by
  cases o with
  | lst cs => obtain ⟨vs, e, r⟩ := h; exact ⟨_, e, trivial⟩
  | dic kvs =>
    rcases h with ⟨ps, e, r⟩ | ⟨ps, e, r⟩
    · exact ⟨_, e, trivial⟩
    · exact ⟨_, e, trivial⟩
  | ins c fs => obtain ⟨C, dx, gs, e1, e, r⟩ := h; exact ⟨_, e, trivial⟩
  | exc c fs => obtain ⟨C, d, gs, e1, e, ed, r⟩ := h; exact ⟨_, e, trivial⟩
  | frz o =>
    cases o with
    | dic kvs =>
      rcases h with ⟨o, ps, e, r⟩ | ⟨o, ps, e, r⟩
      · exact ⟨_, e, trivial⟩
      · exact ⟨_, e, trivial⟩
    | lst _ => exact h.elim
    | ins _ _ => exact h.elim
    | exc _ _ => exact h.elim
    | frz _ => exact h.elim
theorem RS.at (R : RS K mg ι S H) {n : Nat} {o : CO} (e : S[n]? = some o) : ∃ a, ι[n]? = some a ∧ RepO K mg ι H a o := by
  have hl : n < ι.length := by rw [R.len]; exact (List.getElem?_eq_some_iff.mp e).1
  exact ⟨ι[n], List.getElem?_eq_getElem hl, R.obj n _ o (List.getElem?_eq_getElem hl) e⟩
theorem RS.mem (R : RS K mg ι S H) (h : a ∈ ι) : ∃ u, H a = some u ∧ Plain u := by
  obtain ⟨n, hn, e⟩ := List.mem_iff_getElem.mp h
  have hs : n < S.length := by rw [← R.len]; exact hn
  exact (R.obj n a S[n] (by rw [List.getElem?_eq_getElem hn, e]) (List.getElem?_eq_getElem hs)).plain
theorem RS.notin (R : RS K mg ι S H) {u : HO} (e : H a = some u) (n : ¬ Plain u) : a ∉ ι := fun h => by
  obtain ⟨u', e', p⟩ := R.mem h
  rw [e] at e'
  cases e'
  exact n p
/-- all but what is at ι stays -/
def Frm (ι : List Addr) (H H' : Hp) : Prop := ∀ b o, b ∉ ι → H b = some o → H' b = some o
theorem Frm.refl : Frm ι H H := fun _ _ _ h => h
theorem RS.tk (R : RS K mg ι S H) (f : Frm ι H H') : Tk H H' := by
  refine ⟨fun b xs h => ?_, fun b o xs h => f b _ (R.notin h fun z => z) h⟩
  rcases h with h | ⟨o, h⟩
  · exact .inl (f b _ (R.notin h fun z => z) h)
  · exact .inr ⟨o, f b _ (R.notin h fun z => z) h⟩
/-- one came from the other: new objects behind the old ones -/
structure Nx (K : PySem.W.Frag) (mg : Str → Option Value) (ι : List Addr) (H : Hp) (S' : Sto) (ι' : List Addr) (H' : Hp) : Prop where
  rs : RS K mg ι' S' H'
  ext : ∃ m, ι' = ι ++ m ∧ ∀ p ∈ m, H p = none
  fr : Frm ι H H'
theorem Nx.refl (R : RS K mg ι S H) : Nx K mg ι H S ι H := ⟨R, ⟨[], by simp, fun p h => nomatch h⟩, Frm.refl⟩
theorem Nx.trans (a : Nx K mg ι H S1 ι1 H1) (b : Nx K mg ι1 H1 S2 ι2 H2) : Nx K mg ι H S2 ι2 H2 := by
  obtain ⟨m1, e1, f1⟩ := a.ext
  obtain ⟨m2, e2, f2⟩ := b.ext
  have fr : Frm ι H H2 := fun c o hc h => b.fr c o (fun z => by
    rw [e1] at z
    rcases List.mem_append.mp z with z | z
    · exact hc z
    · rw [f1 c z] at h; cases h) (a.fr c o hc h)
  refine ⟨b.rs, ⟨m1 ++ m2, by rw [e2, e1, List.append_assoc], fun p hp => ?_⟩, fr⟩
  rcases List.mem_append.mp hp with z | z
  · exact f1 p z
  · have q := f2 p z
    cases e : H p with
    | none => rfl
    | some u =>
      by_cases hp : p ∈ ι
      · have : p ∈ ι1 := by rw [e1]; exact List.mem_append_left _ hp
        obtain ⟨u', e', _⟩ := a.rs.mem this
        rw [q] at e'; cases e'
      · rw [a.fr p u hp e] at q; cases q
theorem Nx.rep (R : RS K mg ι S H) (x : Nx K mg ι H S' ι' H') {c : CV} {v : V} (r : RepV K mg ι H c v) : RepV K mg ι' H' c v := by
  obtain ⟨m, rfl, _⟩ := x.ext
  exact r.mono (R.tk x.fr) m
theorem Nx.reps (R : RS K mg ι S H) (x : Nx K mg ι H S' ι' H') {c : List CV} {v : List V} (r : RepVs K mg ι H c v) : RepVs K mg ι' H' c v := by
  obtain ⟨m, rfl, _⟩ := x.ext
  exact r.mono (R.tk x.fr) m
theorem Nx.repfs (R : RS K mg ι S H) (x : Nx K mg ι H S' ι' H') {c : List (Str × CV)} {v : List (Str × V)} (r : RepFs K mg ι H c v) : RepFs K mg ι' H' c v := by
  obtain ⟨m, rfl, _⟩ := x.ext
  exact r.mono (R.tk x.fr) m
/-- the slots -/
structure RepSt (K : PySem.W.Frag) (mg : Str → Option Value) (ι : List Addr) (H : Hp) (ρ : Rho) (σ : L2.St) : Prop where
  len : ρ.length = σ.length
  at' : ∀ (i : Nat) (c : CV), ρ[i]? = some (some c) → ∃ v, σ[i]? = some (some v) ∧ RepV K mg ι H c v
theorem Nx.repst (R : RS K mg ι S H) (x : Nx K mg ι H S' ι' H') {ρ : Rho} {σ : L2.St} (r : RepSt K mg ι H ρ σ) : RepSt K mg ι' H' ρ σ :=
  ⟨r.len, fun i c e => let ⟨v, h1, h2⟩ := r.at' i c e; ⟨v, h1, x.rep R h2⟩⟩
theorem RepSt.set {ρ : Rho} {σ : L2.St} {c : CV} {v : V} (r : RepSt K mg ι H ρ σ) (i : Nat) (h : RepV K mg ι H c v) : RepSt K mg ι H (ρ.set i (some c)) (σ.set i (some v)) := by
  refine ⟨by rw [List.length_set, List.length_set, r.len], fun j d e => ?_⟩
  rw [List.getElem?_set] at e
  rw [List.getElem?_set]
  split at e
  · rename_i hij
    subst hij
    rw [if_pos rfl]
    split at e
    · rename_i hl
      rw [if_pos (by rw [← r.len]; exact hl)]
      cases e
      exact ⟨v, rfl, h⟩
    · cases e
  · rename_i hij
    rw [if_neg hij]
    exact r.at' j d e
/-- a new object -/
theorem RS.new (R : RS K mg ι S H) {p : Addr} {u : HO} {o : CO} (hp : H p = none) (hu : RepO K mg (ι ++ [p]) (upd H p u) p o) : Nx K mg ι H (S ++ [o]) (ι ++ [p]) (upd H p u) := by
  have hpn : p ∉ ι := fun z => by
    obtain ⟨u', e, _⟩ := R.mem z
    rw [hp] at e; cases e
  have keep : ∀ b o, H b = some o → upd H p u b = some o := fun b o e => by rw [upd_ne (ne_of_none e hp)]; exact e
  have fr : Frm ι H (upd H p u) := fun b o _ e => keep b o e
  have tk := R.tk fr
  refine ⟨⟨by rw [List.length_append, List.length_append, R.len]; rfl, ?_, fun n a q e1 e2 => ?_⟩, ⟨[p], rfl, fun b hb => by rw [List.mem_singleton.mp hb]; exact hp⟩, fr⟩
  · rw [List.nodup_append]
    refine ⟨R.nd, List.nodup_cons.mpr ⟨by simp, List.nodup_nil⟩, fun x hx y hy => ?_⟩
    rw [List.mem_singleton.mp hy]
    exact fun z => hpn (z ▸ hx)
  · by_cases hn : n < ι.length
    · rw [List.getElem?_append_left hn] at e1
      rw [List.getElem?_append_left (by rw [← R.len]; exact hn)] at e2
      have ho := R.obj n a q e1 e2
      obtain ⟨u', hu', _⟩ := ho.plain
      exact ho.mono tk [p] (by rw [upd_ne (ne_of_none hu' hp)]) fun d gs e => keep d _ e
    · have hn' : ι.length ≤ n := Nat.le_of_not_lt hn
      rw [List.getElem?_append_right hn'] at e1
      rw [List.getElem?_append_right (by rw [← R.len]; exact hn')] at e2
      rw [← R.len] at e2
      cases k : n - ι.length with
      | zero =>
        rw [k] at e1 e2
        simp at e1 e2
        subst e1; subst e2
        exact hu
      | succ k' => rw [k] at e1; simp at e1
/-- an object is exchanged -/
theorem RS.put (R : RS K mg ι S H) {n : Nat} {a : Addr} {u : HO} {o : CO} (ha : ι[n]? = some a) (hu : (∀ gs, u ≠ .xd gs) → Tk H (upd H a u) → RepO K mg ι (upd H a u) a o) (hx : ∀ gs, u ≠ .xd gs) : Nx K mg ι H (S.set n o) ι (upd H a u) := by
  have hm : a ∈ ι := List.mem_of_getElem? ha
  have fr : Frm ι H (upd H a u) := fun b q hb e => by rw [upd_ne (fun z => hb (by rw [z]; exact hm))]; exact e
  have tk := R.tk fr
  have hn : n < ι.length := (List.getElem?_eq_some_iff.mp ha).1
  refine ⟨⟨by rw [List.length_set]; exact R.len, R.nd, fun k b q e1 e2 => ?_⟩, ⟨[], by simp, fun _ h => nomatch h⟩, fr⟩
  rw [List.getElem?_set] at e2
  split at e2
  · rename_i hk
    subst hk
    rw [ha] at e1; cases e1
    split at e2
    · cases e2; exact hu hx tk
    · cases e2
  · rename_i hk
    have hne : b ≠ a := fun z => by
      subst z
      exact hk ((List.getElem?_inj hn R.nd).mp (ha.trans e1.symm))
    have ho := R.obj k b q e1 e2
    have := ho.mono tk [] (by rw [upd_ne hne]) fun d gs e => by
      rw [upd_ne (fun z => by
        subst z
        exact R.notin e (fun z => z) hm)]
      exact e
    rw [List.append_nil] at this
    exact this
end
end MW
set_option Elab.async false
set_option linter.all false
set_option maxRecDepth 100000
set_option maxHeartbeats 4000000
namespace MW
open PySem PySem.Spec PyProof.Rows L2

/-- what is wanted behind a computation -/
def XOut (K : PySem.W.Frag) (mg : Str → Option Value) (ι : List Addr) (H : Hp) (c : Str) (fs : List (Str × CV)) (S' : Sto) (B : XK) : Prop :=
  ∀ (C d : Addr) (gs : List (Str × V)) (ι' : List Addr) (H' : Hp), mg c = some (.ref C) → Nx K mg ι H S' ι' H' → H' d = some (.xd gs) → RepFs K mg ι' H' fs gs → B (.ref C) (some d) H'
def Fin {α β : Type} (K : PySem.W.Frag) (mg : Str → Option Value) (ι : List Addr) (H : Hp) (R : List Addr → Hp → α → β → Prop) (r : Res α) (Q : β → Hp → Prop) (B : XK) : Prop := match r with
  | .ok d S' => ∀ v ι' H', Nx K mg ι H S' ι' H' → R ι' H' d v → Q v H'
  | .exc c fs S' => XOut K mg ι H c fs S' B
  | .bad => False

section
variable {α β γ δ : Type} {K : PySem.W.Frag} {mg : Str → Option Value} {ι ι' ι1 ι2 : List Addr} {H H' H1 H2 : Hp} {S S' S1 S2 : Sto} {B : XK}
theorem XOut.after {c : Str} {fs : List (Str × CV)} (x : Nx K mg ι H S1 ι1 H1) (h : XOut K mg ι H c fs S' B) : XOut K mg ι1 H1 c fs S' B := fun C d gs ι' H' e n => h C d gs ι' H' e (x.trans n)
theorem Fin.after {R : List Addr → Hp → α → β → Prop} {r : Res α} {Q : β → Hp → Prop} (x : Nx K mg ι H S1 ι1 H1) (h : Fin K mg ι H R r Q B) : Fin K mg ι1 H1 R r Q B := by
  cases r with
  | ok d S' => exact fun v ι' H' n => h v ι' H' (x.trans n)
  | exc c fs S' => exact XOut.after x h
  | bad => exact h
theorem Fin.imp {R : List Addr → Hp → α → β → Prop} {r : Res α} {Q Q' : β → Hp → Prop} (h : Fin K mg ι H R r Q B) (k : ∀ v H', Q v H' → Q' v H') : Fin K mg ι H R r Q' B := by
  cases r with
  | ok d S' => exact fun v ι' H' n q => k _ _ (h v ι' H' n q)
  | exc c fs S' => exact h
  | bad => exact h
/-- one computation behind another -/
theorem Fin.bnd {R : List Addr → Hp → α → β → Prop} {R' : List Addr → Hp → γ → δ → Prop} {r : Res α} {k : α → M γ} {Q : δ → Hp → Prop} (h : Fin K mg ι H R' (r.bnd k) Q B) :
    Fin K mg ι H R r (fun v H1 => ∃ ι1 S1 d, Nx K mg ι H S1 ι1 H1 ∧ R ι1 H1 d v ∧ Fin K mg ι1 H1 R' (k d S1) Q B) B := by
  cases r with
  | ok d S1 => exact fun v ι1 H1 n q => ⟨ι1, S1, d, n, q, Fin.after n h⟩
  | exc c fs S' => exact h
  | bad => exact h
theorem Fin.ret {R : List Addr → Hp → α → β → Prop} {d : α} {v : β} {Q : β → Hp → Prop} (Rs : RS K mg ι S H) (h : Fin K mg ι H R (.ok d S) Q B) (r : R ι H d v) : Q v H := h v ι H (Nx.refl Rs) r
end

/-! ### expressions, tests, arguments -/
def tD (K : PySem.W.Frag) (mg : Str → Option Value) (W : WX) (m : Rho → M CV) : TE := fun σ H Q => ∃ ι ρ S, RS K mg ι S H ∧ RepSt K mg ι H ρ σ ∧ Fin K mg ι H (RepV K mg) (m ρ S) Q (fun c d H' => W c d σ H')
def tDT (K : PySem.W.Frag) (mg : Str → Option Value) (W : WX) (m : Rho → M Bool) : TT := fun σ H Q => ∃ ι ρ S, RS K mg ι S H ∧ RepSt K mg ι H ρ σ ∧ Fin K mg ι H (fun _ _ a b => a = b) (m ρ S) Q (fun c d H' => W c d σ H')
def tDA (K : PySem.W.Frag) (mg : Str → Option Value) (W : WX) (m : Rho → M (List CV)) : TA := fun σ H Q => ∃ ι ρ S, RS K mg ι S H ∧ RepSt K mg ι H ρ σ ∧ Fin K mg ι H (RepVs K mg) (m ρ S) Q (fun c d H' => W c d σ H')
abbrev GE (X : Cx) (W : WX) (e : Expr) (m : Rho → M CV) : Prop := PE X e (tD X.K X.mg W m)
abbrev GT (X : Cx) (W : WX) (e : Expr) (m : Rho → M Bool) : Prop := PT X e (tDT X.K X.mg W m)
abbrev GW (X : Cx) (W : WX) (e : Expr) (m : Rho → M Bool) : Prop := PW X e (tDT X.K X.mg W m)
abbrev GA (X : Cx) (W : WX) (es : List Expr) (m : Rho → M (List CV)) : Prop := PA X es (tDA X.K X.mg W m)

theorem PE.imp {X : Cx} {e : Expr} {t t' : TE} (h : PE X e t) (k : ∀ σ H Q, t' σ H Q → t σ H Q) : PE X e t' := ⟨fun pins s σ H Q I q => h.run pins s σ H Q I (k σ H Q q)⟩
theorem PT.imp {X : Cx} {e : Expr} {t t' : TT} (h : PT X e t) (k : ∀ σ H Q, t' σ H Q → t σ H Q) : PT X e t' := ⟨fun pins s σ H Q I q => h.run pins s σ H Q I (k σ H Q q)⟩
theorem PW.imp {X : Cx} {e : Expr} {t t' : TT} (h : PW X e t) (k : ∀ σ H Q, t' σ H Q → t σ H Q) : PW X e t' := ⟨fun wh pins s σ H Q I q => h.run wh pins s σ H Q I (k σ H Q q)⟩
theorem PA.imp {X : Cx} {e : List Expr} {t t' : TA} (h : PA X e t) (k : ∀ σ H Q, t' σ H Q → t σ H Q) : PA X e t' := ⟨fun pos pins s σ H Q I q => h.run pos pins s σ H Q I (k σ H Q q)⟩

section
variable {X : Cx} {W : WX} {a b c e : Expr} {es : List Expr} {ma mb mc me : Rho → M CV} {mt mu : Rho → M Bool} {ms : Rho → M (List CV)} {pos : Pos}
def mVar (i : Nat) : Rho → M CV := fun ρ S => match ρ[i]? with
  | some (some c) => .ok c S
  | _ => .bad
def mC (c : CV) : Rho → M CV := fun _ S => .ok c S
theorem ge_of_var {i : Nat} (h : PE X e (tVar i)) : GE X W e (mVar i) := PE.imp h fun σ H Q ⟨ι, ρ, S, Rs, rs, f⟩ => by
  unfold mVar at f
  split at f
  · rename_i c ec
    obtain ⟨v, hv, r⟩ := rs.at' i c ec
    exact ⟨v, hv, Fin.ret Rs f r⟩
  · exact f.elim
theorem gv (i : Nat) {x : Str} {pos : Pos} (hN : X.N[i]? = some x := by rfl) (hv : Vis X.env.scope x := by first | exact Or.inl rfl | exact Or.inr (Or.inl rfl) | exact Or.inr (Or.inr rfl)) (hd : (x == ("__debug__" : Str)) = false := by decide)
    (hcd : (x == ("__classdict__" : Str)) = false := by decide) : GE X W (.Name x pos) (mVar i) := ge_of_var (pe_var hN hv hd hcd)
theorem ge_of_c {v : V} {c : CV} (h : PE X e (tC v)) (r : ∀ ι H, RepV X.K X.mg ι H c v) : GE X W e (mC c) := PE.imp h fun σ H Q ⟨ι, ρ, S, Rs, rs, f⟩ => Fin.ret Rs f (r ι H)
theorem ge_int {i : Int} {j pos} : GE X W (.Constant (.int i) j pos) (mC (.int i)) := ge_of_c pe_int fun _ _ => .int i
theorem ge_bl {i : Bool} {j pos} : GE X W (.Constant (.bool i) j pos) (mC (.bl i)) := ge_of_c pe_bl fun _ _ => .bl i
theorem ge_non {j pos} : GE X W (.Constant .none j pos) (mC .non) := ge_of_c pe_non fun _ _ => .non
theorem ge_str {i : Str} {j pos} : GE X W (.Constant (.str i) j pos) (mC (.str i)) := ge_of_c pe_str fun _ _ => .str i
/-- a constant of the module -/
theorem ge_gstr {x y : Str} {t : Tok} {pos : Pos} (hg : Gl X x) (hm : X.mg x = some (.str y t)) (hd : (x == ("__debug__" : Str)) = false := by decide) : GE X W (.Name x pos) (mC (.str y)) := ge_of_c (pe_glob (v := .str y) hg hm ⟨t, rfl⟩ hd) fun _ _ => .str y
theorem ge_gint {x : Str} {i : Int} {t : Tok} {pos : Pos} (hg : Gl X x) (hm : X.mg x = some (.int i t)) (hd : (x == ("__debug__" : Str)) = false := by decide) : GE X W (.Name x pos) (mC (.int i)) := ge_of_c (pe_glob (v := .int i) hg hm ⟨t, rfl⟩ hd) fun _ _ => .int i
theorem ge_gcls {x : Str} {C : Addr} {pos : Pos} (hg : Gl X x) (hm : X.mg x = some (.ref C)) (hd : (x == ("__debug__" : Str)) = false := by decide) : GE X W (.Name x pos) (mC (.cls x)) := ge_of_c (pe_glob (v := .ref C) hg hm rfl hd) fun _ _ => .cls hm
theorem ge_ty {x : Str} {T : String} {pos : Pos} (hg : Gl X x) (hm : X.mg x = none) (hv : bootBuiltins x = some (.type T)) (hn : x ≠ "__name__" := by decide) (hd : (x == ("__debug__" : Str)) = false := by decide) : GE X W (.Name x pos) (mC (.ty T)) := ge_of_c (pe_bltn (v := .ty T) hg hm hv rfl hn hd) fun _ _ => .ty T

/-! operations on values -/
/-- f does on values what g does on the store's -/
def OpG (X : Cx) (W : WX) (f : Value → Value → Sem Value) (g : CV → CV → M CV) : Prop :=
  ∀ (pins : List (Addr × Obj)) (s : Shared) (σ : L2.St) (H : Hp) (ι : List Addr) (S : Sto) (x y : CV) (v u : V) (a b : Value) (Q : VK), Inv X pins σ H s → RelV v a → RelV u b → RS X.K X.mg ι S H → RepV X.K X.mg ι H x v → RepV X.K X.mg ι H y u →
    Fin X.K X.mg ι H (RepV X.K X.mg) (g x y S) Q (fun c d H' => W c d σ H') → wpAny (model X.prog X.w) X.A (f a b) (EP X pins σ Q) X.xe s
def UnG (X : Cx) (W : WX) (f : Value → Sem Value) (g : CV → M CV) : Prop :=
  ∀ (pins : List (Addr × Obj)) (s : Shared) (σ : L2.St) (H : Hp) (ι : List Addr) (S : Sto) (x : CV) (v : V) (a : Value) (Q : VK), Inv X pins σ H s → RelV v a → RS X.K X.mg ι S H → RepV X.K X.mg ι H x v →
    Fin X.K X.mg ι H (RepV X.K X.mg) (g x S) Q (fun c d H' => W c d σ H') → wpAny (model X.prog X.w) X.A (f a) (EP X pins σ Q) X.xe s
def CallG (X : Cx) (W : WX) (f : Value) (g : List CV → M CV) : Prop :=
  ∀ (pins : List (Addr × Obj)) (s : Shared) (σ : L2.St) (H : Hp) (ι : List Addr) (S : Sto) (xs : List CV) (vs : List V) (us : List Value) (Q : VK), Inv X pins σ H s → Vals vs us → RS X.K X.mg ι S H → RepVs X.K X.mg ι H xs vs →
    Fin X.K X.mg ι H (RepV X.K X.mg) (g xs S) Q (fun c d H' => W c d σ H') → wpAny (model X.prog X.w) X.A (call f us) (EP X pins σ Q) X.xe s
def mOp (g : CV → CV → M CV) (ma mb : Rho → M CV) : Rho → M CV := fun ρ => bnd (ma ρ) fun x => bnd (mb ρ) fun y => g x y
def mUn (g : CV → M CV) (ma : Rho → M CV) : Rho → M CV := fun ρ => bnd (ma ρ) fun x => g x
/-- two operands, from the left -/
theorem two (ha : GE X W a ma) (hb : GE X W b mb) {g : CV → CV → M CV} {pins : List (Addr × Obj)} {s : Shared} {σ : L2.St} {H : Hp} {Q : VK} (I : Inv X pins σ H s) (h : tD X.K X.mg W (mOp g ma mb) σ H Q) {Q' : Value → Shared → Prop} {f : Value → Value → Sem Value}
    (hf : ∀ v' u' s2 v u H2 ι S x y, Inv X pins σ H2 s2 → RelV v v' → RelV u u' → RS X.K X.mg ι S H2 → RepV X.K X.mg ι H2 x v → RepV X.K X.mg ι H2 y u → Fin X.K X.mg ι H2 (RepV X.K X.mg) (g x y S) Q (fun c d H' => W c d σ H') →
      wpAny (model X.prog X.w) X.A (f v' u') Q' X.xe s2) :
    wpAny (model X.prog X.w) X.A (eval a X.env) (fun v s₁ => wpAny (model X.prog X.w) X.A (eval b X.env) (fun u s₂ => wpAny (model X.prog X.w) X.A (f v u) Q' X.xe s₂) X.xe s₁) X.xe s := by
  obtain ⟨ι, ρ, S, Rs, rs, fi⟩ := h
  refine thn (ha.run pins s σ H _ I ⟨ι, ρ, S, Rs, rs, Fin.bnd (R := RepV X.K X.mg) fi⟩) fun v' s1 ⟨v, H1, I1, r1, ι1, S1, x, n1, rx, f1⟩ => ?_
  refine thn (hb.run pins s1 σ H1 _ I1 ⟨ι1, ρ, S1, n1.rs, n1.repst Rs rs, Fin.bnd (R := RepV X.K X.mg) f1⟩) fun u' s2 ⟨u, H2, I2, r2, ι2, S2, y, n2, ry, f2⟩ => ?_
  exact hf v' u' s2 v u H2 ι2 S2 x y I2 r1 r2 n2.rs (n2.rep n1.rs rx) ry f2
theorem ge_op {op : Operator} {g : CV → CV → M CV} (ho : OpG X W (binaryOp op) g) (ha : GE X W a ma) (hb : GE X W b mb) : GE X W (.BinOp a op b pos) (mOp g ma mb) :=
  ⟨fun pins s σ H Q I h => wpAny_BinOp (two ha hb I h fun v' u' s2 v u H2 ι S x y I2 r1 r2 R rx ry f => ho pins s2 σ H2 ι S x y v u v' u' Q I2 r1 r2 R rx ry f)⟩
theorem ge_un {op : UnaryOp} {g : CV → M CV} (ho : UnG X W (unaryOp op) g) (ha : GE X W a ma) : GE X W (.UnaryOp op a pos) (mUn g ma) :=
  ⟨fun pins s σ H Q I ⟨ι, ρ, S, Rs, rs, fi⟩ => UnaryOp_ (thn (ha.run pins s σ H _ I ⟨ι, ρ, S, Rs, rs, Fin.bnd (R := RepV X.K X.mg) fi⟩) fun v' s1 ⟨v, H1, I1, r1, ι1, S1, x, n1, rx, f1⟩ => ho pins s1 σ H1 ι1 S1 x v v' Q I1 r1 n1.rs rx f1)⟩
theorem ge_cmp {op : CmpOp} {g : CV → CV → M CV} (ho : OpG X W (compareOp op) g) (ha : GE X W a ma) (hb : GE X W b mb) (hm : behindInMarks op b = false := by first | exact nomark _ | rfl | with_unfolding_all rfl) : GE X W (.Compare a [op] [b] pos) (mOp g ma mb) :=
  ⟨fun pins s σ H Q I h => wpAny_Compare1 (two ha hb I h fun v' u' s2 v u H2 ι S x y I2 r1 r2 R rx ry f => ho pins s2 σ H2 ι S x y v u v' u' Q I2 r1 r2 R rx ry f) hm⟩
/-- a value as a test: it must be a bool -/
def asB : CV → M Bool
  | .bl b => ret b
  | _ => bad
def mTest (m : Rho → M CV) : Rho → M Bool := fun ρ => bnd (m ρ) asB
theorem asB_eq {K : PySem.W.Frag} {mg : Str → Option Value} {ι : List Addr} {H : Hp} {S : Sto} {x : CV} {v : V} {Q : Bool → Hp → Prop} {B : XK} (Rs : RS K mg ι S H) (r : RepV K mg ι H x v) (h : Fin K mg ι H (fun _ _ a b => a = b) (asB x S) Q B) : ∃ k, v = .bl k ∧ Q k H := by
  cases x with
  | bl k => cases r; exact ⟨k, rfl, Fin.ret Rs h rfl⟩
  | _ => exact h.elim
theorem tDT_test {σ : L2.St} {H : Hp} {Q : Bool → Hp → Prop} (h : tDT X.K X.mg W (mTest ma) σ H Q) : tD X.K X.mg W ma σ H (fun v H1 => ∃ k, v = .bl k ∧ Q k H1) := by
  obtain ⟨ι, ρ, S, Rs, rs, fi⟩ := h
  exact ⟨ι, ρ, S, Rs, rs, (Fin.bnd (R := RepV X.K X.mg) fi).imp fun v H1 ⟨ι1, S1, x, n1, rx, f1⟩ => asB_eq n1.rs rx f1⟩
theorem gt_cmp {op : CmpOp} {g : CV → CV → M CV} (ho : OpG X W (compareOp op) g) (ha : GE X W a ma) (hb : GE X W b mb) (hm : behindInMarks op b = false := by first | exact nomark _ | rfl | with_unfolding_all rfl) : GT X W (.Compare a [op] [b] pos) (mTest (mOp g ma mb)) := by
  refine ⟨fun pins s σ H Q I h => ?_⟩
  have h' := tDT_test h
  refine wpAny_isTrue_Compare1 (two ha hb I h' fun v' u' s2 v u H2 ι S x y I2 r1 r2 R rx ry f => thn (ho pins s2 σ H2 ι S x y v u v' u' _ I2 r1 r2 R rx ry f) fun c s3 ⟨z, H3, I3, r3, k, ek, q3⟩ => ?_) hm
  subst ek
  cases r3
  exact wpAny_truthy_bool ⟨H3, I3, q3⟩
/-! ### truth -/
def TruG (X : Cx) (W : WX) (g : CV → M Bool) : Prop :=
  ∀ (pins : List (Addr × Obj)) (s : Shared) (σ : L2.St) (H : Hp) (ι : List Addr) (S : Sto) (x : CV) (v : V) (a : Value) (Q : Bool → Hp → Prop), Inv X pins σ H s → RelV v a → RS X.K X.mg ι S H → RepV X.K X.mg ι H x v →
    Fin X.K X.mg ι H (fun _ _ a b => a = b) (g x S) Q (fun c d H' => W c d σ H') → wpAny (model X.prog X.w) X.A (truthy a) (TP X pins σ Q) X.xe s
/-- truth of what is no instance -/
def truC : CV → M Bool := fun x S => match x with
  | .non => .ok false S
  | .bl b => .ok b S
  | .int i => .ok (i != 0) S
  | .str y => if y.length ≤ sizeLine then .ok ((y.length : Int) != 0) S else .bad
  | .tup xs => .ok (!xs.isEmpty) S
  | .ref n => match S[n]? with
    | some (.lst xs) => .ok (!xs.isEmpty) S
    | _ => .bad
  | _ => .bad
theorem RepVs.isEmpty {K : PySem.W.Frag} {mg : Str → Option Value} {ι : List Addr} {H : Hp} {cs : List CV} {vs : List V} (r : RepVs K mg ι H cs vs) : cs.isEmpty = vs.isEmpty := by cases r <;> rfl
theorem tru_c : TruG X W truC := by
  intro pins s σ H ι S x v a Q I rv Rs rx f
  refine tru_ok pins s σ H v a Q I rv ?_
  unfold truC at f
  cases rx with
  | non => exact ⟨false, rfl, Fin.ret Rs f rfl⟩
  | bl b => exact ⟨b, rfl, Fin.ret Rs f rfl⟩
  | int i => exact ⟨_, rfl, Fin.ret Rs f rfl⟩
  | str y =>
    dsimp only at f
    split at f
    · rename_i h; exact ⟨_, ⟨h, rfl⟩, Fin.ret Rs f rfl⟩
    · exact f.elim
  | tup h r => exact ⟨_, .inr (.inl ⟨_, h, rfl⟩), Fin.ret Rs f (by rw [r.isEmpty])⟩
  | ref h =>
    dsimp only at f
    split at f
    · rename_i n' a' xs e
      obtain ⟨vs, e1, r⟩ := Rs.obj _ _ _ h e
      exact ⟨_, .inl ⟨_, SqL.of e1, rfl⟩, Fin.ret Rs f (by rw [r.isEmpty])⟩
    · exact f.elim
  | cls h => exact f.elim
  | ty x => exact f.elim
  | scr h => exact f.elim
def mTru (g : CV → M Bool) (m : Rho → M CV) : Rho → M Bool := fun ρ => bnd (m ρ) g
/-- any expression whose test is its value's truth -/
theorem gt_val {g : CV → M Bool} (ht : TruG X W g) (ha : GE X W e me) (he : ∀ whole, isTrue e X.env whole = (do let v ← whole; standAt e.pos; holding [v] (truthy v)) := by intro _; rfl) : GT X W e (mTru g me) :=
  ⟨fun pins s σ H Q I ⟨ι, ρ, S, Rs, rs, fi⟩ => isTrue_plain (thn (ha.run pins s σ H _ I ⟨ι, ρ, S, Rs, rs, Fin.bnd (R := RepV X.K X.mg) fi⟩) fun v' s1 ⟨v, H1, I1, r1, ι1, S1, x, n1, rx, f1⟩ => ht pins s1 σ H1 ι1 S1 x v v' Q I1 r1 n1.rs rx f1) (he _)⟩

/-! ### and, or, not, if -/
def mAnd (t u : Rho → M Bool) : Rho → M Bool := fun ρ => bnd (t ρ) fun c => if c then u ρ else ret false
def mOr (t u : Rho → M Bool) : Rho → M Bool := fun ρ => bnd (t ρ) fun c => if c then ret true else u ρ
def mNot (t : Rho → M Bool) : Rho → M Bool := fun ρ => bnd (t ρ) fun c => ret (!c)
variable {rest : List Expr}
theorem gw_and1 (ha : GT X W a mt) : GW X W (.BoolOp .And [a] pos) mt := pw_and1 ha
theorem gw_or1 (ha : GT X W a mt) : GW X W (.BoolOp .Or [a] pos) mt := pw_or1 ha
theorem tAnd_of {σ : L2.St} {H : Hp} {Q : Bool → Hp → Prop} (h : tDT X.K X.mg W (mAnd mt mu) σ H Q) : tAnd (tDT X.K X.mg W mt) (tDT X.K X.mg W mu) σ H Q := by
  obtain ⟨ι, ρ, S, Rs, rs, fi⟩ := h
  refine ⟨ι, ρ, S, Rs, rs, (Fin.bnd (R := fun _ _ a b => a = b) fi).imp fun c H1 ⟨ι1, S1, c', n1, e, f1⟩ => ?_⟩
  subst e
  cases c' with
  | true => exact ⟨ι1, ρ, S1, n1.rs, n1.repst Rs rs, f1⟩
  | false => exact Fin.ret n1.rs f1 rfl
theorem tOr_of {σ : L2.St} {H : Hp} {Q : Bool → Hp → Prop} (h : tDT X.K X.mg W (mOr mt mu) σ H Q) : tOr (tDT X.K X.mg W mt) (tDT X.K X.mg W mu) σ H Q := by
  obtain ⟨ι, ρ, S, Rs, rs, fi⟩ := h
  refine ⟨ι, ρ, S, Rs, rs, (Fin.bnd (R := fun _ _ a b => a = b) fi).imp fun c H1 ⟨ι1, S1, c', n1, e, f1⟩ => ?_⟩
  subst e
  cases c' with
  | true => exact Fin.ret n1.rs f1 rfl
  | false => exact ⟨ι1, ρ, S1, n1.rs, n1.repst Rs rs, f1⟩
theorem gw_and (ha : GT X W a mt) (hb : GW X W (.BoolOp .And (b :: rest) pos) mu) : GW X W (.BoolOp .And (a :: b :: rest) pos) (mAnd mt mu) := PW.imp (pw_and ha hb) fun _ _ _ h => tAnd_of h
theorem gw_or (ha : GT X W a mt) (hb : GW X W (.BoolOp .Or (b :: rest) pos) mu) : GW X W (.BoolOp .Or (a :: b :: rest) pos) (mOr mt mu) := PW.imp (pw_or ha hb) fun _ _ _ h => tOr_of h
theorem gt_w (h : GW X W e mt) : GT X W e mt := PW.pt h
theorem gt_not (ha : GT X W a mt) : GT X W (.UnaryOp .Not a pos) (mNot mt) := PT.imp (pt_not ha) fun σ H Q ⟨ι, ρ, S, Rs, rs, fi⟩ => ⟨ι, ρ, S, Rs, rs, (Fin.bnd (R := fun _ _ a b => a = b) fi).imp fun c H1 ⟨ι1, S1, c', n1, e, f1⟩ => by
  subst e
  exact Fin.ret n1.rs f1 rfl⟩
def mIf (t : Rho → M Bool) (ma mb : Rho → M CV) : Rho → M CV := fun ρ => bnd (t ρ) fun c => if c then ma ρ else mb ρ
theorem ge_if (hc : GT X W c mt) (ha : GE X W a ma) (hb : GE X W b mb) : GE X W (.IfExp c a b pos) (mIf mt ma mb) := PE.imp (pe_ifExp hc ha hb) fun σ H Q ⟨ι, ρ, S, Rs, rs, fi⟩ => by
  refine ⟨ι, ρ, S, Rs, rs, (Fin.bnd (R := fun _ _ a b => a = b) fi).imp fun c H1 ⟨ι1, S1, c', n1, e, f1⟩ => ?_⟩
  subst e
  cases c' with
  | true => exact ⟨ι1, ρ, S1, n1.rs, n1.repst Rs rs, f1⟩
  | false => exact ⟨ι1, ρ, S1, n1.rs, n1.repst Rs rs, f1⟩
/-- and, or as values: by truth, the last one as it is -/
def mAndV (g : CV → M Bool) (ma mb : Rho → M CV) : Rho → M CV := fun ρ => bnd (ma ρ) fun x => bnd (g x) fun c => if c then mb ρ else ret x
def mOrV (g : CV → M Bool) (ma mb : Rho → M CV) : Rho → M CV := fun ρ => bnd (ma ρ) fun x => bnd (g x) fun c => if c then ret x else mb ρ
def mNotV (g : CV → M Bool) (ma : Rho → M CV) : Rho → M CV := fun ρ => bnd (ma ρ) fun x => bnd (g x) fun c => ret (.bl (!c))
theorem ge_one {op} (h : GE X W a ma) : GE X W (.BoolOp op [a] pos) ma := pe_one h
end
end MW
set_option Elab.async false
set_option linter.all false
set_option maxRecDepth 100000
set_option maxHeartbeats 4000000
namespace MW
open PySem PySem.Spec PyProof.Rows L2
section
variable {X : Cx} {W : WX} {a b c e : Expr} {es rest : List Expr} {ma mb mc me : Rho → M CV} {mt mu : Rho → M Bool} {ms : Rho → M (List CV)} {pos : Pos}
theorem ge_and {g : CV → M Bool} (ht : TruG X W g) (ha : GE X W a ma) (hb : GE X W (.BoolOp .And (b :: rest) pos) mb) : GE X W (.BoolOp .And (a :: b :: rest) pos) (mAndV g ma mb) := by
  refine ⟨fun pins s σ H Q I ⟨ι, ρ, S, Rs, rs, fi⟩ => ?_⟩
  refine BoolOp_and (thn (ha.run pins s σ H _ I ⟨ι, ρ, S, Rs, rs, Fin.bnd (R := RepV X.K X.mg) fi⟩) fun v' s1 ⟨v, H1, I1, r1, ι1, S1, x, n1, rx, f1⟩ => ?_)
  refine thn (ht pins s1 σ H1 ι1 S1 x v v' _ I1 r1 n1.rs rx (Fin.bnd (R := fun _ _ a b => a = b) f1)) fun k s2 ⟨H2, I2, ι2, S2, k', n2, e, f2⟩ => ?_
  subst e
  cases k' with
  | true => exact hb.run pins s2 σ H2 Q I2 ⟨ι2, ρ, S2, n2.rs, n2.repst n1.rs (n1.repst Rs rs), f2⟩
  | false => exact ⟨v, H2, I2, r1, Fin.ret n2.rs f2 (n2.rep n1.rs rx)⟩
theorem ge_or {g : CV → M Bool} (ht : TruG X W g) (ha : GE X W a ma) (hb : GE X W (.BoolOp .Or (b :: rest) pos) mb) : GE X W (.BoolOp .Or (a :: b :: rest) pos) (mOrV g ma mb) := by
  refine ⟨fun pins s σ H Q I ⟨ι, ρ, S, Rs, rs, fi⟩ => ?_⟩
  refine BoolOp_or (thn (ha.run pins s σ H _ I ⟨ι, ρ, S, Rs, rs, Fin.bnd (R := RepV X.K X.mg) fi⟩) fun v' s1 ⟨v, H1, I1, r1, ι1, S1, x, n1, rx, f1⟩ => ?_)
  refine thn (ht pins s1 σ H1 ι1 S1 x v v' _ I1 r1 n1.rs rx (Fin.bnd (R := fun _ _ a b => a = b) f1)) fun k s2 ⟨H2, I2, ι2, S2, k', n2, e, f2⟩ => ?_
  subst e
  cases k' with
  | false => exact hb.run pins s2 σ H2 Q I2 ⟨ι2, ρ, S2, n2.rs, n2.repst n1.rs (n1.repst Rs rs), f2⟩
  | true => exact ⟨v, H2, I2, r1, Fin.ret n2.rs f2 (n2.rep n1.rs rx)⟩
theorem ge_not {g : CV → M Bool} (ht : TruG X W g) (ha : GE X W a ma) : GE X W (.UnaryOp .Not a pos) (mNotV g ma) := by
  refine ⟨fun pins s σ H Q I ⟨ι, ρ, S, Rs, rs, fi⟩ => ?_⟩
  refine UnaryOp_ (thn (ha.run pins s σ H _ I ⟨ι, ρ, S, Rs, rs, Fin.bnd (R := RepV X.K X.mg) fi⟩) fun v' s1 ⟨v, H1, I1, r1, ι1, S1, x, n1, rx, f1⟩ => ?_)
  refine not_of (thn (ht pins s1 σ H1 ι1 S1 x v v' _ I1 r1 n1.rs rx (Fin.bnd (R := fun _ _ a b => a = b) f1)) fun k s2 ⟨H2, I2, ι2, S2, k', n2, e, f2⟩ => ?_)
  subst e
  exact ⟨.bl (!k'), H2, I2, rfl, Fin.ret n2.rs f2 (.bl _)⟩

/-! ### argument lists and displays -/
def mNil : Rho → M (List CV) := fun _ => ret []
def mCons (ma : Rho → M CV) (ms : Rho → M (List CV)) : Rho → M (List CV) := fun ρ => bnd (ma ρ) fun x => bnd (ms ρ) fun xs => ret (x :: xs)
theorem ga_nil : GA X W [] mNil := PA.imp pa_nil fun σ H Q ⟨ι, ρ, S, Rs, rs, fi⟩ => Fin.ret Rs fi .nil
theorem ga_cons (ha : GE X W e me) (hr : GA X W es ms) (hs : starEach (e :: es) X.env = (false, eval e X.env) :: starEach es X.env := by rfl) : GA X W (e :: es) (mCons me ms) := PA.imp (pa_cons ha hr hs) fun σ H Q ⟨ι, ρ, S, Rs, rs, fi⟩ => by
  refine ⟨ι, ρ, S, Rs, rs, (Fin.bnd (R := RepV X.K X.mg) fi).imp fun v H1 ⟨ι1, S1, x, n1, rx, f1⟩ => ?_⟩
  refine ⟨ι1, ρ, S1, n1.rs, n1.repst Rs rs, (Fin.bnd (R := RepVs X.K X.mg) f1).imp fun vs H2 ⟨ι2, S2, xs, n2, rxs, f2⟩ => ?_⟩
  exact Fin.ret n2.rs f2 (.cons (n2.rep n1.rs rx) rxs)
def mkTup (xs : List CV) : M CV := if xs.length ≤ sizeLine then ret (.tup xs) else bad
def mkLst (xs : List CV) : M CV := fun S => if xs.length ≤ sizeLine then .ok (.ref S.length) (S ++ [.lst xs]) else .bad
/-- a new tuple -/
theorem new_tup {K : PySem.W.Frag} {mg : Str → Option Value} {ι : List Addr} {S : Sto} {H : Hp} {p : Addr} {cs : List CV} {vs : List V} (Rs : RS K mg ι S H) (r : RepVs K mg ι H cs vs) (hp : H p = none) :
    Nx K mg ι H S ι (upd H p (.tup vs)) ∧ RepV K mg ι (upd H p (.tup vs)) (.tup cs) (.ref p) := by
  have keep : ∀ b o, H b = some o → upd H p (.tup vs) b = some o := fun b o e => by rw [upd_ne (ne_of_none e hp)]; exact e
  have fr : Frm ι H (upd H p (.tup vs)) := fun b o _ e => keep b o e
  have tk := Rs.tk fr
  have fix : ∀ {P : List Addr → Prop}, P (ι ++ []) → P ι := fun {P} h => by rw [List.append_nil] at h; exact h
  refine ⟨⟨⟨Rs.len, Rs.nd, fun n a o e1 e2 => ?_⟩, ⟨[], by simp, fun _ h => nomatch h⟩, fr⟩, .tup (SqT.of upd_same) (fix (P := fun ι => RepVs K mg ι _ cs vs) (r.mono tk []))⟩
  have ho := Rs.obj n a o e1 e2
  obtain ⟨u, hu, _⟩ := ho.plain
  exact fix (P := fun ι => RepO K mg ι _ a o) (ho.mono tk [] (by rw [upd_ne (ne_of_none hu hp)]) fun d gs e => keep d _ e)
theorem new_lst {K : PySem.W.Frag} {mg : Str → Option Value} {ι : List Addr} {S : Sto} {H : Hp} {p : Addr} {cs : List CV} {vs : List V} (Rs : RS K mg ι S H) (r : RepVs K mg ι H cs vs) (hp : H p = none) :
    Nx K mg ι H (S ++ [.lst cs]) (ι ++ [p]) (upd H p (.lst vs)) ∧ RepV K mg (ι ++ [p]) (upd H p (.lst vs)) (.ref S.length) (.ref p) := by
  have fr : Frm ι H (upd H p (.lst vs)) := fun b o _ e => by rw [upd_ne (ne_of_none e hp)]; exact e
  have tk := Rs.tk fr
  exact ⟨Rs.new hp ⟨vs, upd_same, r.mono tk [p]⟩, .ref (by rw [← Rs.len, List.getElem?_append_right (Nat.le_refl _), Nat.sub_self]; rfl)⟩
def mTup (ms : Rho → M (List CV)) : Rho → M CV := fun ρ => bnd (ms ρ) mkTup
def mLst (ms : Rho → M (List CV)) : Rho → M CV := fun ρ => bnd (ms ρ) mkLst
theorem ge_tup {x1} (h : GA X W es ms) : GE X W (.Tuple es x1 pos) (mTup ms) := PE.imp (pe_tup h) fun σ H Q ⟨ι, ρ, S, Rs, rs, fi⟩ => by
  refine ⟨ι, ρ, S, Rs, rs, (Fin.bnd (R := RepVs X.K X.mg) fi).imp fun vs H1 ⟨ι1, S1, xs, n1, rx, f1⟩ => ?_⟩
  unfold mkTup at f1
  split at f1
  · rename_i hl
    rw [rx.length] at hl
    refine ⟨hl, fun p hp => ?_⟩
    obtain ⟨n2, r2⟩ := new_tup n1.rs rx hp
    exact f1 _ _ _ n2 r2
  · exact f1.elim
theorem ge_lst (h : GA X W es ms) : GE X W (.List es pos) (mLst ms) := PE.imp (pe_lst h) fun σ H Q ⟨ι, ρ, S, Rs, rs, fi⟩ => by
  refine ⟨ι, ρ, S, Rs, rs, (Fin.bnd (R := RepVs X.K X.mg) fi).imp fun vs H1 ⟨ι1, S1, xs, n1, rx, f1⟩ => ?_⟩
  unfold mkLst at f1
  split at f1
  · rename_i hl
    rw [rx.length] at hl
    refine ⟨hl, fun p hp => ?_⟩
    obtain ⟨n2, r2⟩ := new_lst n1.rs rx hp
    exact f1 _ _ _ n2 r2
  · exact f1.elim

/-! ### calls of defs -/
/-- the promise of a def: it does what m does -/
def spD (K : PySem.W.Frag) (mg : Str → Option Value) (n : Nat) (m : List CV → M CV) : Sp := fun vs H Q E => vs.length = n ∧ ∃ ι S cs, RS K mg ι S H ∧ RepVs K mg ι H cs vs ∧ Fin K mg ι H (RepV K mg) (m cs S) Q E
/-- room, and nothing is being written out by repr -/
structure RmG (k : Nat) (A : Around) : Prop where
  rm : Room k A
  gd : A.guards = some []
theorem RmG.mono {j k : Nat} {A : Around} (r : RmG k A) (h : j ≤ k) : RmG j A := ⟨r.rm.mono h, r.gd⟩
theorem RmG.deeper {k : Nat} {A : Around} (r : RmG (k + 1) A) (env : Env) : RmG k (A.deeper env) := ⟨r.rm.deeper env, r.gd⟩
theorem RmG.in1 {k : Nat} {A : Around} (r : RmG (k + 1) A) : RmG k A.in1 := ⟨r.rm.in1, r.gd⟩
theorem RmG.make {k : Nat} {A : Around} (r : RmG (k + 1) A) (C : Addr) (us : List Value) (kw : List (Str × Value)) : RmG k (A.under (.builtin "type.__call__" ⟨.ref C :: us, kw⟩)) :=
  ⟨r.rm.make C us kw, by first | exact r.gd | simpa [Around.under, Code.guards, Code.isGuard, guardIds] using r.gd⟩
/-- the def at f does what m does -/
structure FnD (P : Program) (w : World) (K : PySem.W.Frag) (mg : Str → Option Value) (base : Heap) (k : Nat) (f : Addr) (fd : FuncData) (ps : List Str) (m : List CV → M CV) : Prop where
  run : ∀ (A : Around) (outer : List Env) (s : Shared) (H : Hp) (args : Args) (us : List Value) (vs : List V) (Q : VK) (E : XK), RmG k A → Env0 P w K mg base A outer s H → BindsTo s fd args (ps.zip us) → Vals vs us → spD K mg ps.length m vs H Q E →
    codeAny (model P w) A (.call (.ref f) args) (CR (L2.CX P w) outer P w H s Q E) s
/-- behind a call, in a body -/
def Back (X : Cx) (pins : List (Addr × Obj)) (σ : L2.St) (Q : VK) (r : Result) (s' : Shared) : Prop := match r with
  | .ok (.ret v) => EP X pins σ Q v s'
  | .ok _ => False
  | .error e => X.xe e s'
def mCall (m : List CV → M CV) (n : Nat) (dvs : List CV) (ms : Rho → M (List CV)) : Rho → M CV := fun ρ => bnd (ms ρ) fun xs => if xs.length + dvs.length = n then m (xs ++ dvs) else bad
variable {k : Nat} {f C : Addr} {fd : FuncData} {ps : List Str} {m : List CV → M CV} {ds : List Value} {x : Str} {p : Pos}
theorem sp_call {K : PySem.W.Frag} {mg : Str → Option Value} {ι : List Addr} {S : Sto} {H : Hp} {cs : List CV} {vs : List V} {Q : VK} {B : XK} {n : Nat} (Rs : RS K mg ι S H) (r : RepVs K mg ι H cs vs) (f : Fin K mg ι H (RepV K mg) ((if cs.length = n then m cs else bad) S) Q B) : spD K mg n m vs H Q B := by
  split at f
  · rename_i hl; exact ⟨by rw [← r.length]; exact hl, ι, S, cs, Rs, r, f⟩
  · exact f.elim
/-- a callee runs, under A' (a builtin may stand between): its raising goes to W -/
theorem code_fnD {A' : Around} {pins : List (Addr × Obj)} {σ : L2.St} {H : Hp} {s : Shared} {Q : VK} {args : Args} {us : List Value} {vs : List V} {cs : List CV} {ι : List Addr} {S : Sto} (F : FnD X.prog X.w X.K X.mg X.base k f fd ps m) (hr : RmG k A') (e0 : Env0 X.prog X.w X.K X.mg X.base A' X.stack s H)
    (hb : us.length = ps.length → BindsTo s fd args (ps.zip us)) (tk : Takes X W) (I : Inv X pins σ H s) (r : Vals vs us) (Rs : RS X.K X.mg ι S H) (rc : RepVs X.K X.mg ι H cs vs) (h : Fin X.K X.mg ι H (RepV X.K X.mg) ((if cs.length = ps.length then m cs else bad) S) Q (fun c d H' => W c d σ H')) :
    codeAny (model X.prog X.w) A' (.call (.ref f) args) (Back X pins σ Q) s := by
  have hsp : spD X.K X.mg ps.length m vs H Q (fun c d H' => W c d σ H') := sp_call Rs rc h
  refine codeAny_mono (F.run A' X.stack s H args us vs Q _ hr e0 (hb (by rw [← r.length]; exact hsp.1)) r hsp) fun r s' hq => ?_
  cases r with
  | error e => exact tk e s' (XE.of_call I (W := W) (fun _ _ _ z => z) hq)
  | ok fl =>
    cases fl with
    | ret u => exact I.after hq
    | next => exact False.elim hq
    | brk => exact False.elim hq
    | cont => exact False.elim hq
theorem wp_back {A' : Around} {pins : List (Addr × Obj)} {σ : L2.St} {s : Shared} {Q : VK} {g : Value} {us : List Value} (h : codeAny (model X.prog X.w) A' (.call g ⟨us, []⟩) (Back X pins σ Q) s) : wpAny (model X.prog X.w) A' (call g us) (EP X pins σ Q) X.xe s :=
  wpAny_call (codeAny_mono h fun r s' hq => by
    cases r with
    | error e => exact hq
    | ok fl => cases fl <;> exact hq)
theorem run_fnD {pins : List (Addr × Obj)} {σ : L2.St} {H : Hp} {s : Shared} {Q : VK} {us : List Value} {vs dvs : List V} {cs dcs : List CV} {ι : List Addr} {S : Sto} (F : FnD X.prog X.w X.K X.mg X.base k f fd ps m) (hr : RmG k X.A) (hb : Binds X.K fd ps ds) (hd : Vals dvs ds) (hdr : ∀ ι H, RepVs X.K X.mg ι H dcs dvs) (tk : Takes X W)
    (I : Inv X pins σ H s) (r : Vals vs us) (Rs : RS X.K X.mg ι S H) (rc : RepVs X.K X.mg ι H cs vs) (h : Fin X.K X.mg ι H (RepV X.K X.mg) ((if cs.length + dcs.length = ps.length then m (cs ++ dcs) else bad) S) Q (fun c d H' => W c d σ H')) :
    wpAny (model X.prog X.w) X.A (call (.ref f) us) (EP X pins σ Q) X.xe s :=
  wp_back (code_fnD F hr I.env0 (fun hl => hb s us I.kIn hl) tk I (r.append hd) Rs (rc.append (hdr ι H)) (by rw [List.length_append]; exact h))
theorem ge_call {dvs : List V} {dcs : List CV} (F : FnD X.prog X.w X.K X.mg X.base k f fd ps m) (hr : RmG k X.A) (hm : X.mg x = some (.ref f)) (hk : PySem.W.keepIn X.K (.ref f) = true) (hb : Binds X.K fd ps ds) (hd : Vals dvs ds) (hdr : ∀ ι H, RepVs X.K X.mg ι H dcs dvs) (tk : Takes X W)
    (ha : GA X W (e :: es) ms) (hg : Gl X x := by rfl) (hdb : (x == ("__debug__" : Str)) = false := by decide) (he : starEach (e :: es) X.env = (false, eval e X.env) :: starEach es X.env := by rfl) (hpl : (backTo pos (starEach es X.env)).any (·.1) = false := by rfl) :
    GE X W (.Call (.Name x p) (e :: es) [] pos) (mCall m ps.length dcs ms) := by
  refine ⟨fun pins s σ H Q I ⟨ι, ρ, S, Rs, rs, fi⟩ => ?_⟩
  refine wpAny_Call_Name_kw (ld_glob I hg hm ?_ hdb)
  refine PySem.W.callWith_K (h₀ := X.base) I.ok.mod.kin hk (thn (ha.run pos pins s σ H _ I ⟨ι, ρ, S, Rs, rs, Fin.bnd (R := RepVs X.K X.mg) fi⟩) fun us s1 ⟨vs, H1, I1, r, ι1, S1, xs, n1, rx, f1⟩ => ⟨I1.kIn, ?_⟩) he hpl
  exact run_fnD F hr hb hd hdr tk I1 r n1.rs rx f1
theorem ge_call0 {dvs : List V} {dcs : List CV} (F : FnD X.prog X.w X.K X.mg X.base k f fd ps m) (hr : RmG k X.A) (hm : X.mg x = some (.ref f)) (hk : PySem.W.keepIn X.K (.ref f) = true) (hb : Binds X.K fd ps ds) (hd : Vals dvs ds) (hdr : ∀ ι H, RepVs X.K X.mg ι H dcs dvs) (tk : Takes X W)
    (hg : Gl X x := by rfl) (hdb : (x == ("__debug__" : Str)) = false := by decide) : GE X W (.Call (.Name x p) [] [] pos) (mCall m ps.length dcs mNil) := by
  refine ⟨fun pins s σ H Q I ⟨ι, ρ, S, Rs, rs, fi⟩ => ?_⟩
  refine wpAny_Call_Name_kw (ld_glob I hg hm ?_ hdb)
  exact PySem.W.callWith_K0 I.kIn hk (run_fnD (us := []) F hr hb hd hdr tk I .nil Rs .nil fi)
end
end MW
set_option Elab.async false
set_option linter.all false
set_option maxRecDepth 100000
set_option maxHeartbeats 4000000
namespace MW
open PySem PySem.Spec PyProof.Rows L2
/-- how a statement ends -/
inductive CF where
  | nx (ρ : Rho) | rt (c : CV) | bk (ρ : Rho) | ct (ρ : Rho) | xc (c : Str) (fs : List (Str × CV)) (ρ : Rho)
def lft {α : Type} (ρ : Rho) (r : Res α) (k : α → M CF) : Res CF := match r with
  | .ok a S => k a S
  | .exc c fs S => .ok (.xc c fs ρ) S
  | .bad => .bad
def SFin (K : PySem.W.Frag) (mg : Str → Option Value) (ι : List Addr) (H : Hp) (r : Res CF) (D : L2.Ends) (W : WX) : Prop := match r with
  | .ok (.nx ρ') S' => ∀ σ' ι' H', Nx K mg ι H S' ι' H' → RepSt K mg ι' H' ρ' σ' → D.nx σ' H'
  | .ok (.rt c) S' => ∀ v ι' H', Nx K mg ι H S' ι' H' → RepV K mg ι' H' c v → D.rt v H'
  | .ok (.bk ρ') S' => ∀ σ' ι' H', Nx K mg ι H S' ι' H' → RepSt K mg ι' H' ρ' σ' → D.bk σ' H'
  | .ok (.ct ρ') S' => ∀ σ' ι' H', Nx K mg ι H S' ι' H' → RepSt K mg ι' H' ρ' σ' → D.ct σ' H'
  | .ok (.xc c fs ρ') S' => ∀ (C d : Addr) (gs : List (Str × V)) σ' ι' H', mg c = some (.ref C) → Nx K mg ι H S' ι' H' → RepSt K mg ι' H' ρ' σ' → H' d = some (.xd gs) → RepFs K mg ι' H' fs gs → W (.ref C) (some d) σ' H'
  | .exc _ _ _ => False
  | .bad => False
section
variable {K : PySem.W.Frag} {mg : Str → Option Value} {ι ι1 : List Addr} {H H1 : Hp} {S S1 : Sto} {D : L2.Ends} {W : WX}
theorem SFin.after {r : Res CF} (x : Nx K mg ι H S1 ι1 H1) (h : SFin K mg ι H r D W) : SFin K mg ι1 H1 r D W := by
  cases r with
  | bad => exact h
  | exc _ _ _ => exact h
  | ok f S' =>
    cases f with
    | nx ρ => exact fun σ' ι' H' n => h σ' ι' H' (x.trans n)
    | rt c => exact fun σ' ι' H' n => h σ' ι' H' (x.trans n)
    | bk ρ => exact fun σ' ι' H' n => h σ' ι' H' (x.trans n)
    | ct ρ => exact fun σ' ι' H' n => h σ' ι' H' (x.trans n)
    | xc c fs ρ => exact fun C d gs σ' ι' H' e n => h C d gs σ' ι' H' e (x.trans n)
theorem SFin.lft {α β : Type} {R : List Addr → Hp → α → β → Prop} {r : Res α} {k : α → M CF} {ρ : Rho} {σ : L2.St} (Rs : RS K mg ι S H) (rs : RepSt K mg ι H ρ σ) (h : SFin K mg ι H (lft ρ r k) D W) :
    Fin K mg ι H R r (fun v H1 => ∃ ι1 S1 d, Nx K mg ι H S1 ι1 H1 ∧ R ι1 H1 d v ∧ SFin K mg ι1 H1 (k d S1) D W) (fun c d H' => W c d σ H') := by
  cases r with
  | ok d S1 => exact fun v ι1 H1 n q => ⟨ι1, S1, d, n, q, SFin.after n h⟩
  | exc c fs S' => exact fun C d gs ι' H' e n hd hf => h C d gs σ ι' H' e n (n.repst Rs rs) hd hf
  | bad => exact h
end
def tS (K : PySem.W.Frag) (mg : Str → Option Value) (W : WX) (m : Rho → M CF) : TS := fun D σ H => ∃ ι ρ S, RS K mg ι S H ∧ RepSt K mg ι H ρ σ ∧ SFin K mg ι H (m ρ S) D W
abbrev GS (X : Cx) (W : WX) (st : Stmt) (m : Rho → M CF) : Prop := PS X st (tS X.K X.mg W m)
abbrev GSs (X : Cx) (W : WX) (st : List Stmt) (m : Rho → M CF) : Prop := PSs X st (tS X.K X.mg W m)
theorem PS.imp {X : Cx} {e : Stmt} {t t' : TS} (h : PS X e t) (k : ∀ D σ H, t' D σ H → t D σ H) : PS X e t' := ⟨fun pins s σ H D I q => h.run pins s σ H D I (k D σ H q)⟩
theorem PSs.imp {X : Cx} {e : List Stmt} {t t' : TS} (h : PSs X e t) (k : ∀ D σ H, t' D σ H → t D σ H) : PSs X e t' := ⟨fun pins s σ H D I q => h.run pins s σ H D I (k D σ H q)⟩
section
variable {X : Cx} {W : WX} {a b c e : Expr} {st : Stmt} {sts as bs : List Stmt} {es rest : List Expr} {ma mb mc me : Rho → M CV} {mt mu : Rho → M Bool} {ms : Rho → M (List CV)} {m1 m2 : Rho → M CF} {pos : Pos}
def sNext : Rho → M CF := fun ρ S => .ok (.nx ρ) S
def sSeq (m1 m2 : Rho → M CF) : Rho → M CF := fun ρ S => match m1 ρ S with
  | .ok (.nx ρ') S' => m2 ρ' S'
  | r => r
theorem gss_nil : GSs X W [] sNext := PSs.imp pss_nil fun D σ H ⟨ι, ρ, S, Rs, rs, fi⟩ => fi σ ι H (Nx.refl Rs) rs
theorem gss_cons (h1 : GS X W st m1) (h2 : GSs X W sts m2) : GSs X W (st :: sts) (sSeq m1 m2) := PSs.imp (pss_cons h1 h2) fun D σ H ⟨ι, ρ, S, Rs, rs, fi⟩ => by
  refine ⟨ι, ρ, S, Rs, rs, ?_⟩
  unfold sSeq at fi
  cases r : m1 ρ S with
  | bad => rw [r] at fi; exact fi
  | exc _ _ _ => rw [r] at fi; exact fi
  | ok f S' =>
    rw [r] at fi
    cases f with
    | nx ρ' => exact fun σ' ι' H' n rs' => ⟨ι', ρ', S', n.rs, rs', SFin.after n fi⟩
    | rt c => exact fi
    | bk ρ => exact fi
    | ct ρ => exact fi
    | xc c fs ρ => exact fi
theorem gss_one (h1 : GS X W st m1) : GSs X W [st] m1 := pss_one h1
theorem gs_pass : GS X W (.Pass pos) sNext := PS.imp ps_pass fun D σ H ⟨ι, ρ, S, Rs, rs, fi⟩ => fi σ ι H (Nx.refl Rs) rs
theorem gs_doc {x j pos pos'} : GS X W (.Expr (.Constant (.str x) j pos) pos') sNext := PS.imp ps_doc fun D σ H ⟨ι, ρ, S, Rs, rs, fi⟩ => fi σ ι H (Nx.refl Rs) rs
def sBreak : Rho → M CF := fun ρ S => .ok (.bk ρ) S
def sCont : Rho → M CF := fun ρ S => .ok (.ct ρ) S
theorem gs_break : GS X W (.Break pos) sBreak := PS.imp ps_break fun D σ H ⟨ι, ρ, S, Rs, rs, fi⟩ => fi σ ι H (Nx.refl Rs) rs
theorem gs_cont : GS X W (.Continue pos) sCont := PS.imp ps_continue fun D σ H ⟨ι, ρ, S, Rs, rs, fi⟩ => fi σ ι H (Nx.refl Rs) rs
/-- never reached -/
def sBad : Rho → M CF := fun _ _ => .bad
theorem gs_never : GS X W st sBad := PS.imp ps_never fun D σ H ⟨ι, ρ, S, Rs, rs, fi⟩ => fi
theorem gss_never : GSs X W sts sBad := PSs.imp pss_never fun D σ H ⟨ι, ρ, S, Rs, rs, fi⟩ => fi
def sExpr (me : Rho → M CV) : Rho → M CF := fun ρ S => lft ρ (me ρ S) fun _ => ret (.nx ρ)
theorem gs_expr (he : GE X W e me) (hs : swapsWith e none pos.line X.env = pure false := by rfl) : GS X W (.Expr e pos) (sExpr me) := PS.imp (ps_expr he hs) fun D σ H ⟨ι, ρ, S, Rs, rs, fi⟩ =>
  ⟨ι, ρ, S, Rs, rs, (SFin.lft (R := RepV X.K X.mg) Rs rs fi).imp fun v H1 ⟨ι1, S1, x, n1, rx, f1⟩ => f1 σ ι1 H1 (Nx.refl n1.rs) (n1.repst Rs rs)⟩
def sRet (me : Rho → M CV) : Rho → M CF := fun ρ S => lft ρ (me ρ S) fun v => ret (.rt v)
theorem gs_ret (he : GE X W e me) : GS X W (.Return (some e) pos) (sRet me) := PS.imp (ps_ret he) fun D σ H ⟨ι, ρ, S, Rs, rs, fi⟩ =>
  ⟨ι, ρ, S, Rs, rs, (SFin.lft (R := RepV X.K X.mg) Rs rs fi).imp fun v H1 ⟨ι1, S1, x, n1, rx, f1⟩ => f1 v ι1 H1 (Nx.refl n1.rs) rx⟩
def sRetN : Rho → M CF := fun ρ S => .ok (.rt .non) S
theorem gs_retN : GS X W (.Return none pos) sRetN := PS.imp ps_retN fun D σ H ⟨ι, ρ, S, Rs, rs, fi⟩ => fi _ ι H (Nx.refl Rs) .non
def sIf (mt : Rho → M Bool) (m1 m2 : Rho → M CF) : Rho → M CF := fun ρ S => lft ρ (mt ρ S) fun c => if c then m1 ρ else m2 ρ
theorem gs_if (hc : GT X W c mt) (ha : GSs X W as m1) (hb : GSs X W bs m2) : GS X W (.If c as bs pos) (sIf mt m1 m2) := PS.imp (ps_if hc ha hb) fun D σ H ⟨ι, ρ, S, Rs, rs, fi⟩ => by
  refine ⟨ι, ρ, S, Rs, rs, (SFin.lft (R := fun _ _ a b => a = b) Rs rs fi).imp fun v H1 ⟨ι1, S1, x, n1, rx, f1⟩ => ?_⟩
  subst rx
  cases x with
  | true => exact ⟨ι1, ρ, S1, n1.rs, n1.repst Rs rs, f1⟩
  | false => exact ⟨ι1, ρ, S1, n1.rs, n1.repst Rs rs, f1⟩
/-! ### targets -/
/-- g stores a value into the slots -/
def tG (K : PySem.W.Frag) (mg : Str → Option Value) (W : WX) (g : CV → Rho → M Rho) : TG := fun v σ H Q => ∃ ι ρ S x, RS K mg ι S H ∧ RepSt K mg ι H ρ σ ∧ RepV K mg ι H x v ∧ Fin K mg ι H (RepSt K mg) (g x ρ S) Q (fun c d H' => W c d σ H')
abbrev GG (X : Cx) (W : WX) (target : Expr) (g : CV → Rho → M Rho) : Prop := PG X target (tG X.K X.mg W g)
theorem PG.imp {e : Expr} {t t' : TG} (h : PG X e t) (k : ∀ v σ H Q, t' v σ H Q → t v σ H Q) : PG X e t' := ⟨fun pins s σ H v u Q I r q => h.run pins s σ H v u Q I r (k v σ H Q q)⟩
def gN (i : Nat) : CV → Rho → M Rho := fun x ρ => ret (ρ.set i (some x))
theorem gg_name {i : Nat} {x : Str} (hN : X.N.Nodup) (hi : X.N[i]? = some x := by rfl) (hx : Loc X.env.scope x := by first | exact .inl rfl | exact .inr rfl) (hf : X.fn x = true ∨ X.env.scope.names.lookup x = some .local := by first | exact .inl rfl | exact .inr rfl | assumption) : GG X W (.Name x pos) (gN i) :=
  PG.imp (pg_name hN hi hx hf) fun v σ H Q ⟨ι, ρ, S, x, Rs, rs, rx, f⟩ => Fin.ret Rs f (rs.set i rx)
/-- several names -/
def gNs : List Nat → List CV → Rho → Option Rho
  | [], [], ρ => some ρ
  | i :: is, x :: xs, ρ => gNs is xs (ρ.set i (some x))
  | _, _, _ => none
def gSets : List Nat → TGs := fun is vs σ H Q => vs.length = is.length ∧ Q ((is.zip vs).foldl (fun σ p => σ.set p.1 (some p.2)) σ) H
theorem PGs.imp {e : List Expr} {t t' : TGs} (h : PGs X e t) (k : ∀ v σ H Q, t' v σ H Q → t v σ H Q) : PGs X e t' := ⟨fun pins s σ H v u Q I r q => h.run pins s σ H v u Q I r (k v σ H Q q)⟩
theorem ggs_nil : PGs X [] (gSets []) := PGs.imp pgs_nil fun vs σ H Q ⟨h1, h2⟩ => by
  cases vs with
  | nil => exact ⟨rfl, h2⟩
  | cons _ _ => simp at h1
theorem ggs_cons {i : Nat} {is : List Nat} {x : Str} {px : Pos} (hN : X.N.Nodup) (r : PGs X es (gSets is)) (hi : X.N[i]? = some x := by rfl) (hx : Loc X.env.scope x := by first | exact .inl rfl | exact .inr rfl) (hf : X.fn x = true ∨ X.env.scope.names.lookup x = some .local := by first | exact .inl rfl | exact .inr rfl | assumption)
    (hs : (assignEach (.Name x px :: es) X.env).map (·.2) = assign (.Name x px) X.env :: (assignEach es X.env).map (·.2) := by rfl) : PGs X (.Name x px :: es) (gSets (i :: is)) := PGs.imp (pgs_cons (pg_name hN hi hx hf) r hs) fun vs σ H Q ⟨h1, h2⟩ => by
  cases vs with
  | nil => simp at h1
  | cons v vs => exact ⟨v, vs, rfl, by simpa using h1, h2⟩
theorem gNs_rep {K : PySem.W.Frag} {mg : Str → Option Value} {ι : List Addr} {H : Hp} : ∀ {is : List Nat} {cs : List CV} {vs : List V} {ρ ρ' : Rho} {σ : L2.St}, gNs is cs ρ = some ρ' → RepVs K mg ι H cs vs → RepSt K mg ι H ρ σ →
    vs.length = is.length ∧ RepSt K mg ι H ρ' ((is.zip vs).foldl (fun σ p => σ.set p.1 (some p.2)) σ)
  | [], [], _, ρ, ρ', σ, h, .nil, rs => by
    unfold gNs at h; cases h; exact ⟨rfl, rs⟩
  | i :: is, c :: cs, _, ρ, ρ', σ, h, .cons (v := v) (vs := vs) r rr, rs => by
    unfold gNs at h
    obtain ⟨h1, h2⟩ := gNs_rep h rr (rs.set i r)
    exact ⟨by simp [h1], h2⟩
  | [], _ :: _, _, _, _, _, h, _, _ => by unfold gNs at h; cases h
  | _ :: _, [], _, _, _, _, h, _, _ => by unfold gNs at h; cases h
def gT (is : List Nat) : CV → Rho → M Rho := fun x ρ S => match x with
  | .tup xs => match gNs is xs ρ with
    | some ρ' => .ok ρ' S
    | none => .bad
  | _ => .bad
theorem gg_tup {is : List Nat} {x1} (hc : X.calm = true) (h : PGs X es (gSets is)) (hn : (assignEach es X.env).length = is.length := by rfl) (hst : (assignEach es X.env).findIdx? (·.1) = none := by rfl) : GG X W (.Tuple es x1 pos) (gT is) :=
  PG.imp (pg_tup hc h hn hst) fun v σ H Q ⟨ι, ρ, S, x, Rs, rs, rx, f⟩ => by
    unfold gT at f
    cases rx with
    | tup hq rr =>
      dsimp only at f
      split at f
      · rename_i ρ' eg
        obtain ⟨h1, h2⟩ := gNs_rep eg rr rs
        exact ⟨_, _, rfl, hq, h1, h1, Fin.ret Rs f h2⟩
      · exact f.elim
    | _ => exact f.elim
/-- target = e -/
def sAsg (me : Rho → M CV) (g : CV → Rho → M Rho) : Rho → M CF := fun ρ S => lft ρ (me ρ S) fun x S1 => lft ρ (g x ρ S1) fun ρ' => ret (.nx ρ')
theorem asg_of {g : CV → Rho → M Rho} {D : L2.Ends} {σ : L2.St} {H : Hp} (h : tS X.K X.mg W (sAsg me g) D σ H) : tAsg (tD X.K X.mg W me) (tG X.K X.mg W g) D σ H := by
  obtain ⟨ι, ρ, S, Rs, rs, fi⟩ := h
  refine ⟨ι, ρ, S, Rs, rs, (SFin.lft (R := RepV X.K X.mg) Rs rs fi).imp fun v H1 ⟨ι1, S1, x, n1, rx, f1⟩ => ?_⟩
  have rs1 := n1.repst Rs rs
  exact ⟨ι1, ρ, S1, x, n1.rs, rs1, rx, (SFin.lft (R := RepSt X.K X.mg) n1.rs rs1 f1).imp fun σ' H2 ⟨ι2, S2, ρ', n2, rs2, f2⟩ => f2 σ' ι2 H2 (Nx.refl n2.rs) rs2⟩
theorem gs_asg {tg : Expr} {g : CV → Rho → M Rho} (he : GE X W e me) (hg : GG X W tg g) (hs : swapsWithSole [tg] e pos.line X.env = pure false := by rfl) (hw : swappedStores [tg] e X.env = pure none := by rfl)
    (h1 : (assignEach [tg] X.env).map (·.2) = [assign tg X.env] := by rfl) : GS X W (.Assign [tg] e pos) (sAsg me g) := PS.imp (ps_asg he hg hs hw h1) fun D σ H h => asg_of h
theorem gs_set {i : Nat} {x : Str} {px : Pos} (hN : X.N.Nodup) (he : GE X W e me) (hi : X.N[i]? = some x := by rfl) (hx : Loc X.env.scope x := by first | exact .inl rfl | exact .inr rfl) (hs : swapsWith e (some (.Name x px)) pos.line X.env = pure false := by rfl)
    (hf : X.fn x = true ∨ X.env.scope.names.lookup x = some .local := by first | exact .inl rfl | exact .inr rfl | assumption) : GS X W (.Assign [.Name x px] e pos) (sAsg me (gN i)) := PS.imp (ps_set hN hi hx he hs hf) fun D σ H h => by
  obtain ⟨ι, ρ, S, Rs, rs, f⟩ := asg_of h
  exact ⟨ι, ρ, S, Rs, rs, f.imp fun v H1 ⟨ι1, ρ1, S1, x, R1, r1, rx, f1⟩ => Fin.ret R1 f1 (r1.set i rx)⟩
/-- a, b = e, e' (plain locals) -/
def sPar (i j : Nat) (ms : Rho → M (List CV)) : Rho → M CF := fun ρ S => lft ρ (ms ρ S) fun xs S1 => match xs with
  | [x, y] => .ok (.nx ((ρ.set i (some x)).set j (some y))) S1
  | _ => .bad
theorem gs_par {i j : Nat} {x y : Str} {px py pt : Pos} {kt k2 pt2} (hN : X.N.Nodup) (ha : GA X W [a, b] ms) (hc : X.calm = true := by rfl) (hi : X.N[i]? = some x := by rfl) (hj : X.N[j]? = some y := by rfl) (hij : i ≠ j := by decide)
    (hx : X.env.scope.names.lookup x = some .local := by rfl) (hy : X.env.scope.names.lookup y = some .local := by rfl)
    (hw : swappedStores [.Tuple [.Name x px, .Name y py] kt pt] (.Tuple [a, b] k2 pt2) X.env = pure (some [x, y]) := by rfl)
    (hs : swapsWithSole [.Tuple [.Name x px, .Name y py] kt pt] (.Tuple [a, b] k2 pt2) pos.line X.env = pure false := by rfl) :
    GS X W (.Assign [.Tuple [.Name x px, .Name y py] kt pt] (.Tuple [a, b] k2 pt2) pos) (sPar i j ms) := PS.imp (ps_par hc hN hi hj hij hx hy ha hw hs) fun D σ H ⟨ι, ρ, S, Rs, rs, fi⟩ => by
  refine ⟨ι, ρ, S, Rs, rs, (SFin.lft (R := RepVs X.K X.mg) Rs rs fi).imp fun vs H1 ⟨ι1, S1, xs, n1, rx, f1⟩ => ?_⟩
  cases rx with
  | nil => exact f1.elim
  | cons r1 rr => cases rr with
    | nil => exact f1.elim
    | cons r2 rr => cases rr with
      | nil => exact ⟨_, _, rfl, f1 _ ι1 H1 (Nx.refl n1.rs) (((n1.repst Rs rs).set i r1).set j r2)⟩
      | cons _ _ => exact f1.elim
end
end MW
set_option Elab.async false
set_option linter.all false
set_option maxRecDepth 100000
set_option maxHeartbeats 4000000
namespace MW
open PySem PySem.Spec PyProof.Rows L2
/-- what is walked: the items, and the object of the store that must stay meanwhile -/
structure Src where
  items : List CV
  at' : Option (Nat × CO)
def Src.chk (s : Src) (S : Sto) : Bool := match s.at' with
  | none => true
  | some (n, o) => decide (S[n]? = some o)
structure IterOk (K : PySem.W.Frag) (mg : Str → Option Value) (ι0 : List Addr) (H0 : Hp) (src : Src) (J : It) : Prop where
  go : ∀ (ι : List Addr) (S : Sto) (H : Hp) (i : Nat) (x : CV), RS K mg ι S H → (∃ m, ι = ι0 ++ m) → Tk H0 H → src.chk S = true → src.items[i]? = some x → J.go i H ∧ ∀ v H', J.yld i H v H' → Nx K mg ι H S ι H' ∧ RepV K mg ι H' x v
  stop : ∀ (ι : List Addr) (S : Sto) (H : Hp), RS K mg ι S H → (∃ m, ι = ι0 ++ m) → Tk H0 H → src.chk S = true → J.stop src.items.length H
def tI (K : PySem.W.Frag) (mg : Str → Option Value) (W : WX) (m : Rho → M Src) : TI := fun σ H R => ∃ ι ρ S, RS K mg ι S H ∧ RepSt K mg ι H ρ σ ∧ Fin K mg ι H (IterOk K mg) (m ρ S) R (fun c d H' => W c d σ H')
abbrev GI (X : Cx) (W : WX) (tg iter : Expr) (m : Rho → M Src) : Prop := PI X tg iter (tI X.K X.mg W m)
theorem PI.imp {X : Cx} {tg iter : Expr} {t t' : TI} (h : PI X tg iter t) (k : ∀ σ H Q, t' σ H Q → t σ H Q) : PI X tg iter t' := ⟨fun pins s σ H Q I q => h.run pins s σ H Q I (k σ H Q q)⟩
theorem PI.or {X : Cx} {tg iter : Expr} {t t' : TI} (h : PI X tg iter t) (h' : PI X tg iter t') : PI X tg iter (fun σ H Q => t σ H Q ∨ t' σ H Q) := ⟨fun pins s σ H Q I q => q.elim (fun q => h.run pins s σ H Q I q) fun q => h'.run pins s σ H Q I q⟩
section
variable {X : Cx} {W : WX} {a b c e tg iter : Expr} {st : Stmt} {sts as bs body : List Stmt} {es rest : List Expr} {ma mb mc me : Rho → M CV} {mt mu : Rho → M Bool} {ms : Rho → M (List CV)} {m1 m2 : Rho → M CF} {mi : Rho → M Src} {pos p : Pos}
variable {K : PySem.W.Frag} {mg : Str → Option Value}
theorem Tk.trans {H H1 H2 : Hp} (a : Tk H H1) (b : Tk H1 H2) : Tk H H2 := ⟨fun c xs h => b.tup c xs (a.tup c xs h), fun c o xs h => b.scr c o xs (a.scr c o xs h)⟩
theorem ite_list {ι : List Addr} {S : Sto} {H : Hp} {n : Nat} {a : Addr} {xs : List CV} (h : ι[n]? = some a) : IterOk K mg ι H ⟨xs, some (n, .lst xs)⟩ (Itl K a) := by
  have key : ∀ {ι' : List Addr} {S' : Sto} {H' : Hp}, RS K mg ι' S' H' → (∃ m, ι' = ι ++ m) → Src.chk ⟨xs, some (n, .lst xs)⟩ S' = true → ∃ vs, H' a = some (.lst vs) ∧ RepVs K mg ι' H' xs vs := fun {ι' S' H'} R ⟨m, em⟩ hc =>
    R.obj n a _ (by rw [em, List.getElem?_append_left (List.getElem?_eq_some_iff.mp h).1]; exact h) (of_decide_eq_true hc)
  refine ⟨fun ι' S' H' i x R em _ hc hx => ?_, fun ι' S' H' R em _ hc => ?_⟩
  · obtain ⟨vs, e1, r⟩ := key R em hc
    obtain ⟨v, hv, rv⟩ := r.get hx
    refine ⟨⟨vs, v, SqL.of e1, hv⟩, fun v' H'' ⟨eh, hy⟩ => ?_⟩
    subst eh
    have := hy vs (SqL.of e1)
    rw [hv] at this; cases this
    exact ⟨Nx.refl R, rv⟩
  · obtain ⟨vs, e1, r⟩ := key R em hc
    exact ⟨vs, SqL.of e1, by show vs.length ≤ xs.length; rw [← r.length]; exact Nat.le_refl _⟩
theorem ite_tup {ι : List Addr} {H : Hp} {a : Addr} {xs : List CV} {vs : List V} (h : SqT K H a vs) (r : RepVs K mg ι H xs vs) : IterOk K mg ι H ⟨xs, none⟩ (Itt K a) := by
  refine ⟨fun ι' S' H' i x R ⟨m, em⟩ tk hc hx => ?_, fun ι' S' H' R ⟨m, em⟩ tk hc => ?_⟩
  · subst em
    obtain ⟨v, hv, rv⟩ := (r.mono tk m).get hx
    have h' := SqT.tk tk h
    refine ⟨⟨vs, v, h', hv⟩, fun v' H'' ⟨eh, hy⟩ => ?_⟩
    subst eh
    have := hy vs h'
    rw [hv] at this; cases this
    exact ⟨Nx.refl R, rv⟩
  · exact ⟨vs, SqT.tk tk h, by show vs.length ≤ xs.length; rw [← r.length]; exact Nat.le_refl _⟩
def charsC (x : Str) : List CV := x.cps.toList.map fun c => CV.str ⟨#[c]⟩
theorem ite_str {ι : List Addr} {H : Hp} (x : Str) : IterOk K mg ι H ⟨charsC x, none⟩ (Its x) := by
  have hl : (charsC x).length = x.cps.size := by simp [charsC]
  refine ⟨fun ι' S' H' i y R em tk hc hx => ?_, fun ι' S' H' R em tk hc => ?_⟩
  · have hx' : (charsC x)[i]? = some y := hx
    have hi : i < x.cps.size := by have := (List.getElem?_eq_some_iff.mp hx').1; rw [hl] at this; exact this
    refine ⟨hi, fun v H'' ⟨eh, c, ec, ev⟩ => ?_⟩
    subst eh
    subst ev
    unfold charsC at hx'
    rw [List.getElem?_map, Array.getElem?_toList, ec] at hx'
    cases hx'
    exact ⟨Nx.refl R, .str _⟩
  · show x.cps.size ≤ (charsC x).length
    rw [hl]; exact Nat.le_refl _
/-- a list, a tuple or a text is walked -/
def srcC : CV → M Src := fun x S => match x with
  | .tup xs => .ok ⟨xs, none⟩ S
  | .str z => .ok ⟨charsC z, none⟩ S
  | .ref n => match S[n]? with
    | some (.lst xs) => .ok ⟨xs, some (n, .lst xs)⟩ S
    | _ => .bad
  | _ => .bad
def mSrc (me : Rho → M CV) : Rho → M Src := fun ρ => bnd (me ρ) srcC
theorem gi_seq (he : GE X W e me) : GI X W tg e (mSrc me) := by
  refine PI.imp (PI.or (PI.or (pi_list he) (pi_str he)) (pi_tup he)) fun σ H R ⟨ι, ρ, S, Rs, rs, fi⟩ => ?_
  have fb : Fin X.K X.mg ι H (IterOk X.K X.mg) ((me ρ S).bnd srcC) R (fun c d H' => W c d σ H') := fi
  cases r : me ρ S with
  | bad => rw [r] at fb; exact fb.elim
  | exc c fs S' =>
    refine .inl (.inl ⟨ι, ρ, S, Rs, rs, ?_⟩)
    rw [r] at fb ⊢
    exact fb
  | ok x S' =>
    rw [r] at fb
    have fb : Fin X.K X.mg ι H (IterOk X.K X.mg) (srcC x S') R (fun c d H' => W c d σ H') := fb
    unfold srcC at fb
    cases x with
    | tup xs =>
      refine .inr ⟨ι, ρ, S, Rs, rs, ?_⟩
      rw [r]
      intro v ι' H' n rx
      cases rx with
      | tup hq rr => exact ⟨_, rfl, ⟨_, hq⟩, fb _ ι' H' n (ite_tup hq rr)⟩
    | str z =>
      refine .inl (.inr ⟨ι, ρ, S, Rs, rs, ?_⟩)
      rw [r]
      intro v ι' H' n rx
      cases rx with
      | str _ => exact ⟨_, rfl, fb _ ι' H' n (ite_str z)⟩
    | ref k =>
      dsimp only at fb
      split at fb
      · rename_i xs ek
        refine .inl (.inl ⟨ι, ρ, S, Rs, rs, ?_⟩)
        rw [r]
        intro v ι' H' n rx
        cases rx with
        | ref hq =>
          obtain ⟨vs, e1, _⟩ := n.rs.obj _ _ _ hq ek
          exact ⟨_, rfl, ⟨vs, SqL.of e1⟩, fb _ ι' H' n (ite_list (S := S') hq)⟩
      · exact fb.elim
    | _ => exact fb.elim
def rngItems (lo : Int) (n : Nat) : List CV := (List.range n).map fun (i : Nat) => CV.int (lo + (i : Int))
theorem ite_rng {ι : List Addr} {H : Hp} (lo : Int) (n : Nat) : IterOk K mg ι H ⟨rngItems lo n, none⟩ (Itr lo n) := by
  have hl : (rngItems lo n).length = n := by simp [rngItems]
  refine ⟨fun ι' S' H' i x R ⟨m, em⟩ tk hc hx => ?_, fun ι' S' H' R ⟨m, em⟩ tk hc => ?_⟩
  · have hi : i < n := by have := (List.getElem?_eq_some_iff.mp hx).1; rw [show (Src.items ⟨rngItems lo n, none⟩) = rngItems lo n from rfl, hl] at this; exact this
    have hx' : x = .int (lo + (i : Int)) := by
      have : (rngItems lo n)[i]? = some x := hx
      unfold rngItems at this
      rw [List.getElem?_map, List.getElem?_range hi] at this
      exact (Option.some.inj this).symm
    subst hx'
    refine ⟨hi, fun v H'' ⟨eh, ev⟩ => ?_⟩
    subst eh; subst ev
    exact ⟨Nx.refl R, .int _⟩
  · show n ≤ (rngItems lo n).length
    rw [hl]; exact Nat.le_refl _
noncomputable def rng1 : List CV → M Src := fun xs S => match xs with
  | [.int j] => @ite _ (-(2 ^ 62) ≤ j ∧ j < 2 ^ 62) (Classical.propDecidable _) (.ok ⟨rngItems 0 j.toNat, none⟩ S) .bad
  | _ => .bad
noncomputable def rng2 : List CV → M Src := fun xs S => match xs with
  | [.int i, .int j] => @ite _ (-(2 ^ 62) ≤ i ∧ i < 2 ^ 62 ∧ -(2 ^ 62) ≤ j ∧ j < 2 ^ 62) (Classical.propDecidable _) (.ok ⟨rngItems i (j - i).toNat, none⟩ S) .bad
  | _ => .bad
noncomputable def mRng1 (ms : Rho → M (List CV)) : Rho → M Src := fun ρ => bnd (ms ρ) rng1
noncomputable def mRng2 (ms : Rho → M (List CV)) : Rho → M Src := fun ρ => bnd (ms ρ) rng2
theorem gi_range1 (hm : X.mg "range" = none) (ha : GA X W [a] ms) (hg : Gl X "range" := by rfl) (hs : starEach [a] X.env = [(false, eval a X.env)] := by rfl) : GI X W tg (.Call (.Name "range" p) [a] [] pos) (mRng1 ms) :=
  PI.imp (pi_range1 hg hm ha hs) fun σ H R ⟨ι, ρ, S, Rs, rs, fi⟩ => by
    refine ⟨ι, ρ, S, Rs, rs, (Fin.bnd (R := RepVs X.K X.mg) fi).imp fun vs H1 ⟨ι1, S1, xs, n1, rx, f1⟩ => ?_⟩
    unfold rng1 at f1
    split at f1
    · cases rx with
      | cons r1 rr => cases r1; cases rr; split at f1
                      · rename_i h; exact ⟨_, rfl, h.1, h.2, f1 _ ι1 H1 (Nx.refl n1.rs) (ite_rng _ _)⟩
                      · exact f1.elim
    · exact f1.elim
theorem gi_range2 (hm : X.mg "range" = none) (ha : GA X W [a, b] ms) (hg : Gl X "range" := by rfl) (hs : starEach [a, b] X.env = [(false, eval a X.env), (false, eval b X.env)] := by rfl) (hs2 : starEach [b] X.env = [(false, eval b X.env)] := by rfl) : GI X W tg (.Call (.Name "range" p) [a, b] [] pos) (mRng2 ms) :=
  PI.imp (pi_range2 hg hm ha hs hs2) fun σ H R ⟨ι, ρ, S, Rs, rs, fi⟩ => by
    refine ⟨ι, ρ, S, Rs, rs, (Fin.bnd (R := RepVs X.K X.mg) fi).imp fun vs H1 ⟨ι1, S1, xs, n1, rx, f1⟩ => ?_⟩
    unfold rng2 at f1
    split at f1
    · cases rx with
      | cons r1 rr => cases r1; cases rr with
        | cons r2 rr => cases r2; cases rr; split at f1
                        · rename_i h; exact ⟨_, _, rfl, h, f1 _ ι1 H1 (Nx.refl n1.rs) (ite_rng _ _)⟩
                        · exact f1.elim
    · exact f1.elim

/-! ### for -/
def forIt (chk : Sto → Bool) (g : CV → Rho → M Rho) (mb : Rho → M CF) : List CV → Rho → M CF
  | [], ρ, S => if chk S then .ok (.nx ρ) S else .bad
  | x :: xs, ρ, S => if chk S then lft ρ (g x ρ S) fun ρ1 S1 => match mb ρ1 S1 with
      | .ok (.nx ρ2) S2 => forIt chk g mb xs ρ2 S2
      | .ok (.ct ρ2) S2 => forIt chk g mb xs ρ2 S2
      | .ok (.bk ρ2) S2 => .ok (.nx ρ2) S2
      | r => r
    else .bad
def sFor (mi : Rho → M Src) (g : CV → Rho → M Rho) (mb : Rho → M CF) : Rho → M CF := fun ρ S => lft ρ (mi ρ S) fun src => forIt src.chk g mb src.items ρ
theorem Nx.tk {ι ι' : List Addr} {S S' : Sto} {H H' : Hp} (R : RS K mg ι S H) (n : Nx K mg ι H S' ι' H') : Tk H H' := R.tk n.fr
theorem gs_for {g : CV → Rho → M Rho} (hp : PassesOwn (model X.prog X.w) X.A X.env X.xe) (hi : GI X W tg iter mi) (hg : GG X W tg g) (hb : GSs X W body m1) (hc : X.calm = true := by rfl)
    (hs : ∀ x, foldedSetIterable iter X.env x = pure x := by intro _; rfl) : GS X W (.For tg iter body [] pos) (sFor mi g m1) := PS.imp (ps_for hp hc hi hg hb hs) fun D σ H ⟨ι, ρ, S, Rs, rs, fi⟩ => by
  refine ⟨ι, ρ, S, Rs, rs, (SFin.lft (R := IterOk X.K X.mg) Rs rs fi).imp fun J H1 ⟨ι1, S1, src, n1, it, f1⟩ => ?_⟩
  refine ⟨fun i m σ2 H2 => m + i = src.items.length ∧ ∃ ι2 ρ2 S2, RS X.K X.mg ι2 S2 H2 ∧ RepSt X.K X.mg ι2 H2 ρ2 σ2 ∧ (∃ m, ι2 = ι1 ++ m) ∧ Tk H1 H2 ∧ SFin X.K X.mg ι2 H2 (forIt src.chk g m1 (src.items.drop i) ρ2 S2) D W,
    ⟨src.items.length, by simp, ι1, ρ, S1, n1.rs, n1.repst Rs rs, ⟨[], by simp⟩, Tk.refl _, f1⟩, ?_⟩
  rintro i m σ2 H2 ⟨hm, ι2, ρ2, S2, R2, r2, ext, tk, f2⟩
  by_cases hi : i < src.items.length
  · have hd : src.items.drop i = src.items[i] :: src.items.drop (i + 1) := List.drop_eq_getElem_cons hi
    rw [hd] at f2
    unfold forIt at f2
    split at f2
    · rename_i hck
      obtain ⟨hgo, hyld⟩ := it.go ι2 S2 H2 i src.items[i] R2 ext tk hck (List.getElem?_eq_getElem hi)
      refine .inr ⟨hgo, fun σ' H' => ∃ ι2 ρ2 S2, RS X.K X.mg ι2 S2 H' ∧ RepSt X.K X.mg ι2 H' ρ2 σ' ∧ (∃ m, ι2 = ι1 ++ m) ∧ Tk H1 H' ∧ SFin X.K X.mg ι2 H' (forIt src.chk g m1 (src.items.drop (i + 1)) ρ2 S2) D W,
        fun σ' H' hN => ⟨m - 1, by omega, by omega, hN⟩, fun v H' hy => ?_⟩
      obtain ⟨n3, rv⟩ := hyld v H' hy
      have r3 := n3.repst R2 r2
      refine ⟨ι2, ρ2, S2, _, n3.rs, r3, rv, (SFin.lft (R := RepSt X.K X.mg) n3.rs r3 (SFin.after n3 f2)).imp fun σ4 H4 ⟨ι4, S4, ρ4, n4, rs4, f4⟩ => ?_⟩
      refine ⟨ι4, ρ4, S4, n4.rs, rs4, ?_⟩
      have n34 := n3.trans n4
      have go : ∀ {ρ5 : Rho} {S5 : Sto} {σ5 : L2.St} {ι5 : List Addr} {H5 : Hp}, Nx X.K X.mg ι4 H4 S5 ι5 H5 → RepSt X.K X.mg ι5 H5 ρ5 σ5 → SFin X.K X.mg ι4 H4 (forIt src.chk g m1 (src.items.drop (i + 1)) ρ5 S5) D W →
          ∃ ι2 ρ2 S2, RS X.K X.mg ι2 S2 H5 ∧ RepSt X.K X.mg ι2 H5 ρ2 σ5 ∧ (∃ m, ι2 = ι1 ++ m) ∧ Tk H1 H5 ∧ SFin X.K X.mg ι2 H5 (forIt src.chk g m1 (src.items.drop (i + 1)) ρ2 S2) D W := fun {ρ5 S5 σ5 ι5 H5} n5 rs5 f5 => by
        have n := n34.trans n5
        refine ⟨ι5, ρ5, S5, n5.rs, rs5, ?_, tk.trans (n.tk R2), SFin.after n5 f5⟩
        obtain ⟨m1', e1⟩ := ext
        obtain ⟨m2', e2, _⟩ := n.ext
        exact ⟨m1' ++ m2', by rw [e2, e1, List.append_assoc]⟩
      cases r : m1 ρ4 S4 with
      | bad => rw [r] at f4; exact f4
      | exc _ _ _ => rw [r] at f4; exact f4
      | ok fl S5 =>
        rw [r] at f4
        cases fl with
        | nx ρ5 => exact fun σ5 ι5 H5 n5 rs5 => go n5 rs5 f4
        | ct ρ5 => exact fun σ5 ι5 H5 n5 rs5 => go n5 rs5 f4
        | bk ρ5 => exact f4
        | rt c => exact f4
        | xc c fs ρ5 => exact f4
    · exact f2.elim
  · have hd : src.items.drop i = [] := List.drop_of_length_le (Nat.le_of_not_lt hi)
    rw [hd] at f2
    unfold forIt at f2
    split at f2
    · rename_i hck
      have e : i = src.items.length := by omega
      exact .inl ⟨by rw [e]; exact it.stop ι2 S2 H2 R2 ext tk hck, f2 σ2 ι2 H2 (Nx.refl R2) r2⟩
    · exact f2.elim
end
end MW
set_option Elab.async false
set_option linter.all false
set_option maxRecDepth 100000
set_option maxHeartbeats 4000000
namespace MW
open PySem PySem.Spec PyProof.Rows L2
abbrev W0 : WX := fun _ _ _ _ => False
def wipeC (ρ : Rho) : List Nat → Rho
  | [] => ρ
  | v :: vs => (wipeC ρ vs).set v none
section
variable {K : PySem.W.Frag} {mg : Str → Option Value} {ι : List Addr} {H : Hp}
theorem RepSt.unset {ρ : Rho} {σ : L2.St} (r : RepSt K mg ι H ρ σ) (i : Nat) (o : Option V) : RepSt K mg ι H (ρ.set i none) (σ.set i o) := by
  refine ⟨by rw [List.length_set, List.length_set, r.len], fun j d e => ?_⟩
  rw [List.getElem?_set] at e
  rw [List.getElem?_set]
  split at e
  · split at e <;> cases e
  · rename_i hij
    rw [if_neg hij]
    exact r.at' j d e
theorem RepSt.wipe {ρ : Rho} {σ : L2.St} (r : RepSt K mg ι H ρ σ) : ∀ vs : List Nat, RepSt K mg ι H (wipeC ρ vs) (L2.wipe σ vs)
  | [] => r
  | v :: vs => (RepSt.wipe r vs).unset v none
theorem wipe_set {σ : L2.St} {i : Nat} {o : Option V} : ∀ {vs : List Nat}, i ∈ vs → L2.wipe (σ.set i o) vs = L2.wipe σ vs
  | [], h => nomatch h
  | v :: vs, h => by
    unfold L2.wipe
    by_cases hi : i ∈ vs
    · rw [wipe_set hi]
    · have e : i = v := by
        rcases List.mem_cons.mp h with h | h
        · exact h
        · exact absurd h hi
      subst e
      have key : ∀ (us : List Nat) (τ : L2.St), i ∉ us → L2.wipe (τ.set i o) us = (L2.wipe τ us).set i o := by
        intro us
        induction us with
        | nil => intro τ _; rfl
        | cons u us ih =>
          intro τ hu
          unfold L2.wipe
          rw [ih τ fun z => hu (List.mem_cons_of_mem _ z), List.set_comm _ _ (fun z => hu (by rw [z]; exact List.mem_cons_self))]
      rw [key vs σ hi, List.set_set]
theorem wipe_wipe {σ : L2.St} {vs : List Nat} : L2.wipe (L2.wipe σ vs) vs = L2.wipe σ vs := by
  have key : ∀ us : List Nat, (∀ u ∈ us, u ∈ vs) → L2.wipe (L2.wipe σ us) vs = L2.wipe σ vs := by
    intro us
    induction us with
    | nil => intro _; rfl
    | cons u us ih =>
      intro h
      show L2.wipe ((L2.wipe σ us).set u none) vs = _
      rw [wipe_set (h u List.mem_cons_self)]
      exact ih fun z hz => h z (List.mem_cons_of_mem _ hz)
  exact key vs fun _ h => h
/-- a comprehension's target: t does what g does, to the block's own slots alone -/
def CTg (K : PySem.W.Frag) (mg : Str → Option Value) (vs : List Nat) (t : TG) (g : CV → Rho → Option Rho) : Prop :=
  ∀ (ι : List Addr) (H : Hp) (ρ ρ' : Rho) (σ : L2.St) (x : CV) (v : V), RepSt K mg ι H ρ σ → RepV K mg ι H x v → g x ρ = some ρ' → ∃ σ2, RepSt K mg ι H ρ' σ2 ∧ L2.wipe σ2 vs = L2.wipe σ vs ∧ ∀ Q : L2.St → Hp → Prop, Q σ2 H → t v σ H Q
def cN (i : Nat) : CV → Rho → Option Rho := fun x ρ => some (ρ.set i (some x))
def cT (is : List Nat) : CV → Rho → Option Rho := fun x ρ => match x with
  | .tup xs => gNs is xs ρ
  | _ => none
theorem ctg_name {i : Nat} {vs : List Nat} (h : i ∈ vs) : CTg K mg vs (gName i) (cN i) := fun ι H ρ ρ' σ x v rs rx e => by
  cases e
  exact ⟨_, rs.set i rx, wipe_set h, fun Q q => q⟩
theorem ctg_tup {is vs : List Nat} (h : ∀ i ∈ is, i ∈ vs) : CTg K mg vs (gTup K is.length (gSets is)) (cT is) := fun ι H ρ ρ' σ x v rs rx e => by
  unfold cT at e
  cases rx with
  | tup hq rr =>
    dsimp only at e
    obtain ⟨h1, h2⟩ := gNs_rep e rr rs
    refine ⟨_, h2, ?_, fun Q q => ⟨_, _, rfl, hq, h1, h1, q⟩⟩
    have key : ∀ (ps : List (Nat × V)) (τ : L2.St), (∀ p ∈ ps, p.1 ∈ vs) → L2.wipe (ps.foldl (fun σ p => σ.set p.1 (some p.2)) τ) vs = L2.wipe τ vs := by
      intro ps
      induction ps with
      | nil => intro τ _; rfl
      | cons p ps ih =>
        intro τ hp
        rw [List.foldl_cons, ih _ fun q hq => hp q (List.mem_cons_of_mem _ hq), wipe_set (hp p List.mem_cons_self)]
    exact key _ σ fun p hp => h _ (List.of_mem_zip hp).1
  | _ => cases e
end
/-- the turns of a list comprehension -/
def lcIt (chk : Sto → Bool) (n : Nat) (g : CV → Rho → Option Rho) (mt : Rho → M Bool) (me : Rho → M CV) (ρ : Rho) : List CV → M Unit
  | [], S => if chk S then .ok () S else .bad
  | x :: xs, S => if chk S then (match g x ρ with
      | some ρ1 => (match mt ρ1 S with
        | .ok b S2 => if b then (match me ρ1 S2 with
            | .ok y S3 => (match S3[n]? with
              | some (.lst acc) => if acc.length < sizeLine then lcIt chk n g mt me ρ xs (S3.set n (.lst (acc ++ [y]))) else .bad
              | _ => .bad)
            | _ => .bad) else lcIt chk n g mt me ρ xs S2
        | _ => .bad)
      | none => .bad) else .bad
def mLc (mi : Rho → M Src) (g : CV → Rho → Option Rho) (mt : Rho → M Bool) (me : Rho → M CV) (vs : List Nat) : Rho → M CV := fun ρ => bnd (mi ρ) fun src S => (lcIt src.chk S.length g mt me (wipeC ρ vs) src.items (S ++ [.lst []])).bnd fun _ => ret (.ref S.length)
def mYes : Rho → M Bool := fun _ => ret true
abbrev GTs (X : Cx) (W : WX) (ifs : List Expr) (m : Rho → M Bool) : Prop := PTs X ifs (tDT X.K X.mg W m)
theorem PTs.imp {X : Cx} {e : List Expr} {t t' : TT} (h : PTs X e t) (k : ∀ σ H Q, t' σ H Q → t σ H Q) : PTs X e t' := ⟨fun pins s σ H Q I q => h.run pins s σ H Q I (k σ H Q q)⟩
theorem gts_nil {X : Cx} {W : WX} : GTs X W [] mYes := PTs.imp pts_nil fun σ H Q ⟨ι, ρ, S, Rs, rs, fi⟩ => Fin.ret Rs fi rfl
theorem gts_one {X : Cx} {W : WX} {c : Expr} {mt : Rho → M Bool} (h : GT X W c mt) : GTs X W [c] mt := pts_one h
section
variable {X : Cx} {W : WX} {elt tg iter : Expr} {ifs : List Expr} {scope : Scope} {own : List (Str × Nat)} {pos : Pos} {mi : Rho → M Src} {me : Rho → M CV} {mt : Rho → M Bool} {t : TG} {g : CV → Rho → Option Rho}
theorem lc_of (htg : CTg X.K X.mg (own.map (·.2)) t g) {σ : L2.St} {H : Hp} {Q : VK} (h : tD X.K X.mg W (mLc mi g mt me (own.map (·.2))) σ H Q) :
    tLc (tI X.K X.mg W mi) t (tDT X.K X.mg W0 mt) (tD X.K X.mg W0 me) (own.map (·.2)) σ H Q := by
  obtain ⟨ι, ρ, S, Rs, rs, fi⟩ := h
  refine ⟨ι, ρ, S, Rs, rs, (Fin.bnd (R := IterOk X.K X.mg) fi).imp fun J H1 ⟨ι1, S1, src, n1, it, f1⟩ => ?_⟩
  intro D hD
  obtain ⟨n2, rD⟩ := new_lst (cs := []) (vs := []) n1.rs .nil hD
  have rw1 := (n2.repst n1.rs (n1.repst Rs rs)).wipe (own.map (·.2))
  have f1 : Fin X.K X.mg ι1 H1 (RepV X.K X.mg) ((lcIt src.chk S1.length g mt me (wipeC ρ (own.map (·.2))) src.items (S1 ++ [.lst []])).bnd fun _ => ret (.ref S1.length)) Q (fun c d H' => W c d σ H') := f1
  refine ⟨fun i m H2 => m + i = src.items.length ∧ ∃ ι2 S2, RS X.K X.mg ι2 S2 H2 ∧ RepSt X.K X.mg ι2 H2 (wipeC ρ (own.map (·.2))) (L2.wipe σ (own.map (·.2))) ∧ (∃ m, ι2 = (ι1 ++ [D]) ++ m) ∧ Tk H1 H2 ∧
      Fin X.K X.mg ι2 H2 (RepV X.K X.mg) ((lcIt src.chk S1.length g mt me (wipeC ρ (own.map (·.2))) (src.items.drop i) S2).bnd fun _ => ret (.ref S1.length)) Q (fun c d H' => W c d σ H'),
    ⟨src.items.length, by simp, ι1 ++ [D], S1 ++ [.lst []], n2.rs, rw1, ⟨[], by simp⟩, n2.tk n1.rs, by rw [List.drop_zero]; exact Fin.after n2 f1⟩, ?_⟩
  rintro i m H2 ⟨hm, ι2, S2, R2, r2, ext, tk, f2⟩
  obtain ⟨me', ext⟩ := ext
  have ext1 : ∃ m, ι2 = ι1 ++ m := ⟨[D] ++ me', by rw [ext, List.append_assoc]⟩
  have hDat : ι2[S1.length]? = some D := by
    rw [ext, List.append_assoc, ← n1.rs.len, List.getElem?_append_right (Nat.le_refl _), Nat.sub_self]; rfl
  by_cases hi : i < src.items.length
  · have hd : src.items.drop i = src.items[i] :: src.items.drop (i + 1) := List.drop_eq_getElem_cons hi
    rw [hd] at f2
    unfold lcIt at f2
    split at f2
    · rename_i hck
      obtain ⟨hgo, hyld⟩ := it.go ι2 S2 H2 i src.items[i] R2 ext1 tk hck (List.getElem?_eq_getElem hi)
      refine .inr ⟨hgo, fun H' => ∃ ι2 S2, RS X.K X.mg ι2 S2 H' ∧ RepSt X.K X.mg ι2 H' (wipeC ρ (own.map (·.2))) (L2.wipe σ (own.map (·.2))) ∧ (∃ m, ι2 = (ι1 ++ [D]) ++ m) ∧ Tk H1 H' ∧
        Fin X.K X.mg ι2 H' (RepV X.K X.mg) ((lcIt src.chk S1.length g mt me (wipeC ρ (own.map (·.2))) (src.items.drop (i + 1)) S2).bnd fun _ => ret (.ref S1.length)) Q (fun c d H' => W c d σ H'), fun H' hN => ⟨m - 1, by omega, by omega, hN⟩, fun v H' hy => ?_⟩
      obtain ⟨n3, rv⟩ := hyld v H' hy
      have r3 := n3.repst R2 r2
      cases eg : g src.items[i] (wipeC ρ (own.map (·.2))) with
      | none => rw [eg] at f2; exact f2.elim
      | some ρ1 =>
        rw [eg] at f2
        dsimp only at f2
        obtain ⟨σ2, rs2, ew, ht⟩ := htg ι2 H' _ ρ1 _ _ v r3 rv eg
        refine ht _ ⟨by rw [ew, wipe_wipe], ι2, ρ1, S2, n3.rs, rs2, ?_⟩
        -- what stays for the next turn
        have go : ∀ {S5 : Sto} {ι5 : List Addr} {H5 : Hp}, Nx X.K X.mg ι2 H2 S5 ι5 H5 → Fin X.K X.mg ι2 H2 (RepV X.K X.mg) ((lcIt src.chk S1.length g mt me (wipeC ρ (own.map (·.2))) (src.items.drop (i + 1)) S5).bnd fun _ => ret (.ref S1.length)) Q (fun c d H' => W c d σ H') →
            ∃ ι2 S2, RS X.K X.mg ι2 S2 H5 ∧ RepSt X.K X.mg ι2 H5 (wipeC ρ (own.map (·.2))) (L2.wipe σ (own.map (·.2))) ∧ (∃ m, ι2 = (ι1 ++ [D]) ++ m) ∧ Tk H1 H5 ∧
              Fin X.K X.mg ι2 H5 (RepV X.K X.mg) ((lcIt src.chk S1.length g mt me (wipeC ρ (own.map (·.2))) (src.items.drop (i + 1)) S2).bnd fun _ => ret (.ref S1.length)) Q (fun c d H' => W c d σ H') := fun {S5 ι5 H5} n5 f5 => by
          obtain ⟨m2', e2, _⟩ := n5.ext
          exact ⟨ι5, S5, n5.rs, n5.repst R2 r2, ⟨me' ++ m2', by rw [e2, ext, List.append_assoc (ι1 ++ [D])]⟩, tk.trans (n5.tk R2), Fin.after n5 f5⟩
        cases em : mt ρ1 S2 with
        | bad => rw [em] at f2; exact f2.elim
        | exc _ _ _ => rw [em] at f2; exact f2.elim
        | ok b S3 =>
          rw [em] at f2
          dsimp only at f2
          intro b' ι3 H3 n4 eb
          subst eb
          have n34 := n3.trans n4
          cases b with
          | false => exact go n34 f2
          | true =>
            rw [if_pos rfl] at f2
            refine ⟨ι3, ρ1, S3, n4.rs, n4.repst n3.rs rs2, ?_⟩
            cases ey : me ρ1 S3 with
            | bad => rw [ey] at f2; exact f2.elim
            | exc _ _ _ => rw [ey] at f2; exact f2.elim
            | ok y S4 =>
              rw [ey] at f2
              dsimp only at f2
              intro v4 ι4 H4 n5 ry
              have n35 := n34.trans n5
              have hD4 : ι4[S1.length]? = some D := by
                obtain ⟨m2', e2, _⟩ := n35.ext
                rw [e2, List.getElem?_append_left (List.getElem?_eq_some_iff.mp hDat).1]; exact hDat
              cases eo : S4[S1.length]? with
              | none => rw [eo] at f2; exact f2.elim
              | some o =>
                rw [eo] at f2
                cases o with
                | lst acc =>
                  dsimp only at f2
                  obtain ⟨vs, e1, racc⟩ := n35.rs.obj _ _ _ hD4 eo
                  split at f2
                  · rename_i hl
                    refine ⟨vs, e1, by rw [← racc.length]; exact hl, ?_⟩
                    have n6 : Nx X.K X.mg ι4 H4 (S4.set S1.length (.lst (acc ++ [y]))) ι4 (upd H4 D (.lst (vs ++ [v4]))) := n35.rs.put hD4 (fun _ tk' => ⟨vs ++ [v4], upd_same, by
                      have q := (racc.append (.cons ry .nil)).mono (H' := upd H4 D (.lst (vs ++ [v4]))) tk' []
                      rw [List.append_nil] at q
                      exact q⟩) (fun gs z => nomatch z)
                    exact go (n35.trans n6) f2
                  · exact f2.elim
                | dic _ => exact f2.elim
                | ins _ _ => exact f2.elim
                | exc _ _ => exact f2.elim
                | frz _ => exact f2.elim
    · exact f2.elim
  · have hd : src.items.drop i = [] := List.drop_of_length_le (Nat.le_of_not_lt hi)
    rw [hd] at f2
    unfold lcIt at f2
    split at f2
    · rename_i hck
      have e : i = src.items.length := by omega
      exact .inl ⟨by rw [e]; exact it.stop ι2 S2 H2 R2 ext1 tk hck, Fin.ret R2 f2 (.ref hDat)⟩
    · exact f2.elim
theorem ge_lc (hN : X.N.Nodup) (hi : GI X W tg iter mi) (ok : BlkOk X.N X.env.scope scope own) (htg : CTg X.K X.mg (own.map (·.2)) t g)
    (hg : ∀ (s : Shared) (H : Hp) (C : Addr) (cl : List (Str × Addr)) (fp : List Addr), PG (X.blk s H scope (compEnvC scope cl C X.env) fp) tg t) (ht : ∀ (s : Shared) (H : Hp) (C : Addr) (cl : List (Str × Addr)) (fp : List Addr), GTs (X.blk s H scope (compEnvC scope cl C X.env) fp) W0 ifs mt)
    (he : ∀ (s : Shared) (H : Hp) (C : Addr) (cl : List (Str × Addr)) (fp : List Addr), GE (X.blk s H scope (compEnvC scope cl C X.env) fp) W0 elt me) (hc : X.calm = true := by rfl) (hs : ∀ x, foldedSetIterable iter X.env x = pure x := by intro _; rfl) :
    GE X W (.ListComp elt [⟨tg, iter, ifs, 0⟩] scope pos) (mLc mi g mt me (own.map (·.2))) := PE.imp (pe_lc (tt := tDT X.K X.mg W0 mt) (te := tD X.K X.mg W0 me) hc hN hi ok hg ht he hs) fun σ H Q h => lc_of htg h
theorem gs_setLc {i : Nat} {y : Str} {py spos : Pos} (hN : X.N.Nodup) (hi : GI X W tg iter mi) (ok : BlkOk X.N X.env.scope scope own) (htg : CTg X.K X.mg (own.map (·.2)) t g)
    (hg : ∀ (s : Shared) (H : Hp) (C : Addr) (cl : List (Str × Addr)) (fp : List Addr), PG (X.blk s H scope (compEnvC scope cl C X.env) fp) tg t) (ht : ∀ (s : Shared) (H : Hp) (C : Addr) (cl : List (Str × Addr)) (fp : List Addr), GTs (X.blk s H scope (compEnvC scope cl C X.env) fp) W0 ifs mt)
    (he : ∀ (s : Shared) (H : Hp) (C : Addr) (cl : List (Str × Addr)) (fp : List Addr), GE (X.blk s H scope (compEnvC scope cl C X.env) fp) W0 elt me) (hsw : swapsWith (.ListComp elt [⟨tg, iter, ifs, 0⟩] scope pos) (some (.Name y py)) spos.line X.env = pure true) (hc : X.calm = true := by rfl) (hy : X.N[i]? = some y := by rfl) (hyl : X.env.scope.names.lookup y = some .local := by rfl) (hs : ∀ x, foldedSetIterable iter X.env x = pure x := by intro _; rfl) :
    GS X W (.Assign [.Name y py] (.ListComp elt [⟨tg, iter, ifs, 0⟩] scope pos) spos) (sAsg (mLc mi g mt me (own.map (·.2))) (gN i)) := PS.imp (ps_setLc (tt := tDT X.K X.mg W0 mt) (te := tD X.K X.mg W0 me) hc hN hy hyl hsw hi ok hg ht he hs) fun D σ H h => by
  have h' := asg_of h
  refine lc_of (W := W) htg ?_
  obtain ⟨ι, ρ, S, Rs, rs, f⟩ := h'
  exact ⟨ι, ρ, S, Rs, rs, f.imp fun v H1 ⟨ι1, ρ1, S1, x, R1, r1, rx, f1⟩ => Fin.ret R1 f1 (r1.set i rx)⟩
end
end MW
set_option Elab.async false
set_option linter.all false
set_option maxRecDepth 100000
set_option maxHeartbeats 4000000
namespace MW
open PySem PySem.Spec PyProof.Rows L2
/-! ### a def by its body -/
def startC (n : Nat) (cs : List CV) : Rho := cs.map some ++ List.replicate (n - cs.length) none
def runF (n : Nat) (m : Rho → M CF) (cs : List CV) : M CV := fun S => match m (startC n cs) S with
  | .ok (.nx _) S' => .ok .non S'
  | .ok (.rt c) S' => .ok c S'
  | .ok (.xc c fs _) S' => .exc c fs S'
  | _ => .bad
section
variable {P : Program} {w : World} {K : PySem.W.Frag} {mg : Str → Option Value} {base : Heap}
theorem RepVs.start {ι : List Addr} {H : Hp} {cs : List CV} {vs : List V} {N : List Str} (r : RepVs K mg ι H cs vs) : RepSt K mg ι H (startC N.length cs) (L2.start N vs) := by
  have hl := r.length
  refine ⟨by simp [startC, L2.start, hl], fun i c e => ?_⟩
  unfold startC at e
  unfold L2.start
  by_cases hi : i < cs.length
  · rw [List.getElem?_append_left (by simpa using hi), List.getElem?_map] at e
    rw [List.getElem?_append_left (by rw [List.length_map, ← hl]; exact hi), List.getElem?_map]
    cases q : cs[i]? with
    | none => rw [q] at e; cases e
    | some c' =>
      rw [q] at e
      cases e
      obtain ⟨v, hv, rv⟩ := r.get q
      exact ⟨v, by rw [hv]; rfl, rv⟩
  · rw [List.getElem?_append_right (by simpa using hi), List.getElem?_replicate] at e
    split at e <;> cases e
/-- the wish of a def's body -/
abbrev WE' (E : XK) : WX := fun cls d _ H => E cls d H
theorem fn_D {x qual : Str} {st : Stmt} {f : Addr} {fd : FuncData} {N ps : List Str} {k : Nat} {m : Rho → M CF} (F : Fun K x qual st f fd) (Sc : FnScope N ps (defScope st))
    (hbody : ∀ (cdv : Value) (A : Around) (outer : List Env) (s : Shared) (H : Hp) (E : XK), RmG k (A.deeper (envOfC qual (defScope st) s.heap.objs.size f cdv)) →
      Takes (cxOf (L2.CX P w) P w K mg base N qual (defScope st) f cdv A outer s H E) (WE' E) → PassesOwn (model P w) (A.deeper (envOfC qual (defScope st) s.heap.objs.size f cdv)) (envOfC qual (defScope st) s.heap.objs.size f cdv) (cxOf (L2.CX P w) P w K mg base N qual (defScope st) f cdv A outer s H E).xe →
      GSs (cxOf (L2.CX P w) P w K mg base N qual (defScope st) f cdv A outer s H E) (WE' E) (defBody st) m) : FnD P w K mg base (k + 1) f fd ps (runF N.length m) := by
  obtain ⟨o1, o2, d1, d2, d3, d4, cdv, d5, d6, efd, atf, code⟩ := F.ex
  subst efd
  constructor
  intro A outer s H args us vs Q E room env0 bound rel prom
  have inK : K.In s.heap := env0.mod.kin.keeps fun b o e => (env0.bs b o e).1
  have noLim : s.heap.NoLimit := env0.mod.nolimit.keeps fun b o e => (env0.bs b o e).1
  refine codeAny_call_function room.rm.depth (inK _ _ atf) rfl Sc.co Sc.gen rfl (PySem.W.codeRec_of inK code) (bound _ _ _ _ (wpAny_newFunctionEnv_cells Sc.kind ?kinds fun env eenv s1 entered => ?body))
  case kinds =>
    rintro ⟨y, v⟩ hy
    refine (Sc.par y (List.of_mem_zip hy).1).imp id fun hc => ⟨hc, ?_⟩
    exact PySem.W.cellsFrom_some _ _ _ (.inl hc)
  case body =>
    subst eenv
    refine ⟨noLim.keeps entered.toInCall.keep, codeAny_func ?_⟩
    have inv : Inv (cxOf (L2.CX P w) P w K mg base N qual (defScope st) f cdv A outer s H E) [] (L2.start N vs) H s1 := inv_start Sc room.rm.hd env0 prom.1 rel entered
    obtain ⟨_, ι, S, cs, Rs, rc, fi⟩ := prom
    have goal : tS K mg (WE' E) m { nx := fun _ H' => Q .non H', rt := Q } (L2.start N vs) H := by
      refine ⟨ι, startC N.length cs, S, Rs, rc.start, ?_⟩
      unfold runF at fi
      cases r : m (startC N.length cs) S with
      | bad => rw [r] at fi; exact fi
      | exc _ _ _ => rw [r] at fi; exact fi.elim
      | ok fl S' =>
        rw [r] at fi
        cases fl with
        | nx ρ => exact fun σ' ι' H' n _ => fi .non ι' H' n .non
        | rt c => exact fi
        | bk ρ => exact fi.elim
        | ct ρ => exact fi.elim
        | xc c fs ρ => exact fun C d gs σ' ι' H' e n _ hd hf => fi C d gs ι' H' e n hd hf
    have walked := (hbody cdv A outer s H E (room.deeper _) (takes_of rfl rfl rfl rfl) (passes_of rfl)).run [] s1 (L2.start N vs) H _ inv goal
    refine wpAny_mono walked (fun fl s' told => ?_) fun _ _ z => z
    cases fl with
    | ret u =>
      obtain ⟨v, σ', H', J, rv, q⟩ := told
      exact ⟨v, H', J.os, J.bare, J.base, J.hok, rv, q⟩
    | next =>
      obtain ⟨σ', H', J, q⟩ := told
      exact ⟨V.non, H', J.os, J.bare, J.base, J.hok, rfl, q⟩
    | brk =>
      obtain ⟨_, _, _, q⟩ := told
      exact q.elim
    | cont =>
      obtain ⟨_, _, _, q⟩ := told
      exact q.elim
end

/-! ### new objects beside the store -/
section
variable {K : PySem.W.Frag} {mg : Str → Option Value} {ι : List Addr} {H : Hp} {S : Sto}
theorem RS.side (Rs : RS K mg ι S H) {p : Addr} {u : HO} (hp : H p = none) : Nx K mg ι H S ι (upd H p u) := by
  have keep : ∀ b o, H b = some o → upd H p u b = some o := fun b o e => by rw [upd_ne (ne_of_none e hp)]; exact e
  have fr : Frm ι H (upd H p u) := fun b o _ e => keep b o e
  have tk := Rs.tk fr
  refine ⟨⟨Rs.len, Rs.nd, fun n a o e1 e2 => ?_⟩, ⟨[], by simp, fun _ h => nomatch h⟩, fr⟩
  have ho := Rs.obj n a o e1 e2
  obtain ⟨u', hu, _⟩ := ho.plain
  have := ho.mono tk [] (by rw [upd_ne (ne_of_none hu hp)]) fun d gs e => keep d _ e
  rw [List.append_nil] at this
  exact this
def putFC (f : Str) (c : CV) : List (Str × CV) → List (Str × CV)
  | [] => [(f, c)]
  | (g, d) :: r => if g = f then (g, c) :: r else (g, d) :: putFC f c r
theorem RepFs.put {f : Str} {c : CV} {v : V} (r : RepV K mg ι H c v) : ∀ {fs : List (Str × CV)} {gs : List (Str × V)}, RepFs K mg ι H fs gs → RepFs K mg ι H (putFC f c fs) (putF f v gs)
  | _, _, .nil => .cons r .nil
  | _, _, .cons (f := g) q t => by
    unfold putFC putF
    by_cases h : g = f
    · subst h; rw [if_pos rfl, if_pos rfl]; exact .cons r t
    · rw [if_neg h, if_neg h]; exact .cons q (RepFs.put r t)
theorem RepFs.look {f : Str} : ∀ {fs : List (Str × CV)} {gs : List (Str × V)}, RepFs K mg ι H fs gs → match fs.lookup f with
    | some c => ∃ v, gs.lookup f = some v ∧ RepV K mg ι H c v
    | none => gs.lookup f = none
  | _, _, .nil => rfl
  | _, _, .cons (f := g) (c := c) (v := v) q t => by
    by_cases h : f = g
    · subst h
      simp only [List.lookup, beq_self_eq_true]
      exact ⟨v, rfl, q⟩
    · have h' : (f == g) = false := by simpa using h
      simp only [List.lookup, h']
      exact RepFs.look t
theorem RepFs.look_some {f : Str} {c : CV} {fs : List (Str × CV)} {gs : List (Str × V)} (r : RepFs K mg ι H fs gs) (h : fs.lookup f = some c) : ∃ v, gs.lookup f = some v ∧ RepV K mg ι H c v := by
  have := r.look (f := f)
  rw [h] at this
  exact this
theorem RepFs.look_none {f : Str} {fs : List (Str × CV)} {gs : List (Str × V)} (r : RepFs K mg ι H fs gs) (h : fs.lookup f = none) : gs.lookup f = none := by
  have := r.look (f := f)
  rw [h] at this
  exact this
theorem RepFs.length : ∀ {fs : List (Str × CV)} {gs : List (Str × V)}, RepFs K mg ι H fs gs → fs.length = gs.length
  | _, _, .nil => rfl
  | _, _, .cons _ t => by simp [RepFs.length t]
end

/-! ### own classes: made, fields stored -/
/-- a def that may be called: at most level k, n parameters, no defaults -/
structure Callee (P : Program) (w : World) (K : PySem.W.Frag) (mg : Str → Option Value) (base : Heap) (k : Nat) (f : Addr) (n : Nat) (m : List CV → M CV) : Prop where
  ex : ∃ fd ps, ps.length = n ∧ FnD P w K mg base k f fd ps m ∧ Binds K fd ps []
  kp : PySem.W.keepIn K (.ref f) = true
def app (n : Nat) (m : List CV → M CV) (cs : List CV) : M CV := if cs.length = n then m cs else bad
def mkIns (c : Str) (n : Nat) (m : List CV → M CV) : List CV → M CV := fun cs S => (app n m (.ref S.length :: cs) (S ++ [.ins c []])).bnd fun r S' => match r with
  | .non => .ok (.ref S.length) S'
  | _ => .bad
section
variable {X : Cx} {W : WX} {a b c e o value : Expr} {es : List Expr} {ma mb mc me mv : Rho → M CV} {ms : Rho → M (List CV)} {pos pos' p : Pos} {k n : Nat} {f C : Addr} {m : List CV → M CV} {x : Str}
theorem run_callee {pins : List (Addr × Obj)} {σ : L2.St} {H : Hp} {s : Shared} {Q : VK} {us : List Value} {vs : List V} {cs : List CV} {ι : List Addr} {S : Sto} (F : Callee X.prog X.w X.K X.mg X.base k f n m) (hr : RmG k X.A) (tk : Takes X W)
    (I : Inv X pins σ H s) (r : Vals vs us) (Rs : RS X.K X.mg ι S H) (rc : RepVs X.K X.mg ι H cs vs) (h : Fin X.K X.mg ι H (RepV X.K X.mg) (app n m cs S) Q (fun c d H' => W c d σ H')) :
    wpAny (model X.prog X.w) X.A (call (.ref f) us) (EP X pins σ Q) X.xe s := by
  obtain ⟨fd, ps, hl, F', hb⟩ := F.ex
  subst hl
  exact run_fnD (dvs := []) (dcs := []) F' hr hb .nil (fun _ _ => .nil) tk I r Rs rc (by simpa [app] using h)
theorem ge_callF (F : Callee X.prog X.w X.K X.mg X.base k f n m) (hr : RmG k X.A) (hm : X.mg x = some (.ref f)) (tk : Takes X W) (ha : GA X W (e :: es) ms) (hg : Gl X x := by rfl) (hdb : (x == ("__debug__" : Str)) = false := by decide)
    (he : starEach (e :: es) X.env = (false, eval e X.env) :: starEach es X.env := by rfl) (hpl : (backTo pos (starEach es X.env)).any (·.1) = false := by rfl) : GE X W (.Call (.Name x p) (e :: es) [] pos) (fun ρ => bnd (ms ρ) (app n m)) := by
  refine ⟨fun pins s σ H Q I ⟨ι, ρ, S, Rs, rs, fi⟩ => ?_⟩
  refine wpAny_Call_Name_kw (ld_glob I hg hm ?_ hdb)
  refine PySem.W.callWith_K (h₀ := X.base) I.ok.mod.kin F.kp (thn (ha.run pos pins s σ H _ I ⟨ι, ρ, S, Rs, rs, Fin.bnd (R := RepVs X.K X.mg) fi⟩) fun us s1 ⟨vs, H1, I1, r, ι1, S1, xs, n1, rx, f1⟩ => ⟨I1.kIn, ?_⟩) he hpl
  exact run_callee F hr tk I1 r n1.rs rx f1
theorem ge_callF0 (F : Callee X.prog X.w X.K X.mg X.base k f n m) (hr : RmG k X.A) (hm : X.mg x = some (.ref f)) (tk : Takes X W) (hg : Gl X x := by rfl) (hdb : (x == ("__debug__" : Str)) = false := by decide) : GE X W (.Call (.Name x p) [] [] pos) (fun _ => app n m []) := by
  refine ⟨fun pins s σ H Q I ⟨ι, ρ, S, Rs, rs, fi⟩ => ?_⟩
  refine wpAny_Call_Name_kw (ld_glob I hg hm ?_ hdb)
  exact PySem.W.callWith_K0 I.kIn F.kp (run_callee (us := []) F hr tk I .nil Rs .nil fi)
/-- what a class must say to be made -/
structure MkC (K : PySem.W.Frag) (mg : Str → Option Value) (c : Str) (C f : Addr) : Prop where
  made : Mk K C f
  gl : mg c = some (.ref C)
/-- a new instance without fields -/
theorem new_ins {K : PySem.W.Frag} {mg : Str → Option Value} {ι : List Addr} {H : Hp} {S : Sto} {c : Str} {x dx : Addr} (Rs : RS K mg ι S H) (hg : mg c = some (.ref C)) (hx : H x = none) (hdx : H dx = none) (ne : dx ≠ x) :
    Nx K mg ι H (S ++ [.ins c []]) (ι ++ [x]) (upd (upd H dx (.own x)) x (.ins C dx [])) ∧ (ι ++ [x])[S.length]? = some x := by
  have n1 := Rs.side (u := .own x) hdx
  have hx' : upd H dx (.own x) x = none := by rw [upd_ne (Ne.symm ne)]; exact hx
  have n2 : Nx K mg ι (upd H dx (.own x)) (S ++ [.ins c []]) (ι ++ [x]) (upd (upd H dx (.own x)) x (.ins C dx [])) := n1.rs.new hx' ⟨C, dx, [], hg, upd_same, .nil⟩
  exact ⟨n1.trans n2, by rw [← Rs.len, List.getElem?_append_right (Nat.le_refl _), Nat.sub_self]; rfl⟩
theorem run_makeD {c : Str} {pins : List (Addr × Obj)} {σ : L2.St} {H : Hp} {s : Shared} {Q : VK} {us : List Value} {vs : List V} {cs : List CV} {ι : List Addr} {S : Sto} (Mc : MkC X.K X.mg c C f) (F : Callee X.prog X.w X.K X.mg X.base k f n m) (hr : RmG (k + 1) X.A) (tk : Takes X W)
    (I : Inv X pins σ H s) (r : Vals vs us) (Rs : RS X.K X.mg ι S H) (rc : RepVs X.K X.mg ι H cs vs) (h : Fin X.K X.mg ι H (RepV X.K X.mg) (mkIns c n m cs S) Q (fun c d H' => W c d σ H')) :
    wpAny (model X.prog X.w) X.A (call (.ref C) us) (EP X pins σ Q) X.xe s := by
  obtain ⟨fd, ps, hl, F', hb⟩ := F.ex
  subst hl
  have I2 := Inv.made (C := C) I
  obtain ⟨nx, hat⟩ := new_ins (c := c) Rs Mc.gl (I.hok.fresh (Nat.le_succ s.heap.objs.size)) (I.hok.fresh (Nat.le_refl _)) (Nat.ne_of_lt (Nat.lt_succ_self _))
  have rcs : RepVs X.K X.mg (ι ++ [s.heap.objs.size + 1]) _ (.ref S.length :: cs) (V.ref (s.heap.objs.size + 1) :: vs) := .cons (.ref hat) (nx.reps Rs rc)
  have h' : Fin X.K X.mg (ι ++ [s.heap.objs.size + 1]) _ (RepV X.K X.mg) ((app ps.length m (.ref S.length :: cs) (S ++ [.ins c []])).bnd fun r S' => match r with
    | .non => .ok (.ref S.length) S'
    | _ => .bad) Q (fun c d H' => W c d σ H') := Fin.after nx h
  have f2 : Fin X.K X.mg (ι ++ [s.heap.objs.size + 1]) _ (RepV X.K X.mg) (app ps.length m (.ref S.length :: cs) (S ++ [.ins c []])) (fun v H2 => v = .non ∧ Q (.ref (s.heap.objs.size + 1)) H2) (fun c d H' => W c d σ H') := (Fin.bnd (R := RepV X.K X.mg) h').imp fun v H2 ⟨ι2, S2, d, n2, rd, f3⟩ => by
    cases rd with
    | non =>
      refine ⟨rfl, Fin.ret n2.rs f3 (.ref ?_)⟩
      obtain ⟨mm, e, _⟩ := n2.ext
      rw [e, List.getElem?_append_left (List.getElem?_eq_some_iff.mp hat).1]; exact hat
    | _ => exact f3.elim
  have r2 : Vals (V.ref (s.heap.objs.size + 1) :: vs) (Value.ref (s.heap.objs.size + 1) :: us) := .cons rfl r
  have run := code_fnD (pins := pins) (args := ⟨Value.ref (s.heap.objs.size + 1) :: us, []⟩) F' (hr.make C us []) (I2.env0.make C us []) (fun hl => by
    have hbb := hb _ (Value.ref (s.heap.objs.size + 1) :: us) I2.kIn (by rw [List.append_nil]; exact hl)
    rw [List.append_nil] at hbb
    exact hbb) tk I2 r2 nx.rs rcs f2
  refine wpAny_call (make_map (f := f) I.kIn Mc.made.makes Mc.made.init (beq_iff_eq.mp Mc.made.fn) (codeAny_mono run fun r s' hq' => ?_))
  cases r with
  | error e => exact hq'
  | ok fl =>
    cases fl with
    | ret u =>
      obtain ⟨v, H', I3, rv, ev, q3⟩ := hq'
      subst ev
      exact ⟨rv, ⟨V.ref (s.heap.objs.size + 1), H', I3, rfl, q3⟩⟩
    | next => exact False.elim hq'
    | brk => exact False.elim hq'
    | cont => exact False.elim hq'
theorem ge_make {c : Str} (Mc : MkC X.K X.mg c C f) (F : Callee X.prog X.w X.K X.mg X.base k f n m) (hr : RmG (k + 1) X.A) (tk : Takes X W) (ha : GA X W (e :: es) ms) (hg : Gl X c := by rfl) (hdb : (c == ("__debug__" : Str)) = false := by decide)
    (he : starEach (e :: es) X.env = (false, eval e X.env) :: starEach es X.env := by rfl) (hpl : (backTo pos (starEach es X.env)).any (·.1) = false := by rfl) : GE X W (.Call (.Name c p) (e :: es) [] pos) (fun ρ => bnd (ms ρ) (mkIns c n m)) := by
  refine ⟨fun pins s σ H Q I ⟨ι, ρ, S, Rs, rs, fi⟩ => ?_⟩
  refine wpAny_Call_Name_kw (ld_glob I hg Mc.gl ?_ hdb)
  refine PySem.W.callWith_K (h₀ := X.base) I.ok.mod.kin Mc.made.kp (thn (ha.run pos pins s σ H _ I ⟨ι, ρ, S, Rs, rs, Fin.bnd (R := RepVs X.K X.mg) fi⟩) fun us s1 ⟨vs, H1, I1, r, ι1, S1, xs, n1, rx, f1⟩ => ⟨I1.kIn, ?_⟩) he hpl
  exact run_makeD Mc F hr tk I1 r n1.rs rx f1
/-! ### attributes -/
/-- the classes whose instances have the attribute f as a field of their own -/
def FldOk (K : PySem.W.Frag) (mg : Str → Option Value) (c f : Str) : Prop := ∃ C, mg c = some (.ref C) ∧ Cls K C ∧ NoAttr K C f
def setF (f : Str) (tbl : List Str) : CV → CV → M Unit := fun x v S => match x with
  | .ref n => match S[n]? with
    | some (.ins c fs) => if c ∈ tbl ∧ fs.length < 1000 then .ok () (S.set n (.ins c (putFC f v fs))) else .bad
    | _ => .bad
  | _ => .bad
def sFldC (f : Str) (tbl : List Str) (mo mv : Rho → M CV) : Rho → M CF := fun ρ S => lft ρ (mv ρ S) fun y S1 => lft ρ (mo ρ S1) fun x S2 => lft ρ (setF f tbl x y S2) fun _ => ret (.nx ρ)
theorem gs_fld {f : Str} {tbl : List Str} (ht : ∀ c ∈ tbl, FldOk X.K X.mg c f) (ho : GE X W o ma) (hv : GE X W value mv) (hs : swapsWith value (some (.Attribute o f pos')) pos.line X.env = pure false := by rfl) : GS X W (.Assign [.Attribute o f pos'] value pos) (sFldC f tbl ma mv) :=
  PS.imp (ps_fld ho hv hs) fun D σ H ⟨ι, ρ, S, Rs, rs, fi⟩ => by
    refine ⟨ι, ρ, S, Rs, rs, (SFin.lft (R := RepV X.K X.mg) Rs rs fi).imp fun y H1 ⟨ι1, S1, cy, n1, ry, f1⟩ => ?_⟩
    have rs1 := n1.repst Rs rs
    refine ⟨ι1, ρ, S1, n1.rs, rs1, (SFin.lft (R := RepV X.K X.mg) n1.rs rs1 f1).imp fun x H2 ⟨ι2, S2, cx, n2, rx, f2⟩ => ?_⟩
    have rs2 := n2.repst n1.rs rs1
    have ry2 := n2.rep n1.rs ry
    unfold setF at f2
    cases rx with
    | ref hq =>
      dsimp only at f2
      split at f2
      · rename_i c fs ec
        split at f2
        · rename_i hc
          obtain ⟨C, dx, gs, hm, e1, rf⟩ := n2.rs.obj _ _ _ hq ec
          obtain ⟨C', hm', cl, na⟩ := ht _ hc.1
          rw [hm] at hm'; cases hm'
          have n3 : Nx X.K X.mg ι2 H2 (S2.set _ (.ins c (putFC f cy fs))) ι2 (upd H2 _ (.ins C dx (putF f y gs))) := n2.rs.put hq (fun _ tk' => ⟨C, dx, _, hm, upd_same, by
            have q := (rf.put (f := f) ry2).mono (H' := upd H2 _ (.ins C dx (putF f y gs))) tk' []
            rw [List.append_nil] at q
            exact q⟩) (fun gs z => nomatch z)
          exact ⟨_, C, dx, gs, rfl, e1, cl, na, by rw [← rf.length]; exact hc.2, f2 σ ι2 _ n3 (n3.repst n2.rs rs2)⟩
        · exact f2.elim
      · exact f2.elim
    | _ => exact f2.elim
def AttG (X : Cx) (W : WX) (f : Str) (g : CV → M CV) : Prop :=
  ∀ (pins : List (Addr × Obj)) (s : Shared) (σ : L2.St) (H : Hp) (ι : List Addr) (S : Sto) (x : CV) (v : V) (a : Value) (Q : VK), Inv X pins σ H s → RelV v a → RS X.K X.mg ι S H → RepV X.K X.mg ι H x v →
    Fin X.K X.mg ι H (RepV X.K X.mg) (g x S) Q (fun c d H' => W c d σ H') → wpAny (model X.prog X.w) X.A (getAttr a f true) (EP X pins σ Q) X.xe s
theorem ge_att {f : Str} {g : CV → M CV} (hg : AttG X W f g) (he : GE X W e me) (hb : attributeBase e f X.env (eval e X.env) = eval e X.env := by rfl) : GE X W (.Attribute e f pos) (mUn g me) :=
  ⟨fun pins s σ H Q I ⟨ι, ρ, S, Rs, rs, fi⟩ => attr_of hb (thn (he.run pins s σ H _ I ⟨ι, ρ, S, Rs, rs, Fin.bnd (R := RepV X.K X.mg) fi⟩) fun v' s1 ⟨v, H1, I1, r1, ι1, S1, x, n1, rx, f1⟩ => hg pins s1 σ H1 ι1 S1 x v v' Q I1 r1 n1.rs rx f1)⟩
/-- what an attribute of a class's instances is -/
inductive AK where
  | fld | prop (m : List CV → M CV) | con (c : CV)
/-- no exception leaves -/
def calmR {α : Type} (r : Res α) : Res α := match r with
  | .ok a S => .ok a S
  | _ => .bad
def attC (f : Str) (tbl : List (Str × AK)) : CV → M CV := fun x S => match x with
  | .ref n => match S[n]? with
    | some (.ins c fs) => match tbl.lookup c with
      | some .fld => match fs.lookup f with
        | some v => .ok v S
        | none => .bad
      | some (.prop m) => calmR (m [x] S)
      | some (.con v) => match fs.lookup f with
        | none => .ok v S
        | some _ => .bad
      | none => .bad
    | _ => .bad
  | .cls c => match tbl.lookup c with
    | some (.con v) => .ok v S
    | _ => .bad
  | _ => .bad
inductive AKOk (P : Program) (w : World) (K : PySem.W.Frag) (mg : Str → Option Value) (base : Heap) (k : Nat) (c f : Str) : AK → Prop where
  | fld (h : FldOk K mg c f) : AKOk P w K mg base k c f .fld
  | prop {C p g : Addr} {j : Nat} {m : List CV → M CV} (hm : mg c = some (.ref C)) (cl : Cls K C) (hp : PropOf K C f p g) (F : Callee P w K mg base j g 1 m) (hj : j + 1 ≤ k) : AKOk P w K mg base k c f (.prop m)
  | con {C : Addr} {v : V} {u : Value} {cv : CV} (hm : mg c = some (.ref C)) (cl : Cls K C) (h : Con K C f v u) (hc : ∃ mc u', ClX.CRead K C mc ∧ ClX.CVal K C mc f v u') (r : ∀ ι H, RepV K mg ι H cv v) : AKOk P w K mg base k c f (.con cv)
theorem mem_of_look {α : Type} {c : Str} {v : α} : ∀ {tbl : List (Str × α)}, tbl.lookup c = some v → (c, v) ∈ tbl
  | [], h => nomatch h
  | (d, u) :: r, h => by
    unfold List.lookup at h
    split at h
    · rename_i hc
      cases h
      rw [eq_of_beq hc]
      exact List.mem_cons_self
    · exact List.mem_cons_of_mem _ (mem_of_look h)
theorem att_c {f : Str} {tbl : List (Str × AK)} (ht : ∀ p ∈ tbl, AKOk X.prog X.w X.K X.mg X.base k p.1 f p.2) (hr : RmG k X.A) : AttG X W f (attC f tbl) := by
  intro pins s σ H ι S x v a Q I rv Rs rx fi
  unfold attC at fi
  cases rx with
  | @ref nq aq hq =>
    cases rv
    dsimp only at fi
    split at fi
    · rename_i c fs ec
      obtain ⟨C, dx, gs, hm, e1, rf⟩ := Rs.obj _ _ _ hq ec
      split at fi
      · rename_i hl
        cases ht _ (mem_of_look hl) with
        | fld h =>
          obtain ⟨C', hm', cl, na⟩ := h
          rw [hm] at hm'; cases hm'
          split at fi
          · rename_i cv hf
            obtain ⟨u, hu, ru⟩ := rf.look_some hf
            exact getattr_ok I e1 cl na hu fun u' s2 I2 ru' => ⟨u, H, I2, ru', Fin.ret Rs fi ru⟩
          · exact fi.elim
      · rename_i mm hl
        cases ht _ (mem_of_look hl) with
        | prop hm' cl hp F hj =>
          rw [hm] at hm'; cases hm'
          obtain ⟨fd, ps, hl, F', hb⟩ := F.ex
          obtain ⟨mA, O, _, _, _, _⟩ := ins_get I.hok e1
          obtain ⟨od, J, _⟩ := O.look
          obtain ⟨rest, hrec⟩ := hp.rec_
          have hcls : (PySem.W.clsIn X.K C).isSome = true := by
            obtain ⟨cd, hcd, _⟩ := PySem.W.any_some cl.hd
            rw [hcd]; rfl
          have pg := PySem.W.plainGet_of (cl.get f)
          have I1 := I.tok (s.toks + 1)
          refine PySem.W.get_bind I.kIn J pg.1 (PySem.W.findObj_data hcls hp.at_ hp.get hp.tak) pg.2 (wpAny_call (PySem.W.prop_get (s := { s with toks := s.toks + 1 }) I.kIn hrec ?_))
          have fi' : Fin X.K X.mg ι H (RepV X.K X.mg) ((if [CV.ref nq].length = ps.length then mm [CV.ref nq] else bad) S) Q (fun c d H' => (fun _ _ _ _ => False : WX) c d σ H') := by
            rw [if_pos (show [CV.ref nq].length = ps.length from hl.symm)]
            unfold calmR at fi
            cases r : mm [CV.ref nq] S with
            | ok d S' => rw [r] at fi; exact fi
            | exc _ _ _ => rw [r] at fi; exact fi.elim
            | bad => rw [r] at fi; exact fi.elim
          have run := code_fnD (X := X.nox) (W := fun _ _ _ _ => False) (pins := pins) (σ := σ) (args := ⟨[.ref aq], []⟩) (us := [.ref aq]) (vs := [.ref aq]) F' (hr.mono hj).in1 (I1.wish _).env0.in1 (fun hl' => by
            have hbb := hb { s with toks := s.toks + 1 } [.ref aq] I.kIn (by rw [List.append_nil]; exact hl')
            rw [List.append_nil] at hbb
            exact hbb) (fun u s' z => by
              obtain ⟨_, _, _, _, _, _, _, _, _, _, _, _, _, _, _, _, z⟩ := z
              exact z) (I1.wish _) (.cons rfl .nil) Rs (.cons (.ref hq) .nil) fi'
          refine codeAny_mono run fun r s' hb' => ?_
          cases r with
          | error er => exact hb'.elim
          | ok fl =>
            cases fl with
            | ret u =>
              obtain ⟨v, H', I3, rv, q3⟩ := hb'
              show wpAny _ _ (handedOut u) _ _ _
              rw [PySem.W.handedOut_of (handed_of rv)]
              exact wpAny_pure ⟨v, H', I3.unwish, rv, q3⟩
            | next => exact hb'.elim
            | brk => exact hb'.elim
            | cont => exact hb'.elim
      · rename_i cv hl
        cases ht _ (mem_of_look hl) with
        | con hm' cl h _ r =>
          rw [hm] at hm'; cases hm'
          split at fi
          · rename_i hf
            exact getcon_ok I e1 cl h (rf.look_none hf) fun s2 I2 => ⟨_, H, I2, h.rel, Fin.ret Rs fi (r _ _)⟩
          · exact fi.elim
      · exact fi.elim
    · exact fi.elim
  | cls hm =>
    cases rv
    dsimp only at fi
    split at fi
    · rename_i cv hl
      cases ht _ (mem_of_look hl) with
      | con hm' cl h hc r =>
        rw [hm] at hm'; cases hm'
        obtain ⟨mc, u', h1, h2⟩ := hc
        exact ClX.getcval_ok I h1 h2 fun s2 I2 => ⟨_, H, I2, h2.rel, Fin.ret Rs fi (r _ _)⟩
    · exact fi.elim
  | _ => exact fi.elim
end
end MW
set_option Elab.async false
set_option linter.all false
set_option maxRecDepth 100000
set_option maxHeartbeats 4000000
namespace MW
open PySem PySem.Spec PyProof.Rows L2 ClX
/-- what a name is, called on an instance of a class, or on the class itself -/
inductive MK where
  | meth (n : Nat) (m : List CV → M CV) | cmeth (n : Nat) (m : List CV → M CV) | smeth (n : Nat) (m : List CV → M CV)
def metC (name : Str) (tbl : List (Str × MK)) (x : CV) (S : Sto) : Option (List CV → M CV) := match x with
  | .ref i => match S[i]? with
    | some (.ins c fs) => if (fs.lookup name).isNone then (match tbl.lookup c with
      | some (.meth n m) => some fun xs => app n m (x :: xs)
      | _ => none) else none
    | _ => none
  | .cls c => match tbl.lookup c with
    | some (.cmeth n m) => some fun xs => app n m (.cls c :: xs)
    | some (.smeth n m) => some fun xs => app n m xs
    | _ => none
  | _ => none
def mMet (name : Str) (tbl : List (Str × MK)) (mo : Rho → M CV) (ms : Rho → M (List CV)) : Rho → M CV := fun ρ => bnd (mo ρ) fun x S => match metC name tbl x S with
  | some g => bnd (ms ρ) g S
  | none => .bad
/-- what the text must say of it -/
inductive MKOk (P : Program) (w : World) (K : PySem.W.Frag) (mg : Str → Option Value) (base : Heap) (k : Nat) (c name : Str) : MK → Prop where
  | meth {C f : Addr} {n j : Nat} {m : List CV → M CV} (hm : mg c = some (.ref C)) (cl : Cls K C) (h : Meth K C name f) (F : Callee P w K mg base j f n m) (hj : j ≤ k) : MKOk P w K mg base k c name (.meth n m)
  | cmeth {C p g : Addr} {mc : Value} {n j : Nat} {m : List CV → M CV} (hm : mg c = some (.ref C)) (r : CRead K C mc) (h : CMet K C mc name p g) (F : Callee P w K mg base j g n m) (hj : j ≤ k) : MKOk P w K mg base k c name (.cmeth n m)
  | smeth {C p g : Addr} {mc : Value} {n j : Nat} {m : List CV → M CV} (hm : mg c = some (.ref C)) (r : CRead K C mc) (ha : PySem.W.findCls K (.ref C) mc name = some (.get (.builtin "staticmethod.__get__") (.ref p) .none (.ref C))) (hp : ∃ rest, PySem.W.recIn K p "staticmethod" = some (.ref g :: rest))
      (F : Callee P w K mg base j g n m) (hj : j ≤ k) : MKOk P w K mg base k c name (.smeth n m)
section
variable {X : Cx} {W : WX} {e o : Expr} {es : List Expr} {mo : Rho → M CV} {ms : Rho → M (List CV)} {pos apos : Pos} {k n : Nat} {name : Str} {tbl : List (Str × MK)}
/-- the method's own call, whatever the arguments' form -/
theorem met_run {pins : List (Addr × Obj)} {σ : L2.St} {H : Hp} {s : Shared} {Q : VK} {ι : List Addr} {S : Sto} {x : CV} {v : V} {u : Value} {ρ : Rho} {Z : Value × List Value → Shared → Prop} {pl : Sem Bool} {g : List CV → M CV} (ht : ∀ p ∈ tbl, MKOk X.prog X.w X.K X.mg X.base k p.1 name p.2) (hr : RmG k X.A) (tk : Takes X W)
    (I : Inv X pins σ H s) (rv : RelV v u) (Rs : RS X.K X.mg ι S H) (rs : RepSt X.K X.mg ι H ρ σ) (rx : RepV X.K X.mg ι H x v) (hg : metC name tbl x S = some g) (fi : Fin X.K X.mg ι H (RepV X.K X.mg) (bnd (ms ρ) g S) Q (fun c d H' => W c d σ H'))
    (hZ1 : ∀ (f : Addr) (first : List Value) (s1 : Shared), PySem.W.keepIn X.K (.ref f) = true → Inv X pins σ H s1 → (∀ us s2 vs H2 ι2 S2 xs, Inv X pins σ H2 s2 → Vals vs us → RS X.K X.mg ι2 S2 H2 → RepVs X.K X.mg ι2 H2 xs vs → Nx X.K X.mg ι H S2 ι2 H2 → Fin X.K X.mg ι2 H2 (RepV X.K X.mg) (g xs S2) Q (fun c d H' => W c d σ H') → wpAny (model X.prog X.w) X.A (call (.ref f) (first ++ us)) (EP X pins σ Q) X.xe s2) → Z (.ref f, first) s1)
    (hZ2 : ∀ (q g' C : Addr) (s1 : Shared), (∃ c n m, tbl.lookup c = some (.cmeth n m)) → X.base.get? q = none → PySem.W.fnIn X.K g' = true → Inv X ((q, PySem.W.methodObj (.ref g') (.ref C)) :: pins) σ H s1 → (∀ us s2 vs H2 ι2 S2 xs, Inv X ((q, PySem.W.methodObj (.ref g') (.ref C)) :: pins) σ H2 s2 → Vals vs us → RS X.K X.mg ι2 S2 H2 → RepVs X.K X.mg ι2 H2 xs vs → Nx X.K X.mg ι H S2 ι2 H2 → Fin X.K X.mg ι2 H2 (RepV X.K X.mg) (g xs S2) Q (fun c d H' => W c d σ H') → wpAny (model X.prog X.w) X.A (call (.ref q) us) (EP X pins σ Q) X.xe s2) → Z (.ref q, []) s1) :
    wpAny (model X.prog X.w) X.A (getMethod u name pl) Z X.xe s := by
  unfold metC at hg
  cases rx with
  | ref hq =>
    cases rv
    dsimp only at hg
    split at hg
    · rename_i c fs ec
      obtain ⟨C, dx, gs, hm, e1, rf⟩ := Rs.obj _ _ _ hq ec
      split at hg
      · rename_i hn
        split at hg
        · rename_i nn mm hl
          cases hg
          cases ht _ (mem_of_look hl) with
          | meth hm' cl h F hj =>
            rw [hm] at hm'; cases hm'
            refine getmeth_ok I e1 cl h (rf.look_none (Option.isNone_iff_eq_none.mp hn)) (hZ1 _ [.ref _] s h.kp I fun us s2 vs H2 ι2 S2 xs I2 r2 R2 rxs n2 f2 => ?_)
            exact run_callee (us := .ref _ :: us) (vs := .ref _ :: vs) F (hr.mono hj) tk I2 (.cons rfl r2) R2 (.cons (n2.rep Rs (.ref hq)) rxs) f2
        · cases hg
      · cases hg
    · cases hg
  | @cls cx Cx hC =>
    cases rv
    dsimp only at hg
    split at hg
    · rename_i nn mm hl
      cases hg
      cases ht _ (mem_of_look hl) with
      | @cmeth _ _ g'' _ _ _ _ hm' r h F hj =>
        rw [hC] at hm'; cases hm'
        refine getmethcm_ok I r h fun s1 I1 => hZ2 _ _ _ s1 ⟨_, _, _, hl⟩ (base_none I (Nat.le_refl _)) h.fi I1 fun us s2 vs H2 ι2 S2 xs I2 r2 R2 rxs n2 f2 => ?_
        obtain ⟨fd, ps, hps, F', hb⟩ := F.ex
        subst hps
        have r3 : Vals (V.ref Cx :: vs) (Value.ref Cx :: us) := .cons rfl r2
        have run := code_fnD (args := ⟨Value.ref Cx :: us, []⟩) F' (hr.mono hj) I2.env0 (fun hl2 => by
          have hbb := hb _ (Value.ref Cx :: us) I2.kIn (by rw [List.append_nil]; exact hl2)
          rw [List.append_nil] at hbb
          exact hbb) tk I2 r3 R2 (.cons (.cls hC) rxs) f2
        exact thn (wp_back (PySem.W.method_call (pin_at I2) run)) fun _ _ y => unpinE y
    · rename_i nn mm hl
      cases hg
      cases ht _ (mem_of_look hl) with
      | smeth hm' r ha hp F hj =>
        rw [hC] at hm'; cases hm'
        obtain ⟨rest, hp⟩ := hp
        refine PySem.W.method_cls I.kIn r.ga (PySem.W.cls_bind I.kIn r.rd ha (wpAny_call (PySem.W.sm_get (s := { s with toks := s.toks + 1 }) I.kIn hp (PySem.W.handed_on rfl ?_))))
        refine hZ1 _ [] _ F.kp (I.tok _) fun us s2 vs H2 ι2 S2 xs I2 r2 R2 rxs n2 f2 => ?_
        exact run_callee F (hr.mono hj) tk I2 r2 R2 rxs f2
    · cases hg
  | _ => cases hg
theorem ge_met {pl : Sem Bool} (ht : ∀ p ∈ tbl, MKOk X.prog X.w X.K X.mg X.base k p.1 name p.2) (hr : RmG k X.A) (tk : Takes X W) (ho : GE X W o mo) (ha : GA X W (e :: es) ms)
    (hst : starEach (e :: es) X.env = (false, eval e X.env) :: starEach es X.env := by rfl) (hpl : (backTo pos (starEach es X.env)).any (·.1) = false := by rfl)
    (hev : eval (.Call (.Attribute o name apos) (e :: es) [] pos) X.env = (do
      let ov ← eval o X.env
      standAt apos.atName
      let (f, first) ← holding [ov] (getMethod ov name pl)
      callWith pos f first (backTo pos (starEach (e :: es) X.env)) (backToKw pos (keywordEach [] X.env))) := by rfl) :
    GE X W (.Call (.Attribute o name apos) (e :: es) [] pos) (mMet name tbl mo ms) := by
  refine ⟨fun pins s σ H Q I ⟨ι, ρ, S, Rs, rs, fi⟩ => ?_⟩
  refine PySem.W.methodCall_KW (pl := pl) (thn (ho.run pins s σ H _ I ⟨ι, ρ, S, Rs, rs, Fin.bnd (R := RepV X.K X.mg) fi⟩) fun u s1 ⟨v, H1, I1, rv, ι1, S1, x, n1, rx, f1⟩ => ?_) hev
  have rs1 := n1.repst Rs rs
  cases hg : metC name tbl x S1 with
  | none => rw [hg] at f1; exact f1.elim
  | some g =>
    rw [hg] at f1
    have f1 : Fin X.K X.mg ι1 H1 (RepV X.K X.mg) (bnd (ms ρ) g S1) Q (fun c d H' => W c d σ H') := f1
    have arg : ∀ {pins' : List (Addr × Obj)} {s' : Shared}, Inv X pins' σ H1 s' → wpAny (model X.prog X.w) X.A (spliced (backTo pos (starEach (e :: es) X.env))) (fun us s2 => ∃ vs H2, Inv X pins' σ H2 s2 ∧ Vals vs us ∧ ∃ ι2 S2 xs, Nx X.K X.mg ι1 H1 S2 ι2 H2 ∧ RepVs X.K X.mg ι2 H2 xs vs ∧ Fin X.K X.mg ι2 H2 (RepV X.K X.mg) (g xs S2) Q (fun c d H' => W c d σ H')) X.xe s' := fun {pins' s'} I' =>
      thn (ha.run pos pins' s' σ H1 _ I' ⟨ι1, ρ, S1, n1.rs, rs1, Fin.bnd (R := RepVs X.K X.mg) f1⟩) fun us s2 ⟨vs, H2, I2, r, q⟩ => ⟨vs, H2, I2, r, q⟩
    refine met_run (ms := ms) ht hr tk I1 rv n1.rs rs1 rx hg f1 (fun f first s2 hk I2 fin => ?_) (fun q g' C s2 hcm hb hfi I2 fin => ?_)
    · refine PySem.W.callWith_K (first := first) (h₀ := X.base) I.ok.mod.kin hk (thn (arg I2) fun us s3 ⟨vs, H2, I3, r, ι2, S2, xs, n2, rxs, f2⟩ => ⟨I3.kIn, ?_⟩) hst hpl
      exact fin us s3 vs H2 ι2 S2 xs I3 r n2.rs rxs n2 f2
    · refine callwith_cm I2 hb hfi (thn (arg I2) fun us s3 ⟨vs, H2, I3, r, ι2, S2, xs, n2, rxs, f2⟩ => ⟨⟨pin_at I3, I3.kIn⟩, ?_⟩) hst hpl
      exact fin us s3 vs H2 ι2 S2 xs I3 r n2.rs rxs n2 f2
theorem ge_met0 {pl : Sem Bool} (ht : ∀ p ∈ tbl, MKOk X.prog X.w X.K X.mg X.base k p.1 name p.2) (hr : RmG k X.A) (tk : Takes X W) (ho : GE X W o mo)
    (hnc : ∀ p ∈ tbl, ∃ n m, p.2 = .meth n m)
    (hev : eval (.Call (.Attribute o name apos) [] [] pos) X.env = (do
      let ov ← eval o X.env
      standAt apos.atName
      let (f, first) ← holding [ov] (getMethod ov name pl)
      callWith pos f first (backTo pos (starEach [] X.env)) (backToKw pos (keywordEach [] X.env))) := by rfl) :
    GE X W (.Call (.Attribute o name apos) [] [] pos) (mMet name tbl mo mNil) := by
  refine ⟨fun pins s σ H Q I ⟨ι, ρ, S, Rs, rs, fi⟩ => ?_⟩
  refine PySem.W.methodCall_KW (pl := pl) (thn (ho.run pins s σ H _ I ⟨ι, ρ, S, Rs, rs, Fin.bnd (R := RepV X.K X.mg) fi⟩) fun u s1 ⟨v, H1, I1, rv, ι1, S1, x, n1, rx, f1⟩ => ?_) hev
  have rs1 := n1.repst Rs rs
  cases hg : metC name tbl x S1 with
  | none => rw [hg] at f1; exact f1.elim
  | some g =>
    rw [hg] at f1
    have f1 : Fin X.K X.mg ι1 H1 (RepV X.K X.mg) (bnd (mNil ρ) g S1) Q (fun c d H' => W c d σ H') := f1
    have f2 : Fin X.K X.mg ι1 H1 (RepV X.K X.mg) (g [] S1) Q (fun c d H' => W c d σ H') := f1
    refine met_run (ms := mNil) ht hr tk I1 rv n1.rs rs1 rx hg f1 (fun f first s2 hk I2 fin => ?_) (fun q g' C s2 hcm hb hfi I2 fin => ?_)
    · exact PySem.W.callWith_K0 (first := first) I2.kIn hk (fin [] s2 [] H1 ι1 S1 [] I2 .nil n1.rs .nil (Nx.refl n1.rs) f2)
    · obtain ⟨c, n', m', hl⟩ := hcm
      obtain ⟨n2, m2, e2⟩ := hnc _ (mem_of_look hl)
      cases e2
end
end MW
set_option Elab.async false
set_option linter.all false
set_option maxRecDepth 100000
set_option maxHeartbeats 4000000
namespace MW
open PySem PySem.Spec PyProof.Rows L2
section
variable {X : Cx} {W : WX} {a b c e o : Expr} {es : List Expr} {ma mb me mo : Rho → M CV} {ms : Rho → M (List CV)} {pos apos p : Pos}
theorem opG_of {f : Value → Value → Sem Value} {r : R2} {g : CV → CV → M CV} (h : OpR X f r) (hg : ∀ (ι : List Addr) (S : Sto) (H : Hp) (x y : CV) (v u : V) (Q : VK) (B : XK), RS X.K X.mg ι S H → RepV X.K X.mg ι H x v → RepV X.K X.mg ι H y u → Fin X.K X.mg ι H (RepV X.K X.mg) (g x y S) Q B → r v u H Q) : OpG X W f g :=
  fun pins s σ H ι S x y v u a b Q I rv ru Rs rx ry fi => h pins s σ H v u a b Q I rv ru (hg ι S H x y v u Q _ Rs rx ry fi)
theorem unG_of {f : Value → Sem Value} {r : V → Hp → VK → Prop} {g : CV → M CV} (h : UnR X f r) (hg : ∀ (ι : List Addr) (S : Sto) (H : Hp) (x : CV) (v : V) (Q : VK) (B : XK), RS X.K X.mg ι S H → RepV X.K X.mg ι H x v → Fin X.K X.mg ι H (RepV X.K X.mg) (g x S) Q B → r v H Q) : UnG X W f g :=
  fun pins s σ H ι S x v a Q I rv Rs rx fi => h pins s σ H v a Q I rv (hg ι S H x v Q _ Rs rx fi)
theorem callG_of {f : Value} {r : List V → Hp → VK → Prop} {g : List CV → M CV} (h : CallR X f r) (hg : ∀ (ι : List Addr) (S : Sto) (H : Hp) (xs : List CV) (vs : List V) (Q : VK) (B : XK), RS X.K X.mg ι S H → RepVs X.K X.mg ι H xs vs → Fin X.K X.mg ι H (RepV X.K X.mg) (g xs S) Q B → r vs H Q) : CallG X W f g :=
  fun pins s σ H ι S xs vs us Q I rv Rs rx fi => h pins s σ H vs us Q I rv (hg ι S H xs vs Q _ Rs rx fi)
/-- ints in, an int out, under C -/
def intOp (C : Int → Int → Bool) (g : Int → Int → CV) : CV → CV → M CV := fun x y S => match x, y with
  | .int i, .int j => if C i j then .ok (g i j) S else .bad
  | _, _ => .bad
/-- a + b -/
def addC : CV → CV → M CV := fun x y S => match x, y with
  | .int i, .int j => .ok (.int (i + j)) S
  | .str a, .str b => if a.length + b.length ≤ sizeLine then .ok (.str (a ++ b)) S else .bad
  | .ref n, .ref k => match S[n]?, S[k]? with
    | some (.lst xs), some (.lst ys) => if xs.length + ys.length ≤ sizeLine then .ok (.ref S.length) (S ++ [.lst (xs ++ ys)]) else .bad
    | _, _ => .bad
  | .tup xs, .tup ys => if xs.isEmpty = false ∧ xs.length + ys.length ≤ sizeLine then .ok (.tup (xs ++ ys)) S else .bad
  | _, _ => .bad
theorem op_addC : OpG X W (binaryOp .Add) addC := opG_of (OpR.or (OpR.or op_add op_add_str) (OpR.or op_cat op_catT)) fun ι S H x y v u Q B Rs rx ry fi => by
  unfold addC at fi
  cases rx with
  | int i => cases ry with
    | int j => exact .inl (.inl ⟨i, j, rfl, rfl, Fin.ret Rs fi (.int _)⟩)
    | _ => exact fi.elim
  | str a => cases ry with
    | str b =>
      dsimp only at fi
      split at fi
      · rename_i h; exact .inl (.inr ⟨a, b, rfl, rfl, h, Fin.ret Rs fi (.str _)⟩)
      · exact fi.elim
    | _ => exact fi.elim
  | ref hq => cases ry with
    | ref hk =>
      dsimp only at fi
      split at fi
      · rename_i xs ys e1 e2
        obtain ⟨vs, h1, r1⟩ := Rs.obj _ _ _ hq e1
        obtain ⟨us, h2, r2⟩ := Rs.obj _ _ _ hk e2
        split at fi
        · rename_i hl
          refine .inr (.inl ⟨_, _, vs, us, rfl, rfl, h1, h2, by rw [← r1.length, ← r2.length]; exact hl, fun p hp => ?_⟩)
          obtain ⟨n2, r3⟩ := new_lst Rs (r1.append r2) hp
          exact fi _ _ _ n2 r3
        · exact fi.elim
      · exact fi.elim
    | _ => exact fi.elim
  | tup hq rr => cases ry with
    | tup hk ss =>
      dsimp only at fi
      split at fi
      · rename_i h
        have ne : ∀ {cs : List CV} {vs : List V}, RepVs X.K X.mg ι H cs vs → cs.isEmpty = false → vs ≠ [] := fun r h0 e => by
          subst e
          cases r
          cases h0
        refine .inr (.inr ⟨_, _, _, _, rfl, rfl, hq, hk, ne rr h.1, by rw [← rr.length, ← ss.length]; exact h.2, fun e => ?_, fun e p hp => ?_⟩)
        · subst e
          cases ss
          refine Fin.ret Rs fi ?_
          rw [List.append_nil]
          exact .tup hq rr
        · obtain ⟨n2, r3⟩ := new_tup Rs (rr.append ss) hp
          exact fi _ _ _ n2 r3
      · exact fi.elim
    | _ => exact fi.elim
  | _ => exact fi.elim
theorem op_intC {op : Operator} {C : Int → Int → Prop} {C' : Int → Int → Bool} {g : Int → Int → V} {g' : Int → Int → CV} (h : OpR X (binaryOp op) (rI C g)) (hc : ∀ i j, C' i j = true → C i j) (hg : ∀ ι H i j, RepV X.K X.mg ι H (g' i j) (g i j)) : OpG X W (binaryOp op) (intOp C' g') := opG_of h fun ι S H x y v u Q B Rs rx ry fi => by
  unfold intOp at fi
  cases rx with
  | int i => cases ry with
    | int j =>
      dsimp only at fi
      split at fi
      · rename_i h'; exact ⟨i, j, rfl, rfl, hc i j h', Fin.ret Rs fi (hg _ _ i j)⟩
      · exact fi.elim
    | _ => exact fi.elim
  | _ => exact fi.elim
theorem op_int0 {f : Value → Value → Sem Value} {g : Int → Int → V} {g' : Int → Int → CV} (h : OpR X f (rI0 g)) (hg : ∀ ι H i j, RepV X.K X.mg ι H (g' i j) (g i j)) : OpG X W f (intOp (fun _ _ => true) g') := opG_of h fun ι S H x y v u Q B Rs rx ry fi => by
  unfold intOp at fi
  cases rx with
  | int i => cases ry with
    | int j => exact ⟨i, j, rfl, rfl, Fin.ret Rs fi (hg _ _ i j)⟩
    | _ => exact fi.elim
  | _ => exact fi.elim
def subC : CV → CV → M CV := intOp (fun _ _ => true) fun i j => .int (i - j)
theorem op_subC : OpG X W (binaryOp .Sub) subC := op_int0 op_sub fun _ _ _ _ => .int _
/-- a * b: ints, one of them within 2 ^ 64 -/
def mulC : CV → CV → M CV := fun x y S => match x, y with
  | .int i, .int j => if (-(2 ^ 64) < i ∧ i < 2 ^ 64) ∨ (-(2 ^ 64) < j ∧ j < 2 ^ 64) then .ok (.int (i * j)) S else .bad
  | .ref n, .int k => match S[n]? with
    | some (.lst xs) => if -(2 ^ 63) ≤ k ∧ k < 2 ^ 63 ∧ xs.length * k.toNat ≤ sizeLine then .ok (.ref S.length) (S ++ [.lst (List.replicate k.toNat xs).flatten]) else .bad
    | _ => .bad
  | .str a, .int k => if 0 ≤ k ∧ k ≤ 1000 ∧ a.length ≤ 1000 then .ok (.str (Txt.mul a k)) S else .bad
  | _, _ => .bad
theorem op_mulS : OpR X (binaryOp .Mult) (fun x y H Q => ∃ a n, x = .str a ∧ y = .int n ∧ (0 ≤ n ∧ n ≤ 1000 ∧ a.length ≤ 1000) ∧ Q (.str (Txt.mul a n)) H) := by
  intro pins s σ H x y v u Q I rx ry h
  obtain ⟨a, n, rfl, rfl, ⟨h0, h1, h2⟩, q⟩ := h
  obtain ⟨t, rfl⟩ := rx
  obtain ⟨t', rfl⟩ := ry
  have ok : MulOk a n := by
    refine ⟨?_, fun hn _ => ?_, fun hn _ => ?_⟩
    · rw [decide_eq_false (by omega), decide_eq_false (by omega)]; rfl
    · have h3 : (1000 : Int) ≤ (2 ^ 63 - 1) / n := Int.le_ediv_of_mul_le (by omega) (by omega)
      omega
    · have h3 : a.length * n.toNat ≤ 1000 * 1000 := Nat.mul_le_mul h2 (by omega)
      show decide _ = false
      refine decide_eq_false ?_
      have : sizeLine = 16777216 := by decide
      omega
  exact SB.mul ok fun t2 k => ⟨.str _, H, I.tok _, ⟨_, rfl⟩, q⟩
theorem RepVs.rep {K : PySem.W.Frag} {mg : Str → Option Value} {ι : List Addr} {H : Hp} {cs : List CV} {vs : List V} (r : RepVs K mg ι H cs vs) : ∀ n : Nat, RepVs K mg ι H (List.replicate n cs).flatten (List.replicate n vs).flatten
  | 0 => .nil
  | n + 1 => by
    rw [List.replicate_succ, List.replicate_succ, List.flatten_cons, List.flatten_cons]
    exact r.append (RepVs.rep r n)
theorem op_mulC : OpG X W (binaryOp .Mult) mulC := opG_of (OpR.or (OpR.or op_mul op_mulS) op_rep) fun ι S H x y v u Q B Rs rx ry fi => by
  unfold mulC at fi
  cases rx with
  | int i => cases ry with
    | int j =>
      dsimp only at fi
      split at fi
      · rename_i h'; exact .inl (.inl ⟨i, j, rfl, rfl, h', Fin.ret Rs fi (.int _)⟩)
      · exact fi.elim
    | _ => exact fi.elim
  | str a => cases ry with
    | int j =>
      dsimp only at fi
      split at fi
      · rename_i h'; exact .inl (.inr ⟨a, j, rfl, rfl, h', Fin.ret Rs fi (.str _)⟩)
      · exact fi.elim
    | _ => exact fi.elim
  | ref hq => cases ry with
    | int k =>
      dsimp only at fi
      split at fi
      · rename_i xs e1
        obtain ⟨vs, h1, r1⟩ := Rs.obj _ _ _ hq e1
        split at fi
        · rename_i hl
          refine .inr ⟨_, _, vs, rfl, rfl, h1, hl.1, hl.2.1, by rw [← r1.length]; exact hl.2.2, fun p hp => ?_⟩
          obtain ⟨n2, r3⟩ := new_lst Rs (r1.rep k.toNat) hp
          exact fi _ _ _ n2 r3
        · exact fi.elim
      · exact fi.elim
    | _ => exact fi.elim
  | _ => exact fi.elim
def modC : CV → CV → M CV := intOp (fun _ j => decide (j ≠ 0)) fun i j => .int (i.fmod j)
theorem op_modC : OpG X W (binaryOp .Mod) modC := op_intC (C := fun _ j => j ≠ 0) op_modN (fun i j h => of_decide_eq_true h) fun _ _ _ _ => .int _
def fdivC : CV → CV → M CV := intOp (fun _ j => decide (j ≠ 0 ∧ j.natAbs < 1073741824)) fun i j => .int (i.fdiv j)
theorem op_fdivC : OpG X W (binaryOp .FloorDiv) fdivC := op_intC (C := CDivN) op_fdivN (fun i j h => of_decide_eq_true (p := j ≠ 0 ∧ j.natAbs < 1073741824) h) fun _ _ _ _ => .int _
def powC : CV → CV → M CV := intOp (fun i j => decide (0 ≤ j ∧ j ≤ 1000000 ∧ i.natAbs < 2 ^ 64)) fun i j => .int (i ^ j.toNat)
theorem op_powC : OpG X W (binaryOp .Pow) powC := op_intC (C := CPow) op_pow (fun i j h => of_decide_eq_true (p := 0 ≤ j ∧ j ≤ 1000000 ∧ i.natAbs < 2 ^ 64) h) fun _ _ _ _ => .int _
def negC : CV → M CV := fun x S => match x with
  | .int i => .ok (.int (-i)) S
  | _ => .bad
theorem un_negC : UnG X W (unaryOp .USub) negC := unG_of un_neg fun ι S H x v Q B Rs rx fi => by
  cases rx with
  | int i => exact ⟨i, rfl, Fin.ret Rs fi (.int _)⟩
  | _ => exact fi.elim
/-! order -/
def ordC (p : Int → Int → Bool) (q : List Nat → List Nat → Bool) : CV → CV → M CV := fun x y S => match x, y with
  | .int i, .int j => .ok (.bl (p i j)) S
  | .str a, .str b => .ok (.bl (q a.cps.toList b.cps.toList)) S
  | _, _ => .bad
theorem op_ordC {f : Value → Value → Sem Value} {p : Int → Int → Bool} {q : List Nat → List Nat → Bool} (h1 : OpR X f (rI0 fun i j => .bl (p i j))) (h2 : OpR X f (fun x y H Q => ∃ i j, x = .str i ∧ y = .str j ∧ Q (.bl (q i.cps.toList j.cps.toList)) H)) : OpG X W f (ordC p q) := opG_of (OpR.or h1 h2) fun ι S H x y v u Q B Rs rx ry fi => by
  unfold ordC at fi
  cases rx with
  | int i => cases ry with
    | int j => exact .inl ⟨i, j, rfl, rfl, Fin.ret Rs fi (.bl _)⟩
    | _ => exact fi.elim
  | str i => cases ry with
    | str j => exact .inr ⟨i, j, rfl, rfl, Fin.ret Rs fi (.bl _)⟩
    | _ => exact fi.elim
  | _ => exact fi.elim
def eqP : CV → CV → Bool
  | .int i, .int j => i == j
  | .str a, .str b => a == b
  | _, _ => false
def ltP : CV → CV → Bool
  | .int i, .int j => decide (i < j)
  | .str a, .str b => decide (a.cps.toList < b.cps.toList)
  | _, _ => false
def sameP : CV → CV → Bool
  | .int _, .int _ => true
  | .str _, .str _ => true
  | _, _ => false
/-- the order of two tuples -/
def lexP (xs ys : List CV) : Bool := Ob.lexAt (fun j => eqP (xs.getD j .non) (ys.getD j .non)) (fun j => ltP (xs.getD j .non) (ys.getD j .non)) (decide (xs.length < ys.length)) 0 (min xs.length ys.length)
def sameAll : List CV → List CV → Bool
  | x :: xs, y :: ys => sameP x y && sameAll xs ys
  | _, _ => true
theorem sameAll_at : ∀ {xs ys : List CV} {j : Nat} {x y : CV}, sameAll xs ys = true → xs[j]? = some x → ys[j]? = some y → sameP x y = true
  | [], _, _, _, _, _, h, _ => by simp at h
  | _ :: _, [], _, _, _, _, _, h => by simp at h
  | a :: xs, b :: ys, 0, x, y, hs, h1, h2 => by
    simp at h1 h2
    subst h1; subst h2
    exact (Bool.and_eq_true_iff.mp hs).1
  | a :: xs, b :: ys, j + 1, x, y, hs, h1, h2 => sameAll_at (Bool.and_eq_true_iff.mp hs).2 (by simpa using h1) (by simpa using h2)
theorem op_ltT2 {ι : List Addr} {H : Hp} {pins : List (Addr × Obj)} {s : Shared} {σ : L2.St} {xs ys : List CV} {vs us : List V} {a b : Addr} {Q : VK} (hu : X.A.units < cLine) (I : Inv X pins σ H s) (ha : SqT X.K H a vs) (hb : SqT X.K H b us) (rx : RepVs X.K X.mg ι H xs vs) (ry : RepVs X.K X.mg ι H ys us) (hs : sameAll xs ys = true)
    (q : Q (.bl (lexP xs ys)) H) : wpAny (model X.prog X.w) X.A (compareOp .Lt (.ref a) (.ref b)) (EP X pins σ Q) X.xe s := by
  obtain ⟨its, r1, p1, _⟩ := I.tuple ha
  obtain ⟨its2, r2, p2, _⟩ := I.tuple hb
  have e1 : its.toArray.size = xs.length := by rw [List.size_toArray, rx.length]; exact r1.length.symm
  have e2 : its2.toArray.size = ys.length := by rw [List.size_toArray, ry.length]; exact r2.length.symm
  have key : ∀ j (h1 : j < its.toArray.size) (h2 : j < its2.toArray.size), (∃ i k t t', xs.getD j .non = .int i ∧ ys.getD j .non = .int k ∧ its.toArray[j] = .int i t ∧ its2.toArray[j] = .int k t') ∨ (∃ i k t t', xs.getD j .non = .str i ∧ ys.getD j .non = .str k ∧ its.toArray[j] = .str i t ∧ its2.toArray[j] = .str k t') := fun j h1 h2 => by
    have k1 : j < xs.length := e1 ▸ h1
    have k2 : j < ys.length := e2 ▸ h2
    have g1 : xs[j]? = some xs[j] := List.getElem?_eq_getElem k1
    have g2 : ys[j]? = some ys[j] := List.getElem?_eq_getElem k2
    obtain ⟨v, hv, rv⟩ := rx.get g1
    obtain ⟨u, hu', ru⟩ := ry.get g2
    obtain ⟨w1, hw1, rw1⟩ := r1.get hv
    obtain ⟨w2, hw2, rw2⟩ := r2.get hu'
    have f1 : its.toArray[j] = w1 := by
      have := (List.getElem?_eq_some_iff.mp hw1).2
      simpa using this
    have f2 : its2.toArray[j] = w2 := by
      have := (List.getElem?_eq_some_iff.mp hw2).2
      simpa using this
    have d1 : xs.getD j .non = xs[j] := by rw [List.getD_eq_getElem?_getD, g1]; rfl
    have d2 : ys.getD j .non = ys[j] := by rw [List.getD_eq_getElem?_getD, g2]; rfl
    have sm := sameAll_at hs g1 g2
    rw [d1, d2, f1, f2]
    generalize xs[j] = cx at rv sm
    generalize ys[j] = cy at ru sm
    cases rv with
    | int i => cases ru with
      | int k => obtain ⟨t, rfl⟩ := rw1; obtain ⟨t', rfl⟩ := rw2; exact .inl ⟨i, k, t, t', rfl, rfl, rfl, rfl⟩
      | _ => cases sm
    | str i => cases ru with
      | str k => obtain ⟨t, rfl⟩ := rw1; obtain ⟨t', rfl⟩ := rw2; exact .inr ⟨i, k, t, t', rfl, rfl, rfl, rfl⟩
      | _ => cases sm
    | _ => cases sm
  have R := Ob.RcOp.tuples_lt (A := X.A) (s := s) (e := fun j => eqP (xs.getD j .non) (ys.getD j .non)) (r := fun j => ltP (xs.getD j .non) (ys.getD j .non)) p1 p2 hu (fun j h1 h2 => by
    rcases key j h1 h2 with ⟨i, k, t, t', z1, z2, z3, z4⟩ | ⟨i, k, t, t', z1, z2, z3, z4⟩
    · rw [z3, z4, z1, z2]; exact SeqAt.EqAt.int_int _ _ _ _
    · rw [z3, z4, z1, z2]; exact SeqAt.EqAt.str_str _ _ _ _) (fun j h1 h2 _ => by
    rcases key j h1 h2 with ⟨i, k, t, t', z1, z2, z3, z4⟩ | ⟨i, k, t, t', z1, z2, z3, z4⟩
    · rw [z3, z4, z1, z2]; exact Ob.RcOp.lt_int _ _ _ _
    · rw [z3, z4, z1, z2]; exact fun _ _ _ _ h => PyProof.Rows.lt_str h)
  rw [e1, e2] at R
  exact R X.prog X.w X.xe (EP X pins σ Q) ⟨.bl _, H, I, rfl, q⟩
def ltC : CV → CV → M CV := fun x y S => match x, y with
  | .tup xs, .tup ys => if sameAll xs ys then .ok (.bl (lexP xs ys)) S else .bad
  | _, _ => ordC (fun i j => decide (i < j)) (fun a b => decide (a < b)) x y S
def leC : CV → CV → M CV := ordC (fun i j => decide (i ≤ j)) fun a b => !decide (b < a)
def gtC : CV → CV → M CV := ordC (fun i j => decide (j < i)) fun a b => decide (b < a)
def geC : CV → CV → M CV := ordC (fun i j => decide (j ≤ i)) fun a b => !decide (a < b)
theorem op_ltC (hu : X.A.units + 64 < cLine) : OpG X W (compareOp .Lt) ltC := by
  intro pins s σ H ι S x y v u a b Q I rv ru Rs rx ry fi
  unfold ltC at fi
  split at fi
  · cases rx with
    | tup hq rr => cases ry with
      | tup hq' rr' =>
        split at fi
        · rename_i hs
          cases rv
          cases ru
          exact op_ltT2 (by omega) I hq hq' rr rr' hs (Fin.ret Rs fi (.bl _))
        · exact fi.elim
  · exact op_ordC op_lt op_lt_str pins s σ H ι S x y v u a b Q I rv ru Rs rx ry fi
theorem op_leC : OpG X W (compareOp .LtE) leC := op_ordC op_le op_le_str
theorem op_gtC : OpG X W (compareOp .Gt) gtC := op_ordC op_gt op_gt_str
theorem op_geC : OpG X W (compareOp .GtE) geC := op_ordC op_ge op_ge_str
/-! == of data -/
def toD (S : Sto) : Nat → CV → Option PyData
  | 0, _ => none
  | n + 1, x => match x with
    | .non => some .none
    | .bl b => some (.bool b)
    | .int i => some (.int i)
    | .str y => some (.str y)
    | .tup xs => (xs.mapM (toD S n)).map .tuple
    | .ref k => match S[k]? with
      | some (.lst xs) => (xs.mapM (toD S n)).map .list
      | _ => none
    | _ => none
theorem dpAll_of {K : PySem.W.Frag} {mg : Str → Option Value} {ι : List Addr} {H : Hp} {f : CV → Option PyData} (hf : ∀ x v d, RepV K mg ι H x v → f x = some d → Dp K H v d) : ∀ {xs : List CV} {vs : List V} {ds : List PyData}, RepVs K mg ι H xs vs → xs.mapM f = some ds → DpAll K H vs ds
  | _, _, _, .nil, h => by
    simp at h; subst h; exact .nil
  | _, _, _, .cons (c := c) (cs := cs) r rs, h => by
    rw [List.mapM_cons] at h
    cases e : f c with
    | none => rw [e] at h; cases h
    | some d =>
      rw [e] at h
      cases e2 : cs.mapM f with
      | none => rw [e2] at h; cases h
      | some ds' =>
        rw [e2] at h
        cases h
        exact .cons (hf _ _ _ r e) (dpAll_of hf rs e2)
theorem dp_of {K : PySem.W.Frag} {mg : Str → Option Value} {ι : List Addr} {H : Hp} {S : Sto} (Rs : RS K mg ι S H) : ∀ (n : Nat) (x : CV) (v : V) (d : PyData), RepV K mg ι H x v → toD S n x = some d → Dp K H v d
  | 0, _, _, _, _, h => by cases h
  | n + 1, x, v, d, r, h => by
    unfold toD at h
    cases r with
    | non => cases h; exact .non
    | bl b => cases h; exact .bl b
    | int b => cases h; exact .int b
    | str b => cases h; exact .str b
    | tup hq rr =>
      dsimp only at h
      cases e : List.mapM (toD S n) _ with
      | none => rw [e] at h; cases h
      | some ds => rw [e] at h; cases h; exact .tup hq (dpAll_of (dp_of Rs n) rr e)
    | ref hq =>
      dsimp only at h
      split at h
      · rename_i xs ex
        obtain ⟨vs, h1, r1⟩ := Rs.obj _ _ _ hq ex
        cases e : List.mapM (toD S n) xs with
        | none => rw [e] at h; cases h
        | some ds => rw [e] at h; cases h; exact .lst (SqL.of h1) (dpAll_of (dp_of Rs n) r1 e)
      · cases h
    | _ => cases h
def eqD (S : Sto) (x y : CV) : Option Bool := match toD S 40 x, toD S 40 y with
  | some d, some e => if SeqAt.shaped d && SeqAt.shaped e then some (PyData.eqv d e) else none
  | _, _ => none
def eqC : CV → CV → M CV := fun x y S => match x, y with
  | .str a, .str b => .ok (.bl (a == b)) S
  | _, _ => match eqD S x y with
    | some b => .ok (.bl b) S
    | none => .bad
def neC : CV → CV → M CV := fun x y S => match x, y with
  | .str a, .str b => .ok (.bl (!(a == b))) S
  | _, _ => match eqD S x y with
    | some b => .ok (.bl (!b)) S
    | none => .bad
theorem op_eqC (hu : X.A.units + 64 < cLine) : OpG X W (compareOp .Eq) eqC := opG_of (OpR.or op_eq (op_eqD hu)) fun ι S H x y v u Q B Rs rx ry fi => by
  unfold eqC at fi
  split at fi
  · cases rx
    cases ry
    exact .inl ⟨rfl, by rw [dec_str]; exact Fin.ret Rs fi (.bl _)⟩
  · refine .inr ?_
    unfold eqD at fi
    split at fi
    · rename_i b hb
      split at hb
      · rename_i d e h1 h2
        split at hb
        · rename_i hs
          cases hb
          obtain ⟨s1, s2⟩ := Bool.and_eq_true_iff.mp hs
          exact ⟨d, e, dp_of Rs 40 _ _ _ rx h1, dp_of Rs 40 _ _ _ ry h2, s1, s2, Fin.ret Rs fi (.bl _)⟩
        · cases hb
      · cases hb
    · exact fi.elim
theorem op_neC (hu : X.A.units + 64 < cLine) : OpG X W (compareOp .NotEq) neC := opG_of (OpR.or op_ne (op_neD hu)) fun ι S H x y v u Q B Rs rx ry fi => by
  unfold neC at fi
  split at fi
  · cases rx
    cases ry
    exact .inl ⟨rfl, by rw [dec_str]; exact Fin.ret Rs fi (.bl _)⟩
  · refine .inr ?_
    unfold eqD at fi
    split at fi
    · rename_i b hb
      split at hb
      · rename_i d e h1 h2
        split at hb
        · rename_i hs
          cases hb
          obtain ⟨s1, s2⟩ := Bool.and_eq_true_iff.mp hs
          exact ⟨d, e, dp_of Rs 40 _ _ _ rx h1, dp_of Rs 40 _ _ _ ry h2, s1, s2, Fin.ret Rs fi (.bl _)⟩
        · cases hb
      · cases hb
    · exact fi.elim
/-! is None -/
def isNonC : CV → Bool
  | .non => true
  | _ => false
def isNC : CV → CV → M CV := fun x y S => match y with
  | .non => .ok (.bl (isNonC x)) S
  | _ => .bad
def isNotNC : CV → CV → M CV := fun x y S => match y with
  | .non => .ok (.bl (!isNonC x)) S
  | _ => .bad
theorem RepV.isNon {K : PySem.W.Frag} {mg : Str → Option Value} {ι : List Addr} {H : Hp} {x : CV} {v : V} (r : RepV K mg ι H x v) : isNonC x = decide (v = .non) := by cases r <;> rfl
theorem op_isNC : OpG X W (compareOp .Is) isNC := opG_of op_isN fun ι S H x y v u Q B Rs rx ry fi => by
  unfold isNC at fi
  cases ry with
  | non => exact ⟨rfl, by rw [← rx.isNon]; exact Fin.ret Rs fi (.bl _)⟩
  | _ => exact fi.elim
theorem op_isNotNC : OpG X W (compareOp .IsNot) isNotNC := opG_of op_notN fun ι S H x y v u Q B Rs rx ry fi => by
  unfold isNotNC at fi
  cases ry with
  | non => exact ⟨rfl, by rw [← rx.isNon]; exact Fin.ret Rs fi (.bl _)⟩
  | _ => exact fi.elim
end
end MW
set_option Elab.async false
set_option linter.all false
set_option maxRecDepth 100000
set_option maxHeartbeats 4000000
namespace MW
open PySem PySem.Spec PyProof.Rows L2 PySem.SeqAt
open AutoSeq1 (wpAny_loadPart')
open MeetsSeq MeetsSeq2 MeetsSeq3 SeqRoads2
/-! ### a flat thing is no dict -/
theorem str_eq_dict (b : Str) (u : Tok) (l : Addr) (o : Obj) {es : Array DictEntry} {n : Nat} (hd : o.data = .dict es n) (hc : o.cls = .type "dict") :
    Meets (Builtin.«str.__eq__» ⟨[.str b u, .ref l], []⟩) (fun _ R s => s.heap.get? l = some o ∧ R (.ok (.ret .notImplemented)) s) :=
  .of_wp fun prog w A R s h => by
    obtain ⟨c, dd, dt, sl⟩ := o
    simp only at hd hc
    subst hd hc
    obtain ⟨hp, g, d, tk, os⟩ := s; obtain ⟨hl, h⟩ := h; wp_walk using wpAny_loadPart' hl, wpAny_load hl; exact ⟨_, rfl, h⟩
theorem dict_eq_str (b : Str) (u : Tok) (l : Addr) (o : Obj) {es : Array DictEntry} {n : Nat} (hd : o.data = .dict es n) (hc : o.cls = .type "dict") :
    Meets (Builtin.«dict.__eq__» ⟨[.ref l, .str b u], []⟩) (fun _ R s => s.heap.get? l = some o ∧ R (.ok (.ret .notImplemented)) s) :=
  .of_wp fun prog w A R s h => by
    obtain ⟨c, dd, dt, sl⟩ := o
    simp only at hd hc
    subst hd hc
    obtain ⟨hp, g, d, tk, os⟩ := s; obtain ⟨hl, h⟩ := h
    have f1 := F.sub_str_dict
    wp_walk using wpAny_loadPart' hl, wpAny_load hl
    exact ⟨_, rfl, h⟩
section
variable {A : Around} {s : Shared}
theorem RcAt.str_dict {l : Addr} {o : Obj} {es : Array DictEntry} {n : Nat} (b : Str) (u : Tok) (ho : s.heap.get? l = some o) (hc : o.cls = .type "dict") (hd : o.data = .dict es n) (hu : A.units < cLine) : RcAt A s (.str b u) (.ref l) false := fun prog w E Q h => by
  exact rc_eq_decline_or (k := false) (typeIs_str s b u) ⟨_, ho, hc⟩ (by decide) F.sub_dict_str F.slot_str_eq F.slot_dict_eq_refl
    (fun _ hq => call_meets F.slot_str_eq (typeIs_str s b u) F.entry_str_eq (F.args_str_eq_2 _ _) (str_eq_dict b u l o hd hc) ⟨ho, hq⟩)
    (fun _ hq => call_meets F.slot_dict_eq_refl ⟨_, ho, hc⟩ F.entry_dict_eq (F.args_dict_eq_2 _ _) (dict_eq_str b u l o hd hc) ⟨ho, hq⟩)
    (fun _ hq => wpAny_of_eq (rfl : isSame (.str b u) (.ref l) = pure false) hq) (.inr hu) h
theorem EqAt.str_dict {l : Addr} {o : Obj} {es : Array DictEntry} {n : Nat} (b : Str) (u : Tok) (ho : s.heap.get? l = some o) (hc : o.cls = .type "dict") (hd : o.data = .dict es n) (hu : A.units < cLine) : EqAt A s (.str b u) (.ref l) false := fun prog w E Q h => by
  unfold eqBool
  refine wpAny_holding ?_
  refine wpAny_ite_split (fun hab => absurd (eq_of_beq hab) nofun) (fun _ => ?_)
  exact wpAny_bind (RcAt.str_dict b u ho hc hd hu prog w E _ (wpAny_truthy_bool h))
end
end MW
set_option Elab.async false
set_option linter.all false
set_option maxRecDepth 100000
set_option maxHeartbeats 4000000
namespace MW
open PySem PySem.Spec PyProof.Rows L2
section
variable {X : Cx} {W : WX} {a b c e o : Expr} {es : List Expr} {ma mb me mo mv mi : Rho → M CV} {ms : Rho → M (List CV)} {pos apos p p2 pos' : Pos}
/-! ### x in y -/
def flatC : CV → Bool
  | .non | .bl _ | .int _ | .str _ => true
  | _ => false
def eqF : CV → CV → Bool
  | .non, .non => true
  | .bl a, .bl b => a == b
  | .bl a, .int b => (if a then 1 else 0) == b
  | .int a, .bl b => a == (if b then 1 else 0)
  | .int a, .int b => a == b
  | .str a, .str b => a == b
  | _, _ => false
def isStrC : CV → Bool
  | .str _ => true
  | _ => false
/-- whether x is no text, told by its kind alone -/
def noStrC (S : Sto) : CV → Bool
  | .tup _ => true
  | .ref n => match S[n]? with
    | some (.lst _) => true
    | some (.dic _) => true
    | _ => false
  | _ => false
def inSeq (S : Sto) (x : CV) (ys : List CV) : Option Bool := if flatC x && ys.all flatC then some (ys.any fun y => eqF y x) else if noStrC S x && ys.all isStrC then some false else none
def inStr (i j : Str) : Bool := !(Builtin.Str.occurrences j i 0 j.length 1).isEmpty
def inC (neg : Bool) : CV → CV → M CV := fun x y S => match y with
  | .tup ys => match inSeq S x ys with
    | some r => .ok (.bl (if neg then !r else r)) S
    | none => .bad
  | .ref n => match S[n]? with
    | some (.lst ys) => match inSeq S x ys with
      | some r => .ok (.bl (if neg then !r else r)) S
      | none => .bad
    | _ => .bad
  | .str j => match x with
    | .str i => .ok (.bl (if neg then !inStr i j else inStr i j)) S
    | _ => .bad
  | _ => .bad
variable {K : PySem.W.Frag} {mg : Str → Option Value} {ι : List Addr} {H : Hp} {S : Sto}
theorem RepV.flat {x : CV} {v : V} (r : RepV K mg ι H x v) (h : flatC x = true) : flatV v = true := by cases r <;> first | rfl | cases h
theorem RepVs.flat : ∀ {xs : List CV} {vs : List V}, RepVs K mg ι H xs vs → xs.all flatC = true → vs.all flatV = true
  | _, _, .nil, _ => rfl
  | _, _, .cons r rs, h => by
    rw [List.all_cons, Bool.and_eq_true] at h
    rw [List.all_cons, r.flat h.1, RepVs.flat rs h.2]; rfl
theorem RepV.eqF {x y : CV} {v u : V} (r : RepV K mg ι H x v) (q : RepV K mg ι H y u) (h : flatC x = true) (h' : flatC y = true) : MW.eqF x y = eqV v u := by
  cases r with
  | non => cases q <;> first | rfl | cases h'
  | bl b => cases q <;> first | rfl | cases h'
  | int b => cases q <;> first | rfl | cases h'
  | str b => cases q <;> first | rfl | cases h'
  | _ => cases h
theorem RepVs.anyF {x : CV} {v : V} (r : RepV K mg ι H x v) (hx : flatC x = true) : ∀ {ys : List CV} {us : List V}, RepVs K mg ι H ys us → ys.all flatC = true → (ys.any fun y => MW.eqF y x) = inV v us
  | _, _, .nil, _ => rfl
  | _, _, .cons q rs, h => by
    rw [List.all_cons, Bool.and_eq_true] at h
    unfold inV
    rw [List.any_cons, List.any_cons]
    have e1 := q.eqF r h.1 hx
    have e2 := RepVs.anyF r hx rs h.2
    unfold inV at e2
    rw [e1, e2]
theorem RepVs.strs_of : ∀ {ys : List CV} {us : List V}, RepVs K mg ι H ys us → ys.all isStrC = true → ∀ u ∈ us, ∃ z, u = V.str z
  | _, _, .nil, _ => fun u hu => nomatch hu
  | _, _, .cons q rs, h => fun u hu => by
    rw [List.all_cons, Bool.and_eq_true] at h
    rcases List.mem_cons.mp hu with rfl | hu
    · cases q <;> first | exact ⟨_, rfl⟩ | cases h.1
    · exact RepVs.strs_of rs h.2 u hu
/-- a text is never such a thing -/
theorem str_ne {pins : List (Addr × Obj)} {σ : L2.St} {s : Shared} {A : Around} {x : CV} {v : V} {w : Value} (I : Inv X pins σ H s) (Rs : RS X.K X.mg ι S H) (rx : RepV X.K X.mg ι H x v) (rv : RelV v w) (h : noStrC S x = true) (hu : A.units < cLine) (z : Str) (t : Tok) : SeqAt.EqAt A s (.str z t) w false := by
  unfold noStrC at h
  cases rx with
  | tup hq rr =>
    cases rv
    obtain ⟨its, r, pl, hz⟩ := I.tuple hq
    exact SeqAt.EqAt.str_tuple z t pl hu
  | ref hq =>
    cases rv
    dsimp only at h
    split at h
    · rename_i xs ex
      obtain ⟨vs, h1, r1⟩ := Rs.obj _ _ _ hq ex
      obtain ⟨its, r, pl, hz⟩ := I.list (SqL.of h1)
      exact SeqAt.EqAt.str_list z t pl.isList hu
    · rename_i kvs ex
      rcases Rs.obj _ _ _ hq ex with ⟨ps, h1, _⟩ | ⟨ps, h1, _⟩
      · obtain ⟨_, _, vs, _, ob, es, ep, ho, hx, hd, _⟩ := I.hok _ _ h1
        exact EqAt.str_dict z t ho hx.1 hd hu
      · obtain ⟨_, _, vs, _, ob, es, ep, ho, hx, hd, _⟩ := I.hok _ _ h1
        exact EqAt.str_dict z t ho hx.1 hd hu
    · cases h
  | _ => cases h
theorem vals_str {us : List V} {its : List Value} (r : Vals us its) (h : ∀ u ∈ us, ∃ z, u = V.str z) : ∀ w ∈ its, ∃ z t, w = Value.str z t := by
  induction r with
  | nil => exact fun w hw => nomatch hw
  | cons r rs ih =>
    intro w hw
    rcases List.mem_cons.mp hw with rfl | hw
    · obtain ⟨z, rfl⟩ := h _ List.mem_cons_self
      obtain ⟨t, e⟩ := r
      exact ⟨z, t, e⟩
    · exact ih (fun u hu => h u (List.mem_cons_of_mem _ hu)) w hw
theorem op_inC (neg : Bool) {op : CmpOp} (hu : X.A.units + 64 < cLine) (hop : op = if neg then .NotIn else .In) : OpG X W (compareOp op) (inC neg) := by
  intro pins s σ H ι S x y v u a b Q I rv ru Rs rx ry fi
  have hu1 : X.A.in1.units < cLine := by show X.A.units + 1 < cLine; omega
  have seqL : ∀ {ys : List CV} {us : List V} {p : Addr} {r : Bool}, u = .ref p → (SqL X.K H p us ∨ SqT X.K H p us) → RepVs X.K X.mg ι H ys us → inSeq S x ys = some r → Q (.bl (if neg then !r else r)) H → wpAny (model X.prog X.w) X.A (compareOp op a b) (EP X pins σ Q) X.xe s := fun {ys us p r} eu hq rr hr q => by
    subst eu
    unfold inSeq at hr
    split at hr
    · rename_i hf
      obtain ⟨hf1, hf2⟩ := Bool.and_eq_true_iff.mp hf
      cases hr
      rw [rr.anyF rx hf1 hf2] at q
      cases neg with
      | false => subst hop; exact op_in_seq pins s σ H v _ a b Q I rv ru ⟨p, us, rfl, hq, rx.flat hf1, rr.flat hf2, q⟩
      | true => subst hop; exact op_notIn_seq pins s σ H v _ a b Q I rv ru ⟨p, us, rfl, hq, rx.flat hf1, rr.flat hf2, q⟩
    · split at hr
      · rename_i hf
        obtain ⟨hf1, hf2⟩ := Bool.and_eq_true_iff.mp hf
        cases hr
        cases ru
        have key : ∀ {its : List Value}, Vals us its → ∀ w ∈ its, SeqAt.EqAt X.A.in1 s w a false := fun {its} r w hw => by
          obtain ⟨z, t, rfl⟩ := vals_str r (rr.strs_of hf2) w hw
          exact str_ne I Rs rx rv hf1 hu1 z t
        rcases hq with hq | hq
        · obtain ⟨its, r, pl, hz⟩ := I.list hq
          cases neg with
          | false => subst hop; exact SeqAt.in_listAt (fun _ => false) pl.isList (fun w hw => key r w (by simpa using hw)) ⟨.bl false, H, I, by simp [L2.RelV], q⟩
          | true => subst hop; exact SeqAt.notIn_listAt (fun _ => false) pl.isList (fun w hw => key r w (by simpa using hw)) ⟨.bl true, H, I, by simp [L2.RelV], q⟩
        · obtain ⟨its, r, pl, hz⟩ := I.tuple hq
          cases neg with
          | false => subst hop; exact SeqAt.in_tupleAt (fun _ => false) pl (fun w hw => key r w (by simpa using hw)) ⟨.bl false, H, I, by simp [L2.RelV], q⟩
          | true => subst hop; exact SeqAt.notIn_tupleAt (fun _ => false) pl (fun w hw => key r w (by simpa using hw)) ⟨.bl true, H, I, by simp [L2.RelV], q⟩
      · cases hr
  unfold inC at fi
  cases ry with
  | tup hq rr =>
    dsimp only at fi
    split at fi
    · rename_i r hr; exact seqL rfl (.inr hq) rr hr (Fin.ret Rs fi (.bl _))
    · exact fi.elim
  | ref hq =>
    dsimp only at fi
    split at fi
    · rename_i ys ey
      obtain ⟨us, h1, r1⟩ := Rs.obj _ _ _ hq ey
      split at fi
      · rename_i r hr; exact seqL rfl (.inl (SqL.of h1)) r1 hr (Fin.ret Rs fi (.bl _))
      · exact fi.elim
    · exact fi.elim
  | str j =>
    dsimp only at fi
    cases rx with
    | str i =>
      have q := Fin.ret Rs fi (.bl _)
      cases neg with
      | false => subst hop; exact op_in_str pins s σ H _ _ a b Q I rv ru ⟨i, j, rfl, rfl, q⟩
      | true => subst hop; exact op_notIn_str pins s σ H _ _ a b Q I rv ru ⟨i, j, rfl, rfl, q⟩
    | _ => exact fi.elim
  | _ => exact fi.elim
/-! ### x[i], x[a:b] -/
def ixC : CV → CV → M CV := fun x y S => match x, y with
  | .tup xs, .int i => match atI xs i with
    | some v => .ok v S
    | none => .bad
  | .ref n, .int i => match S[n]? with
    | some (.lst xs) => match atI xs i with
      | some v => .ok v S
      | none => .bad
    | _ => .bad
  | .str z, .int i => if z.length ≤ sizeLine then (match atI z.cps.toList i with
      | some c => .ok (.str ⟨#[c]⟩) S
      | none => .bad) else .bad
  | _, _ => .bad
theorem RepVs.atI {xs : List CV} {vs : List V} {i : Int} {c : CV} (r : RepVs K mg ι H xs vs) (h : L2.atI xs i = some c) : ∃ v, L2.atI vs i = some v ∧ RepV K mg ι H c v := by
  unfold L2.atI at h ⊢
  rw [← r.length]
  cases e : ixN xs.length i with
  | none => rw [e] at h; cases h
  | some j => rw [e] at h; exact r.get h
def IxG (X : Cx) (W : WX) (g : CV → CV → M CV) : Prop :=
  ∀ (value slice : Expr) (pins : List (Addr × Obj)) (s : Shared) (σ : L2.St) (H : Hp) (ι : List Addr) (S : Sto) (x y : CV) (v u : V) (a b : Value) (Q : VK), Inv X pins σ H s → RelV v a → RelV u b → RS X.K X.mg ι S H → RepV X.K X.mg ι H x v → RepV X.K X.mg ι H y u →
    Fin X.K X.mg ι H (RepV X.K X.mg) (g x y S) Q (fun c d H' => W c d σ H') → subscripted slice false a b = operate [a, b] (getItem a b) → wpAny (model X.prog X.w) X.A (subscriptTail value slice a b) (EP X pins σ Q) X.xe s
theorem ge_ix {g : CV → CV → M CV} (hg : IxG X W g) (ha : GE X W a ma) (hb : GE X W b mb) (hs : PlainIx b := by intro _ _; rfl) : GE X W (.Subscript a b pos) (mOp g ma mb) :=
  ⟨fun pins s σ H Q I h => Subscript_ (two ha hb I h fun v' u' s2 v u H2 ι S x y I2 r1 r2 R rx ry f => hg a b pins s2 σ H2 ι S x y v u v' u' Q I2 r1 r2 R rx ry f (hs _ _))⟩
theorem ix_C : IxG X W ixC := by
  intro value slice pins s σ H ι S x y v u a b Q I rv ru Rs rx ry fi hs
  unfold ixC at fi
  cases rx with
  | tup hq rr => cases ry with
    | int i =>
      dsimp only at fi
      split at fi
      · rename_i cv hv
        obtain ⟨w, hw, rw'⟩ := rr.atI hv
        exact ix_tup value slice pins s σ H _ _ a b Q I rv ru ⟨_, _, i, w, rfl, rfl, hq, hw, Fin.ret Rs fi rw'⟩ hs
      · exact fi.elim
    | _ => exact fi.elim
  | ref hq => cases ry with
    | int i =>
      dsimp only at fi
      split at fi
      · rename_i xs ex
        obtain ⟨vs, h1, r1⟩ := Rs.obj _ _ _ hq ex
        split at fi
        · rename_i cv hv
          obtain ⟨w, hw, rw'⟩ := r1.atI hv
          exact ix_list value slice pins s σ H _ _ a b Q I rv ru ⟨_, vs, i, w, rfl, rfl, SqL.of h1, hw, Fin.ret Rs fi rw'⟩ hs
        · exact fi.elim
      · exact fi.elim
    | _ => exact fi.elim
  | str z => cases ry with
    | int i =>
      dsimp only at fi
      split at fi
      · rename_i hz
        split at fi
        · rename_i c hc
          exact ix_str value slice pins s σ H _ _ a b Q I rv ru ⟨z, i, c, rfl, rfl, hz, hc, Fin.ret Rs fi (.str _)⟩ hs
        · exact fi.elim
      · exact fi.elim
    | _ => exact fi.elim
  | _ => exact fi.elim
/-- the parts of a slice -/
def mPart (me : Rho → M CV) : Rho → M (Option Int) := fun ρ => bnd (me ρ) fun x S => match x with
  | .int i => .ok (some i) S
  | _ => .bad
def mNoPart : Rho → M (Option Int) := fun _ => ret none
def tP (K : PySem.W.Frag) (mg : Str → Option Value) (W : WX) (m : Rho → M (Option Int)) : TO := fun σ H Q => ∃ ι ρ S, RS K mg ι S H ∧ RepSt K mg ι H ρ σ ∧ Fin K mg ι H (fun _ _ a b => a = b) (m ρ S) Q (fun c d H' => W c d σ H')
abbrev GP (X : Cx) (W : WX) (e : Option Expr) (m : Rho → M (Option Int)) : Prop := PO X e (tP X.K X.mg W m)
theorem PO.imp {e : Option Expr} {t t' : TO} (h : PO X e t) (k : ∀ σ H Q, t' σ H Q → t σ H Q) : PO X e t' := ⟨fun pins s σ H Q I q => h.run pins s σ H Q I (k σ H Q q)⟩
theorem gp_none : GP X W none mNoPart := PO.imp po_none fun σ H Q ⟨ι, ρ, S, Rs, rs, fi⟩ => Fin.ret Rs fi rfl
theorem gp_some (h : GE X W e me) : GP X W (some e) (mPart me) := PO.imp (po_some h) fun σ H Q ⟨ι, ρ, S, Rs, rs, fi⟩ =>
  ⟨ι, ρ, S, Rs, rs, (Fin.bnd (R := RepV X.K X.mg) fi).imp fun v H1 ⟨ι1, S1, x, n1, rx, f1⟩ => by
    cases rx with
    | int i => exact ⟨i, rfl, Fin.ret n1.rs f1 rfl⟩
    | _ => exact f1.elim⟩
def cutL {α : Type} (xs : List α) (lo hi : Option Int) : List α := (xs.drop (HT.sIx xs.length 0 lo)).take (HT.sIx xs.length xs.length hi - HT.sIx xs.length 0 lo)
def slC : CV → Option Int → Option Int → M CV := fun x lo hi S => match x with
  | .str z => if z.length ≤ sizeLine then .ok (.str (cutS z lo hi)) S else .bad
  | .ref n => match S[n]? with
    | some (.lst xs) => .ok (.ref S.length) (S ++ [.lst (cutL xs lo hi)])
    | _ => .bad
  | .scr ns => .ok (.ref S.length) (S ++ [.lst (cutL (ns.map CV.int) lo hi)])
  | .tup xs => if HT.sIx xs.length 0 lo = 0 ∧ HT.sIx xs.length xs.length hi = xs.length then .bad else .ok (.tup (cutL xs lo hi)) S
  | _ => .bad
theorem RepVs.cut {xs : List CV} {vs : List V} (r : RepVs K mg ι H xs vs) (lo hi : Option Int) : RepVs K mg ι H (cutL xs lo hi) (cutV vs lo hi) := by
  unfold cutL cutV
  rw [r.length]
  exact (r.drop _).take _
def mSl (me : Rho → M CV) (ml mh : Rho → M (Option Int)) : Rho → M CV := fun ρ => bnd (me ρ) fun x => bnd (ml ρ) fun l => bnd (mh ρ) fun h => slC x l h
variable {lo hi : Option Expr} {ml mh : Rho → M (Option Int)}
theorem ge_slice (he : GE X W e me) (hl : GP X W lo ml) (hh : GP X W hi mh) : GE X W (.Subscript e (.Slice lo hi none p2) pos) (mSl me ml mh) :=
  PE.imp (pe_slice (SlR.or (SlR.or sl_str sl_list) sl_tup) he hl hh) fun σ H Q ⟨ι, ρ, S, Rs, rs, fi⟩ => by
    refine ⟨ι, ρ, S, Rs, rs, (Fin.bnd (R := RepV X.K X.mg) fi).imp fun v H1 ⟨ι1, S1, x, n1, rx, f1⟩ => ?_⟩
    have rs1 := n1.repst Rs rs
    refine ⟨ι1, ρ, S1, n1.rs, rs1, (Fin.bnd (R := fun _ _ a b => a = b) f1).imp fun l H2 ⟨ι2, S2, l', n2, el, f2⟩ => ?_⟩
    subst el
    have rs2 := n2.repst n1.rs rs1
    refine ⟨ι2, ρ, S2, n2.rs, rs2, (Fin.bnd (R := fun _ _ a b => a = b) f2).imp fun h H3 ⟨ι3, S3, h', n3, eh, f3⟩ => ?_⟩
    subst eh
    have rx3 := n3.rep n2.rs (n2.rep n1.rs rx)
    unfold slC at f3
    cases rx3 with
    | str z =>
      dsimp only at f3
      split at f3
      · rename_i hz; exact .inl (.inl ⟨z, rfl, hz, Fin.ret n3.rs f3 (.str _)⟩)
      · exact f3.elim
    | ref hq =>
      dsimp only at f3
      split at f3
      · rename_i xs ex
        obtain ⟨vs, h1, r1⟩ := n3.rs.obj _ _ _ hq ex
        refine .inl (.inr ⟨_, vs, rfl, SqL.of h1, fun p hp => ?_⟩)
        obtain ⟨n4, r4⟩ := new_lst n3.rs (r1.cut l' h') hp
        exact f3 _ _ _ n4 r4
      · exact f3.elim
    | scr hq =>
      dsimp only at f3
      have sq : SqL X.K H3 _ _ := hq.elim (fun ⟨o, h⟩ => .inl (.inr ⟨o, h⟩)) fun h => h H3
      refine .inl (.inr ⟨_, _, rfl, sq, fun p hp => ?_⟩)
      obtain ⟨n4, r4⟩ := new_lst n3.rs ((RepVs.ints _).cut l' h') hp
      exact f3 _ _ _ n4 r4
    | tup hq rr =>
      dsimp only at f3
      split at f3
      · exact f3.elim
      · rename_i hw
        refine .inr ⟨_, _, rfl, hq, by rw [← rr.length]; exact hw, fun p hp => ?_⟩
        obtain ⟨n4, r4⟩ := new_tup n3.rs (rr.cut l' h') hp
        exact f3 _ _ _ n4 r4
    | _ => exact f3.elim
/-! ### x[i] = v -/
def setIxC : CV → CV → CV → M Unit := fun x i v S => match x, i with
  | .ref n, .int k => match S[n]? with
    | some (.lst xs) => match ixN xs.length k with
      | some j => .ok () (S.set n (.lst (xs.set j v)))
      | none => .bad
    | _ => .bad
  | _, _ => .bad
def gIx (mo mi : Rho → M CV) : CV → Rho → M Rho := fun v ρ => bnd (mo ρ) fun x => bnd (mi ρ) fun i => bnd (setIxC x i v) fun _ => ret ρ
theorem gg_ix {i : Expr} (ho : GE X W o mo) (hi : GE X W i mi) (ha : ∀ v, assign (.Subscript o i pos) X.env v = (do
      let ov ← holding [v] (eval o X.env)
      let iv ← holding [v, ov] (eval i X.env)
      standAt pos
      holding [v, ov, iv] (setItem ov iv v)
      release [v, ov, iv] []) := by intro _; rfl) : GG X W (.Subscript o i pos) (gIx mo mi) := PG.imp (pg_sub ho hi set_list ha) fun v σ H Q ⟨ι, ρ, S, cv, Rs, rs, rv, fi⟩ => by
  refine ⟨ι, ρ, S, Rs, rs, (Fin.bnd (R := RepV X.K X.mg) fi).imp fun x H1 ⟨ι1, S1, cx, n1, rx, f1⟩ => ?_⟩
  have rs1 := n1.repst Rs rs
  refine ⟨ι1, ρ, S1, n1.rs, rs1, (Fin.bnd (R := RepV X.K X.mg) f1).imp fun i H2 ⟨ι2, S2, ci, n2, ri, f2⟩ => ?_⟩
  have rs2 := n2.repst n1.rs rs1
  have rx2 := n2.rep n1.rs rx
  have rv2 := n2.rep n1.rs (n1.rep Rs rv)
  have f2 : Fin X.K X.mg ι2 H2 (RepSt X.K X.mg) ((setIxC cx ci cv S2).bnd fun _ => ret ρ) Q (fun c d H' => W c d σ H') := f2
  unfold setIxC at f2
  cases rx2 with
  | ref hq => cases ri with
    | int k =>
      dsimp only at f2
      split at f2
      · rename_i xs ex
        obtain ⟨vs, h1, r1⟩ := n2.rs.obj _ _ _ hq ex
        split at f2
        · rename_i j hj
          rw [r1.length] at hj
          refine ⟨_, vs, k, j, rfl, rfl, h1, hj, ?_⟩
          have n3 : Nx X.K X.mg ι2 H2 (S2.set _ (.lst (xs.set j cv))) ι2 (upd H2 _ (.lst (vs.set j v))) := n2.rs.put hq (fun _ tk' => ⟨_, upd_same, by
            have q := (RepVs.set rv2 j r1).mono (H' := upd H2 _ (.lst (vs.set j v))) tk' []
            rw [List.append_nil] at q
            exact q⟩) (fun gs z => nomatch z)
          exact f2 σ ι2 _ n3 (n3.repst n2.rs rs2)
        · exact f2.elim
      · exact f2.elim
    | _ => exact f2.elim
  | _ => exact f2.elim
end
end MW
set_option Elab.async false
set_option linter.all false
set_option maxRecDepth 100000
set_option maxHeartbeats 4000000
namespace MW
open PySem PySem.Spec PyProof.Rows L2
section
variable {X : Cx} {W : WX} {a b c e o : Expr} {es : List Expr} {ma mb me mo : Rho → M CV} {ms : Rho → M (List CV)} {pos apos p cpos : Pos} {x : Str} {id T : String} {g : List CV → M CV}
def mFn (g : List CV → M CV) (ms : Rho → M (List CV)) : Rho → M CV := fun ρ => bnd (ms ρ) g
theorem ge_callB (hc : CallG X W (.builtin id) g) (hm : X.mg x = none) (hv : bootBuiltins x = some (.builtin id)) (ha : GA X W (e :: es) ms) (hg : Gl X x := by rfl) (hn : x ≠ "__name__" := by decide) (hdb : (x == ("__debug__" : Str)) = false := by decide)
    (he : starEach (e :: es) X.env = (false, eval e X.env) :: starEach es X.env := by rfl) (hpl : (backTo pos (starEach es X.env)).any (·.1) = false := by rfl) : GE X W (.Call (.Name x p) (e :: es) [] pos) (mFn g ms) := by
  refine ⟨fun pins s σ H Q I ⟨ι, ρ, S, Rs, rs, fi⟩ => ?_⟩
  refine wpAny_Call_Name_kw (ld_blt I hg hm hv ?_ hn hdb)
  exact PyProof.Rows.callWith_builtin1 (thn (ha.run pos pins s σ H _ I ⟨ι, ρ, S, Rs, rs, Fin.bnd (R := RepVs X.K X.mg) fi⟩) fun us s1 ⟨vs, H1, I1, r1, ι1, S1, xs, n1, rx, f1⟩ => hc pins s1 σ H1 ι1 S1 xs vs us Q I1 r1 n1.rs rx f1) he hpl
theorem ge_callTy (hc : CallG X W (.type T) g) (hm : X.mg x = none) (hv : bootBuiltins x = some (.type T)) (ha : GA X W (e :: es) ms) (hg : Gl X x := by rfl) (hn : x ≠ "__name__" := by decide) (hdb : (x == ("__debug__" : Str)) = false := by decide)
    (he : starEach (e :: es) X.env = (false, eval e X.env) :: starEach es X.env := by rfl) (hpl : (backTo pos (starEach es X.env)).any (·.1) = false := by rfl) : GE X W (.Call (.Name x p) (e :: es) [] pos) (mFn g ms) := by
  refine ⟨fun pins s σ H Q I ⟨ι, ρ, S, Rs, rs, fi⟩ => ?_⟩
  refine wpAny_Call_Name_kw (ld_blt I hg hm hv ?_ hn hdb)
  exact PyProof.Rows.callWith_type1 (thn (ha.run pos pins s σ H _ I ⟨ι, ρ, S, Rs, rs, Fin.bnd (R := RepVs X.K X.mg) fi⟩) fun us s1 ⟨vs, H1, I1, r1, ι1, S1, xs, n1, rx, f1⟩ => hc pins s1 σ H1 ι1 S1 xs vs us Q I1 r1 n1.rs rx f1) he hpl
/-! len, abs, int, str, list, tuple -/
def lenC : List CV → M CV := fun xs S => match xs with
  | [.str y] => if y.length ≤ sizeLine then .ok (.int y.length) S else .bad
  | [.tup ys] => .ok (.int ys.length) S
  | [.ref n] => match S[n]? with
    | some (.lst ys) => .ok (.int ys.length) S
    | _ => .bad
  | _ => .bad
theorem one_of {K : PySem.W.Frag} {mg : Str → Option Value} {ι : List Addr} {H : Hp} {x : CV} {vs : List V} (r : RepVs K mg ι H [x] vs) : ∃ v, vs = [v] ∧ RepV K mg ι H x v := by
  cases r with
  | cons r rs => cases rs; exact ⟨_, rfl, r⟩
theorem two_of {K : PySem.W.Frag} {mg : Str → Option Value} {ι : List Addr} {H : Hp} {x y : CV} {vs : List V} (r : RepVs K mg ι H [x, y] vs) : ∃ v u, vs = [v, u] ∧ RepV K mg ι H x v ∧ RepV K mg ι H y u := by
  cases r with
  | cons r rs => cases rs with
    | cons r2 rs2 => cases rs2; exact ⟨_, _, rfl, r, r2⟩
theorem call_lenC : CallG X W (.builtin "len") lenC := callG_of call_len fun ι S H xs vs Q B Rs rx fi => by
  unfold lenC at fi
  split at fi
  · obtain ⟨v, rfl, r⟩ := one_of rx
    cases r
    split at fi
    · rename_i h; exact ⟨_, _, rfl, ⟨h, rfl⟩, Fin.ret Rs fi (.int _)⟩
    · exact fi.elim
  · obtain ⟨v, rfl, r⟩ := one_of rx
    cases r with
    | tup hq rr => exact ⟨_, _, rfl, .inr ⟨_, hq, rfl⟩, by rw [← rr.length]; exact Fin.ret Rs fi (.int _)⟩
  · obtain ⟨v, rfl, r⟩ := one_of rx
    cases r with
    | ref hq =>
      split at fi
      · rename_i ys ey
        obtain ⟨us, h1, r1⟩ := Rs.obj _ _ _ hq ey
        exact ⟨_, _, rfl, .inl ⟨_, SqL.of h1, rfl⟩, by rw [← r1.length]; exact Fin.ret Rs fi (.int _)⟩
      · exact fi.elim
  · exact fi.elim
def absC : List CV → M CV := fun xs S => match xs with
  | [.int i] => .ok (.int (if i < 0 then -i else i)) S
  | _ => .bad
theorem call_absC : CallG X W (.builtin "abs") absC := callG_of call_abs fun ι S H xs vs Q B Rs rx fi => by
  unfold absC at fi
  split at fi
  · obtain ⟨v, rfl, r⟩ := one_of rx
    cases r
    exact ⟨_, rfl, Fin.ret Rs fi (.int _)⟩
  · exact fi.elim
def intC : List CV → M CV := fun xs S => match xs with
  | [.int i] => .ok (.int i) S
  | [.bl k] => .ok (.int (if k then 1 else 0)) S
  | [.str a] => match PySem.intText? a with
    | some n => if a.length ≤ 640 then .ok (.int n) S else .bad
    | none => .bad
  | _ => .bad
theorem CallR.or {f : Value} {r r' : List V → Hp → VK → Prop} (h : CallR X f r) (h' : CallR X f r') : CallR X f (fun xs H Q => r xs H Q ∨ r' xs H Q) := fun pins s σ H xs us Q I rv q => q.elim (fun q => h pins s σ H xs us Q I rv q) fun q => h' pins s σ H xs us Q I rv q
theorem call_intC : CallG X W (.type "int") intC := callG_of (CallR.or call_int1 call_int_str) fun ι S H xs vs Q B Rs rx fi => by
  unfold intC at fi
  split at fi
  · obtain ⟨v, rfl, r⟩ := one_of rx
    cases r
    exact .inl (.inl ⟨_, rfl, Fin.ret Rs fi (.int _)⟩)
  · obtain ⟨v, rfl, r⟩ := one_of rx
    cases r
    exact .inl (.inr ⟨_, rfl, Fin.ret Rs fi (.int _)⟩)
  · obtain ⟨v, rfl, r⟩ := one_of rx
    cases r
    split at fi
    · rename_i n hn
      split at fi
      · rename_i hl; exact .inr ⟨_, n, rfl, hn, hl, Fin.ret Rs fi (.int _)⟩
      · exact fi.elim
    · exact fi.elim
  · exact fi.elim
def strIntC : List CV → M CV := fun xs S => match xs with
  | [.int i] => if i.natAbs.log2 < 1920 then .ok (.str (toString i)) S else .bad
  | _ => .bad
theorem call_strIntC : CallG X W (.type "str") strIntC := callG_of call_str_int fun ι S H xs vs Q B Rs rx fi => by
  unfold strIntC at fi
  split at fi
  · obtain ⟨v, rfl, r⟩ := one_of rx
    cases r
    split at fi
    · rename_i h; exact ⟨_, rfl, h, Fin.ret Rs fi (.str _)⟩
    · exact fi.elim
  · exact fi.elim
def listC : List CV → M CV := fun xs S => match xs with
  | [.tup ys] => .ok (.ref S.length) (S ++ [.lst ys])
  | [.ref n] => match S[n]? with
    | some (.lst ys) => .ok (.ref S.length) (S ++ [.lst ys])
    | _ => .bad
  | _ => .bad
theorem call_listC : CallG X W (.type "list") listC := callG_of call_list_of fun ι S H xs vs Q B Rs rx fi => by
  unfold listC at fi
  split at fi
  · obtain ⟨v, rfl, r⟩ := one_of rx
    cases r with
    | tup hq rr =>
      refine ⟨_, _, rfl, .inr hq, fun l hl => ?_⟩
      obtain ⟨n2, r2⟩ := new_lst Rs rr hl
      exact fi _ _ _ n2 r2
  · obtain ⟨v, rfl, r⟩ := one_of rx
    cases r with
    | ref hq =>
      split at fi
      · rename_i ys ey
        obtain ⟨us, h1, r1⟩ := Rs.obj _ _ _ hq ey
        refine ⟨_, _, rfl, .inl (SqL.of h1), fun l hl => ?_⟩
        obtain ⟨n2, r2⟩ := new_lst Rs r1 hl
        exact fi _ _ _ n2 r2
      · exact fi.elim
  · exact fi.elim
def tupleC : List CV → M CV := fun xs S => match xs with
  | [.tup ys] => .ok (.tup ys) S
  | [.ref n] => match S[n]? with
    | some (.lst ys) => .ok (.tup ys) S
    | _ => .bad
  | _ => .bad
theorem call_tupleC : CallG X W (.type "tuple") tupleC := callG_of call_tuple_of fun ι S H xs vs Q B Rs rx fi => by
  unfold tupleC at fi
  split at fi
  · obtain ⟨v, rfl, r⟩ := one_of rx
    cases r with
    | tup hq rr => exact ⟨_, _, rfl, .inr ⟨hq, Fin.ret Rs fi (.tup hq rr)⟩⟩
  · obtain ⟨v, rfl, r⟩ := one_of rx
    cases r with
    | ref hq =>
      split at fi
      · rename_i ys ey
        obtain ⟨us, h1, r1⟩ := Rs.obj _ _ _ hq ey
        refine ⟨_, _, rfl, .inl ⟨SqL.of h1, fun l hl => ?_⟩⟩
        obtain ⟨n2, r2⟩ := new_tup Rs r1 hl
        exact fi _ _ _ n2 r2
      · exact fi.elim
  · exact fi.elim
/-! isinstance -/
def kindB (S : Sto) : CV → Option String
  | .non => some "NoneType"
  | .bl _ => some "bool"
  | .int _ => some "int"
  | .str _ => some "str"
  | .tup _ => some "tuple"
  | .ref n => match S[n]? with
    | some (.lst _) => some "list"
    | some (.dic _) => some "dict"
    | _ => none
  | _ => none
def isiB (t T : String) : Bool := t == T || (t == "bool" && T == "int")
def bTypes : List String := ["NoneType", "bool", "int", "str", "tuple", "list", "dict"]
/-- the class of an instance -/
def kindO (S : Sto) : CV → Option Str
  | .ref n => match S[n]? with
    | some (.ins c _) => some c
    | _ => none
  | _ => none
/-- isinstance: tO: which own class's instances are of which own class; tB: of which built-in one -/
def isiC (tN : List Str) (tO : List ((Str × Str) × Bool)) (tB : List ((Str × String) × Bool)) : List CV → M CV := fun xs S => match xs with
  | [x, .ty T] => match kindB S x with
    | some t => if T ∈ bTypes then .ok (.bl (isiB t T)) S else .bad
    | none => match kindO S x with
      | some c => match tB.lookup (c, T) with
        | some r => .ok (.bl r) S
        | none => .bad
      | none => .bad
  | [x, .cls d] => match kindB S x with
    | some _ => if d ∈ tN then .ok (.bl false) S else .bad
    | none => match kindO S x with
      | some c => match tO.lookup (c, d) with
        | some r => .ok (.bl r) S
        | none => .bad
      | none => .bad
  | _ => .bad
/-- what isinstance asks of an own class -/
structure IsC (K : PySem.W.Frag) (mg : Str → Option Value) (c : Str) (C : Addr) : Prop where
  gl : mg c = some (.ref C)
  cl : Cls K C
  ha : PySem.W.findIn K (.ref C) "__class__" = some (some (.builtin "object.__class__"))
  hn : PySem.W.specialIn K (.builtin "object.__class__") "__get__" = some (some (.builtin "getset_descriptor.__get__"))
  htk : PySem.W.takesIn K (.builtin "object.__class__") = some true
  hm : PySem.W.mroIn K C (.type "object") = some true
/-- no built-in thing is an instance of it -/
def NoB (K : PySem.W.Frag) (C : Addr) : Prop := ∀ t ∈ bTypes, PySem.W.kitOne K (.type t) (.ref C) = some false
theorem kitOne_b (K : PySem.W.Frag) {t T : String} (ht : t ∈ bTypes) (hT : T ∈ bTypes) : PySem.W.kitOne K (.type t) (.type T) = some (isiB t T) := by
  simp only [bTypes, List.mem_cons, List.mem_nil_iff, or_false] at ht hT
  rcases ht with rfl | rfl | rfl | rfl | rfl | rfl | rfl <;> rcases hT with rfl | rfl | rfl | rfl | rfl | rfl | rfl <;> rfl
theorem kindB_ok {K : PySem.W.Frag} {mg : Str → Option Value} {ι : List Addr} {H : Hp} {S : Sto} {x : CV} {v : V} {t : String} (Rs : RS K mg ι S H) (r : RepV K mg ι H x v) (h : kindB S x = some t) : TyX K H v (.type t) ∧ t ∈ bTypes := by
  unfold kindB at h
  cases r with
  | non => cases h; exact ⟨.base .non, by decide⟩
  | bl b => cases h; exact ⟨.base (.bl b), by decide⟩
  | int b => cases h; exact ⟨.base (.int b), by decide⟩
  | str b => cases h; exact ⟨.base (.str b), by decide⟩
  | tup hq rr =>
    cases h
    refine ⟨?_, by decide⟩
    rcases hq with (hq | ⟨o, hq⟩) | ⟨o, its, n, hk, hc, _⟩
    · exact .base (.tup hq)
    · exact .fTuple hq
    · exact .kTuple hk hc
  | ref hq =>
    dsimp only at h
    split at h
    · rename_i xs ex
      cases h
      obtain ⟨vs, h1, _⟩ := Rs.obj _ _ _ hq ex
      exact ⟨.base (.lst h1), by decide⟩
    · rename_i kvs ex
      cases h
      rcases Rs.obj _ _ _ hq ex with ⟨ps, h1, _⟩ | ⟨ps, h1, _⟩
      · exact ⟨.base (.dK h1), by decide⟩
      · exact ⟨.base (.dT h1), by decide⟩
    · cases h
  | _ => cases h
theorem kindO_ok {K : PySem.W.Frag} {mg : Str → Option Value} {ι : List Addr} {H : Hp} {S : Sto} {x : CV} {v : V} {c : Str} {C : Addr} (Rs : RS K mg ι S H) (r : RepV K mg ι H x v) (h : kindO S x = some c) (hc : IsC K mg c C) : TyX K H v (.ref C) := by
  unfold kindO at h
  cases r with
  | ref hq =>
    dsimp only at h
    split at h
    · rename_i fs ex
      cases h
      obtain ⟨C', dx, gs, hm, e1, _⟩ := Rs.obj _ _ _ hq ex
      rw [hc.gl] at hm; cases hm
      exact .base (.ins e1 hc.cl hc.ha hc.hn hc.htk hc.hm)
    · cases h
  | _ => cases h
theorem look_mem {α : Type} [BEq α] [LawfulBEq α] {β : Type} {k : α} {v : β} : ∀ {l : List (α × β)}, l.lookup k = some v → (k, v) ∈ l
  | [], h => nomatch h
  | (d, u) :: r, h => by
    unfold List.lookup at h
    split at h
    · rename_i hc
      cases h
      rw [eq_of_beq hc]
      exact List.mem_cons_self
    · exact List.mem_cons_of_mem _ (look_mem h)
theorem call_isiC {tN : List Str} {tO : List ((Str × Str) × Bool)} {tB : List ((Str × String) × Bool)} (hO : ∀ q ∈ tO, ∃ C D, IsC X.K X.mg q.1.1 C ∧ X.mg q.1.2 = some (.ref D) ∧ PySem.W.kitOne X.K (.ref C) (.ref D) = some q.2) (hB : ∀ q ∈ tB, ∃ C, IsC X.K X.mg q.1.1 C ∧ PySem.W.kitOne X.K (.ref C) (.type q.1.2) = some q.2)
    (hN : ∀ d ∈ tN, ∃ D, X.mg d = some (.ref D) ∧ NoB X.K D) : CallG X W (.builtin "isinstance") (isiC tN tO tB) := callG_of call_isi fun ι S H xs vs Q B Rs rx fi => by
  unfold isiC at fi
  split at fi
  · rename_i x T
    obtain ⟨v, u, rfl, rv, ru⟩ := two_of rx
    cases ru
    split at fi
    · rename_i t ht
      split at fi
      · rename_i hT
        obtain ⟨ty, tm⟩ := kindB_ok Rs rv ht
        exact ⟨_, _, _, _, _, rfl, .ty T, ty, kitOne_b _ tm hT, Fin.ret Rs fi (.bl _)⟩
      · exact fi.elim
    · split at fi
      · rename_i c hc
        split at fi
        · rename_i r hr
          obtain ⟨C, ic, hk⟩ := hB _ (look_mem hr)
          exact ⟨_, _, _, _, _, rfl, .ty T, kindO_ok Rs rv hc ic, hk, Fin.ret Rs fi (.bl _)⟩
        · exact fi.elim
      · exact fi.elim
  · rename_i x d
    obtain ⟨v, u, rfl, rv, ru⟩ := two_of rx
    cases ru with
    | cls hd =>
      split at fi
      · rename_i t ht
        split at fi
        · rename_i hdN
          obtain ⟨ty, tm⟩ := kindB_ok Rs rv ht
          obtain ⟨D, hD, nb⟩ := hN _ hdN
          rw [hd] at hD; cases hD
          exact ⟨_, _, _, _, _, rfl, .own _, ty, nb _ tm, Fin.ret Rs fi (.bl _)⟩
        · exact fi.elim
      · split at fi
        · rename_i c hc
          split at fi
          · rename_i r hr
            obtain ⟨C, D, ic, hD, hk⟩ := hO _ (look_mem hr)
            rw [hd] at hD; cases hD
            exact ⟨_, _, _, _, _, rfl, .own _, kindO_ok Rs rv hc ic, hk, Fin.ret Rs fi (.bl _)⟩
          · exact fi.elim
        · exact fi.elim
  · exact fi.elim
end
end MW
set_option Elab.async false
set_option linter.all false
set_option maxRecDepth 100000
set_option maxHeartbeats 4000000
namespace MW
open PySem PySem.Spec PyProof.Rows L2
/-! ### x != b, where the class has its own __eq__ alone -/
section
open PySem.W PySem.Calls Builtin
variable {prog : Program} {w : World} {A : Around} {E : Value → Shared → Prop} {s : Shared} {K : Frag} {x C f : Addr} {ox : Obj} {od : Option Obj} {b tb : Value}
/-- a builtin slot of an own class's instance is called -/
theorem ifBound_b {M : Model} {name : Str} {id : String} {args : List Value} {Q : Option Value → Shared → Prop} (X : K.In s.heap) (I : InstAt s.heap x ox C od) (hs : findIn K (.ref C) name = some (some (.builtin id))) (hbd : bindSpecial (.builtin id) (.ref x) = pure (.builtin id, [.ref x]))
    (h : wpAny M A (call (.builtin id) (.ref x :: args)) (fun v => Q (some v)) E s) : wpAny M A (callSpecialIfBound? (.ref x) name args) Q E s := by
  have last : wpAny M A (call (.builtin id) ([.ref x] ++ args) >>= fun v => pure (some v)) Q E s := wpAny_bind (wpAny_mono h (fun _ _ z => wpAny_pure z) fun _ _ z => z)
  simp only [callSpecialIfBound?, bindSpecialIfBound?, hbd]
  refine wpAny_holding (wpAny_bind (wpAny_bind (wpAny_bind (I.type.here ((looks_findIn X hs).here ?_)))))
  refine wpAny_bind (wpAny_askSetting (wpAny_ite ?_))
  split
  · exact wpAny_bind (wpAny_of_eq hbd (wpAny_pure last))
  · exact wpAny_tryCatch (wpAny_bind (wpAny_of_eq hbd (wpAny_pure last)))
/-- a rich comparison by the left one's first try -/
theorem rich_by {op : CmpOp} {Q : Value → Shared → Prop} (hu : A.units < cLine) (X : K.In s.heap) (I : InstAt s.heap x ox C od) (hb : Looks (model prog w) s.heap (typeOf b) tb) (hn : notFirst K C tb = true)
    (h : wpAny (model prog w) A (tryCompare (.ref x) (cmpInfo op).2.1 b) (fun r s' => ∃ v, r = some v ∧ Q v s') E s) : wpAny (model prog w) A (richCompare op (.ref x) b) Q E s := by
  unfold richCompare
  simp only [oneThing_ref]
  refine wpAny_holding (wpAny_bind (wpAny_cRoomFor hu (wpAny_bind (I.type.here (wpAny_bind (hb.here ?_))))))
  by_cases q : tb = .ref C
  · rw [if_neg (by simp [q])]
    refine wpAny_bind (wpAny_pure ?_)
    simp only [Bool.false_eq_true, if_false]
    exact wpAny_bind (wpAny_mono h (fun r s' ⟨v, e, hq⟩ => by subst e; exact wpAny_pure hq) fun _ _ z => z)
  · have e : subIn K tb (.ref C) = some false := by
      rcases Bool.or_eq_true_iff.mp hn with e | e
      · exact absurd (beq_iff_eq.mp e) q
      · exact beq_iff_eq.mp e
    rw [if_pos (by simpa using fun z => q (Eq.symm z))]
    refine wpAny_bind ((looks_subIn X e).here ?_)
    simp only [Bool.false_eq_true, if_false]
    exact wpAny_bind (wpAny_mono h (fun r s' ⟨v, e, hq⟩ => by subst e; exact wpAny_pure hq) fun _ _ z => z)
theorem ne_own {Q : Value → Shared → Prop} (hu : A.units + 1 < cLine) (X : K.In s.heap) (I : InstAt s.heap x ox C od) (hb : Looks (model prog w) s.heap (typeOf b) tb) (hn : notFirst K C tb = true)
    (hne : findIn K (.ref C) "__ne__" = some (some (.builtin "object.__ne__"))) (hs : findIn K (.ref C) "__eq__" = some (some (.ref f))) (hf : isFn K (.ref f) = true) (hmro : mroIn K C (.type "object") = some true)
    (h : wpAny (model prog w) A.in1 (call (.ref f) [.ref x, b]) (fun v s' => ∃ k, v = .bool k ∧ Q (.bool (!k)) s') E s) : wpAny (model prog w) A (richCompare .NotEq (.ref x) b) Q E s := by
  have hI : Looks (model prog w) s.heap (isInstance (.ref x) (.type "object")) true := I.type.andThen (looks_mroIn X hmro)
  have body : wpAny (model prog w) A.in1 (Builtin.«object.__ne__» ⟨[.ref x, b], []⟩) (fun fin s' => ∃ k, fin = .done (.ret (.bool k)) ∧ Q (.bool k) s') E s := by
    unfold Builtin.«object.__ne__»
    repeat (first
      | with_reducible refine wpAny_cRoomFor hu ?_
      | (refine wpAny_bind (m := callSpecialIfBound? (.ref x) (Str.ofString "__eq__") [b]) (ifBound_K X I hs hf (wpAny_mono h (fun r s' hr => by
          obtain ⟨k, rfl, hq⟩ := hr
          repeat (first | exact ⟨_, rfl, hq⟩ | exact wpAny_pure ⟨_, rfl, hq⟩ | exact wpAny_truthy_bool ⟨_, rfl, hq⟩ | (refine wpAny_bind (m := truthy (.bool _)) (wpAny_truthy_bool ?_)) | wp_step)) fun _ _ e => e)))
      | wp_step)
  have hcall : wpAny (model prog w) A (call (.builtin "object.__ne__") [.ref x, b]) (fun v s' => ∃ k, v = .bool k ∧ Q (.bool k) s') E s := by
    refine wpAny_call (codeAny_call_builtin PySem.F.slot_object_ne.plain PySem.F.cmpEntry_ne (check_slot PySem.F.cmpKind_ne PySem.F.cmpSplit_ne hI (PySem.F.cmpArgs_ne _ _) (wpAny_mono body (fun fin s' hfin => ?_) fun _ _ e => e)))
    obtain ⟨k, rfl, hq⟩ := hfin
    exact ⟨k, rfl, hq⟩
  refine rich_by (Nat.lt_of_succ_lt hu) X I hb hn ?_
  unfold tryCompare
  refine wpAny_bind (ifBound_b X I hne (PySem.F.slot_object_ne.bind _) (wpAny_mono hcall (fun v s' hv => ?_) fun _ _ e => e))
  obtain ⟨k, rfl, hq⟩ := hv
  exact wpAny_pure ⟨_, rfl, hq⟩
end
/-! ### operators that an own class's instances answer -/
/-- the own def of a class's slot -/
structure Own (P : Program) (w : World) (K : PySem.W.Frag) (mg : Str → Option Value) (base : Heap) (k : Nat) (c name : Str) (n : Nat) (m : List CV → M CV) : Prop where
  ex : ∃ C f j, mg c = some (.ref C) ∧ PySem.W.findIn K (.ref C) name = some (some (.ref f)) ∧ PySem.W.isFn K (.ref f) = true ∧ Callee P w K mg base j f n m ∧ j + 2 ≤ k
/-- the table's def at x's class -/
def ownAt (tbl : List (Str × (List CV → M CV))) (x : CV) (S : Sto) : Option (List CV → M CV) := match x with
  | .ref i => match S[i]? with
    | some (.ins c _) => tbl.lookup c
    | _ => none
  | _ => none
section
variable {X : Cx} {W : WX} {k : Nat} {tbl : List (Str × (List CV → M CV))}
/-- what is at an instance's slot -/
theorem own_at {name : Str} {n : Nat} {ι : List Addr} {S : Sto} {H : Hp} {pins : List (Addr × Obj)} {σ : L2.St} {s : Shared} {x : CV} {v : V} {a : Value} {m : List CV → M CV} (ht : ∀ p ∈ tbl, Own X.prog X.w X.K X.mg X.base k p.1 name n p.2) (I : Inv X pins σ H s) (rv : RelV v a) (Rs : RS X.K X.mg ι S H) (rx : RepV X.K X.mg ι H x v) (h : ownAt tbl x S = some m) :
    ∃ (p C f : Addr) (ox od : Obj) (j : Nat) (c : Str), v = .ref p ∧ a = .ref p ∧ PySem.W.InstAt s.heap p ox C (some od) ∧ X.mg c = some (.ref C) ∧ PySem.W.findIn X.K (.ref C) name = some (some (.ref f)) ∧ PySem.W.isFn X.K (.ref f) = true ∧ Callee X.prog X.w X.K X.mg X.base j f n m ∧ j + 2 ≤ k ∧ kindO S x = some c := by
  unfold ownAt at h
  cases rx with
  | ref hq =>
    cases rv
    dsimp only at h
    split at h
    · rename_i c fs ec
      obtain ⟨C, dx, gs, hm, e1, rf⟩ := Rs.obj _ _ _ hq ec
      obtain ⟨C', f, j, hm', hs, hf, F, hj⟩ := (ht _ (mem_of_look h)).ex
      rw [hm] at hm'; cases hm'
      obtain ⟨mA, O, _⟩ := ins_get I.hok e1
      obtain ⟨od, J, _⟩ := O.look
      refine ⟨_, C, f, _, od, j, c, rfl, rfl, J, hm, hs, hf, F, hj, ?_⟩
      unfold kindO
      dsimp only
      rw [ec]
    · cases h
  | _ => cases h
/-- the def runs under A' -/
theorem own_run {A' : Around} {n : Nat} {j : Nat} {f : Addr} {m : List CV → M CV} {pins : List (Addr × Obj)} {σ : L2.St} {H : Hp} {s : Shared} {Q : VK} {us : List Value} {vs : List V} {cs : List CV} {ι : List Addr} {S : Sto} (F : Callee X.prog X.w X.K X.mg X.base j f n m) (hr : RmG j A') (hfr : A'.frames = X.A.frames) (tk : Takes X W)
    (I : Inv X pins σ H s) (r : Vals vs us) (Rs : RS X.K X.mg ι S H) (rc : RepVs X.K X.mg ι H cs vs) (h : Fin X.K X.mg ι H (RepV X.K X.mg) (app n m cs S) Q (fun c d H' => W c d σ H')) :
    wpAny (model X.prog X.w) A' (call (.ref f) us) (EP X pins σ Q) X.xe s := by
  obtain ⟨fd, ps, hl, F', hb⟩ := F.ex
  subst hl
  have e := I.env0
  have e0 : Env0 X.prog X.w X.K X.mg X.base A' X.stack s H := ⟨hfr.trans e.frames, e.mod, e.bs, e.bsz, e.funs, e.frf, e.hok, e.bare⟩
  exact wp_back (code_fnD (args := ⟨us, []⟩) F' hr e0 (fun hl' => by
    have hbb := hb s us I.kIn (by rw [List.append_nil]; exact hl')
    rw [List.append_nil] at hbb
    exact hbb) tk I r Rs rc h)
/-- x in y, y an instance -/
def inOwn (tbl : List (Str × (List CV → M CV))) (neg : Bool) : CV → CV → M CV := fun x y S => match ownAt tbl y S with
  | some m => (app 2 m [y, x] S).bnd fun r S' => match r with
    | .bl b => .ok (.bl (if neg then !b else b)) S'
    | _ => .bad
  | none => inC neg x y S
theorem op_inOwn (neg : Bool) {op : CmpOp} (ht : ∀ p ∈ tbl, Own X.prog X.w X.K X.mg X.base k p.1 "__contains__" 2 p.2) (hr : RmG k X.A) (tk : Takes X W) (hop : op = if neg then .NotIn else .In) : OpG X W (compareOp op) (inOwn tbl neg) := by
  intro pins s σ H ι S x y v u a b Q I rv ru Rs rx ry fi
  unfold inOwn at fi
  split at fi
  · rename_i m hm
    obtain ⟨p, C, f, ox, od, j, c, rfl, rfl, J, hg, hs, hf, F, hj, _⟩ := own_at ht I ru Rs ry hm
    obtain ⟨mm, hF⟩ := I.fr
    have run := own_run (us := [.ref p, a]) (vs := [.ref p, v]) F (hr.mono (by omega : j ≤ k)) rfl tk I (.cons rfl (.cons rv .nil)) Rs (.cons ry (.cons rx .nil)) (Fin.bnd (R := RepV X.K X.mg) fi)
    cases neg with
    | false =>
      subst hop
      refine PySem.W.in_K hF I.ok.mod.kin J hs hf (thn run fun w' s1 ⟨z, H1, I1, rz, ι1, S1, d, n1, rd, f1⟩ => ?_)
      cases rd with
      | bl k => cases rz; exact wpAny_truthy_bool ⟨.bl k, H1, I1, rfl, Fin.ret n1.rs f1 (.bl _)⟩
      | _ => exact f1.elim
    | true =>
      subst hop
      refine PySem.W.notIn_K hF I.ok.mod.kin J hs hf (thn run fun w' s1 ⟨z, H1, I1, rz, ι1, S1, d, n1, rd, f1⟩ => ?_)
      cases rd with
      | bl k => cases rz; exact wpAny_truthy_bool ⟨.bl (!k), H1, I1, rfl, Fin.ret n1.rs f1 (.bl _)⟩
      | _ => exact f1.elim
  · exact op_inC neg hr.rm.units hop pins s σ H ι S x y v u a b Q I rv ru Rs rx ry fi
end
end MW
set_option Elab.async false
set_option linter.all false
set_option maxRecDepth 100000
set_option maxHeartbeats 4000000
namespace MW
open PySem PySem.Spec PyProof.Rows L2
section
variable {X : Cx} {W : WX} {k : Nat} {tbl : List (Str × (List CV → M CV))}
/-- the type of a built-in thing -/
theorem looks_b {M : Model} {ι : List Addr} {S : Sto} {H : Hp} {pins : List (Addr × Obj)} {σ : L2.St} {s : Shared} {x : CV} {v : V} {a : Value} {t : String} (I : Inv X pins σ H s) (Rs : RS X.K X.mg ι S H) (rx : RepV X.K X.mg ι H x v) (rv : RelV v a) (h : kindB S x = some t) : PySem.W.Looks M s.heap (typeOf a) (.type t) := by
  have byRef : ∀ {p : Addr} {o : Obj} {T : String}, s.heap.get? p = some o → o.cls = .type T → PySem.W.Looks M s.heap (typeOf (.ref p)) (.type T) := fun {p o T} e c A Q E s' kk q => wpAny_typeOf_ref (kk _ _ e) (by rw [c]; exact q)
  unfold kindB at h
  cases rx with
  | non => cases h; cases rv; exact .now
  | bl b => cases h; cases rv; exact .now
  | int i => cases h; obtain ⟨t, rfl⟩ := rv; exact .now
  | str i => cases h; obtain ⟨t, rfl⟩ := rv; exact .now
  | tup hq rr =>
    cases h; cases rv
    obtain ⟨its, r, ⟨o, ho, hc, _⟩, hz⟩ := I.tuple hq
    exact byRef ho hc
  | ref hq =>
    cases rv
    dsimp only at h
    split at h
    · rename_i xs ex
      cases h
      obtain ⟨vs, h1, _⟩ := Rs.obj _ _ _ hq ex
      obtain ⟨_, _, n, _, e⟩ := I.hok _ _ h1
      exact byRef e rfl
    · rename_i kvs ex
      cases h
      rcases Rs.obj _ _ _ hq ex with ⟨ps, h1, _⟩ | ⟨ps, h1, _⟩
      · obtain ⟨_, _, _, _, ob, _, _, ho, hx, _⟩ := I.hok _ _ h1
        exact byRef ho hx.1
      · obtain ⟨_, _, _, _, ob, _, _, ho, hx, _⟩ := I.hok _ _ h1
        exact byRef ho hx.1
    · cases h
  | _ => cases h
theorem looks_o {M : Model} {ι : List Addr} {S : Sto} {H : Hp} {pins : List (Addr × Obj)} {σ : L2.St} {s : Shared} {x : CV} {v : V} {a : Value} {c : Str} {C : Addr} (I : Inv X pins σ H s) (Rs : RS X.K X.mg ι S H) (rx : RepV X.K X.mg ι H x v) (rv : RelV v a) (h : kindO S x = some c) (hC : X.mg c = some (.ref C)) : PySem.W.Looks M s.heap (typeOf a) (.ref C) := by
  unfold kindO at h
  cases rx with
  | ref hq =>
    cases rv
    dsimp only at h
    split at h
    · rename_i fs ex
      cases h
      obtain ⟨C', dx, gs, hm, e1, _⟩ := Rs.obj _ _ _ hq ex
      rw [hC] at hm; cases hm
      obtain ⟨mA, O, _⟩ := ins_get I.hok e1
      obtain ⟨od, J, _⟩ := O.look
      exact J.type
    · cases h
  | _ => cases h
/-- of which classes the right one may be: no class below the left one's -/
def NotFirst (K : PySem.W.Frag) (mg : Str → Option Value) (cs : List (Str × Str)) (bs : List Str) : Prop :=
  (∀ p ∈ cs, ∃ C D, mg p.1 = some (.ref C) ∧ mg p.2 = some (.ref D) ∧ PySem.W.notFirst K C (.ref D) = true) ∧ ∀ c ∈ bs, ∃ C, mg c = some (.ref C) ∧ ∀ t ∈ bTypes, PySem.W.notFirst K C (.type t) = true
def mayR (cs : List (Str × Str)) (bs : List Str) (c : Str) (S : Sto) (y : CV) : Bool := match kindB S y, kindO S y with
  | some _, _ => decide (c ∈ bs)
  | none, some d => decide ((c, d) ∈ cs)
  | none, none => false
/-- x op y by x's own slot -/
def cmpOwn (tbl : List (Str × (List CV → M CV))) (cs : List (Str × Str)) (bs : List Str) (fin : Bool → Bool) (other : CV → CV → M CV) : CV → CV → M CV := fun x y S => match ownAt tbl x S, kindO S x with
  | some m, some c => if mayR cs bs c S y = true then (app 2 m [x, y] S).bnd fun r S' => match r with
    | .bl b => .ok (.bl (fin b)) S'
    | _ => .bad
    else .bad
  | _, _ => other x y S
theorem cmp_first {ι : List Addr} {S : Sto} {H : Hp} {pins : List (Addr × Obj)} {σ : L2.St} {s : Shared} {y : CV} {u : V} {b : Value} {c : Str} {C : Addr} {cs : List (Str × Str)} {bs : List Str} (hn : NotFirst X.K X.mg cs bs) (hC : X.mg c = some (.ref C)) (I : Inv X pins σ H s) (Rs : RS X.K X.mg ι S H) (ry : RepV X.K X.mg ι H y u) (ru : RelV u b)
    (h : mayR cs bs c S y = true) : ∃ tb, (∀ M, PySem.W.Looks M s.heap (typeOf b) tb) ∧ PySem.W.notFirst X.K C tb = true := by
  unfold mayR at h
  split at h
  · rename_i t hk
    obtain ⟨C', hC', hb⟩ := hn.2 c (of_decide_eq_true h)
    rw [hC] at hC'; cases hC'
    exact ⟨.type t, fun M => looks_b I Rs ry ru hk, hb t (kindB_ok Rs ry hk).2⟩
  · rename_i d _ hk
    obtain ⟨C', D, hC', hD, hb⟩ := hn.1 _ (of_decide_eq_true h)
    rw [hC] at hC'; cases hC'
    exact ⟨.ref D, fun M => looks_o I Rs ry ru hk hD, hb⟩
  · cases h
theorem op_cmpOwn {op : CmpOp} {name : Str} {cs : List (Str × Str)} {bs : List Str} {other : CV → CV → M CV} (hname : (cmpInfo op).2.1 = name) (hop : ∀ a b, compareOp op a b = richCompare op a b := by intro _ _; rfl) (ht : ∀ p ∈ tbl, Own X.prog X.w X.K X.mg X.base k p.1 name 2 p.2) (hn : NotFirst X.K X.mg cs bs) (hr : RmG k X.A) (tk : Takes X W) (ho : OpG X W (compareOp op) other) :
    OpG X W (compareOp op) (cmpOwn tbl cs bs id other) := by
  intro pins s σ H ι S x y v u a b Q I rv ru Rs rx ry fi
  unfold cmpOwn at fi
  split at fi
  · rename_i m c hm hc
    split at fi
    · rename_i hk
      obtain ⟨p, C, f, ox, od, j, c', rfl, rfl, J, hg, hs, hf, F, hj, hc'⟩ := own_at ht I rv Rs rx hm
      rw [hc] at hc'; cases hc'
      obtain ⟨tb, hl, hnf⟩ := cmp_first hn hg I Rs ry ru hk
      obtain ⟨mm, hF⟩ := I.fr
      have run := own_run (us := [.ref p, b]) (vs := [.ref p, u]) F (hr.mono (by omega : j ≤ k)) rfl tk I (.cons rfl (.cons ru .nil)) Rs (.cons rx (.cons ry .nil)) (Fin.bnd (R := RepV X.K X.mg) fi)
      rw [hop]
      refine PySem.W.cmp_K hr.rm.units0 hF I.ok.mod.kin J (hl _) hnf (by rw [hname]; exact hs) hf (thn run fun w' s1 ⟨z, H1, I1, rz, ι1, S1, d, n1, rd, f1⟩ => ?_)
      cases rd with
      | bl k => cases rz; exact ⟨.bl k, H1, I1, rfl, Fin.ret n1.rs f1 (.bl _)⟩
      | _ => exact f1.elim
    · exact fi.elim
  · exact ho pins s σ H ι S x y v u a b Q I rv ru Rs rx ry fi
/-- != by an own __eq__ alone -/
theorem op_neOwn {cs : List (Str × Str)} {bs : List Str} {other : CV → CV → M CV} (ht : ∀ p ∈ tbl, Own X.prog X.w X.K X.mg X.base k p.1 "__eq__" 2 p.2)
    (hne : ∀ p ∈ tbl, ∃ C, X.mg p.1 = some (.ref C) ∧ PySem.W.findIn X.K (.ref C) "__ne__" = some (some (.builtin "object.__ne__")) ∧ PySem.W.mroIn X.K C (.type "object") = some true) (hn : NotFirst X.K X.mg cs bs) (hr : RmG k X.A) (tk : Takes X W) (ho : OpG X W (compareOp .NotEq) other) :
    OpG X W (compareOp .NotEq) (cmpOwn tbl cs bs (fun b => !b) other) := by
  intro pins s σ H ι S x y v u a b Q I rv ru Rs rx ry fi
  unfold cmpOwn at fi
  split at fi
  · rename_i m c hm hc
    split at fi
    · rename_i hk
      obtain ⟨p, C, f, ox, od, j, c', rfl, rfl, J, hg, hs, hf, F, hj, hc'⟩ := own_at ht I rv Rs rx hm
      rw [hc] at hc'; cases hc'
      have hml : (c, m) ∈ tbl := by
        unfold ownAt kindO at *
        cases x with
        | ref i =>
          dsimp only at hm hc
          split at hm
          · rename_i c2 fs e2
            rw [e2] at hc
            cases hc
            exact mem_of_look hm
          · cases hm
        | _ => cases hm
      obtain ⟨C2, hg2, hne1, hmro⟩ := hne _ hml
      rw [hg] at hg2; cases hg2
      obtain ⟨tb, hl, hnf⟩ := cmp_first hn hg I Rs ry ru hk
      have run := own_run (A' := X.A.in1) (us := [.ref p, b]) (vs := [.ref p, u]) F (hr.mono (by omega : j + 1 ≤ k)).in1 rfl tk I (.cons rfl (.cons ru .nil)) Rs (.cons rx (.cons ry .nil)) (Fin.bnd (R := RepV X.K X.mg) fi)
      have hu : X.A.units + 1 < cLine := by have := hr.rm.units; omega
      show wpAny _ _ (richCompare .NotEq (.ref p) b) _ _ _
      refine ne_own hu I.kIn J (hl _) hnf hne1 hs hf hmro (thn run fun w' s1 ⟨z, H1, I1, rz, ι1, S1, d, n1, rd, f1⟩ => ?_)
      cases rd with
      | bl k => cases rz; exact ⟨k, rfl, .bl (!k), H1, I1, rfl, Fin.ret n1.rs f1 (.bl _)⟩
      | _ => exact f1.elim
    · exact fi.elim
  · exact ho pins s σ H ι S x y v u a b Q I rv ru Rs rx ry fi
/-! ### str(x) -/
def strC (tbl : List (Str × (List CV → M CV))) : List CV → M CV := fun xs S => match xs with
  | [x] => match ownAt tbl x S with
    | some m => (app 1 m [x] S).bnd fun r S' => match r with
      | .str y => .ok (.str y) S'
      | _ => .bad
    | none => match x with
      | .str y => .ok (.str y) S
      | _ => strIntC [x] S
  | _ => .bad
theorem call_strC (ht : ∀ p ∈ tbl, Own X.prog X.w X.K X.mg X.base k p.1 "__str__" 1 p.2) (hr : RmG k X.A) (tk : Takes X W) : CallG X W (.type "str") (strC tbl) := by
  intro pins s σ H ι S xs vs us Q I rv Rs rx fi
  unfold strC at fi
  split at fi
  · rename_i x
    split at fi
    · rename_i m hm
      obtain ⟨v, rfl, r⟩ := one_of rx
      cases rv with
      | cons r1 r2 =>
        cases r2
        obtain ⟨p, C, f, ox, od, j, c', rfl, rfl, J, hg, hs, hf, F, hj, _⟩ := own_at ht I r1 Rs r hm
        have run := own_run (A' := X.A.in1.in1) (us := [.ref p]) (vs := [.ref p]) F (hr.mono (by omega : j + 1 + 1 ≤ k)).in1.in1 rfl tk I (.cons rfl .nil) Rs (.cons r .nil) (Fin.bnd (R := RepV X.K X.mg) fi)
        have hu : X.A.in1.in1.units < cLine := by have := hr.rm.units; show X.A.units + 1 + 1 < cLine; omega
        refine PySem.W.kso_call hu I.kIn J hs hf (thn run fun w' s1 ⟨z, H1, I1, rz, ι1, S1, d, n1, rd, f1⟩ => ?_)
        cases rd with
        | str y => obtain ⟨t, rfl⟩ := rz; exact ⟨.str y, H1, I1, ⟨t, rfl⟩, Fin.ret n1.rs f1 (.str _)⟩
        | _ => exact f1.elim
    · split at fi
      · rename_i y _
        obtain ⟨v, rfl, r⟩ := one_of rx
        cases r
        exact SkE.call_str_str pins s σ H _ us Q I rv ⟨y, rfl, Fin.ret Rs fi (.str _)⟩
      · exact call_strIntC pins s σ H ι S _ vs us Q I rv Rs rx fi
  · exact fi.elim
end
end MW
set_option Elab.async false
set_option linter.all false
set_option maxRecDepth 100000
set_option maxHeartbeats 4000000
namespace MW
open PySem PySem.Spec PyProof.Rows L2
section
variable {X : Cx} {W : WX} {a b c e o : Expr} {es : List Expr} {ma mb me mo : Rho → M CV} {ms : Rho → M (List CV)} {pos apos p cpos : Pos} {k : Nat}
/-! ### repr -/
def reprC : List CV → M CV := fun xs S => match xs with
  | [.tup ys] => (match toD S 40 (.tup ys) with
    | some d => if d.showable && !d.hasDict && decide (d.depth ≤ 60) && decide (d.shown.length ≤ sizeLine) then .ok (.str d.shown) S else .bad
    | none => .bad)
  | [.ref n] => (match toD S 40 (.ref n) with
    | some d => if d.showable && !d.hasDict && decide (d.depth ≤ 60) && decide (d.shown.length ≤ sizeLine) then .ok (.str d.shown) S else .bad
    | none => .bad)
  | _ => .bad
theorem call_reprC (hr : RmG k X.A) : CallG X W (.builtin "repr") reprC := by
  intro pins s σ H ι S xs vs us Q I rv Rs rx fi
  have go : ∀ {x : CV} {v : V} {p : Addr}, RepV X.K X.mg ι H x v → v = .ref p → Fin X.K X.mg ι H (RepV X.K X.mg) (match toD S 40 x with
    | some d => if d.showable && !d.hasDict && decide (d.depth ≤ 60) && decide (d.shown.length ≤ sizeLine) then .ok (.str d.shown) S else .bad
    | none => .bad) Q (fun c d H' => W c d σ H') → wpAny (model X.prog X.w) X.A (call (.builtin "repr") [.ref p]) (EP X pins σ Q) X.xe s := fun {x v p} r ev f => by
    subst ev
    split at f
    · rename_i d hd
      split at f
      · rename_i hc
        simp only [Bool.and_eq_true, decide_eq_true_eq, Bool.not_eq_true'] at hc
        obtain ⟨as, rd⟩ := Dp.reads I d _ _ (dp_of Rs 40 _ _ _ r hd) (show L2.RelV (.ref p) (.ref p) from rfl)
        have hu : X.A.units + (d.depth + 1) < cLine := by have := hr.rm.units; omega
        refine PySem.repr_of_reads' rd hc.1.1.1 (PyData.noDict_hsm hc.1.1.2) hr.gd hu (fun _ _ e => e) (fun h' u tk hk => ?_) hc.2
        exact ⟨.str d.shown, H, I.kept (h' := h') (t' := tk) hk, ⟨u, rfl⟩, Fin.ret Rs f (.str _)⟩
      · exact f.elim
    · exact f.elim
  unfold reprC at fi
  split at fi
  · obtain ⟨v, rfl, r⟩ := one_of rx
    cases rv with
    | cons r1 r2 =>
      cases r2
      cases r with
      | tup hq rr => cases r1; exact go (.tup hq rr) rfl fi
  · obtain ⟨v, rfl, r⟩ := one_of rx
    cases rv with
    | cons r1 r2 =>
      cases r2
      cases r with
      | ref hq => cases r1; exact go (.ref hq) rfl fi
  · exact fi.elim
/-! ### f-strings -/
def fmtC : CV → M CV := fun x S => match x with
  | .str y => if y.length ≤ sizeLine then .ok (.str y) S else .bad
  | .int i => if i.natAbs.log2 < 1920 then .ok (.str (toString i)) S else .bad
  | _ => .bad
theorem ge_fmt (he : GE X W e me) : GE X W (.FormattedValue e (-1) none pos) (mUn fmtC me) := PE.imp (pe_fmt he) fun σ H Q ⟨ι, ρ, S, Rs, rs, fi⟩ =>
  ⟨ι, ρ, S, Rs, rs, (Fin.bnd (R := RepV X.K X.mg) fi).imp fun v H1 ⟨ι1, S1, x, n1, rx, f1⟩ => by
    unfold fmtC at f1
    cases rx with
    | str y =>
      dsimp only at f1
      split at f1
      · rename_i h; exact .inl ⟨y, rfl, h, Fin.ret n1.rs f1 (.str _)⟩
      · exact f1.elim
    | int i =>
      dsimp only at f1
      split at f1
      · rename_i h; exact .inr ⟨i, rfl, h, Fin.ret n1.rs f1 (.str _)⟩
      · exact f1.elim
    | _ => exact f1.elim⟩
/-- the parts, one behind the other -/
inductive GJ (X : Cx) (W : WX) : List Expr → List (Rho → M CV) → Prop where
  | nil : GJ X W [] []
  | cons {e : Expr} {m : Rho → M CV} {es : List Expr} {msl : List (Rho → M CV)} (h : GE X W e m) (r : GJ X W es msl) : GJ X W (e :: es) (m :: msl)
def mJs : List (Rho → M CV) → Str → Rho → M Str
  | [], acc, _ => ret acc
  | m :: msl, acc, ρ => bnd (m ρ) fun x => match x with
    | .str y => if (acc ++ y).length ≤ sizeLine then mJs msl (acc ++ y) ρ else bad
    | _ => bad
def mJoined (msl : List (Rho → M CV)) : Rho → M CV := fun ρ => bnd (mJs msl Str.empty ρ) fun y => ret (.str y)
theorem GJ.pj {es : List Expr} {msl : List (Rho → M CV)} (h : GJ X W es msl) : ∃ ts, PJ X es ts ∧ ∀ acc σ H Q, (∃ ι ρ S, RS X.K X.mg ι S H ∧ RepSt X.K X.mg ι H ρ σ ∧ Fin X.K X.mg ι H (fun _ _ a b => a = b) (mJs msl acc ρ S) Q (fun c d H' => W c d σ H')) → tJs ts acc σ H Q := by
  induction h with
  | nil => exact ⟨[], .nil, fun acc σ H Q ⟨ι, ρ, S, Rs, rs, fi⟩ => Fin.ret Rs fi rfl⟩
  | cons h r ih =>
    obtain ⟨ts, hp, k⟩ := ih
    refine ⟨_, .cons h hp, fun acc σ H Q ⟨ι, ρ, S, Rs, rs, fi⟩ => ?_⟩
    refine ⟨ι, ρ, S, Rs, rs, (Fin.bnd (R := RepV X.K X.mg) fi).imp fun v H1 ⟨ι1, S1, x, n1, rx, f1⟩ => ?_⟩
    cases rx with
    | str y =>
      dsimp only at f1
      split at f1
      · rename_i hl
        exact ⟨y, rfl, hl, k _ σ H1 Q ⟨ι1, ρ, S1, n1.rs, n1.repst Rs rs, f1⟩⟩
      · exact f1.elim
    | _ => exact f1.elim
theorem ge_joined {v1 v2 : Expr} {rest : List Expr} {msl : List (Rho → M CV)} (h : GJ X W (v1 :: v2 :: rest) msl) : GE X W (.JoinedStr (v1 :: v2 :: rest) pos) (mJoined msl) := by
  obtain ⟨ts, hp, k⟩ := h.pj
  exact PE.imp (pe_joined hp) fun σ H Q ⟨ι, ρ, S, Rs, rs, fi⟩ => k _ σ H _ ⟨ι, ρ, S, Rs, rs, (Fin.bnd (R := fun _ _ a b => a = b) fi).imp fun y H1 ⟨ι1, S1, y', n1, ey, f1⟩ => by
    subst ey
    exact Fin.ret n1.rs f1 (.str _)⟩
theorem ge_joined1 (h : GE X W e me) : GE X W (.JoinedStr [e] pos) me := pe_joined1 h
/-! ### methods of built-in types -/
def tyB (S : Sto) : CV → Option String
  | .str _ => some "str"
  | .ref n => match S[n]? with
    | some (.lst _) => some "list"
    | some (.dic _) => some "dict"
    | _ => none
  | _ => none
theorem tyB_ok {K : PySem.W.Frag} {mg : Str → Option Value} {ι : List Addr} {H : Hp} {S : Sto} {x : CV} {v : V} {T : String} (Rs : RS K mg ι S H) (r : RepV K mg ι H x v) (h : tyB S x = some T) : tyV K T v H := by
  unfold tyB at h
  cases r with
  | str y => cases h; exact rfl
  | ref hq =>
    dsimp only at h
    split at h
    · rename_i xs ex
      cases h
      obtain ⟨vs, h1, _⟩ := Rs.obj _ _ _ hq ex
      exact .inl ⟨rfl, vs, SqL.of h1⟩
    · rename_i kvs ex
      cases h
      rcases Rs.obj _ _ _ hq ex with ⟨ps, h1, _⟩ | ⟨ps, h1, _⟩
      · exact .inr (.inr (.inl ⟨rfl, .inl ⟨_, h1⟩⟩))
      · exact .inr (.inr (.inl ⟨rfl, .inr ⟨_, h1⟩⟩))
    · cases h
  | _ => cases h
def MtG (X : Cx) (W : WX) (id : String) (g : CV → List CV → M CV) : Prop :=
  ∀ (pins : List (Addr × Obj)) (s : Shared) (σ : L2.St) (H : Hp) (ι : List Addr) (S : Sto) (x : CV) (xs : List CV) (v : V) (vs : List V) (a : Value) (us : List Value) (Q : VK), Inv X pins σ H s → RelV v a → Vals vs us → RS X.K X.mg ι S H → RepV X.K X.mg ι H x v → RepVs X.K X.mg ι H xs vs →
    Fin X.K X.mg ι H (RepV X.K X.mg) (g x xs S) Q (fun c d H' => W c d σ H') → wpAny (model X.prog X.w) X.A (call (.builtin id) (a :: us)) (EP X pins σ Q) X.xe s
theorem mtG_of {id : String} {r : V → List V → Hp → VK → Prop} {g : CV → List CV → M CV} (h : MtR X id r) (hg : ∀ (ι : List Addr) (S : Sto) (H : Hp) (x : CV) (xs : List CV) (v : V) (vs : List V) (Q : VK) (B : XK), RS X.K X.mg ι S H → RepV X.K X.mg ι H x v → RepVs X.K X.mg ι H xs vs → Fin X.K X.mg ι H (RepV X.K X.mg) (g x xs S) Q B → r v vs H Q) : MtG X W id g :=
  fun pins s σ H ι S x xs v vs a us Q I rv rvs Rs rx rxs fi => h pins s σ H v vs a us Q I rv rvs (hg ι S H x xs v vs Q _ Rs rx rxs fi)
def mBM (T : String) (g : CV → List CV → M CV) (mo : Rho → M CV) (ms : Rho → M (List CV)) : Rho → M CV := fun ρ => bnd (mo ρ) fun x S => if tyB S x = some T then bnd (ms ρ) (g x) S else .bad
theorem ge_bm {T id : String} {name : Str} {g : CV → List CV → M CV} (pa : PlainAttrs T) (slot : Slot T name id) (hty : typeOf (.builtin id) = pure (.type "method_descriptor")) (hm : MtG X W id g) (ho : GE X W o mo) (ha : GA X W (e :: es) ms)
    (hbase : attributeBase o name X.env (eval o X.env) = eval o X.env := by rfl)
    (hfew : ((backTo cpos (starEach (e :: es) X.env)).all (fun x => !x.1) && (backToKw cpos (keywordEach [] X.env)).all (fun x => x.1.isSome) && decide ((e :: es).length + ([] : List Keyword).length + (if ([] : List Keyword).isEmpty then 0 else 1) < 30)) = true := by rfl)
    (hline : (apos.endLine == cpos.line) = true := by rfl) (hs : starEach (e :: es) X.env = (false, eval e X.env) :: starEach es X.env := by rfl) (hplain : (backTo cpos (starEach es X.env)).any (·.1) = false := by rfl) :
    GE X W (.Call (.Attribute o name apos) (e :: es) [] cpos) (mBM T g mo ms) := by
  refine ⟨fun pins s σ H Q I ⟨ι, ρ, S, Rs, rs, fi⟩ => ?_⟩
  refine wpAny_Call_method_late hbase hfew hline rfl (thn (ho.run pins s σ H _ I ⟨ι, ρ, S, Rs, rs, Fin.bnd (R := RepV X.K X.mg) fi⟩) fun v' s1 ⟨v, H1, I1, r1, ι1, S1, x, n1, rx, f1⟩ => ?_)
  split at f1
  · rename_i hT
    obtain ⟨h1, h2⟩ := tyV_is I1 r1 (tyB_ok n1.rs rx hT)
    refine ⟨T, id, pa, slot, hty, h1, h2, ?_⟩
    have hA := ha.run cpos pins s1 σ H1 _ I1 ⟨ι1, ρ, S1, n1.rs, n1.repst Rs rs, Fin.bnd (R := RepVs X.K X.mg) f1⟩
    rw [hs] at hA ⊢
    refine Calls.callWith_builtin (by show (false || (backTo cpos (starEach es X.env)).any (·.1)) = false; rw [hplain] <;> rfl) (Calls.evalArgs_plain ?_)
    exact thn hA fun us s2 ⟨vs, H2, I2, r2, ι2, S2, xs, n2, rxs, f2⟩ => hm pins s2 σ H2 ι2 S2 x xs v vs v' us Q I2 r1 r2 n2.rs (n2.rep n1.rs rx) rxs f2
  · exact f1.elim
def appendC : CV → List CV → M CV := fun x xs S => match x, xs with
  | .ref n, [y] => match S[n]? with
    | some (.lst ys) => if ys.length < sizeLine then .ok .non (S.set n (.lst (ys ++ [y]))) else .bad
    | _ => .bad
  | _, _ => .bad
theorem mt_appendC : MtG X W "list.append" appendC := mtG_of mt_append fun ι S H x xs v vs Q B Rs rx rxs fi => by
  unfold appendC at fi
  split at fi
  · rename_i n y
    obtain ⟨u, rfl, ru⟩ := one_of rxs
    cases rx with
    | ref hq =>
      split at fi
      · rename_i ys ey
        obtain ⟨us, h1, r1⟩ := Rs.obj _ _ _ hq ey
        split at fi
        · rename_i hl
          refine ⟨_, us, u, rfl, rfl, h1, by rw [← r1.length]; exact hl, ?_⟩
          have n3 : Nx X.K X.mg ι H (S.set n (.lst (ys ++ [y]))) ι (upd H _ (.lst (us ++ [u]))) := Rs.put hq (fun _ tk' => ⟨_, upd_same, by
            have q := (r1.append (.cons ru .nil)).mono (H' := upd H _ (.lst (us ++ [u]))) tk' []
            rw [List.append_nil] at q
            exact q⟩) (fun gs z => nomatch z)
          exact fi _ _ _ n3 .non
        · exact fi.elim
      · exact fi.elim
  · exact fi.elim
def splitC : CV → List CV → M CV := fun x xs S => match x, xs with
  | .str a, [.str b] => if (b.length == 0) = false ∧ a.length + 2 ≤ sizeLine then .ok (.ref S.length) (S ++ [.lst ((Txt.split a b).map CV.str)]) else .bad
  | _, _ => .bad
theorem mt_splitC : MtG X W "str.split" splitC := mtG_of mt_split fun ι S H x xs v vs Q B Rs rx rxs fi => by
  unfold splitC at fi
  split at fi
  · obtain ⟨u, rfl, ru⟩ := one_of rxs
    cases rx
    cases ru
    split at fi
    · rename_i h
      refine ⟨_, _, rfl, rfl, h.1, h.2, fun p hp => ?_⟩
      obtain ⟨n2, r2⟩ := new_lst Rs (RepVs.strs _) hp
      exact fi _ _ _ n2 r2
    · exact fi.elim
  · exact fi.elim
/-- the texts of a list of texts -/
def strsOf : List CV → Option (List Str)
  | [] => some []
  | .str y :: r => (strsOf r).map (y :: ·)
  | _ :: _ => none
theorem strsOf_eq : ∀ {xs : List CV} {ys : List Str}, strsOf xs = some ys → xs = ys.map CV.str
  | [], ys, h => by cases h; rfl
  | x :: r, ys, h => by
    cases x with
    | str y =>
      unfold strsOf at h
      cases e : strsOf r with
      | none => rw [e] at h; cases h
      | some zs =>
        rw [e] at h
        cases h
        rw [strsOf_eq e]; rfl
    | _ => cases h
theorem RepVs.strs_inv {K : PySem.W.Frag} {mg : Str → Option Value} {ι : List Addr} {H : Hp} : ∀ {ys : List Str} {vs : List V}, RepVs K mg ι H (ys.map CV.str) vs → vs = ys.map V.str
  | [], _, h => by cases h; rfl
  | y :: ys, _, h => by
    cases h with
    | cons r rs => cases r; rw [RepVs.strs_inv rs]; rfl
def joinC : CV → List CV → M CV := fun x xs S => match x, xs with
  | .str a, [.ref n] => match S[n]? with
    | some (.lst zs) => match strsOf zs with
      | some ys => if (ys.map (·.length)).sum + ys.length * a.length ≤ 16777216 then .ok (.str (Txt.join a ys)) S else .bad
      | none => .bad
    | _ => .bad
  | _, _ => .bad
theorem mt_joinC : MtG X W "str.join" joinC := mtG_of mt_join fun ι S H x xs v vs Q B Rs rx rxs fi => by
  unfold joinC at fi
  split at fi
  · obtain ⟨u, rfl, ru⟩ := one_of rxs
    cases rx
    cases ru with
    | ref hq =>
      split at fi
      · rename_i zs ez
        obtain ⟨us, h1, r1⟩ := Rs.obj _ _ _ hq ez
        split at fi
        · rename_i ys ey
          split at fi
          · rename_i hl
            rw [strsOf_eq ey] at r1
            exact ⟨_, _, ys, rfl, rfl, .inl (SqL.of (by rw [← r1.strs_inv]; exact h1)), hl, Fin.ret Rs fi (.str _)⟩
          · exact fi.elim
        · exact fi.elim
      · exact fi.elim
  · exact fi.elim
/-! {} -/
def mDict0 : Rho → M CV := fun _ S => .ok (.ref S.length) (S ++ [.dic []])
theorem ge_dict0 : GE X W (.Dict [] [] pos) mDict0 := PE.imp pe_dnewK fun σ H Q ⟨ι, ρ, S, Rs, rs, fi⟩ => fun p hp => by
  have n : Nx X.K X.mg ι H (S ++ [.dic []]) (ι ++ [p]) (upd H p (.dK [])) := Rs.new hp (.inl ⟨[], upd_same, .nil⟩)
  exact fi _ _ _ n (.ref (by rw [← Rs.len, List.getElem?_append_right (Nat.le_refl _), Nat.sub_self]; rfl))
end
end MW
set_option Elab.async false
set_option linter.all false
set_option maxRecDepth 100000
set_option maxHeartbeats 4000000
namespace MW
open PySem PySem.Spec PyProof.Rows L2 ClX
/-! ### calls by keywords: ix tells, for each parameter, the place of its value among the positional ones and the keywords' -/
def sel {α : Type} (ix : List Nat) (l : List α) : List α := ix.filterMap fun i => l[i]?
theorem Vals.sel {vs : List V} {us : List Value} (r : Vals vs us) : ∀ ix : List Nat, Vals (MW.sel ix vs) (MW.sel ix us)
  | [] => .nil
  | i :: ix => by
    unfold MW.sel
    rw [List.filterMap_cons, List.filterMap_cons]
    cases e : vs[i]? with
    | none =>
      rw [r.none_of e]
      exact Vals.sel r ix
    | some v =>
      obtain ⟨u, hu, rv⟩ := r.get e
      rw [hu]
      exact .cons rv (Vals.sel r ix)
theorem RepVs.none_of {K : PySem.W.Frag} {mg : Str → Option Value} {ι : List Addr} {H : Hp} {cs : List CV} {vs : List V} {i : Nat} (r : RepVs K mg ι H cs vs) (e : cs[i]? = none) : vs[i]? = none := by
  rw [List.getElem?_eq_none_iff] at e ⊢
  rw [← r.length]; exact e
theorem RepVs.sel {K : PySem.W.Frag} {mg : Str → Option Value} {ι : List Addr} {H : Hp} {cs : List CV} {vs : List V} (r : RepVs K mg ι H cs vs) : ∀ ix : List Nat, RepVs K mg ι H (MW.sel ix cs) (MW.sel ix vs)
  | [] => .nil
  | i :: ix => by
    unfold MW.sel
    rw [List.filterMap_cons, List.filterMap_cons]
    cases e : cs[i]? with
    | none =>
      rw [r.none_of e]
      exact RepVs.sel r ix
    | some v =>
      obtain ⟨u, hu, rv⟩ := r.get e
      rw [hu]
      exact .cons rv (RepVs.sel r ix)
structure CalleeK (P : Program) (w : World) (K : PySem.W.Frag) (mg : Str → Option Value) (base : Heap) (k : Nat) (f : Addr) (n n0 : Nat) (ks : List Str) (ix : List Nat) (m : List CV → M CV) : Prop where
  ex : ∃ fd ps, ps.length = n ∧ FnD P w K mg base k f fd ps m ∧ ∀ (s : Shared) (us ws : List Value), us.length = n0 → ws.length = ks.length → BindsTo s fd ⟨us, ks.zip ws⟩ (ps.zip (sel ix (us ++ ws)))
  kp : PySem.W.keepIn K (.ref f) = true
def appK (n n0 nk : Nat) (ix : List Nat) (m : List CV → M CV) (cs ds : List CV) : M CV := if cs.length = n0 ∧ ds.length = nk then app n m (sel ix (cs ++ ds)) else bad
abbrev GKw (X : Cx) (W : WX) (kws : List Keyword) (m : Rho → M (List CV)) : Prop := PK X kws (tDA X.K X.mg W m)
section
variable {X : Cx} {W : WX} {e o : Expr} {es : List Expr} {kws : List Keyword} {ma mo me : Rho → M CV} {ms mk : Rho → M (List CV)} {pos apos p kpos : Pos} {k n n0 : Nat} {f C : Addr} {m : List CV → M CV} {x : Str} {ks : List Str} {ix : List Nat} {nm : Option Str}
theorem PK.imp {t t' : TA} (h : PK X kws t) (k : ∀ σ H Q, t' σ H Q → t σ H Q) : PK X kws t' := ⟨fun pos pins s σ H Q I q => h.run pos pins s σ H Q I (k σ H Q q)⟩
theorem gk_nil : GKw X W [] mNil := PK.imp pk_nil fun σ H Q ⟨ι, ρ, S, Rs, rs, fi⟩ => Fin.ret Rs fi .nil
theorem gk_cons (ha : GE X W e me) (hr : GKw X W kws ms) : GKw X W (⟨nm, e, kpos⟩ :: kws) (mCons me ms) := PK.imp (pk_cons ha hr) fun σ H Q ⟨ι, ρ, S, Rs, rs, fi⟩ => by
  refine ⟨ι, ρ, S, Rs, rs, (Fin.bnd (R := RepV X.K X.mg) fi).imp fun v H1 ⟨ι1, S1, x, n1, rx, f1⟩ => ?_⟩
  refine ⟨ι1, ρ, S1, n1.rs, n1.repst Rs rs, (Fin.bnd (R := RepVs X.K X.mg) f1).imp fun vs H2 ⟨ι2, S2, xs, n2, rxs, f2⟩ => ?_⟩
  exact Fin.ret n2.rs f2 (.cons (n2.rep n1.rs rx) rxs)
/-- the call itself, under A' -/
theorem code_kw {A' : Around} {pins : List (Addr × Obj)} {σ : L2.St} {H : Hp} {s : Shared} {Q : VK} {us ws : List Value} {vs zs : List V} {cs ds : List CV} {ι : List Addr} {S : Sto} (F : CalleeK X.prog X.w X.K X.mg X.base k f n n0 ks ix m) (hr : RmG k A') (hfr : Env0 X.prog X.w X.K X.mg X.base A' X.stack s H) (tk : Takes X W)
    (I : Inv X pins σ H s) (r : Vals vs us) (rz : Vals zs ws) (Rs : RS X.K X.mg ι S H) (rc : RepVs X.K X.mg ι H cs vs) (rd : RepVs X.K X.mg ι H ds zs) (h : Fin X.K X.mg ι H (RepV X.K X.mg) (appK n n0 ks.length ix m cs ds S) Q (fun c d H' => W c d σ H')) :
    codeAny (model X.prog X.w) A' (.call (.ref f) ⟨us, ks.zip ws⟩) (Back X pins σ Q) s := by
  obtain ⟨fd, ps, hl, F', hb⟩ := F.ex
  subst hl
  unfold appK at h
  split at h
  · rename_i hc
    exact code_fnD F' hr hfr (fun _ => hb s us ws (by rw [← r.length, ← rc.length]; exact hc.1) (by rw [← rz.length, ← rd.length]; exact hc.2)) tk I (Vals.sel (r.append rz) ix) Rs (RepVs.sel (rc.append rd) ix) h
  · exact h.elim
theorem wp_backK {A' : Around} {pins : List (Addr × Obj)} {σ : L2.St} {s : Shared} {Q : VK} {g : Value} {us : List Value} {kw : List (Str × Value)} (h : codeAny (model X.prog X.w) A' (.call g ⟨us, kw⟩) (Back X pins σ Q) s) : wpAny (model X.prog X.w) A' (call g us kw) (EP X pins σ Q) X.xe s :=
  wpAny_call (codeAny_mono h fun r s' hq => by
    cases r with
    | error e => exact hq
    | ok fl => cases fl <;> exact hq)
/-- f(k = v, ..) -/
theorem ge_callKw0 (F : CalleeK X.prog X.w X.K X.mg X.base k f n 0 ks ix m) (hr : RmG k X.A) (hm : X.mg x = some (.ref f)) (tk : Takes X W) (hkw : GKw X W kws mk) (hall : (backToKw pos (keywordEach kws X.env)).all (·.1.isSome) = true := by rfl) (hks : (backToKw pos (keywordEach kws X.env)).filterMap (·.1) = ks := by rfl)
    (hpl : ((backTo pos (starEach [] X.env)).any (·.1) || (backToKw pos (keywordEach kws X.env)).any (·.1.isNone)) = false := by rfl) (hg : Gl X x := by rfl) (hdb : (x == ("__debug__" : Str)) = false := by decide) : GE X W (.Call (.Name x p) [] kws pos) (fun ρ => bnd (mk ρ) (appK n 0 ks.length ix m [])) := by
  refine ⟨fun pins s σ H Q I ⟨ι, ρ, S, Rs, rs, fi⟩ => ?_⟩
  refine wpAny_Call_Name_kw (ld_glob I hg hm ?_ hdb)
  refine PySem.W.callWith_KW0 (h₀ := X.base) I.ok.mod.kin F.kp hall (thn (hkw.run pos pins s σ H _ I ⟨ι, ρ, S, Rs, rs, Fin.bnd (R := RepVs X.K X.mg) fi⟩) fun ws s1 ⟨zs, H1, I1, rz, ι1, S1, ds, n1, rd, f1⟩ => ⟨I1.kIn, ?_⟩) hpl
  rw [hks]
  exact wp_backK (code_kw (us := []) (vs := []) F hr I1.env0 tk I1 .nil rz n1.rs .nil rd f1)
def mkInsK (c : Str) (n nk : Nat) (ix : List Nat) (m : List CV → M CV) : List CV → M CV := fun ds S => (appK n 1 nk ix m [.ref S.length] ds (S ++ [.ins c []])).bnd fun r S' => match r with
  | .non => .ok (.ref S.length) S'
  | _ => .bad
/-- C(k = v, ..) -/
theorem ge_makeKw0 {c : Str} (Mc : MkC X.K X.mg c C f) (F : CalleeK X.prog X.w X.K X.mg X.base k f n 1 ks ix m) (hr : RmG (k + 1) X.A) (tk : Takes X W) (hkw : GKw X W kws mk) (hall : (backToKw pos (keywordEach kws X.env)).all (·.1.isSome) = true := by rfl) (hks : (backToKw pos (keywordEach kws X.env)).filterMap (·.1) = ks := by rfl)
    (hpl : ((backTo pos (starEach [] X.env)).any (·.1) || (backToKw pos (keywordEach kws X.env)).any (·.1.isNone)) = false := by rfl) (hg : Gl X c := by rfl) (hdb : (c == ("__debug__" : Str)) = false := by decide) : GE X W (.Call (.Name c p) [] kws pos) (fun ρ => bnd (mk ρ) (mkInsK c n ks.length ix m)) := by
  refine ⟨fun pins s σ H Q I ⟨ι, ρ, S, Rs, rs, fi⟩ => ?_⟩
  refine wpAny_Call_Name_kw (ld_glob I hg Mc.gl ?_ hdb)
  refine PySem.W.callWith_KW0 (h₀ := X.base) I.ok.mod.kin Mc.made.kp hall (thn (hkw.run pos pins s σ H _ I ⟨ι, ρ, S, Rs, rs, Fin.bnd (R := RepVs X.K X.mg) fi⟩) fun ws s1 ⟨zs, H1, I1, rz, ι1, S1, ds, n1, rd, f1⟩ => ⟨I1.kIn, ?_⟩) hpl
  rw [hks]
  have I2 := Inv.made (C := C) I1
  obtain ⟨nx, hat⟩ := new_ins (c := c) n1.rs Mc.gl (I1.hok.fresh (Nat.le_succ s1.heap.objs.size)) (I1.hok.fresh (Nat.le_refl _)) (Nat.ne_of_lt (Nat.lt_succ_self _))
  have f2 : Fin X.K X.mg (ι1 ++ [s1.heap.objs.size + 1]) _ (RepV X.K X.mg) (appK n 1 ks.length ix m [.ref S1.length] ds (S1 ++ [.ins c []])) (fun v H2 => v = .non ∧ Q (.ref (s1.heap.objs.size + 1)) H2) (fun c d H' => W c d σ H') := (Fin.bnd (R := RepV X.K X.mg) (Fin.after nx f1)).imp fun v H2 ⟨ι2, S2, d, n2, rd', f3⟩ => by
    cases rd' with
    | non =>
      refine ⟨rfl, Fin.ret n2.rs f3 (.ref ?_)⟩
      obtain ⟨mm, e, _⟩ := n2.ext
      rw [e, List.getElem?_append_left (List.getElem?_eq_some_iff.mp hat).1]; exact hat
    | _ => exact f3.elim
  have run := code_kw (pins := pins) (us := [.ref (s1.heap.objs.size + 1)]) (vs := [.ref (s1.heap.objs.size + 1)]) F (hr.make C [] (ks.zip ws)) (I2.env0.make C [] (ks.zip ws)) tk I2 (.cons rfl .nil) rz nx.rs (.cons (.ref hat) .nil) (nx.reps n1.rs rd) f2
  refine wpAny_call (make_map (f := f) I1.kIn Mc.made.makes Mc.made.init (beq_iff_eq.mp Mc.made.fn) (codeAny_mono run fun r s' hq' => ?_))
  cases r with
  | error e => exact hq'
  | ok fl =>
    cases fl with
    | ret u =>
      obtain ⟨v, H', I3, rv, ev, q3⟩ := hq'
      subst ev
      exact ⟨rv, ⟨V.ref (s1.heap.objs.size + 1), H', I3, rfl, q3⟩⟩
    | next => exact False.elim hq'
    | brk => exact False.elim hq'
    | cont => exact False.elim hq'
/-- C.m(k = v, ..), m a classmethod or a static method of the class c -/
def mCmK (c : Str) (g : List CV → M CV) (mo : Rho → M CV) (mk : Rho → M (List CV)) : Rho → M CV := fun ρ => bnd (mo ρ) fun x S => match x with
  | .cls d => if d = c then bnd (mk ρ) g S else .bad
  | _ => .bad
theorem ge_cmKw0 {pl : Sem Bool} {c name : Str} {mc : Value} {pp : Addr} (hC : X.mg c = some (.ref C)) (r : CRead X.K C mc) (h : CMet X.K C mc name pp f) (F : CalleeK X.prog X.w X.K X.mg X.base k f n 1 ks ix m) (hr : RmG k X.A) (tk : Takes X W) (ho : GE X W o mo) (hkw : GKw X W kws mk) (hall : (backToKw pos (keywordEach kws X.env)).all (·.1.isSome) = true := by rfl)
    (hks : (backToKw pos (keywordEach kws X.env)).filterMap (·.1) = ks := by rfl) (hpl : ((backTo pos (starEach [] X.env)).any (·.1) || (backToKw pos (keywordEach kws X.env)).any (·.1.isNone)) = false := by rfl)
    (hev : eval (.Call (.Attribute o name apos) [] kws pos) X.env = (do
      let ov ← eval o X.env
      standAt apos.atName
      let (f, first) ← holding [ov] (getMethod ov name pl)
      callWith pos f first (backTo pos (starEach [] X.env)) (backToKw pos (keywordEach kws X.env))) := by rfl) : GE X W (.Call (.Attribute o name apos) [] kws pos) (mCmK c (appK n 1 ks.length ix m [.cls c]) mo mk) := by
  refine ⟨fun pins s σ H Q I ⟨ι, ρ, S, Rs, rs, fi⟩ => ?_⟩
  refine PySem.W.methodCall_KW (pl := pl) (thn (ho.run pins s σ H _ I ⟨ι, ρ, S, Rs, rs, Fin.bnd (R := RepV X.K X.mg) fi⟩) fun u s1 ⟨v, H1, I1, rv, ι1, S1, x, n1, rx, f1⟩ => ?_) hev
  cases rx with
  | @cls d D hD =>
    cases rv
    dsimp only at f1
    split at f1
    · rename_i hdc
      subst hdc
      have f1' := Fin.bnd (R := RepVs X.K X.mg) f1
      rw [hC] at hD; cases hD
      refine getmethcm_ok I1 r h fun s2 I2 => ?_
      have hfi := h.fi
      refine PySem.W.callWith_of (P := PySem.W.MethP X.K s1.heap.objs.size f (.ref C)) hpl (fun hh => PySem.W.keeps_M hfi hh) (PyProof.Rows.evalArgs_kw2_nil hall (thn (hkw.run pos _ s2 σ H1 _ I2 ⟨ι1, ρ, S1, n1.rs, n1.repst Rs rs, f1'⟩) fun ws s3 ⟨zs, H3, I3, rz, ι3, S3, ds, n3, rd, f3⟩ => ⟨⟨pin_at I3, I3.kIn⟩, ?_⟩))
      rw [hks]
      have run := code_kw (us := [.ref C]) (vs := [.ref C]) F hr I3.env0 tk I3 (.cons rfl .nil) rz n3.rs (.cons (.cls hC) .nil) rd f3
      exact thn (wp_backK (PySem.W.method_call (pin_at I3) run)) fun _ _ y => unpinE y
    · exact f1.elim
  | _ => exact f1.elim
theorem ge_smKw0 {pl : Sem Bool} {c name : Str} {mc : Value} {pp : Addr} (hC : X.mg c = some (.ref C)) (r : CRead X.K C mc) (h : PySem.W.findCls X.K (.ref C) mc name = some (.get (.builtin "staticmethod.__get__") (.ref pp) .none (.ref C))) (hp : ∃ rest, PySem.W.recIn X.K pp "staticmethod" = some (.ref f :: rest)) (F : CalleeK X.prog X.w X.K X.mg X.base k f n 0 ks ix m) (hr : RmG k X.A) (tk : Takes X W) (ho : GE X W o mo) (hkw : GKw X W kws mk) (hall : (backToKw pos (keywordEach kws X.env)).all (·.1.isSome) = true := by rfl)
    (hks : (backToKw pos (keywordEach kws X.env)).filterMap (·.1) = ks := by rfl) (hpl : ((backTo pos (starEach [] X.env)).any (·.1) || (backToKw pos (keywordEach kws X.env)).any (·.1.isNone)) = false := by rfl)
    (hev : eval (.Call (.Attribute o name apos) [] kws pos) X.env = (do
      let ov ← eval o X.env
      standAt apos.atName
      let (f, first) ← holding [ov] (getMethod ov name pl)
      callWith pos f first (backTo pos (starEach [] X.env)) (backToKw pos (keywordEach kws X.env))) := by rfl) : GE X W (.Call (.Attribute o name apos) [] kws pos) (mCmK c (appK n 0 ks.length ix m []) mo mk) := by
  refine ⟨fun pins s σ H Q I ⟨ι, ρ, S, Rs, rs, fi⟩ => ?_⟩
  refine PySem.W.methodCall_KW (pl := pl) (thn (ho.run pins s σ H _ I ⟨ι, ρ, S, Rs, rs, Fin.bnd (R := RepV X.K X.mg) fi⟩) fun u s1 ⟨v, H1, I1, rv, ι1, S1, x, n1, rx, f1⟩ => ?_) hev
  cases rx with
  | @cls d D hD =>
    cases rv
    dsimp only at f1
    split at f1
    · rename_i hdc
      subst hdc
      have f1' := Fin.bnd (R := RepVs X.K X.mg) f1
      rw [hC] at hD; cases hD
      obtain ⟨rest, hp⟩ := hp
      refine PySem.W.method_cls I1.kIn r.ga (PySem.W.cls_bind I1.kIn r.rd h (wpAny_call (PySem.W.sm_get (s := { s1 with toks := s1.toks + 1 }) I1.kIn hp (PySem.W.handed_on rfl ?_))))
      have I2 := I1.tok (s1.toks + 1)
      refine PySem.W.callWith_KW0 (first := []) (h₀ := X.base) I.ok.mod.kin F.kp hall (thn (hkw.run pos pins _ σ H1 _ I2 ⟨ι1, ρ, S1, n1.rs, n1.repst Rs rs, f1'⟩) fun ws s3 ⟨zs, H3, I3, rz, ι3, S3, ds, n3, rd, f3⟩ => ⟨I3.kIn, ?_⟩) hpl
      rw [hks]
      exact wp_backK (code_kw (us := []) (vs := []) F hr I3.env0 tk I3 .nil rz n3.rs .nil rd f3)
    · exact f1.elim
  | _ => exact f1.elim
/-! ### a class that a local name holds is called -/
/-- the classes that may be made: their __init__ and its number of parameters -/
def mkAt (tbl : List (Str × Nat × (List CV → M CV))) : CV → Option (List CV → M CV)
  | .cls c => (tbl.lookup c).map fun q => mkIns c q.1 q.2
  | _ => none
def mCallV (i : Nat) (tbl : List (Str × Nat × (List CV → M CV))) (ms : Rho → M (List CV)) : Rho → M CV := fun ρ => bnd (mVar i ρ) fun x S => match mkAt tbl x with
  | some g => bnd (ms ρ) g S
  | none => .bad
structure MkOk (P : Program) (w : World) (K : PySem.W.Frag) (mg : Str → Option Value) (base : Heap) (k : Nat) (c : Str) (n : Nat) (m : List CV → M CV) : Prop where
  ex : ∃ C f j, MkC K mg c C f ∧ Callee P w K mg base j f n m ∧ j + 1 ≤ k
theorem ge_callV {i : Nat} {tbl : List (Str × Nat × (List CV → M CV))} (ht : ∀ q ∈ tbl, MkOk X.prog X.w X.K X.mg X.base k q.1 q.2.1 q.2.2) (hr : RmG k X.A) (tk : Takes X W) (hx : GE X W (.Name x p) (mVar i)) (ha : GA X W (e :: es) ms)
    (he : starEach (e :: es) X.env = (false, eval e X.env) :: starEach es X.env := by rfl) (hpl : (backTo pos (starEach es X.env)).any (·.1) = false := by rfl) : GE X W (.Call (.Name x p) (e :: es) [] pos) (mCallV i tbl ms) := by
  refine ⟨fun pins s σ H Q I ⟨ι, ρ, S, Rs, rs, fi⟩ => ?_⟩
  refine wpAny_Call_Name_kw (thn (hx.run pins s σ H _ I ⟨ι, ρ, S, Rs, rs, Fin.bnd (R := RepV X.K X.mg) fi⟩) fun u s1 ⟨v, H1, I1, rv, ι1, S1, cx, n1, rx, f1⟩ => ?_)
  cases hg : mkAt tbl cx with
  | none => rw [hg] at f1; exact f1.elim
  | some g =>
    rw [hg] at f1
    have f1 : Fin X.K X.mg ι1 H1 (RepV X.K X.mg) (bnd (ms ρ) g S1) Q (fun c d H' => W c d σ H') := f1
    cases rx with
    | @cls c C hC =>
      cases rv
      unfold mkAt at hg
      dsimp only at hg
      cases hl : tbl.lookup c with
      | none => rw [hl] at hg; cases hg
      | some q =>
        rw [hl] at hg
        cases hg
        obtain ⟨C', f, j, Mc, F, hj⟩ := (ht _ (mem_of_look hl)).ex
        have hC' := Mc.gl
        rw [hC] at hC'; cases hC'
        refine PySem.W.callWith_K (h₀ := X.base) I.ok.mod.kin Mc.made.kp (thn (ha.run pos pins s1 σ H1 _ I1 ⟨ι1, ρ, S1, n1.rs, n1.repst Rs rs, Fin.bnd (R := RepVs X.K X.mg) f1⟩) fun us s2 ⟨vs, H2, I2, r, ι2, S2, xs, n2, rxs, f2⟩ => ⟨I2.kIn, ?_⟩) he hpl
        exact run_makeD Mc F (hr.mono hj) tk I2 r n2.rs rxs f2
    | _ => cases hg
end
end MW
set_option Elab.async false
set_option linter.all false
set_option maxRecDepth 100000
set_option maxHeartbeats 4000000
namespace MW
open PySem PySem.Spec PyProof.Rows L2
/-! ### the end: the law is called with the script -/
theorem law_run {P : Program} {w : World} {K : PySem.W.Frag} {mg mb : Str → Option Value} {k : Nat} {fa a : Addr} {fd : FuncData} {x : Str} {m : List CV → M CV} {s : Shared} {vs : List Value} {ns : List Int}
    (inK : K.In s.heap) (glob : s.heap.Ns mainGlobals mg) (blt : s.heap.Ns builtinsNs mb) (bltB : ∀ x : Str, x ≠ "__name__" → mb x = bootBuiltins x) (noLim : s.heap.NoLimit) (noGen : s.gens = #[])
    (script : s.heap.get? a = some { cls := .type "list", data := .seq vs.toArray }) (hints : IntsAre vs ns) (few : ns.length ≤ sizeLine) (room : Room k callerA)
    (F : ∀ base : Heap, K.In base → base.Ns mainGlobals mg → FnD P w K mg base k fa fd [x] m) (bind : ∀ (s : Shared) (u : Value), BindsTo s fd ⟨[u], []⟩ [(x, u)])
    (good : ∃ S', m [.scr ns] [] = .ok (.bl true) S') :
    codeAny (model P w) callerA (.call (.ref fa) ⟨[.ref a], []⟩) (fun r s' => r = .ok (.ret (.bool true)) ∧ OldK s.heap s'.heap ∧ s'.os = s.os ∧ AllBare s'.gens) s := by
  -- the abstract heap: the script, unless the text itself holds it
  let sc : HO := .frz { cls := .type "list", data := .seq vs.toArray } (.lst (ns.map V.int))
  let H : Hp := fun b => if b = a ∧ K.lookup a = none then some sc else none
  have at_H : ∀ {b : Addr} {u : HO}, H b = some u → b = a ∧ K.lookup a = none ∧ u = sc := fun {b u} e => by
    have e : (if b = a ∧ K.lookup a = none then some sc else none) = some u := e
    split at e
    · rename_i h; cases e; exact ⟨h.1, h.2, rfl⟩
    · cases e
  have hok : HOk P w H s.heap := fun b u e => by
    obtain ⟨rfl, _, rfl⟩ := at_H e
    exact ⟨script, by rw [List.length_map]; exact few, vs, _, vals_ints hints, script⟩
  have free : ∀ {b : Addr} {o : Obj}, s.heap.get? b = some o → (∃ es ep, o.data = .dict es ep) ∨ K.lookup b ≠ none → H b = none := fun {b o} e h => by
    cases q : H b with
    | none => rfl
    | some u =>
      obtain ⟨rfl, hk, _⟩ := at_H q
      rcases h with ⟨es, ep, hd⟩ | h
      · rw [script] at e; cases e; cases hd
      · exact absurd hk h
  let base := hidT s.heap H
  have toBase : ∀ {b : Addr} {o : Obj}, s.heap.get? b = some o → H b = none → base.get? b = some o := fun e n => hidT_get e n
  have nsB : ∀ {b : Addr} {m : Str → Option Value}, s.heap.Ns b m → base.Ns b m := fun {b m} ⟨o, es, ep, e, hd, r⟩ => ⟨o, es, ep, toBase e (free e (.inl ⟨es, ep, hd⟩)), hd, r⟩
  have inB : K.In base := fun b o e => toBase (inK b o e) (free (inK b o e) (.inr (by rw [e]; exact fun z => nomatch z)))
  have modB : Mod K mg base := ⟨inB, nsB glob, ⟨mb, nsB blt, bltB⟩, let ⟨mc, h1, h2⟩ := noLim; ⟨mc, nsB h1, h2⟩⟩
  have env0 : Env0 P w K mg base callerA [] s H := ⟨rfl, modB, fun b o e => of_hidT e, Nat.le_of_eq (hidT_size _ _), trivial, (fun b hb => nomatch hb), hok, .of_eq noGen⟩
  have rs : RS K mg [] [] H := ⟨rfl, List.nodup_nil, fun n a o e => by simp at e⟩
  have rep : RepV K mg [] H (.scr ns) (.ref a) := by
    refine .scr ?_
    cases hk : K.lookup a with
    | none => exact .inl ⟨_, if_pos ⟨rfl, hk⟩⟩
    | some o =>
      have e := inK a o hk
      rw [script] at e
      cases e
      exact .inr fun H' => .inr ⟨_, vs.toArray, _, hk, rfl, rfl, rfl, by rw [List.size_toArray, hints.length]; exact few, by simpa using vals_ints hints⟩
  obtain ⟨S', hgood⟩ := good
  have prom : spD K mg [x].length m [.ref a] H (fun v H' => v = .bl true ∧ Frm [] H H') (fun _ _ _ => False) := by
    refine ⟨rfl, [], [], [.scr ns], rs, .cons rep .nil, ?_⟩
    rw [hgood]
    intro v ι' H' n r
    cases r
    exact ⟨rfl, n.fr⟩
  refine codeAny_mono ((F base inB (nsB glob)).run callerA [] s H ⟨[.ref a], []⟩ [.ref a] [.ref a] _ _ ⟨room, rfl⟩ env0 (bind s (.ref a)) (.cons rfl .nil) prom) fun r s' h => ?_
  cases r with
  | error e =>
    obtain ⟨_, _, _, _, _, _, _, _, _, _, _, _, z⟩ := h
    exact z.elim
  | ok fl =>
    cases fl with
    | next => exact False.elim h
    | brk => exact False.elim h
    | cont => exact False.elim h
    | ret u =>
      obtain ⟨v, H', os, bare, un, hok', rv, ev, fr⟩ := h
      subst ev
      obtain rfl : u = Value.bool true := rv
      refine ⟨rfl, OldK.of_keep fun b o e => ?_, os, bare⟩
      cases q : H b with
      | none => exact un.keep b o e q (fun z => nomatch z) (fun z => nomatch z)
      | some u =>
        have q' := fr b u (fun z => nomatch z) q
        obtain ⟨_, _, rfl⟩ := at_H q
        obtain ⟨e1, _⟩ := hok b _ q
        obtain ⟨e2, _⟩ := hok' b _ q'
        rw [e] at e1
        cases e1
        exact e2
theorem law_end {l : PySem.W.OpenLaw} {n k : Nat} {q : Program} {loose : List Str} {XP : (Str → Option Value) → Heap → Prop} {YP : World → Heap → Prop} {d : DefRec} {K : Params → PySem.W.Frag} {m : List CV → M CV} {x : Str}
    (hn : l.most = some n) (hn2 : n ≤ sizeLine) (hdf : d.params.defaults = []) (hr : Room k callerA) (hY : ∀ (w : World) (h : Heap), YP w h → (K w.params).In h)
    (F : ∀ (w : World) (mg : Str → Option Value) (fa : Addr) (h : Heap), (K w.params).In h → h.Ns mainGlobals mg → mg d.name = some (.ref fa) →
      ∃ fd : FuncData, (∀ (s : Shared) (u : Value), BindsTo s fd ⟨[u], []⟩ [(x, u)]) ∧ ∀ base : Heap, (K w.params).In base → base.Ns mainGlobals mg → FnD l.prog w (K w.params) mg base k fa fd [x] m)
    (good : ∀ ns : List Int, ns.length ≤ n → (∀ z ∈ ns, Builtin.Int.intBits z ≤ 1048576) → ∃ S', m [.scr ns] [] = .ok (.bl true) S') : PySem.W.WalkO q loose XP YP l.row.toRowW d [] (fun f vs => PySem.call f vs) := by
  refine Att.attach_callB hn hdf fun w s0 s1 mg mb fa o pm cd doc a vs ns G Y ho hd hcd hmg hobj hints hlen hbits hg => ?_
  obtain ⟨fd, hb, hF⟩ := F w mg fa _ (hY w _ Y) G.T.g hmg
  exact law_run (hY w _ Y) G.T.g G.T.b G.T.builtins G.T.nolimit hg hobj hints (Nat.le_trans hlen hn2) hr hF hb (good ns hlen hbits)
end MW
set_option Elab.async false
set_option linter.all false
set_option maxRecDepth 100000
set_option maxHeartbeats 4000000
namespace MW
open PySem PySem.Spec PyProof.Rows L2 ClX
/-! ### what the printed texts say -/
def mAp (n : Nat) (m : List CV → M CV) (ms : Rho → M (List CV)) : Rho → M CV := fun ρ => bnd (ms ρ) (app n m)
def mMk (c : Str) (n : Nat) (m : List CV → M CV) (ms : Rho → M (List CV)) : Rho → M CV := fun ρ => bnd (ms ρ) (mkIns c n m)
def mApK (n nk : Nat) (ix : List Nat) (m : List CV → M CV) (mk : Rho → M (List CV)) : Rho → M CV := fun ρ => bnd (mk ρ) (appK n 0 nk ix m [])
def mMkK (c : Str) (n nk : Nat) (ix : List Nat) (m : List CV → M CV) (mk : Rho → M (List CV)) : Rho → M CV := fun ρ => bnd (mk ρ) (mkInsK c n nk ix m)
theorem bt_str : bootBuiltins "str" = some (.type "str") := by decide +kernel
theorem bt_int : bootBuiltins "int" = some (.type "int") := by decide +kernel
theorem bt_bool : bootBuiltins "bool" = some (.type "bool") := by decide +kernel
theorem bt_list : bootBuiltins "list" = some (.type "list") := by decide +kernel
theorem bt_tuple : bootBuiltins "tuple" = some (.type "tuple") := by decide +kernel
theorem bt_dict : bootBuiltins "dict" = some (.type "dict") := by decide +kernel
theorem bt_len : bootBuiltins "len" = some (.builtin "len") := by decide +kernel
theorem bt_abs : bootBuiltins "abs" = some (.builtin "abs") := by decide +kernel
theorem bt_repr : bootBuiltins "repr" = some (.builtin "repr") := by decide +kernel
theorem bt_isinstance : bootBuiltins "isinstance" = some (.builtin "isinstance") := by decide +kernel
theorem bt_all : bootBuiltins "all" = some (.builtin "all") := by decide +kernel
theorem bt_sorted : bootBuiltins "sorted" = some (.builtin "sorted") := by decide +kernel
theorem bt_ValueError : bootBuiltins "ValueError" = some (.type "ValueError") := by decide +kernel
/-- a def of the text stands at f -/
structure DefAt (K : PySem.W.Frag) (x qual : Str) (st : Stmt) (f : Addr) : Prop where
  ex : ∃ fd, Fun K x qual st f fd
section
variable {P : Program} {w : World} {K : PySem.W.Frag} {mg : Str → Option Value} {base : Heap} {x qual : Str} {st : Stmt} {f : Addr}
theorem def_at {oc : Value} {od an : Option Addr} {osl : Array (Option Value)} {kV doc pm cdv ct : Value} (l : K.lookup f = some ⟨oc, od, .func (PySem.W.fnOf x qual (defArgs st) (defBody st) (defScope st) .none kV doc pm an cdv ct), osl⟩)
    (c : PySem.W.codeIn K cdv qual = true) (k : PySem.W.keepIn K (.ref f) = true) : DefAt K x qual st f := ⟨_, fun_mk l c k⟩
theorem DefAt.callee {N ps : List Str} {k : Nat} {m : Rho → M CF} (D : DefAt K x qual st f) (Sc : FnScope N ps (defScope st))
    (hb : ∀ (kV doc pm : Value) (an : Option Addr) (cdv ct : Value) (us : List Value), us.length = ps.length → bindArgs (PySem.W.fnOf x qual (defArgs st) (defBody st) (defScope st) .none kV doc pm an cdv ct) ⟨us, []⟩ = pure (ps.zip us))
    (hbody : ∀ (cdv : Value) (A : Around) (outer : List Env) (s : Shared) (H : Hp) (E : XK), RmG k (A.deeper (envOfC qual (defScope st) s.heap.objs.size f cdv)) →
      Takes (cxOf (L2.CX P w) P w K mg base N qual (defScope st) f cdv A outer s H E) (WE' E) → PassesOwn (model P w) (A.deeper (envOfC qual (defScope st) s.heap.objs.size f cdv)) (envOfC qual (defScope st) s.heap.objs.size f cdv) (cxOf (L2.CX P w) P w K mg base N qual (defScope st) f cdv A outer s H E).xe →
      GSs (cxOf (L2.CX P w) P w K mg base N qual (defScope st) f cdv A outer s H E) (WE' E) (defBody st) m) : Callee P w K mg base (k + 1) f ps.length (runF N.length m) := by
  obtain ⟨fd, F⟩ := D.ex
  exact ⟨⟨fd, ps, rfl, fn_D F Sc hbody, F.binds hb⟩, F.kp⟩
theorem Callee.kw {n n0 k : Nat} {ps ks : List Str} {ix : List Nat} {m : List CV → M CV} (D : DefAt K x qual st f) (C : ∀ fd, Fun K x qual st f fd → FnD P w K mg base k f fd ps m) (hn : ps.length = n)
    (hb : ∀ (kV doc pm : Value) (an : Option Addr) (cdv ct : Value) (us ws : List Value), us.length = n0 → ws.length = ks.length → bindArgs (PySem.W.fnOf x qual (defArgs st) (defBody st) (defScope st) .none kV doc pm an cdv ct) ⟨us, ks.zip ws⟩ = pure (ps.zip (sel ix (us ++ ws)))) : CalleeK P w K mg base k f n n0 ks ix m := by
  obtain ⟨fd, F⟩ := D.ex
  refine ⟨⟨fd, ps, hn, C fd F, fun s us ws h1 h2 => ?_⟩, F.kp⟩
  obtain ⟨oc, od, kV, doc, pm, an, cdv, ct, osl, rfl, _, _⟩ := F.ex
  exact .of_eq (hb kV doc pm an cdv ct us ws h1 h2)
/-- the law's own def -/
theorem DefAt.law {N : List Str} {p : Str} {k : Nat} {m : Rho → M CF} (D : DefAt K x qual st f) (Sc : FnScope N [p] (defScope st))
    (hb : ∀ (kV doc pm : Value) (an : Option Addr) (cdv ct : Value) (u : Value), bindArgs (PySem.W.fnOf x qual (defArgs st) (defBody st) (defScope st) .none kV doc pm an cdv ct) ⟨[u], []⟩ = pure [(p, u)])
    (hbody : ∀ (base : Heap) (cdv : Value) (A : Around) (outer : List Env) (s : Shared) (H : Hp) (E : XK), RmG k (A.deeper (envOfC qual (defScope st) s.heap.objs.size f cdv)) →
      Takes (cxOf (L2.CX P w) P w K mg base N qual (defScope st) f cdv A outer s H E) (WE' E) → PassesOwn (model P w) (A.deeper (envOfC qual (defScope st) s.heap.objs.size f cdv)) (envOfC qual (defScope st) s.heap.objs.size f cdv) (cxOf (L2.CX P w) P w K mg base N qual (defScope st) f cdv A outer s H E).xe →
      GSs (cxOf (L2.CX P w) P w K mg base N qual (defScope st) f cdv A outer s H E) (WE' E) (defBody st) m) :
    ∃ fd : FuncData, (∀ (s : Shared) (u : Value), BindsTo s fd ⟨[u], []⟩ [(p, u)]) ∧ ∀ base : Heap, K.In base → base.Ns mainGlobals mg → FnD P w K mg base (k + 1) f fd [p] (runF N.length m) := by
  obtain ⟨fd, F⟩ := D.ex
  refine ⟨fd, fun s u => ?_, fun base _ _ => fn_D F Sc (hbody base)⟩
  obtain ⟨oc, od, kV, doc, pm, an, cdv, ct, osl, rfl, _, _⟩ := F.ex
  exact .of_eq (hb kV doc pm an cdv ct u)
end
theorem fn_Dn {P : Program} {w : World} {K : PySem.W.Frag} {mg : Str → Option Value} {base : Heap} {x qual : Str} {st : Stmt} {f : Addr} {fd : FuncData} {N ps : List Str} {k n : Nat} {m : Rho → M CF} (F : Fun K x qual st f fd) (Sc : FnScope N ps (defScope st)) (hn : N.length = n)
    (hbody : ∀ (cdv : Value) (A : Around) (outer : List Env) (s : Shared) (H : Hp) (E : XK), RmG k (A.deeper (envOfC qual (defScope st) s.heap.objs.size f cdv)) →
      Takes (cxOf (L2.CX P w) P w K mg base N qual (defScope st) f cdv A outer s H E) (WE' E) → PassesOwn (model P w) (A.deeper (envOfC qual (defScope st) s.heap.objs.size f cdv)) (envOfC qual (defScope st) s.heap.objs.size f cdv) (cxOf (L2.CX P w) P w K mg base N qual (defScope st) f cdv A outer s H E).xe →
      GSs (cxOf (L2.CX P w) P w K mg base N qual (defScope st) f cdv A outer s H E) (WE' E) (defBody st) m) : FnD P w K mg base (k + 1) f fd ps (runF n m) := hn ▸ fn_D F Sc hbody
theorem noB_mk {K : PySem.W.Frag} {C : Addr} (h1 : PySem.W.kitOne K (.type "NoneType") (.ref C) = some false) (h2 : PySem.W.kitOne K (.type "bool") (.ref C) = some false) (h3 : PySem.W.kitOne K (.type "int") (.ref C) = some false) (h4 : PySem.W.kitOne K (.type "str") (.ref C) = some false)
    (h5 : PySem.W.kitOne K (.type "tuple") (.ref C) = some false) (h6 : PySem.W.kitOne K (.type "list") (.ref C) = some false) (h7 : PySem.W.kitOne K (.type "dict") (.ref C) = some false) : NoB K C := by
  intro t ht
  simp only [bTypes, List.mem_cons, List.not_mem_nil, or_false] at ht
  rcases ht with rfl | rfl | rfl | rfl | rfl | rfl | rfl <;> assumption
theorem nfB_mk {K : PySem.W.Frag} {C : Addr} (h1 : PySem.W.notFirst K C (.type "NoneType") = true) (h2 : PySem.W.notFirst K C (.type "bool") = true) (h3 : PySem.W.notFirst K C (.type "int") = true) (h4 : PySem.W.notFirst K C (.type "str") = true)
    (h5 : PySem.W.notFirst K C (.type "tuple") = true) (h6 : PySem.W.notFirst K C (.type "list") = true) (h7 : PySem.W.notFirst K C (.type "dict") = true) : ∀ t ∈ bTypes, PySem.W.notFirst K C (.type t) = true := by
  intro t ht
  simp only [bTypes, List.mem_cons, List.not_mem_nil, or_false] at ht
  rcases ht with rfl | rfl | rfl | rfl | rfl | rfl | rfl <;> assumption
end MW
set_option Elab.async false
set_option linter.all false
set_option maxRecDepth 100000
set_option maxHeartbeats 4000000
namespace MW
open PySem PySem.Spec PyProof.Rows L2
/-! ### plain reasoning about what the printed defs do -/
def Wp {α : Type} (r : Res α) (Q : α → Sto → Prop) (E : Str → List (Str × CV) → Sto → Prop) : Prop := match r with
  | .ok a S => Q a S
  | .exc c fs S => E c fs S
  | .bad => False
abbrev NoE : Str → List (Str × CV) → Sto → Prop := fun _ _ _ => False
section
variable {α β : Type} {r r' : Res α} {Q Q' : α → Sto → Prop} {E E' : Str → List (Str × CV) → Sto → Prop} {S S' : Sto} {ρ : Rho}
theorem wp_congr (h : r = r') : Wp r Q E = Wp r' Q E := h ▸ rfl
theorem Wp.ex (h : Wp r Q NoE) : ∃ a S, r = .ok a S ∧ Q a S := by
  cases r with
  | ok a S => exact ⟨a, S, rfl, h⟩
  | exc c fs S => exact h.elim
  | bad => exact h.elim
theorem Wp.imp (h : Wp r Q E) (k : ∀ a S, Q a S → Q' a S) (k' : ∀ c fs S, E c fs S → E' c fs S) : Wp r Q' E' := by
  cases r with
  | ok a S => exact k _ _ h
  | exc c fs S => exact k' _ _ _ h
  | bad => exact h
theorem Wp.mono (h : Wp r Q NoE) (k : ∀ a S, Q a S → Q' a S) : Wp r Q' E := h.imp k fun _ _ _ z => z.elim
theorem wp_eq {a : α} (h : r = .ok a S) : Wp r Q E = Q a S := by rw [h]; rfl
theorem wp_ok {a : α} : Wp (.ok a S) Q E = Q a S := rfl
theorem wp_bad : Wp (.bad : Res α) Q E = False := rfl
theorem wp_exc {c : Str} {fs : List (Str × CV)} : Wp (.exc c fs S : Res α) Q E = E c fs S := rfl
theorem wp_ret {a : α} : Wp (ret a S) Q E = Q a S := rfl
theorem wp_badM : Wp ((bad : M α) S) Q E = False := rfl
theorem wp_bnd {m : M β} {k : β → M α} : Wp (bnd m k S) Q E = Wp (m S) (fun a S1 => Wp (k a S1) Q E) E := by
  unfold bnd
  cases m S <;> rfl
theorem wp_Rbnd {r : Res β} {k : β → M α} : Wp (r.bnd k) Q E = Wp r (fun a S1 => Wp (k a S1) Q E) E := by cases r <;> rfl
theorem wp_calm : Wp (calmR r) Q E = Wp r Q NoE := by cases r <;> rfl
/-- under a test -/
theorem wp_ite {c : Bool} {a b : Res α} : Wp (if c then a else b) Q E = ((c = true → Wp a Q E) ∧ (c = false → Wp b Q E)) := by
  cases c <;> simp
theorem wp_iteM {c : Bool} {a b : M α} : Wp ((if c then a else b) S) Q E = ((c = true → Wp (a S) Q E) ∧ (c = false → Wp (b S) Q E)) := by
  cases c <;> simp
theorem wp_t {a b : M α} : Wp ((if true = true then a else b) S) Q E = Wp (a S) Q E := by rw [if_pos rfl]
theorem wp_f {a b : M α} : Wp ((if false = true then a else b) S) Q E = Wp (b S) Q E := by rw [if_neg (by decide)]
end
section
variable {Q : CV → Sto → Prop} {QB : Bool → Sto → Prop} {QL : List CV → Sto → Prop} {QF : CF → Sto → Prop} {QS : Src → Sto → Prop} {QO : Option Int → Sto → Prop} {QR : Rho → Sto → Prop} {E : Str → List (Str × CV) → Sto → Prop} {S S' : Sto} {ρ : Rho} {ma mb mc me mo mi mv : Rho → M CV} {mt mu : Rho → M Bool} {ms mk : Rho → M (List CV)} {m1 m2 : Rho → M CF} {m : List CV → M CV} {n : Nat} {x y : CV} {xs : List CV}
theorem wp_var {i : Nat} : Wp (mVar i ρ S) Q E = (match ρ[i]? with | some (some c) => Q c S | _ => False) := by
  unfold mVar
  cases e : ρ[i]? with
  | none => rfl
  | some o => cases o <;> rfl
theorem wp_c {c : CV} : Wp (mC c ρ S) Q E = Q c S := rfl
theorem wp_op {g : CV → CV → M CV} : Wp (mOp g ma mb ρ S) Q E = Wp (ma ρ S) (fun x S1 => Wp (mb ρ S1) (fun y S2 => Wp (g x y S2) Q E) E) E := by
  unfold mOp; rw [wp_bnd]; congr; funext x S1; rw [wp_bnd]
theorem wp_un {g : CV → M CV} : Wp (mUn g ma ρ S) Q E = Wp (ma ρ S) (fun x S1 => Wp (g x S1) Q E) E := wp_bnd
theorem wp_fn {g : List CV → M CV} : Wp (mFn g ms ρ S) Q E = Wp (ms ρ S) (fun x S1 => Wp (g x S1) Q E) E := wp_bnd
theorem wp_app : Wp (app n m xs S) Q E = (if xs.length = n then Wp (m xs S) Q E else False) := by unfold app; split <;> rfl
theorem wp_ap : Wp (mAp n m ms ρ S) Q E = Wp (ms ρ S) (fun xs S1 => Wp (app n m xs S1) Q E) E := wp_bnd
theorem wp_nil : Wp (mNil ρ S) QL E = QL [] S := rfl
theorem wp_cons : Wp (mCons ma ms ρ S) QL E = Wp (ma ρ S) (fun x S1 => Wp (ms ρ S1) (fun xs S2 => QL (x :: xs) S2) E) E := by
  unfold mCons; rw [wp_bnd]; congr; funext x S1; rw [wp_bnd]; rfl
theorem wp_mkTup : Wp (mkTup xs S) Q E = (if xs.length ≤ sizeLine then Q (.tup xs) S else False) := by unfold mkTup; split <;> rfl
theorem wp_mkLst : Wp (mkLst xs S) Q E = (if xs.length ≤ sizeLine then Q (.ref S.length) (S ++ [.lst xs]) else False) := by unfold mkLst; split <;> rfl
theorem wp_tup : Wp (mTup ms ρ S) Q E = Wp (ms ρ S) (fun xs S1 => Wp (mkTup xs S1) Q E) E := wp_bnd
theorem wp_lst : Wp (mLst ms ρ S) Q E = Wp (ms ρ S) (fun xs S1 => Wp (mkLst xs S1) Q E) E := wp_bnd
theorem wp_asB {b : Bool} : Wp (asB (.bl b) S) QB E = QB b S := rfl
theorem wp_test : Wp (mTest ma ρ S) QB E = Wp (ma ρ S) (fun x S1 => Wp (asB x S1) QB E) E := wp_bnd
theorem wp_tru {g : CV → M Bool} : Wp (mTru g ma ρ S) QB E = Wp (ma ρ S) (fun x S1 => Wp (g x S1) QB E) E := wp_bnd
theorem wp_and : Wp (mAnd mt mu ρ S) QB E = Wp (mt ρ S) (fun c S1 => Wp ((if c then mu ρ else ret false) S1) QB E) E := wp_bnd
theorem wp_or : Wp (mOr mt mu ρ S) QB E = Wp (mt ρ S) (fun c S1 => Wp ((if c then ret true else mu ρ) S1) QB E) E := wp_bnd
theorem wp_not : Wp (mNot mt ρ S) QB E = Wp (mt ρ S) (fun c S1 => QB (!c) S1) E := wp_bnd
theorem wp_if : Wp (mIf mt ma mb ρ S) Q E = Wp (mt ρ S) (fun c S1 => Wp ((if c then ma ρ else mb ρ) S1) Q E) E := wp_bnd
theorem wp_andV {g : CV → M Bool} : Wp (mAndV g ma mb ρ S) Q E = Wp (ma ρ S) (fun x S1 => Wp (g x S1) (fun c S2 => Wp ((if c then mb ρ else ret x) S2) Q E) E) E := by
  unfold mAndV; rw [wp_bnd]; congr; funext x S1; rw [wp_bnd]
theorem wp_orV {g : CV → M Bool} : Wp (mOrV g ma mb ρ S) Q E = Wp (ma ρ S) (fun x S1 => Wp (g x S1) (fun c S2 => Wp ((if c then ret x else mb ρ) S2) Q E) E) E := by
  unfold mOrV; rw [wp_bnd]; congr; funext x S1; rw [wp_bnd]
theorem wp_notV {g : CV → M Bool} : Wp (mNotV g ma ρ S) Q E = Wp (ma ρ S) (fun x S1 => Wp (g x S1) (fun c S2 => Q (.bl (!c)) S2) E) E := by
  unfold mNotV; rw [wp_bnd]; congr; funext x S1; rw [wp_bnd]; rfl
theorem wp_yes : Wp (mYes ρ S) QB E = QB true S := rfl
/-! statements -/
def seqK (m2 : Rho → M CF) (Q : CF → Sto → Prop) (E : Str → List (Str × CV) → Sto → Prop) : CF → Sto → Prop
  | .nx ρ, S => Wp (m2 ρ S) Q E
  | c, S => Q c S
theorem seqK_nx {ρ : Rho} : seqK m2 QF E (.nx ρ) S = Wp (m2 ρ S) QF E := rfl
theorem seqK_rt {c : CV} : seqK m2 QF E (.rt c) S = QF (.rt c) S := rfl
theorem seqK_bk {ρ : Rho} : seqK m2 QF E (.bk ρ) S = QF (.bk ρ) S := rfl
theorem seqK_ct {ρ : Rho} : seqK m2 QF E (.ct ρ) S = QF (.ct ρ) S := rfl
theorem seqK_xc {c : Str} {fs : List (Str × CV)} {ρ : Rho} : seqK m2 QF E (.xc c fs ρ) S = QF (.xc c fs ρ) S := rfl
theorem wp_seq : Wp (sSeq m1 m2 ρ S) QF E = Wp (m1 ρ S) (seqK m2 QF E) E := by
  unfold sSeq
  cases m1 ρ S with
  | ok c S1 => cases c <;> rfl
  | exc c fs S1 => rfl
  | bad => rfl
theorem wp_lft {α : Type} {r : Res α} {k : α → M CF} : Wp (lft ρ r k) QF E = Wp r (fun a S1 => Wp (k a S1) QF E) (fun c fs S1 => QF (.xc c fs ρ) S1) := by cases r <;> rfl
theorem wp_next : Wp (sNext ρ S) QF E = QF (.nx ρ) S := rfl
theorem wp_brk : Wp (sBreak ρ S) QF E = QF (.bk ρ) S := rfl
theorem wp_cont : Wp (sCont ρ S) QF E = QF (.ct ρ) S := rfl
theorem wp_sbad : Wp (sBad ρ S) QF E = False := rfl
theorem wp_expr : Wp (sExpr me ρ S) QF E = Wp (me ρ S) (fun _ S1 => QF (.nx ρ) S1) (fun c fs S1 => QF (.xc c fs ρ) S1) := wp_lft
theorem wp_sret : Wp (sRet me ρ S) QF E = Wp (me ρ S) (fun v S1 => QF (.rt v) S1) (fun c fs S1 => QF (.xc c fs ρ) S1) := wp_lft
theorem wp_sretN : Wp (sRetN ρ S) QF E = QF (.rt .non) S := rfl
theorem wp_sif : Wp (sIf mt m1 m2 ρ S) QF E = Wp (mt ρ S) (fun c S1 => Wp ((if c then m1 ρ else m2 ρ) S1) QF E) (fun c fs S1 => QF (.xc c fs ρ) S1) := wp_lft
theorem wp_asg {g : CV → Rho → M Rho} : Wp (sAsg me g ρ S) QF E = Wp (me ρ S) (fun x S1 => Wp (g x ρ S1) (fun ρ' S2 => QF (.nx ρ') S2) (fun c fs S2 => QF (.xc c fs ρ) S2)) (fun c fs S1 => QF (.xc c fs ρ) S1) := by
  unfold sAsg; rw [wp_lft]; congr; funext x S1; rw [wp_lft]; rfl
theorem wp_gN {i : Nat} : Wp (gN i x ρ S) QR E = QR (ρ.set i (some x)) S := rfl
theorem wp_gT {is : List Nat} : Wp (gT is (.tup xs) ρ S) QR E = (match gNs is xs ρ with | some ρ' => QR ρ' S | none => False) := by
  unfold gT
  dsimp only
  cases gNs is xs ρ <;> rfl
theorem wp_par {i j : Nat} : Wp (sPar i j ms ρ S) QF E = Wp (ms ρ S) (fun xs S1 => match xs with | [x, y] => QF (.nx ((ρ.set i (some x)).set j (some y))) S1 | _ => False) (fun c fs S1 => QF (.xc c fs ρ) S1) := by
  unfold sPar; rw [wp_lft]; congr; funext xs S1
  match xs with
  | [] => rfl
  | [_] => rfl
  | [_, _] => rfl
  | _ :: _ :: _ :: _ => rfl
theorem wp_gIx : Wp (gIx mo mi x ρ S) QR E = Wp (mo ρ S) (fun o S1 => Wp (mi ρ S1) (fun i S2 => Wp (setIxC o i x S2) (fun _ S3 => QR ρ S3) E) E) E := by
  unfold gIx; rw [wp_bnd]; congr; funext o S1; rw [wp_bnd]; congr; funext i S2; rw [wp_bnd]; rfl
theorem wp_fld {f : Str} {tbl : List Str} : Wp (sFldC f tbl mo mv ρ S) QF E = Wp (mv ρ S) (fun y S1 => Wp (mo ρ S1) (fun x S2 => Wp (setF f tbl x y S2) (fun _ S3 => QF (.nx ρ) S3) (fun c fs S3 => QF (.xc c fs ρ) S3)) (fun c fs S2 => QF (.xc c fs ρ) S2)) (fun c fs S1 => QF (.xc c fs ρ) S1) := by
  unfold sFldC; rw [wp_lft]; congr; funext y S1; rw [wp_lft]; congr; funext x S2; rw [wp_lft]; rfl
/-! a def's run -/
def finK (Q : CV → Sto → Prop) (E : Str → List (Str × CV) → Sto → Prop) : CF → Sto → Prop
  | .nx _, S => Q .non S
  | .rt c, S => Q c S
  | .xc c fs _, S => E c fs S
  | _, _ => False
theorem finK_nx {ρ : Rho} : finK Q E (.nx ρ) S = Q .non S := rfl
theorem finK_rt {c : CV} : finK Q E (.rt c) S = Q c S := rfl
theorem finK_xc {c : Str} {fs : List (Str × CV)} {ρ : Rho} : finK Q E (.xc c fs ρ) S = E c fs S := rfl
theorem wp_run {cs : List CV} {mb : Rho → M CF} : Wp (runF n mb cs S) Q E = Wp (mb (startC n cs) S) (finK Q E) NoE := by
  unfold runF
  cases mb (startC n cs) S with
  | ok c S1 => cases c <;> rfl
  | exc c fs S1 => rfl
  | bad => rfl
/-! making, methods, attributes -/
theorem wp_mkIns {c : Str} {cs : List CV} : Wp (mkIns c n m cs S) Q E = Wp (app n m (.ref S.length :: cs) (S ++ [.ins c []])) (fun r S' => match r with | .non => Q (.ref S.length) S' | _ => False) E := by
  unfold mkIns; rw [wp_Rbnd]; congr; funext r S1; cases r <;> rfl
theorem wp_mk {c : Str} : Wp (mMk c n m ms ρ S) Q E = Wp (ms ρ S) (fun xs S1 => Wp (mkIns c n m xs S1) Q E) E := wp_bnd
theorem wp_fmt {g : CV → M CV} : Wp (mUn g ma ρ S) Q E = Wp (ma ρ S) (fun x S1 => Wp (g x S1) Q E) E := wp_bnd
/-! sources and loops -/
theorem wp_srcT : Wp (srcC (.tup xs) S) QS E = QS ⟨xs, none⟩ S := rfl
theorem wp_src : Wp (mSrc me ρ S) QS E = Wp (me ρ S) (fun x S1 => Wp (srcC x S1) QS E) E := wp_bnd
theorem wp_rng1 : Wp (mRng1 ms ρ S) QS E = Wp (ms ρ S) (fun x S1 => Wp (rng1 x S1) QS E) E := wp_bnd
theorem wp_rng2 : Wp (mRng2 ms ρ S) QS E = Wp (ms ρ S) (fun x S1 => Wp (rng2 x S1) QS E) E := wp_bnd
theorem wp_for {g : CV → Rho → M Rho} {mb : Rho → M CF} {mi : Rho → M Src} : Wp (sFor mi g mb ρ S) QF E = Wp (mi ρ S) (fun src S1 => Wp (forIt src.chk g mb src.items ρ S1) QF E) (fun c fs S1 => QF (.xc c fs ρ) S1) := wp_lft
def forK (next : Rho → Sto → Prop) (Q : CF → Sto → Prop) : CF → Sto → Prop
  | .nx ρ, S => next ρ S
  | .ct ρ, S => next ρ S
  | .bk ρ, S => Q (.nx ρ) S
  | c, S => Q c S
theorem forK_nx {next : Rho → Sto → Prop} {ρ : Rho} : forK next QF (.nx ρ) S = next ρ S := rfl
theorem forK_ct {next : Rho → Sto → Prop} {ρ : Rho} : forK next QF (.ct ρ) S = next ρ S := rfl
theorem forK_bk {next : Rho → Sto → Prop} {ρ : Rho} : forK next QF (.bk ρ) S = QF (.nx ρ) S := rfl
theorem forK_rt {next : Rho → Sto → Prop} {c : CV} : forK next QF (.rt c) S = QF (.rt c) S := rfl
theorem wp_for0 {chk : Sto → Bool} {g : CV → Rho → M Rho} {mb : Rho → M CF} : Wp (forIt chk g mb [] ρ S) QF E = (if chk S = true then QF (.nx ρ) S else False) := by
  unfold forIt; split <;> rfl
theorem wp_for1 {chk : Sto → Bool} {g : CV → Rho → M Rho} {mb : Rho → M CF} : Wp (forIt chk g mb (x :: xs) ρ S) QF E = (if chk S = true then Wp (g x ρ S) (fun ρ1 S1 => Wp (mb ρ1 S1) (forK (fun ρ2 S2 => Wp (forIt chk g mb xs ρ2 S2) QF E) QF) E) (fun c fs S1 => QF (.xc c fs ρ) S1) else False) := by
  rw [forIt]
  split
  · rw [wp_lft]; congr; funext ρ1 S1
    cases mb ρ1 S1 with
    | ok c S2 => cases c <;> rfl
    | exc c fs S2 => rfl
    | bad => rfl
  · rfl
/-- a for with an invariant -/
theorem for_inv {chk : Sto → Bool} {g : CV → Rho → M Rho} {mb : Rho → M CF} (I : List CV → Rho → Sto → Prop) (h0 : I xs ρ S) (hc : ∀ l ρ S, I l ρ S → chk S = true)
    (hs : ∀ x l ρ S, I (x :: l) ρ S → Wp (g x ρ S) (fun ρ1 S1 => Wp (mb ρ1 S1) (forK (I l) QF) E) (fun c fs S1 => QF (.xc c fs ρ) S1)) (he : ∀ ρ S, I [] ρ S → QF (.nx ρ) S) : Wp (forIt chk g mb xs ρ S) QF E := by
  induction xs generalizing ρ S with
  | nil => rw [wp_for0, if_pos (hc _ _ _ h0)]; exact he _ _ h0
  | cons x l ih =>
    rw [wp_for1, if_pos (hc _ _ _ h0)]
    refine (hs _ _ _ _ h0).imp (fun ρ1 S1 h1 => h1.imp (fun c S2 h2 => ?_) fun _ _ _ z => z) fun _ _ _ z => z
    cases c with
    | nx ρ2 => exact ih h2
    | ct ρ2 => exact ih h2
    | bk ρ2 => exact h2
    | rt v => exact h2
    | xc c fs ρ2 => exact h2
end
/-! lookups -/
theorem look_new {S l : Sto} {k : Nat} : (S ++ l)[S.length + k]? = l[k]? := by
  rw [List.getElem?_append_right (by omega)]; congr 1; omega
theorem look_new0 {S l : Sto} : (S ++ l)[S.length]? = l[0]? := look_new (k := 0)
theorem look_old {S l : Sto} {n : Nat} {o : CO} (h : S[n]? = some o) : (S ++ l)[n]? = some o := by
  rw [List.getElem?_append_left (List.getElem?_eq_some_iff.mp h).1]; exact h
theorem set_new {S l : Sto} {k : Nat} {o : CO} : (S ++ l).set (S.length + k) o = S ++ l.set k o := by
  have h : ∀ (S l : List CO) (k : Nat), (S ++ l).set (S.length + k) o = S ++ l.set k o := by
    intro S
    induction S with
    | nil => intro l k; simp
    | cons a S ih => intro l k; rw [List.length_cons, Nat.add_right_comm, List.cons_append, List.set_cons_succ, ih]; rfl
  exact h S l k
theorem set_new0 {S l : Sto} {o : CO} : (S ++ l).set S.length o = S ++ l.set 0 o := set_new (k := 0)
end MW
set_option Elab.async false
set_option linter.all false
set_option maxRecDepth 100000
set_option maxHeartbeats 400000
namespace MW
open PySem PySem.Spec PyProof.Rows L2
section
variable {Q : CV → Sto → Prop} {QB : Bool → Sto → Prop} {QU : Unit → Sto → Prop} {QS : Src → Sto → Prop} {E : Str → List (Str × CV) → Sto → Prop} {S S' : Sto} {i j : Int} {a b : Str} {x y : CV} {xs ys : List CV} {n k : Nat}
/-! ### operations on values that are known by kind -/
theorem atI_0 {α : Type} {u : α} {l : List α} : atI (u :: l) 0 = some u := by
  unfold atI ixN
  rw [if_pos (by decide), if_pos (by simp only [List.length_cons]; omega)]; rfl
theorem atI_1 {α : Type} {u v : α} {l : List α} : atI (u :: v :: l) 1 = some v := by
  unfold atI ixN
  rw [if_pos (by decide), if_pos (by simp only [List.length_cons]; omega)]; rfl
theorem atI_2 {α : Type} {u v w : α} {l : List α} : atI (u :: v :: w :: l) 2 = some w := by
  unfold atI ixN
  rw [if_pos (by decide), if_pos (by simp only [List.length_cons]; omega)]; rfl
theorem atI_3 {α : Type} {u v w z : α} {l : List α} : atI (u :: v :: w :: z :: l) 3 = some z := by
  unfold atI ixN
  rw [if_pos (by decide), if_pos (by simp only [List.length_cons]; omega)]; rfl
theorem atI_nat {α : Type} {l : List α} {i : Int} (h0 : 0 ≤ i) (h : i < l.length) : atI l i = l[i.toNat]? := by
  unfold atI ixN
  rw [if_pos h0, if_pos h]; rfl
theorem wp_add_i : Wp (addC (.int i) (.int j) S) Q E = Q (.int (i + j)) S := rfl
theorem wp_add_s : Wp (addC (.str a) (.str b) S) Q E = (if a.length + b.length ≤ sizeLine then Q (.str (a ++ b)) S else False) := by
  show Wp (if _ then _ else _) Q E = _
  split <;> rfl
theorem wp_sub_i : Wp (subC (.int i) (.int j) S) Q E = Q (.int (i - j)) S := rfl
theorem wp_mul_i : Wp (mulC (.int i) (.int j) S) Q E = (if (-(2 ^ 64) < i ∧ i < 2 ^ 64) ∨ (-(2 ^ 64) < j ∧ j < 2 ^ 64) then Q (.int (i * j)) S else False) := by
  show Wp (if _ then _ else _) Q E = _
  split <;> rfl
theorem wp_mod_i : Wp (modC (.int i) (.int j) S) Q E = (if j ≠ 0 then Q (.int (i.fmod j)) S else False) := by
  show Wp (if decide _ = true then _ else _) Q E = _
  by_cases h : j ≠ 0
  · rw [if_pos (decide_eq_true h), if_pos h]; rfl
  · rw [if_neg (by simpa using h), if_neg h]; rfl
theorem wp_fdiv_i : Wp (fdivC (.int i) (.int j) S) Q E = (if j ≠ 0 ∧ j.natAbs < 1073741824 then Q (.int (i.fdiv j)) S else False) := by
  show Wp (if decide _ = true then _ else _) Q E = _
  by_cases h : j ≠ 0 ∧ j.natAbs < 1073741824
  · rw [if_pos (decide_eq_true h), if_pos h]; rfl
  · rw [if_neg (by simpa using h), if_neg h]; rfl
theorem wp_pow_i : Wp (powC (.int i) (.int j) S) Q E = (if 0 ≤ j ∧ j ≤ 1000000 ∧ i.natAbs < 2 ^ 64 then Q (.int (i ^ j.toNat)) S else False) := by
  show Wp (if decide _ = true then _ else _) Q E = _
  by_cases h : 0 ≤ j ∧ j ≤ 1000000 ∧ i.natAbs < 2 ^ 64
  · rw [if_pos (decide_eq_true h), if_pos h]; rfl
  · rw [if_neg (by simpa using h), if_neg h]; rfl
theorem wp_lt_i : Wp (ltC (.int i) (.int j) S) Q E = Q (.bl (decide (i < j))) S := rfl
theorem wp_le_i : Wp (leC (.int i) (.int j) S) Q E = Q (.bl (decide (i ≤ j))) S := rfl
theorem wp_gt_i : Wp (gtC (.int i) (.int j) S) Q E = Q (.bl (decide (j < i))) S := rfl
theorem wp_ge_i : Wp (geC (.int i) (.int j) S) Q E = Q (.bl (decide (j ≤ i))) S := rfl
theorem wp_lt_s : Wp (ltC (.str a) (.str b) S) Q E = Q (.bl (decide (a.cps.toList < b.cps.toList))) S := rfl
theorem wp_le_s : Wp (leC (.str a) (.str b) S) Q E = Q (.bl (!decide (b.cps.toList < a.cps.toList))) S := rfl
theorem wp_eq_i : Wp (eqC (.int i) (.int j) S) Q E = Q (.bl (i == j)) S := rfl
theorem wp_ne_i : Wp (neC (.int i) (.int j) S) Q E = Q (.bl (!(i == j))) S := rfl
theorem wp_eq_s : Wp (eqC (.str a) (.str b) S) Q E = Q (.bl (a == b)) S := rfl
theorem wp_ne_s : Wp (neC (.str a) (.str b) S) Q E = Q (.bl (!(a == b))) S := rfl
theorem wp_ix_t : Wp (ixC (.tup xs) (.int i) S) Q E = (match atI xs i with | some v => Q v S | none => False) := by
  show Wp (match atI xs i with | some v => _ | none => _) Q E = _
  cases atI xs i <;> rfl
theorem wp_ix_l : Wp (ixC (.ref n) (.int i) S) Q E = (match S[n]? with | some (.lst xs) => (match atI xs i with | some v => Q v S | none => False) | _ => False) := by
  unfold ixC
  dsimp only
  cases S[n]? with
  | none => rfl
  | some o => cases o with
    | lst xs => dsimp only; cases atI xs i <;> rfl
    | _ => rfl
theorem wp_ix_s : Wp (ixC (.str a) (.int i) S) Q E = (if a.length ≤ sizeLine then (match atI a.cps.toList i with | some v => Q (.str ⟨#[v]⟩) S | none => False) else False) := by
  unfold ixC
  dsimp only
  split
  · cases atI a.cps.toList i <;> rfl
  · rfl
theorem wp_setIx : Wp (setIxC (.ref n) (.int i) x S) QU E = (match S[n]? with | some (.lst xs) => (match ixN xs.length i with | some j => QU () (S.set n (.lst (xs.set j x))) | none => False) | _ => False) := by
  unfold setIxC
  dsimp only
  cases S[n]? with
  | none => rfl
  | some o => cases o with
    | lst xs => dsimp only; cases ixN xs.length i <;> rfl
    | _ => rfl
theorem wp_len_s : Wp (lenC [.str a] S) Q E = (if a.length ≤ sizeLine then Q (.int a.length) S else False) := by
  show Wp (if _ then _ else _) Q E = _
  split <;> rfl
theorem wp_len_t : Wp (lenC [.tup xs] S) Q E = Q (.int xs.length) S := rfl
theorem wp_len_l : Wp (lenC [.ref n] S) Q E = (match S[n]? with | some (.lst xs) => Q (.int xs.length) S | _ => False) := by
  unfold lenC
  dsimp only
  cases S[n]? with
  | none => rfl
  | some o => cases o <;> rfl
theorem wp_abs : Wp (absC [.int i] S) Q E = Q (.int (if i < 0 then -i else i)) S := rfl
theorem wp_int : Wp (intC [.int i] S) Q E = Q (.int i) S := rfl
theorem wp_int_b {b : Bool} : Wp (intC [.bl b] S) Q E = Q (.int (if b then 1 else 0)) S := rfl
theorem wp_tru_b {b : Bool} : Wp (truC (.bl b) S) QB E = QB b S := rfl
theorem wp_tru_i : Wp (truC (.int i) S) QB E = QB (i != 0) S := rfl
theorem wp_tru_non : Wp (truC .non S) QB E = QB false S := rfl
theorem wp_tru_t : Wp (truC (.tup xs) S) QB E = QB (!xs.isEmpty) S := rfl
theorem wp_src_l : Wp (srcC (.ref n) S) QS E = (match S[n]? with | some (.lst xs) => QS ⟨xs, some (n, .lst xs)⟩ S | _ => False) := by
  unfold srcC
  dsimp only
  cases S[n]? with
  | none => rfl
  | some o => cases o <;> rfl
variable {tbl : List (Str × (List CV → M CV))} {cs : List (Str × Str)} {bs : List Str} {fin : Bool → Bool} {other : CV → CV → M CV}
theorem wp_cmp_i : Wp (cmpOwn tbl cs bs fin other (.int i) y S) Q E = Wp (other (.int i) y S) Q E := rfl
theorem wp_cmp_s : Wp (cmpOwn tbl cs bs fin other (.str a) y S) Q E = Wp (other (.str a) y S) Q E := rfl
theorem wp_cmp_b {b : Bool} : Wp (cmpOwn tbl cs bs fin other (.bl b) y S) Q E = Wp (other (.bl b) y S) Q E := rfl
theorem wp_cmp_t : Wp (cmpOwn tbl cs bs fin other (.tup xs) y S) Q E = Wp (other (.tup xs) y S) Q E := rfl
theorem wp_cmp_non : Wp (cmpOwn tbl cs bs fin other .non y S) Q E = Wp (other .non y S) Q E := rfl
theorem wp_cmp_l (h : S[n]? = some (.lst xs)) : Wp (cmpOwn tbl cs bs fin other (.ref n) y S) Q E = Wp (other (.ref n) y S) Q E := by
  have e1 : ownAt tbl (.ref n) S = none := by unfold ownAt; dsimp only; rw [h]
  have e2 : kindO S (.ref n) = none := by unfold kindO; dsimp only; rw [h]
  unfold cmpOwn
  rw [e1, e2]
/-- a list of ints against [] -/
theorem mapM_ints {f : CV → Option PyData} (hf : ∀ i, f (.int i) = some (.int i)) : ∀ l : List Int, (l.map CV.int).mapM f = some (l.map PyData.int)
  | [] => rfl
  | i :: l => by rw [List.map_cons, List.mapM_cons, hf, mapM_ints hf l]; rfl
theorem lay_ints : ∀ l : List Int, PyData.canLayAll0 (l.map PyData.int) = true
  | [] => by simp [PyData.canLayAll0]
  | i :: l => by simp only [List.map_cons, PyData.canLayAll0, lay_ints l]; simp [PyData.canLay0]
theorem depth_ints : ∀ l : List Int, PyData.depthAll (l.map PyData.int) = 0
  | [] => by simp [PyData.depthAll]
  | i :: l => by simp only [List.map_cons, PyData.depthAll, depth_ints l]; simp [PyData.depth]
theorem wp_ne_nil {l : List Int} (h : S[n]? = some (.lst (l.map CV.int))) (h' : S[k]? = some (.lst [])) : Wp (neC (.ref n) (.ref k) S) Q E = Q (.bl (!l.isEmpty)) S := by
  have e1 : toD S 40 (.ref n) = some (.list (l.map PyData.int)) := by
    show (match S[n]? with | some (.lst xs) => (xs.mapM (toD S 39)).map PyData.list | _ => none) = _
    rw [h]
    show ((l.map CV.int).mapM (toD S 39)).map PyData.list = _
    rw [mapM_ints (fun i => rfl)]; rfl
  have e2 : toD S 40 (.ref k) = some (.list []) := by
    show (match S[k]? with | some (.lst xs) => (xs.mapM (toD S 39)).map PyData.list | _ => none) = _
    rw [h']; rfl
  have e3 : eqD S (.ref n) (.ref k) = some l.isEmpty := by
    unfold eqD
    rw [e1, e2]
    have s1 : SeqAt.shaped (.list (l.map PyData.int)) = true := by
      simp only [SeqAt.shaped, PyData.canLay0, lay_ints, PyData.depth, depth_ints]; decide
    have s2 : SeqAt.shaped (.list []) = true := by decide
    dsimp only
    rw [s1, s2]
    cases l <;> simp [PyData.eqv, PyData.eqvAll]
  show Wp (match eqD S (.ref n) (.ref k) with | some b => _ | none => _) Q E = _
  rw [e3]; rfl
end
section
variable {Q : CV → Sto → Prop} {E : Str → List (Str × CV) → Sto → Prop} {S S' : Sto} {x y : CV} {xs ys : List CV} {n k : Nat}
theorem ite_F {C X : Prop} [Decidable C] : (if C then X else False) = (C ∧ X) := by
  by_cases h : C <;> simp [h]
def ownR (fin : Bool → Bool) (Q : CV → Sto → Prop) : CV → Sto → Prop
  | .bl b, S => Q (.bl (fin b)) S
  | _, _ => False
theorem ownR_b {fin : Bool → Bool} {b : Bool} : ownR fin Q (.bl b) S = Q (.bl (fin b)) S := rfl
theorem wp_cmp_r {tbl : List (Str × (List CV → M CV))} {cs : List (Str × Str)} {bs : List Str} {fin : Bool → Bool} {other : CV → CV → M CV} : Wp (cmpOwn tbl cs bs fin other (.ref n) y S) Q E = (match S[n]? with
    | some (.ins c _) => (match tbl.lookup c with
      | some m => if mayR cs bs c S y = true then Wp (app 2 m [.ref n, y] S) (ownR fin Q) E else False
      | none => Wp (other (.ref n) y S) Q E)
    | _ => Wp (other (.ref n) y S) Q E) := by
  unfold cmpOwn ownAt kindO
  dsimp only
  cases S[n]? with
  | none => rfl
  | some o => cases o with
    | ins c fs =>
      dsimp only
      cases tbl.lookup c with
      | none => rfl
      | some m =>
        dsimp only
        split
        · rw [wp_Rbnd]; congr; funext r S1; cases r <;> rfl
        · rfl
    | _ => rfl
theorem wp_ne_r : Wp (neC (.ref n) y S) Q E = (match eqD S (.ref n) y with | some b => Q (.bl (!b)) S | none => False) := by
  show Wp (match eqD S _ y with | some b => _ | none => _) Q E = _; cases eqD S (.ref n) y <;> rfl
theorem wp_eq_r : Wp (eqC (.ref n) y S) Q E = (match eqD S (.ref n) y with | some b => Q (.bl b) S | none => False) := by
  show Wp (match eqD S _ y with | some b => _ | none => _) Q E = _; cases eqD S (.ref n) y <;> rfl
theorem wp_ne_t : Wp (neC (.tup xs) y S) Q E = (match eqD S (.tup xs) y with | some b => Q (.bl (!b)) S | none => False) := by
  show Wp (match eqD S _ y with | some b => _ | none => _) Q E = _; cases eqD S (.tup xs) y <;> rfl
theorem wp_eq_t : Wp (eqC (.tup xs) y S) Q E = (match eqD S (.tup xs) y with | some b => Q (.bl b) S | none => False) := by
  show Wp (match eqD S _ y with | some b => _ | none => _) Q E = _; cases eqD S (.tup xs) y <;> rfl
theorem eqD_nil {l : List Int} (h : S[n]? = some (.lst (l.map CV.int))) (h' : S[k]? = some (.lst [])) : eqD S (.ref n) (.ref k) = some l.isEmpty := by
  cases e : eqD S (.ref n) (.ref k) with
  | none =>
    have q := wp_ne_nil (Q := fun _ _ => True) (E := fun _ _ _ => False) h h'
    rw [wp_ne_r, e] at q
    exact (false_ne_true q).elim
  | some b =>
    have q := wp_ne_nil (Q := fun v _ => v = .bl (!b)) (E := fun _ _ _ => False) h h'
    rw [wp_ne_r, e] at q
    have q2 : CV.bl (!l.isEmpty) = CV.bl (!b) := by rw [← q]
    injection q2 with q3
    cases l with
    | nil => cases b <;> simp_all
    | cons z zs => cases b <;> simp_all
end
/-! bounds -/
def Bd (x : Int) (B : Nat) : Prop := 0 ≤ x ∧ x ≤ B
theorem Bd.add {x y : Int} {B C : Nat} (h : Bd x B) (h' : Bd y C) : Bd (x + y) (B + C) := ⟨Int.add_nonneg h.1 h'.1, by have := h.2; have := h'.2; omega⟩
theorem Bd.mul {x y : Int} {B C : Nat} (h : Bd x B) (h' : Bd y C) : Bd (x * y) (B * C) := ⟨Int.mul_nonneg h.1 h'.1, by
  rw [Int.natCast_mul]
  exact Int.mul_le_mul h.2 h'.2 h'.1 (Int.natCast_nonneg _)⟩
theorem Bd.fmod {x m : Int} (h : 0 < m) : Bd (x.fmod m) m.toNat := ⟨Int.fmod_nonneg_of_pos x h, by have := Int.fmod_lt_of_pos x h; omega⟩
theorem Bd.lit {k : Int} (h : 0 ≤ k) : Bd k k.toNat := ⟨h, by omega⟩
theorem Bd.nat {x : Int} {B C : Nat} (h : Bd x B) (l : B < C) : x.natAbs < C := by have := h.1; have := h.2; omega
/-! ### the pen -/
structure PenAt (p c : Nat) (cells : List Int) (T : Int) (S : Sto) : Prop where
  ex : ∃ t r, S[p]? = some (.lst [.ref c, .int t, .int r]) ∧ S[c]? = some (.lst (cells.map .int)) ∧ 0 ≤ t ∧ t ≤ T ∧ 0 ≤ r ∧ p ≠ c ∧ cells.length ≤ 63
/-- the store grows, and nothing old changes, but p -/
def Ext (p : Nat) (S S' : Sto) : Prop := ∀ n o, n ≠ p → S[n]? = some o → S'[n]? = some o
theorem Ext.refl {p : Nat} {S : Sto} : Ext p S S := fun _ _ _ h => h
theorem Ext.trans {p : Nat} {S S1 S2 : Sto} (h : Ext p S S1) (h' : Ext p S1 S2) : Ext p S S2 := fun n o a b => h' n o a (h n o a b)
theorem Ext.app {p : Nat} {S l : Sto} : Ext p S (S ++ l) := fun _ _ _ h => look_old h
theorem Ext.set {p : Nat} {S : Sto} {o : CO} : Ext p S (S.set p o) := fun n o' h e => by rw [List.getElem?_set_ne (Ne.symm h)]; exact e
theorem PenAt.app {p c : Nat} {cells : List Int} {T : Int} {S l : Sto} (h : PenAt p c cells T S) : PenAt p c cells T (S ++ l) := by
  obtain ⟨t, r, h1, h2, h3⟩ := h
  exact ⟨t, r, look_old h1, look_old h2, h3⟩
theorem PenAt.le {p c : Nat} {cells : List Int} {T T' : Int} {S : Sto} (h : PenAt p c cells T S) (l : T ≤ T') : PenAt p c cells T' S := by
  obtain ⟨t, r, h1, h2, h3, h4, h5⟩ := h
  exact ⟨t, r, h1, h2, h3, by omega, h5⟩
end MW
set_option Elab.async false
set_option linter.all false
set_option maxRecDepth 100000
set_option maxHeartbeats 400000
namespace MW
open PySem PySem.Spec PyProof.Rows L2
section
variable {Q : CV → Sto → Prop} {QB : Bool → Sto → Prop} {QU : Unit → Sto → Prop} {QL : List CV → Sto → Prop} {QO : Option Int → Sto → Prop} {QY : Str → Sto → Prop} {E : Str → List (Str × CV) → Sto → Prop} {S S' : Sto} {i j : Int} {a b : Str} {x y : CV} {xs ys : List CV} {n k : Nat} {ρ : Rho} {ma mb me mo : Rho → M CV} {mt : Rho → M Bool} {ms mk : Rho → M (List CV)} {m : List CV → M CV}
/-! isinstance -/
variable {tN : List Str} {tO : List ((Str × Str) × Bool)} {tB : List ((Str × String) × Bool)} {T : String} {d : Str}
theorem wp_isiT : Wp (isiC tN tO tB [x, .ty T] S) Q E = (match kindB S x with
    | some t => if T ∈ bTypes then Q (.bl (isiB t T)) S else False
    | none => match kindO S x with
      | some c => (match tB.lookup (c, T) with | some r => Q (.bl r) S | none => False)
      | none => False) := by
  show Wp (match kindB S x with | some t => _ | none => _) Q E = _
  cases kindB S x with
  | some t => dsimp only; split <;> rfl
  | none =>
    dsimp only
    cases kindO S x with
    | none => rfl
    | some c => dsimp only; cases tB.lookup (c, T) <;> rfl
theorem wp_isiC : Wp (isiC tN tO tB [x, .cls d] S) Q E = (match kindB S x with
    | some _ => if d ∈ tN then Q (.bl false) S else False
    | none => match kindO S x with
      | some c => (match tO.lookup (c, d) with | some r => Q (.bl r) S | none => False)
      | none => False) := by
  show Wp (match kindB S x with | some t => _ | none => _) Q E = _
  cases kindB S x with
  | some t => dsimp only; split <;> rfl
  | none =>
    dsimp only
    cases kindO S x with
    | none => rfl
    | some c => dsimp only; cases tO.lookup (c, d) <;> rfl
theorem kindB_non : kindB S .non = some "NoneType" := rfl
theorem kindB_b {b : Bool} : kindB S (.bl b) = some "bool" := rfl
theorem kindB_i : kindB S (.int i) = some "int" := rfl
theorem kindB_s : kindB S (.str a) = some "str" := rfl
theorem kindB_t : kindB S (.tup xs) = some "tuple" := rfl
theorem kindB_r : kindB S (.ref n) = (match S[n]? with | some (.lst _) => some "list" | some (.dic _) => some "dict" | _ => none) := rfl
theorem kindO_r : kindO S (.ref n) = (match S[n]? with | some (.ins c _) => some c | _ => none) := rfl
theorem kindO_non : kindO S .non = none := rfl
theorem kindO_b {b : Bool} : kindO S (.bl b) = none := rfl
theorem kindO_i : kindO S (.int i) = none := rfl
theorem kindO_s : kindO S (.str a) = none := rfl
theorem kindO_t : kindO S (.tup xs) = none := rfl
theorem isi_nn : isiB "NoneType" "str" = false := by decide
theorem isi_bs : isiB "bool" "str" = false := by decide
theorem isi_is : isiB "int" "str" = false := by decide
theorem isi_ss : isiB "str" "str" = true := by decide
theorem isi_ts : isiB "tuple" "str" = false := by decide
theorem isi_ls : isiB "list" "str" = false := by decide
theorem isi_ds : isiB "dict" "str" = false := by decide
theorem mem_str : ("str" ∈ bTypes) = True := eq_true (by decide)
/-! in -/
theorem wp_in_t {neg : Bool} : Wp (inC neg x (.tup ys) S) Q E = (match inSeq S x ys with | some r => Q (.bl (if neg then !r else r)) S | none => False) := by
  show Wp (match inSeq S x ys with | some r => _ | none => _) Q E = _
  cases inSeq S x ys <;> rfl
theorem wp_in_s {neg : Bool} : Wp (inC neg (.str a) (.str b) S) Q E = Q (.bl (if neg then !inStr a b else inStr a b)) S := rfl
theorem wp_inOwn {tbl : List (Str × (List CV → M CV))} {neg : Bool} : Wp (inOwn tbl neg x (.ref n) S) Q E = (match S[n]? with
    | some (.ins c _) => (match tbl.lookup c with
      | some m => Wp (app 2 m [.ref n, x] S) (ownR (fun b => if neg then !b else b) Q) E
      | none => Wp (inC neg x (.ref n) S) Q E)
    | _ => Wp (inC neg x (.ref n) S) Q E) := by
  unfold inOwn ownAt
  dsimp only
  cases S[n]? with
  | none => rfl
  | some o => cases o with
    | ins c fs =>
      dsimp only
      cases tbl.lookup c with
      | none => rfl
      | some m => dsimp only; rw [wp_Rbnd]; congr; funext r S1; cases r <;> rfl
    | _ => rfl
theorem wp_inOwn_t {tbl : List (Str × (List CV → M CV))} {neg : Bool} : Wp (inOwn tbl neg x (.tup ys) S) Q E = Wp (inC neg x (.tup ys) S) Q E := rfl
theorem wp_inOwn_s {tbl : List (Str × (List CV → M CV))} {neg : Bool} : Wp (inOwn tbl neg x (.str b) S) Q E = Wp (inC neg x (.str b) S) Q E := rfl
/-! attributes, methods -/
theorem wp_att {f : Str} {tbl : List (Str × AK)} : Wp (attC f tbl (.ref n) S) Q E = (match S[n]? with
    | some (.ins c fs) => (match tbl.lookup c with
      | some .fld => (match fs.lookup f with | some v => Q v S | none => False)
      | some (.prop m) => Wp (m [.ref n] S) Q NoE
      | some (.con v) => (match fs.lookup f with | none => Q v S | some _ => False)
      | none => False)
    | _ => False) := by
  unfold attC
  dsimp only
  cases S[n]? with
  | none => rfl
  | some o => cases o with
    | ins c fs =>
      dsimp only
      cases tbl.lookup c with
      | none => rfl
      | some q => cases q with
        | fld => dsimp only; cases fs.lookup f <;> rfl
        | prop m => exact wp_calm
        | con v => dsimp only; cases fs.lookup f <;> rfl
    | _ => rfl
theorem wp_met {name : Str} {tbl : List (Str × MK)} : Wp (mMet name tbl mo ms ρ S) Q E = Wp (mo ρ S) (fun x S1 => match metC name tbl x S1 with | some g => Wp (ms ρ S1) (fun xs S2 => Wp (g xs S2) Q E) E | none => False) E := by
  unfold mMet; rw [wp_bnd]; congr; funext x S1
  cases metC name tbl x S1 with
  | none => rfl
  | some g => exact wp_bnd
theorem wp_setF {f : Str} {tbl : List Str} : Wp (setF f tbl (.ref n) x S) QU E = (match S[n]? with
    | some (.ins c fs) => if c ∈ tbl ∧ fs.length < 1000 then QU () (S.set n (.ins c (putFC f x fs))) else False
    | _ => False) := by
  unfold setF
  dsimp only
  cases S[n]? with
  | none => rfl
  | some o => cases o with
    | ins c fs => dsimp only; split <;> rfl
    | _ => rfl
theorem wp_str_s {tbl : List (Str × (List CV → M CV))} : Wp (strC tbl [.str a] S) Q E = Q (.str a) S := rfl
theorem wp_str_i {tbl : List (Str × (List CV → M CV))} : Wp (strC tbl [.int i] S) Q E = Wp (strIntC [.int i] S) Q E := rfl
def strR (Q : CV → Sto → Prop) : CV → Sto → Prop
  | .str y, S => Q (.str y) S
  | _, _ => False
theorem strR_s : strR Q (.str a) S = Q (.str a) S := rfl
theorem wp_str_r {tbl : List (Str × (List CV → M CV))} : Wp (strC tbl [.ref n] S) Q E = (match S[n]? with
    | some (.ins c _) => (match tbl.lookup c with
      | some m => Wp (app 1 m [.ref n] S) (strR Q) E
      | none => False)
    | _ => False) := by
  unfold strC ownAt
  dsimp only
  cases S[n]? with
  | none => rfl
  | some o => cases o with
    | ins c fs =>
      dsimp only
      cases tbl.lookup c with
      | none => rfl
      | some m => dsimp only; rw [wp_Rbnd]; congr; funext r S1; cases r <;> rfl
    | _ => rfl
/-! f-strings -/
theorem wp_fmt_s : Wp (fmtC (.str a) S) Q E = (if a.length ≤ sizeLine then Q (.str a) S else False) := by
  show Wp (if _ then _ else _) Q E = _
  split <;> rfl
theorem wp_js0 {acc : Str} : Wp (mJs [] acc ρ S) QY E = QY acc S := rfl
theorem wp_js1 {m : Rho → M CV} {l : List (Rho → M CV)} {acc : Str} : Wp (mJs (m :: l) acc ρ S) QY E = Wp (m ρ S) (fun x S1 => match x with | .str y => (if (acc ++ y).length ≤ sizeLine then Wp (mJs l (acc ++ y) ρ S1) QY E else False) | _ => False) E := by
  rw [mJs, wp_bnd]; congr; funext x S1
  cases x with
  | str y => dsimp only; split <;> rfl
  | _ => rfl
theorem wp_joined {l : List (Rho → M CV)} : Wp (mJoined l ρ S) Q E = Wp (mJs l Str.empty ρ S) (fun y S1 => Q (.str y) S1) E := wp_bnd
/-! lists -/
theorem wp_dict0 : Wp (mDict0 ρ S) Q E = Q (.ref S.length) (S ++ [.dic []]) := rfl
theorem wp_list_t : Wp (listC [.tup xs] S) Q E = Q (.ref S.length) (S ++ [.lst xs]) := rfl
theorem wp_list_l : Wp (listC [.ref n] S) Q E = (match S[n]? with | some (.lst xs) => Q (.ref S.length) (S ++ [.lst xs]) | _ => False) := by
  unfold listC
  dsimp only
  cases S[n]? with
  | none => rfl
  | some o => cases o <;> rfl
theorem wp_add_l : Wp (addC (.ref n) (.ref k) S) Q E = (match S[n]?, S[k]? with
    | some (.lst xs), some (.lst ys) => if xs.length + ys.length ≤ sizeLine then Q (.ref S.length) (S ++ [.lst (xs ++ ys)]) else False
    | _, _ => False) := by
  unfold addC
  dsimp only
  cases S[n]? with
  | none => rfl
  | some o => cases o with
    | lst xs => cases S[k]? with
      | none => rfl
      | some o => cases o with
        | lst ys => dsimp only; split <;> rfl
        | _ => rfl
    | _ => rfl
theorem wp_bm {T : String} {g : CV → List CV → M CV} : Wp (mBM T g mo ms ρ S) Q E = Wp (mo ρ S) (fun x S1 => if tyB S1 x = some T then Wp (ms ρ S1) (fun xs S2 => Wp (g x xs S2) Q E) E else False) E := by
  unfold mBM; rw [wp_bnd]; congr; funext x S1
  split
  · exact wp_bnd
  · rfl
theorem wp_repr_l : Wp (reprC [.ref n] S) Q E = (match toD S 40 (.ref n) with
    | some d => if (d.showable && !d.hasDict && decide (d.depth ≤ 60) && decide (d.shown.length ≤ sizeLine)) = true then Q (.str d.shown) S else False
    | none => False) := by
  show Wp (match toD S 40 (.ref n) with | some d => _ | none => _) Q E = _
  cases toD S 40 (.ref n) with
  | none => rfl
  | some d => dsimp only; split <;> rfl
theorem wp_lc {mi : Rho → M Src} {g : CV → Rho → Option Rho} {vs : List Nat} : Wp (mLc mi g mt me vs ρ S) Q E = Wp (mi ρ S) (fun src S1 => Wp (lcIt src.chk S1.length g mt me (wipeC ρ vs) src.items (S1 ++ [.lst []])) (fun _ S2 => Q (.ref S1.length) S2) E) E := by
  unfold mLc; rw [wp_bnd]; congr; funext src S1; rw [wp_Rbnd]; rfl
theorem wp_lc0 {chk : Sto → Bool} {g : CV → Rho → Option Rho} : Wp (lcIt chk n g mt me ρ [] S) QU E = (if chk S = true then QU () S else False) := by
  unfold lcIt; split <;> rfl
theorem wp_lc1 {chk : Sto → Bool} {g : CV → Rho → Option Rho} : Wp (lcIt chk n g mt me ρ (x :: xs) S) QU E = (if chk S = true then (match g x ρ with
    | some ρ1 => Wp (mt ρ1 S) (fun b S2 => if b = true then Wp (me ρ1 S2) (fun y S3 => match S3[n]? with | some (.lst acc) => (if acc.length < sizeLine then Wp (lcIt chk n g mt me ρ xs (S3.set n (.lst (acc ++ [y])))) QU E else False) | _ => False) NoE else Wp (lcIt chk n g mt me ρ xs S2) QU E) NoE
    | none => False) else False) := by
  rw [lcIt]
  split
  · cases g x ρ with
    | none => rfl
    | some ρ1 =>
      dsimp only
      cases mt ρ1 S with
      | ok b S2 =>
        rw [wp_ok]
        dsimp only
        split
        · cases me ρ1 S2 with
          | ok y S3 =>
            rw [wp_ok]
            dsimp only
            cases S3[n]? with
            | none => rfl
            | some o => cases o with
              | lst acc => dsimp only; split <;> rfl
              | _ => rfl
          | _ => rfl
        · rfl
      | _ => rfl
  · rfl
theorem wp_split : Wp (splitC (.str a) [.str b] S) Q E = (if (b.length == 0) = false ∧ a.length + 2 ≤ sizeLine then Q (.ref S.length) (S ++ [.lst ((Txt.split a b).map CV.str)]) else False) := by
  show Wp (if _ then _ else _) Q E = _
  split <;> rfl
theorem wp_mkInsK {c : Str} {nk : Nat} {ix : List Nat} {ds : List CV} : Wp (mkInsK c n nk ix m ds S) Q E = Wp (appK n 1 nk ix m [.ref S.length] ds (S ++ [.ins c []])) (fun r S' => match r with | .non => Q (.ref S.length) S' | _ => False) E := by
  unfold mkInsK; rw [wp_Rbnd]; congr; funext r S1; cases r <;> rfl
theorem wp_mkK {c : Str} {nk : Nat} {ix : List Nat} : Wp (mMkK c n nk ix m ms ρ S) Q E = Wp (ms ρ S) (fun xs S1 => Wp (mkInsK c n nk ix m xs S1) Q E) E := wp_bnd
theorem wp_appK {n0 nk : Nat} {ix : List Nat} {cs ds : List CV} : Wp (appK n n0 nk ix m cs ds S) Q E = (if cs.length = n0 ∧ ds.length = nk then Wp (app n m (sel ix (cs ++ ds)) S) Q E else False) := by
  unfold appK; split <;> rfl
theorem wp_cmK {c : Str} {g : List CV → M CV} : Wp (mCmK c g (mC (.cls c)) ms ρ S) Q E = Wp (ms ρ S) (fun xs S1 => Wp (g xs S1) Q E) E := by
  unfold mCmK; rw [wp_bnd, wp_c]; show Wp (if c = c then _ else _) Q E = _; rw [if_pos rfl]; exact wp_bnd
theorem wp_callV {i : Nat} {tbl : List (Str × Nat × (List CV → M CV))} : Wp (mCallV i tbl ms ρ S) Q E = Wp (mVar i ρ S) (fun x S1 => match mkAt tbl x with | some g => Wp (ms ρ S1) (fun xs S2 => Wp (g xs S2) Q E) E | none => False) E := by
  unfold mCallV; rw [wp_bnd]; congr; funext x S1
  cases mkAt tbl x with
  | none => rfl
  | some g => exact wp_bnd
end
end MW
set_option Elab.async false
set_option linter.all false
set_option maxRecDepth 100000
set_option maxHeartbeats 400000
namespace MW
open PySem PySem.Spec PyProof.Rows L2
/-! ### list comprehensions whose turns leave the store -/
theorem eq_of_wp {α : Type} {r : Res α} {a : α} {S1 : Sto} (h : Wp r (fun v S' => v = a ∧ S' = S1) NoE) : r = .ok a S1 := by
  obtain ⟨v, S', e, rfl, rfl⟩ := h.ex
  exact e
theorem lc_all {chk : Sto → Bool} {g : CV → Rho → Option Rho} {me : Rho → M CV} {ρ : Rho} {f : CV → CV} {S0 : Sto} (hc : ∀ acc, chk (S0 ++ [.lst acc]) = true) : ∀ (xs : List CV) (acc : List CV) (he : ∀ x ∈ xs, ∃ ρ1, g x ρ = some ρ1 ∧ ∀ acc, me ρ1 (S0 ++ [.lst acc]) = .ok (f x) (S0 ++ [.lst acc])) (hl : acc.length + xs.length ≤ sizeLine),
    lcIt chk S0.length g mYes me ρ xs (S0 ++ [.lst acc]) = .ok () (S0 ++ [.lst (acc ++ xs.map f)])
  | [], acc, _, _ => by
    unfold lcIt
    rw [if_pos (hc acc), List.map_nil, List.append_nil]
  | x :: xs, acc, he, hl => by
    obtain ⟨ρ1, e1, e2⟩ := he x List.mem_cons_self
    rw [lcIt, if_pos (hc acc), e1]
    dsimp only [mYes, ret]
    rw [if_pos rfl, e2]
    dsimp only
    rw [look_new0]
    dsimp only [List.getElem?_cons_zero]
    rw [List.length_cons] at hl
    rw [if_pos (by omega), set_new0, List.set_cons_zero, lc_all hc xs (acc ++ [f x]) (fun y hy => he y (List.mem_cons_of_mem _ hy)) (by rw [List.length_append, List.length_singleton]; omega), List.map_cons, List.append_assoc, List.singleton_append]
theorem wp_lcMap {Q : CV → Sto → Prop} {E : Str → List (Str × CV) → Sto → Prop} {S : Sto} {ρ : Rho} {mi : Rho → M Src} {me : Rho → M CV} {vs : List Nat} {n i : Nat} {xs : List CV} (f : CV → CV) (hn : S[n]? = some (.lst xs)) (hm : mi ρ S = .ok ⟨xs, some (n, .lst xs)⟩ S)
    (he : ∀ x ∈ xs, ∀ acc, me ((wipeC ρ vs).set i (some x)) (S ++ [.lst acc]) = .ok (f x) (S ++ [.lst acc])) (hl : xs.length ≤ sizeLine) : Wp (mLc mi (cN i) mYes me vs ρ S) Q E = Q (.ref S.length) (S ++ [.lst (xs.map f)]) := by
  have e := lc_all (chk := Src.chk ⟨xs, some (n, .lst xs)⟩) (g := cN i) (me := me) (ρ := wipeC ρ vs) (f := f) (S0 := S) (fun acc => decide_eq_true (look_old hn)) xs [] (fun x hx => ⟨_, rfl, he x hx⟩) (by rw [List.length_nil]; omega)
  rw [wp_lc, hm, wp_ok]
  dsimp only
  rw [e, wp_ok, List.nil_append]
theorem src_at {S : Sto} {ρ : Rho} {j n : Nat} {xs : List CV} (hj : ρ[j]? = some (some (.ref n))) (hn : S[n]? = some (.lst xs)) : mSrc (mVar j) ρ S = .ok ⟨xs, some (n, .lst xs)⟩ S := by
  have e : mVar j ρ S = .ok (.ref n) S := by unfold mVar; rw [hj]
  show (mVar j ρ S).bnd srcC = _
  rw [e]
  show (match S[n]? with | some (.lst xs) => Res.ok (⟨xs, some (n, .lst xs)⟩ : Src) S | _ => .bad) = _
  rw [hn]
theorem wp_lcVar {Q : CV → Sto → Prop} {E : Str → List (Str × CV) → Sto → Prop} {S : Sto} {ρ : Rho} {me : Rho → M CV} {vs : List Nat} {n i j : Nat} {xs : List CV} (f : CV → CV) (hj : ρ[j]? = some (some (.ref n))) (hn : S[n]? = some (.lst xs))
    (he : ∀ x ∈ xs, ∀ acc, me ((wipeC ρ vs).set i (some x)) (S ++ [.lst acc]) = .ok (f x) (S ++ [.lst acc])) (hl : xs.length ≤ sizeLine) : Wp (mLc (mSrc (mVar j)) (cN i) mYes me vs ρ S) Q E = Q (.ref S.length) (S ++ [.lst (xs.map f)]) := wp_lcMap f hn (src_at hj hn) he hl
theorem lc_gen {chk : Sto → Bool} {g : CV → Rho → Option Rho} {mt : Rho → M Bool} {me : Rho → M CV} {ρ : Rho} {t : CV → Bool} {f : CV → CV} {S0 : Sto} (hc : ∀ acc, chk (S0 ++ [.lst acc]) = true) : ∀ (xs : List CV) (acc : List CV) (he : ∀ x ∈ xs, ∃ ρ1, g x ρ = some ρ1 ∧ ∀ acc, mt ρ1 (S0 ++ [.lst acc]) = .ok (t x) (S0 ++ [.lst acc]) ∧ (t x = true → me ρ1 (S0 ++ [.lst acc]) = .ok (f x) (S0 ++ [.lst acc]))) (hl : acc.length + xs.length ≤ sizeLine),
    lcIt chk S0.length g mt me ρ xs (S0 ++ [.lst acc]) = .ok () (S0 ++ [.lst (acc ++ (xs.filter t).map f)])
  | [], acc, _, _ => by
    unfold lcIt
    rw [if_pos (hc acc), List.filter_nil, List.map_nil, List.append_nil]
  | x :: xs, acc, he, hl => by
    obtain ⟨ρ1, e1, e2⟩ := he x List.mem_cons_self
    rw [List.length_cons] at hl
    rw [lcIt, if_pos (hc acc), e1]
    dsimp only
    rw [(e2 acc).1]
    dsimp only
    cases ht : t x with
    | false => rw [if_neg (by decide), lc_gen hc xs acc (fun y hy => he y (List.mem_cons_of_mem _ hy)) (by omega), List.filter_cons_of_neg (by rw [ht]; decide)]
    | true =>
      rw [if_pos rfl, (e2 acc).2 ht]
      dsimp only
      rw [look_new0]
      dsimp only [List.getElem?_cons_zero]
      rw [if_pos (by omega), set_new0, List.set_cons_zero, lc_gen hc xs (acc ++ [f x]) (fun y hy => he y (List.mem_cons_of_mem _ hy)) (by rw [List.length_append, List.length_singleton]; omega), List.filter_cons_of_pos ht, List.map_cons, List.append_assoc, List.singleton_append]
theorem wp_lcFil {Q : CV → Sto → Prop} {E : Str → List (Str × CV) → Sto → Prop} {S : Sto} {ρ : Rho} {mt : Rho → M Bool} {me : Rho → M CV} {vs : List Nat} {n i j : Nat} {xs : List CV} (t : CV → Bool) (f : CV → CV) (hj : ρ[j]? = some (some (.ref n))) (hn : S[n]? = some (.lst xs))
    (he : ∀ x ∈ xs, ∀ acc, mt ((wipeC ρ vs).set i (some x)) (S ++ [.lst acc]) = .ok (t x) (S ++ [.lst acc]) ∧ (t x = true → me ((wipeC ρ vs).set i (some x)) (S ++ [.lst acc]) = .ok (f x) (S ++ [.lst acc]))) (hl : xs.length ≤ sizeLine) :
    Wp (mLc (mSrc (mVar j)) (cN i) mt me vs ρ S) Q E = Q (.ref S.length) (S ++ [.lst ((xs.filter t).map f)]) := by
  have e := lc_gen (chk := Src.chk ⟨xs, some (n, .lst xs)⟩) (g := cN i) (mt := mt) (me := me) (ρ := wipeC ρ vs) (t := t) (f := f) (S0 := S) (fun acc => decide_eq_true (look_old hn)) xs [] (fun x hx => ⟨_, rfl, he x hx⟩) (by rw [List.length_nil]; omega)
  rw [wp_lc, src_at hj hn, wp_ok]
  dsimp only
  rw [e, wp_ok, List.nil_append]
theorem wp_ne_bb {Q : CV → Sto → Prop} {E : Str → List (Str × CV) → Sto → Prop} {S : Sto} {a b : Bool} : Wp (neC (.bl a) (.bl b) S) Q E = Q (.bl (!(a == b))) S := rfl
theorem wp_eq_bb {Q : CV → Sto → Prop} {E : Str → List (Str × CV) → Sto → Prop} {S : Sto} {a b : Bool} : Wp (eqC (.bl a) (.bl b) S) Q E = Q (.bl (a == b)) S := rfl
theorem PenAt.lt {p c : Nat} {cells : List Int} {T : Int} {S : Sto} (h : PenAt p c cells T S) : p < S.length := by
  obtain ⟨t, r, h1, _⟩ := h
  exact (List.getElem?_eq_some_iff.mp h1).1
end MW
set_option Elab.async false
set_option linter.all false
set_option maxRecDepth 100000
set_option maxHeartbeats 400000
namespace MW
open PySem PySem.Spec PyProof.Rows L2
section
variable {X : Cx} {W : WX} {a b c e o : Expr} {es : List Expr} {ma mb mc me mo : Rho → M CV} {ms : Rho → M (List CV)} {pos : Pos}
/-! ### a op b op c -/
def chK (k : M CV) : CV → M CV := fun z S => match z with
  | .bl true => k S
  | .bl false => .ok (.bl false) S
  | _ => .bad
def mChain (g g' : CV → CV → M CV) (ma mb mc : Rho → M CV) : Rho → M CV := fun ρ => bnd (ma ρ) fun x => bnd (mb ρ) fun y => bnd (g x y) (chK (bnd (mc ρ) fun w => g' y w))
theorem ge_chain {op op' : CmpOp} {g g' : CV → CV → M CV} (ho : OpG X W (compareOp op) g) (ho' : OpG X W (compareOp op') g') (ha : GE X W a ma) (hb : GE X W b mb) (hc : GE X W c mc)
    (hm : lastMarks [op, op'] [b, c] = false := by with_unfolding_all rfl) : GE X W (.Compare a [op, op'] [b, c] pos) (mChain g g' ma mb mc) := by
  refine ⟨fun pins s σ H Q I ⟨ι, ρ, S, Rs, rs, fi⟩ => ?_⟩
  refine Compare_chain (thn (ha.run pins s σ H _ I ⟨ι, ρ, S, Rs, rs, Fin.bnd (R := RepV X.K X.mg) fi⟩) fun v' s1 ⟨v, H1, I1, r1, ι1, S1, x, n1, rx, f1⟩ => chain_link (thn (hb.run pins s1 σ H1 _ I1 ⟨ι1, ρ, S1, n1.rs, n1.repst Rs rs, Fin.bnd (R := RepV X.K X.mg) f1⟩) fun u' s2 ⟨u, H2, I2, r2, ι2, S2, y, n2, ry, f2⟩ =>
    thn (ho pins s2 σ H2 ι2 S2 x y v u v' u' _ I2 r1 r2 n2.rs (n2.rep n1.rs rx) ry (Fin.bnd (R := RepV X.K X.mg) f2)) fun d s3 ⟨z, H3, I3, r3, ι3, S3, zc, n3, rz, f3⟩ => ?_)) hm
  cases zc with
  | bl k =>
    cases rz
    cases r3
    refine wpAny_truthy_bool ?_
    cases k with
    | false => exact ite_ff ⟨.bl false, H3, I3, rfl, Fin.ret n3.rs f3 (.bl _)⟩
    | true =>
      refine ite_tt (chain_last (thn (hc.run pins s3 σ H3 _ I3 ⟨ι3, ρ, S3, n3.rs, n3.repst n2.rs (n2.repst n1.rs (n1.repst Rs rs)), Fin.bnd (R := RepV X.K X.mg) f3⟩) fun w' s4 ⟨wv, H4, I4, r4, ι4, S4, w, n4, rw', f4⟩ => ?_))
      exact ho' pins s4 σ H4 ι4 S4 y w u wv u' w' Q I4 r2 r4 n4.rs (n4.rep n3.rs (n3.rep n2.rs ry)) rw' f4
  | _ => exact f3.elim
theorem gt_chain {op op' : CmpOp} {g g' : CV → CV → M CV} (ho : OpG X W (compareOp op) g) (ho' : OpG X W (compareOp op') g') (ha : GE X W a ma) (hb : GE X W b mb) (hc : GE X W c mc)
    (hm : lastMarks [op, op'] [b, c] = false := by with_unfolding_all rfl) : GT X W (.Compare a [op, op'] [b, c] pos) (mTest (mChain g g' ma mb mc)) := by
  refine ⟨fun pins s σ H Q I ⟨ι, ρ, S, Rs, rs, fi⟩ => ?_⟩
  have fi' : Fin X.K X.mg ι H (RepV X.K X.mg) (mChain g g' ma mb mc ρ S) (fun v H' => ∃ k, v = .bl k ∧ Q k H') (fun c d H' => W c d σ H') := (Fin.bnd (R := RepV X.K X.mg) fi).imp fun v H1 ⟨ι1, S1, x, n1, rx, f1⟩ => asB_eq n1.rs rx f1
  refine isTrue_chain (thn (ha.run pins s σ H _ I ⟨ι, ρ, S, Rs, rs, Fin.bnd (R := RepV X.K X.mg) fi'⟩) fun v' s1 ⟨v, H1, I1, r1, ι1, S1, x, n1, rx, f1⟩ => test_link (thn (hb.run pins s1 σ H1 _ I1 ⟨ι1, ρ, S1, n1.rs, n1.repst Rs rs, Fin.bnd (R := RepV X.K X.mg) f1⟩) fun u' s2 ⟨u, H2, I2, r2, ι2, S2, y, n2, ry, f2⟩ =>
    thn (ho pins s2 σ H2 ι2 S2 x y v u v' u' _ I2 r1 r2 n2.rs (n2.rep n1.rs rx) ry (Fin.bnd (R := RepV X.K X.mg) f2)) fun d s3 ⟨z, H3, I3, r3, ι3, S3, zc, n3, rz, f3⟩ => ?_)) hm
  cases zc with
  | bl k =>
    cases rz
    cases r3
    refine wpAny_truthy_bool ?_
    cases k with
    | false =>
      obtain ⟨k', e', q'⟩ := Fin.ret n3.rs f3 (.bl _)
      cases e'
      exact ite_ff ⟨H3, I3, q'⟩
    | true =>
      refine ite_tt (test_last (thn (hc.run pins s3 σ H3 _ I3 ⟨ι3, ρ, S3, n3.rs, n3.repst n2.rs (n2.repst n1.rs (n1.repst Rs rs)), Fin.bnd (R := RepV X.K X.mg) f3⟩) fun w' s4 ⟨wv, H4, I4, r4, ι4, S4, w, n4, rw', f4⟩ => ?_))
      refine thn (ho' pins s4 σ H4 ι4 S4 y w u wv u' w' _ I4 r2 r4 n4.rs (n4.rep n3.rs (n3.rep n2.rs ry)) rw' f4) fun d s5 ⟨z, H5, I5, r5, k5, e5, q5⟩ => ?_
      subst e5
      cases r5
      exact wpAny_truthy_bool ⟨H5, I5, q5⟩
  | _ => exact f3.elim
/-! all([..]) -/
def bools : List CV → Option (List Bool)
  | [] => some []
  | .bl b :: l => (bools l).map (b :: ·)
  | _ :: _ => none
theorem bools_eq : ∀ {l : List CV} {bs : List Bool}, bools l = some bs → l = bs.map CV.bl
  | [], bs, h => by cases h; rfl
  | x :: l, bs, h => by
    cases x with
    | bl b =>
      unfold bools at h
      cases e : bools l with
      | none => rw [e] at h; cases h
      | some cs => rw [e] at h; cases h; rw [bools_eq e]; rfl
    | _ => cases h
theorem RepVs.bls {K : PySem.W.Frag} {mg : Str → Option Value} {ι : List Addr} {H : Hp} : ∀ {bs : List Bool} {vs : List V}, RepVs K mg ι H (bs.map CV.bl) vs → vs = bs.map V.bl
  | [], _, .nil => rfl
  | _ :: _, _, .cons (.bl _) rs => by rw [List.map_cons, RepVs.bls rs]
def allC : List CV → M CV := fun xs S => match xs with
  | [.ref n] => match S[n]? with
    | some (.lst ys) => match bools ys with
      | some bs => .ok (.bl (bs.all id)) S
      | none => .bad
    | _ => .bad
  | _ => .bad
theorem call_allC (hc : X.calm = true := by rfl) : CallG X W (.builtin "all") allC := callG_of (cr_all hc) fun ι S H xs vs Q B Rs rx fi => by
  unfold allC at fi
  split at fi
  · obtain ⟨v, rfl, r⟩ := one_of rx
    cases r with
    | ref hq =>
      split at fi
      · rename_i ys ey
        split at fi
        · rename_i bs eb
          obtain ⟨us, h1, r1⟩ := Rs.obj _ _ _ hq ey
          rw [bools_eq eb] at r1
          rw [r1.bls] at h1
          exact ⟨_, bs, rfl, SqL.of h1, Fin.ret Rs fi (.bl _)⟩
        · exact fi.elim
      · exact fi.elim
  · exact fi.elim
end
end MW
set_option Elab.async false
set_option linter.all false
set_option maxRecDepth 100000
set_option maxHeartbeats 400000
namespace MW
open PySem PySem.Spec PyProof.Rows L2
/-! ### list comprehensions whose turns add to the store -/
/-- everything of S0 stands in S -/
def Subs (S0 S : Sto) : Prop := ∀ (m : Nat) (o : CO), S0[m]? = some o → S[m]? = some o
theorem Subs.refl {S : Sto} : Subs S S := fun _ _ h => h
theorem Subs.trans {S S1 S2 : Sto} (h : Subs S S1) (h' : Subs S1 S2) : Subs S S2 := fun m o e => h' m o (h m o e)
theorem Subs.app {S l : Sto} : Subs S (S ++ l) := fun _ _ h => look_old h
theorem Subs.ext {p : Nat} {S S1 : Sto} (h : Subs S S1) : Ext p S S1 := fun m o _ e => h m o e
theorem Subs.len {S S1 : Sto} (h : Subs S S1) : S.length ≤ S1.length := by
  rcases Nat.lt_or_ge S1.length S.length with hl | hl
  · have e := h S1.length S[S1.length] (List.getElem?_eq_getElem hl)
    rw [List.getElem?_eq_none (Nat.le_refl _)] at e
    cases e
  · exact hl
/-- the turns: each gives f x, or is passed over, and adds to the store -/
theorem lc_grow {chk : Sto → Bool} {g : CV → Rho → Option Rho} {mt : Rho → M Bool} {me : Rho → M CV} {ρ : Rho} {t : CV → Bool} {f : CV → CV} {S0 : Sto} {n : Nat} (hn : n = S0.length) (hc : ∀ S, Subs S0 S → chk S = true) : ∀ (xs acc : List CV) (S : Sto)
    (he : ∀ x ∈ xs, ∃ ρ1, g x ρ = some ρ1 ∧ ∀ S, Subs S0 S → Wp (mt ρ1 S) (fun b S' => b = t x ∧ Subs S S' ∧ (b = true → Wp (me ρ1 S') (fun v S2 => v = f x ∧ Subs S' S2) NoE)) NoE) (hl : acc.length + xs.length ≤ sizeLine) (hS : Subs S0 S) (ha : S[n]? = some (.lst acc)),
    Wp (lcIt chk n g mt me ρ xs S) (fun _ S' => Subs S0 S' ∧ S'[n]? = some (.lst (acc ++ (xs.filter t).map f))) NoE
  | [], acc, S, _, _, hS, ha => by
    rw [wp_lc0, if_pos (hc S hS), List.filter_nil, List.map_nil, List.append_nil]
    exact ⟨hS, ha⟩
  | x :: xs, acc, S, he, hl, hS, ha => by
    obtain ⟨ρ1, e1, e2⟩ := he x List.mem_cons_self
    rw [List.length_cons] at hl
    rw [wp_lc1, if_pos (hc S hS), e1]
    dsimp only
    refine Wp.mono (e2 S hS) ?_
    rintro b S1 ⟨rfl, s1, e3⟩
    cases ht : t x with
    | false =>
      rw [if_neg (by decide), List.filter_cons_of_neg (by rw [ht]; decide)]
      exact lc_grow hn hc xs acc S1 (fun y hy => he y (List.mem_cons_of_mem _ hy)) (by omega) (hS.trans s1) (s1 _ _ ha)
    | true =>
      rw [if_pos rfl]
      refine Wp.mono (e3 ht) ?_
      rintro v S2 ⟨rfl, s2⟩
      have h2 := s2 _ _ (s1 _ _ ha)
      rw [h2]
      dsimp only
      rw [if_pos (by omega), List.filter_cons_of_pos ht, List.map_cons]
      have := lc_grow hn hc xs (acc ++ [f x]) (S2.set n (.lst (acc ++ [f x]))) (fun y hy => he y (List.mem_cons_of_mem _ hy)) (by rw [List.length_append, List.length_singleton]; omega)
        (fun m o e => by
          have hm : m ≠ n := by
            have := (List.getElem?_eq_some_iff.mp e).1
            omega
          rw [List.getElem?_set_ne (Ne.symm hm)]
          exact s2 _ _ (s1 _ _ (hS _ _ e)))
        (List.getElem?_set_self (List.getElem?_eq_some_iff.mp h2).1)
      rw [List.append_assoc, List.singleton_append] at this
      exact this
/-- [e for x in list if t] -/
theorem wp_lcGrow {Q : CV → Sto → Prop} {E : Str → List (Str × CV) → Sto → Prop} {S S1 : Sto} {ρ : Rho} {mi : Rho → M Src} {mt : Rho → M Bool} {me : Rho → M CV} {vs : List Nat} {i : Nat} {src : Src} (t : CV → Bool) (f : CV → CV) (hm : mi ρ S = .ok src S1) (hc : ∀ S', Subs S1 S' → src.chk S' = true)
    (he : ∀ x ∈ src.items, ∀ S', Subs S1 S' → Wp (mt ((wipeC ρ vs).set i (some x)) S') (fun b S2 => b = t x ∧ Subs S' S2 ∧ (b = true → Wp (me ((wipeC ρ vs).set i (some x)) S2) (fun v S3 => v = f x ∧ Subs S2 S3) NoE)) NoE) (hl : src.items.length ≤ sizeLine)
    (hq : ∀ S', Subs S1 S' → S'[S1.length]? = some (.lst ((src.items.filter t).map f)) → Q (.ref S1.length) S') : Wp (mLc mi (cN i) mt me vs ρ S) Q E := by
  rw [wp_lc, hm, wp_ok]
  refine Wp.mono (lc_grow (chk := src.chk) (g := cN i) (t := t) (f := f) (S0 := S1) rfl hc src.items [] (S1 ++ [.lst []]) (fun x hx => ⟨_, rfl, he x hx⟩) (by rw [List.length_nil]; omega) Subs.app look_new0) ?_
  rintro _ S' ⟨h1, h2⟩
  rw [List.nil_append] at h2
  exact hq S' h1 h2
end MW
set_option Elab.async false
set_option linter.all false
set_option maxRecDepth 100000
set_option maxHeartbeats 400000
namespace MW
open PySem PySem.Spec PyProof.Rows L2
section
variable {Q : CV → Sto → Prop} {E : Str → List (Str × CV) → Sto → Prop} {S : Sto} {ρ : Rho} {ma mb mc : Rho → M CV} {g g' : CV → CV → M CV} {a : Str} {i : Int} {xs ys : List CV} {n k : Nat}
def chR (k : Sto → Prop) (Q : CV → Sto → Prop) : CV → Sto → Prop
  | .bl true, S => k S
  | .bl false, S => Q (.bl false) S
  | _, _ => False
theorem chR_t {k : Sto → Prop} : chR k Q (.bl true) S = k S := rfl
theorem chR_f {k : Sto → Prop} : chR k Q (.bl false) S = Q (.bl false) S := rfl
theorem wp_chain : Wp (mChain g g' ma mb mc ρ S) Q E = Wp (ma ρ S) (fun x S1 => Wp (mb ρ S1) (fun y S2 => Wp (g x y S2) (chR (fun S3 => Wp (mc ρ S3) (fun w S4 => Wp (g' y w S4) Q E) E) Q) E) E) E := by
  unfold mChain
  rw [wp_bnd]; congr; funext x S1
  rw [wp_bnd]; congr; funext y S2
  rw [wp_bnd]; congr; funext z S3
  cases z with
  | bl b => cases b with
    | true => exact wp_bnd
    | false => rfl
  | _ => rfl
theorem wp_src_s {QS : Src → Sto → Prop} : Wp (srcC (.str a) S) QS E = QS ⟨charsC a, none⟩ S := rfl
theorem wp_mul_s : Wp (mulC (.str a) (.int i) S) Q E = (if 0 ≤ i ∧ i ≤ 1000 ∧ a.length ≤ 1000 then Q (.str (Txt.mul a i)) S else False) := by
  show Wp (if _ then _ else _) Q E = _
  split <;> rfl
theorem wp_lt_t : Wp (ltC (.tup xs) (.tup ys) S) Q E = (if sameAll xs ys = true then Q (.bl (lexP xs ys)) S else False) := by
  show Wp (if _ then _ else _) Q E = _
  split <;> rfl
theorem wp_att_c {f c : Str} {tbl : List (Str × AK)} : Wp (attC f tbl (.cls c) S) Q E = (match tbl.lookup c with | some (.con v) => Q v S | _ => False) := by
  unfold attC
  dsimp only
  cases tbl.lookup c with
  | none => rfl
  | some q => cases q <;> rfl
theorem wp_tuple_l : Wp (tupleC [.ref n] S) Q E = (match S[n]? with | some (.lst xs) => Q (.tup xs) S | _ => False) := by
  unfold tupleC
  dsimp only
  cases S[n]? with
  | none => rfl
  | some o => cases o <;> rfl
theorem wp_fmt_i : Wp (fmtC (.int i) S) Q E = (if i.natAbs.log2 < 1920 then Q (.str (toString i)) S else False) := by
  show Wp (if _ then _ else _) Q E = _
  split <;> rfl
theorem wp_strInt : Wp (strIntC [.int i] S) Q E = (if i.natAbs.log2 < 1920 then Q (.str (toString i)) S else False) := by
  show Wp (if _ then _ else _) Q E = _
  split <;> rfl
end
/-- over what is no object: a range, a tuple, a text -/
theorem wp_lcFree {Q : CV → Sto → Prop} {E : Str → List (Str × CV) → Sto → Prop} {S : Sto} {ρ : Rho} {mi : Rho → M Src} {me : Rho → M CV} {vs : List Nat} {i : Nat} {xs : List CV} (f : CV → CV) (hm : mi ρ S = .ok ⟨xs, none⟩ S)
    (he : ∀ x ∈ xs, ∀ acc, me ((wipeC ρ vs).set i (some x)) (S ++ [.lst acc]) = .ok (f x) (S ++ [.lst acc])) (hl : xs.length ≤ sizeLine) : Wp (mLc mi (cN i) mYes me vs ρ S) Q E = Q (.ref S.length) (S ++ [.lst (xs.map f)]) := by
  have e := lc_all (chk := Src.chk ⟨xs, none⟩) (g := cN i) (me := me) (ρ := wipeC ρ vs) (f := f) (S0 := S) (fun acc => rfl) xs [] (fun x hx => ⟨_, rfl, he x hx⟩) (by rw [List.length_nil]; omega)
  rw [wp_lc, hm, wp_ok]
  dsimp only
  rw [e, wp_ok, List.nil_append]
end MW
set_option Elab.async false
set_option linter.all false
set_option maxRecDepth 100000
set_option maxHeartbeats 400000
namespace MW
open PySem PySem.Spec PyProof.Rows L2
/-! ### repr, == of small data -/
theorem rp_mk {d : PyData} (h1 : d.layable0 = true) (h2 : d.intsShort 13 = true) (h3 : d.showable = true) (h5 : d.depth ≤ 60) : (d.showable && !d.hasDict && decide (d.depth ≤ 60) && decide (d.shown.length ≤ sizeLine)) = true := by
  have h6 := shown_le13 h1 h2
  rw [h3, PyData.hasDict_of_layable h1, decide_eq_true h5, decide_eq_true (Nat.le_trans h6 (by decide))]; rfl
theorem td_ref {S : Sto} {n k : Nat} : toD S (k + 1) (.ref n) = (match S[n]? with | some (.lst xs) => (xs.mapM (toD S k)).map PyData.list | _ => none) := rfl
theorem wp_repr_d {Q : CV → Sto → Prop} {E : Str → List (Str × CV) → Sto → Prop} {S : Sto} {n : Nat} {d : PyData} (h : toD S 40 (.ref n) = some d) (hr : (d.showable && !d.hasDict && decide (d.depth ≤ 60) && decide (d.shown.length ≤ sizeLine)) = true) : Wp (reprC [.ref n] S) Q E = Q (.str d.shown) S := by
  rw [wp_repr_l, h]
  dsimp only
  rw [if_pos hr]
/-- two lists of bools -/
theorem td_bls {S : Sto} {k : Nat} : ∀ bs : List Bool, (bs.map CV.bl).mapM (toD S (k + 1)) = some (bs.map PyData.bool)
  | [] => rfl
  | b :: bs => by rw [List.map_cons, List.mapM_cons, td_bls bs]; rfl
theorem lay_bls : ∀ l : List Bool, PyData.canLayAll0 (l.map PyData.bool) = true
  | [] => by simp [PyData.canLayAll0]
  | i :: l => by simp only [List.map_cons, PyData.canLayAll0, lay_bls l]; simp [PyData.canLay0]
theorem depth_bls : ∀ l : List Bool, PyData.depthAll (l.map PyData.bool) = 0
  | [] => by simp [PyData.depthAll]
  | i :: l => by simp only [List.map_cons, PyData.depthAll, depth_bls l]; simp [PyData.depth]
theorem shaped_bls (l : List Bool) : SeqAt.shaped (.list (l.map PyData.bool)) = true := by
  simp only [SeqAt.shaped, PyData.canLay0, lay_bls, PyData.depth, depth_bls]; decide
theorem eqD_bls {S : Sto} {n k : Nat} {bs cs : List Bool} (h : S[n]? = some (.lst (bs.map CV.bl))) (h' : S[k]? = some (.lst (cs.map CV.bl))) : eqD S (.ref n) (.ref k) = some (PyData.eqv (.list (bs.map PyData.bool)) (.list (cs.map PyData.bool))) := by
  unfold eqD
  rw [td_ref, td_ref, h, h']
  dsimp only
  rw [td_bls, td_bls]
  dsimp only [Option.map]
  rw [shaped_bls, shaped_bls]; rfl
end MW
namespace MW
open PySem PySem.Spec PyProof.Rows L2
theorem PenAt.subs {p c : Nat} {cells : List Int} {T : Int} {S S' : Sto} (h : PenAt p c cells T S) (s : Subs S S') : PenAt p c cells T S' := by
  obtain ⟨t, r, h1, h2, h3⟩ := h
  exact ⟨t, r, s _ _ h1, s _ _ h2, h3⟩
end MW
namespace MW
open PySem PySem.Spec PyProof.Rows L2
/-- a result told, sealed (so that Lean does not run what it speaks of) -/
structure Tr {α : Type} (r : Res α) (Q : α → Sto → Prop) : Prop where
  wp : Wp r Q NoE
theorem Tr.mono {α : Type} {r : Res α} {Q Q' : α → Sto → Prop} {E : Str → List (Str × CV) → Sto → Prop} (h : Tr r Q) (k : ∀ a S, Q a S → Q' a S) : Wp r Q' E := h.wp.mono k
end MW
namespace MW
open PySem PySem.Spec PyProof.Rows L2
theorem rng1_n {S : Sto} {n : Nat} (hn : n < 1000000) : rng1 [.int n] S = .ok ⟨rngItems 0 n, none⟩ S := by
  unfold rng1
  dsimp only
  rw [if_pos ⟨by omega, by omega⟩, Int.toNat_natCast]
theorem wp_rng1_n {S : Sto} {n : Nat} {QS : Src → Sto → Prop} {E : Str → List (Str × CV) → Sto → Prop} (hn : n < 1000000) : Wp (rng1 [.int n] S) QS E = QS ⟨rngItems 0 n, none⟩ S := wp_eq (rng1_n hn)
theorem rng_len {m : Nat} : (rngItems 0 m).length = m := by simp [rngItems]
theorem rng_mem {m : Nat} {v : CV} (h : v ∈ rngItems 0 m) : ∃ i : Nat, i < m ∧ v = .int i := by
  unfold rngItems at h
  obtain ⟨i, hi, e⟩ := List.mem_map.mp h
  exact ⟨i, List.mem_range.mp hi, by rw [← e]; congr 1; omega⟩
end MW
namespace MW
open PySem PySem.Spec PyProof.Rows L2
/-- over a text or a tuple or a range, with a test -/
theorem wp_lcFilFree {Q : CV → Sto → Prop} {E : Str → List (Str × CV) → Sto → Prop} {S : Sto} {ρ : Rho} {mi : Rho → M Src} {mt : Rho → M Bool} {me : Rho → M CV} {vs : List Nat} {i : Nat} {xs : List CV} (t : CV → Bool) (f : CV → CV) (hm : mi ρ S = .ok ⟨xs, none⟩ S)
    (he : ∀ x ∈ xs, ∀ acc, mt ((wipeC ρ vs).set i (some x)) (S ++ [.lst acc]) = .ok (t x) (S ++ [.lst acc]) ∧ (t x = true → me ((wipeC ρ vs).set i (some x)) (S ++ [.lst acc]) = .ok (f x) (S ++ [.lst acc]))) (hl : xs.length ≤ sizeLine) :
    Wp (mLc mi (cN i) mt me vs ρ S) Q E = Q (.ref S.length) (S ++ [.lst ((xs.filter t).map f)]) := by
  have e := lc_gen (chk := Src.chk ⟨xs, none⟩) (g := cN i) (mt := mt) (me := me) (ρ := wipeC ρ vs) (t := t) (f := f) (S0 := S) (fun acc => rfl) xs [] (fun x hx => ⟨_, rfl, he x hx⟩) (by rw [List.length_nil]; omega)
  rw [wp_lc, hm, wp_ok]
  dsimp only
  rw [e, wp_ok, List.nil_append]
theorem bools_map : ∀ bs : List Bool, bools (bs.map CV.bl) = some bs
  | [] => rfl
  | b :: bs => by rw [List.map_cons, bools, bools_map bs]; rfl
theorem wp_all_b {Q : CV → Sto → Prop} {E : Str → List (Str × CV) → Sto → Prop} {S : Sto} {n : Nat} {bs : List Bool} (h : S[n]? = some (.lst (bs.map CV.bl))) : Wp (allC [.ref n] S) Q E = Q (.bl (bs.all id)) S := by
  refine wp_eq ?_
  unfold allC
  dsimp only
  rw [h]
  dsimp only
  rw [bools_map]
theorem td_strs {S : Sto} {k : Nat} : ∀ zs : List Str, (zs.map CV.str).mapM (toD S (k + 1)) = some (zs.map PyData.str)
  | [] => rfl
  | b :: bs => by rw [List.map_cons, List.mapM_cons, td_strs bs]; rfl
theorem lay_strs : ∀ l : List Str, (∀ z ∈ l, PyData.strOk z = true) → PyData.canLayAll0 (l.map PyData.str) = true
  | [], _ => by simp [PyData.canLayAll0]
  | i :: l, h => by
    simp only [List.map_cons, PyData.canLayAll0, lay_strs l fun z hz => h z (List.mem_cons_of_mem _ hz)]
    simp [PyData.canLay0, h i List.mem_cons_self]
theorem depth_strs : ∀ l : List Str, PyData.depthAll (l.map PyData.str) = 0
  | [] => by simp [PyData.depthAll]
  | i :: l => by simp only [List.map_cons, PyData.depthAll, depth_strs l]; simp [PyData.depth]
theorem shaped_strs {l : List Str} (h : ∀ z ∈ l, PyData.strOk z = true) : SeqAt.shaped (.list (l.map PyData.str)) = true := by
  simp only [SeqAt.shaped, PyData.canLay0, lay_strs l h, PyData.depth, depth_strs]; decide
theorem eqD_strs {S : Sto} {n k : Nat} {zs ys : List Str} (h : S[n]? = some (.lst (zs.map CV.str))) (h' : S[k]? = some (.lst (ys.map CV.str))) (hz : ∀ z ∈ zs, PyData.strOk z = true) (hy : ∀ z ∈ ys, PyData.strOk z = true) : eqD S (.ref n) (.ref k) = some (PyData.eqv (.list (zs.map .str)) (.list (ys.map .str))) := by
  unfold eqD
  rw [td_ref, td_ref, h, h']
  dsimp only
  rw [td_strs, td_strs]
  dsimp only [Option.map]
  rw [shaped_strs hz, shaped_strs hy]; rfl
theorem eqD_strs_nil {S : Sto} {n k : Nat} {zs : List Str} (h : S[n]? = some (.lst (zs.map CV.str))) (h' : S[k]? = some (.lst [])) (hz : ∀ z ∈ zs, PyData.strOk z = true) : eqD S (.ref n) (.ref k) = some zs.isEmpty := by
  rw [eqD_strs (ys := []) h h' hz (fun _ h => nomatch h)]
  cases zs <;> simp [PyData.eqv, PyData.eqvAll]
end MW
set_option Elab.async false
set_option linter.all false
set_option maxRecDepth 100000
set_option maxHeartbeats 400000
namespace MW
open PySem PySem.Spec PyProof.Rows L2
/-! ### list comprehensions that draw -/
inductive All2 (R : CV → CV → Prop) : List CV → List CV → Prop where
  | nil : All2 R [] []
  | cons {x y : CV} {xs ys : List CV} (h : R x y) (t : All2 R xs ys) : All2 R (x :: xs) (y :: ys)
theorem All2.length {R : CV → CV → Prop} : ∀ {xs ys : List CV}, All2 R xs ys → ys.length = xs.length
  | _, _, .nil => rfl
  | _, _, .cons _ t => by rw [List.length_cons, List.length_cons, All2.length t]
theorem All2.right {R : CV → CV → Prop} {P : CV → Prop} : ∀ {xs ys : List CV}, All2 R xs ys → (∀ x ∈ xs, ∀ y, R x y → P y) → ∀ y ∈ ys, P y
  | _, _, .nil, _, y, h => nomatch h
  | _, _, .cons h t, k, y, hy => by
    rcases List.mem_cons.mp hy with rfl | hy
    · exact k _ List.mem_cons_self _ h
    · exact All2.right t (fun x hx => k x (List.mem_cons_of_mem _ hx)) y hy
section
variable {p c : Nat} {cells : List Int} {B : Nat}
theorem lc_pen {chk : Sto → Bool} {g : CV → Rho → Option Rho} {me : Rho → M CV} {ρ : Rho} {R : CV → CV → Prop} {S0 : Sto} (hpl : p < S0.length) (hcl : c < S0.length) (hc : ∀ S, Ext p S0 S → chk S = true) : ∀ (xs acc : List CV) (T : Int) (S : Sto)
    (he : ∀ x ∈ xs, ∃ ρ1, g x ρ = some ρ1 ∧ ∀ T S, PenAt p c cells T S → T + B < 2 ^ 20 → Ext p S0 S → Tr (me ρ1 S) (fun v S' => R x v ∧ PenAt p c cells (T + B) S' ∧ Ext p S S')) (hl : acc.length + xs.length ≤ sizeLine) (hp : PenAt p c cells T S) (hT : T + B * xs.length < 2 ^ 20) (hS : Ext p S0 S) (ha : S[S0.length]? = some (.lst acc)),
    Wp (lcIt chk S0.length g mYes me ρ xs S) (fun _ S' => ∃ ys, All2 R xs ys ∧ PenAt p c cells (T + B * xs.length) S' ∧ Ext p S0 S' ∧ S'[S0.length]? = some (.lst (acc ++ ys))) NoE
  | [], acc, T, S, _, _, hp, _, hS, ha => by
    rw [wp_lc0, if_pos (hc S hS)]
    exact ⟨[], .nil, hp.le (by simp), hS, by rw [List.append_nil]; exact ha⟩
  | x :: xs, acc, T, S, he, hl, hp, hT, hS, ha => by
    obtain ⟨ρ1, e1, e2⟩ := he x List.mem_cons_self
    have em : (B : Int) * ((x :: xs).length : Int) = B * xs.length + B := by rw [List.length_cons, Int.natCast_add, Int.mul_add]; simp
    have en : (0 : Int) ≤ B * xs.length := Int.mul_nonneg (Int.natCast_nonneg _) (Int.natCast_nonneg _)
    rw [em] at hT ⊢
    rw [List.length_cons] at hl
    rw [wp_lc1, if_pos (hc S hS), e1]
    dsimp only
    rw [wp_yes, if_pos rfl]
    refine Tr.mono (e2 T S hp (by omega) hS) ?_
    rintro v S1 ⟨hr, hp1, h1⟩
    have h2 := h1 _ _ (by omega) ha
    rw [h2]
    dsimp only
    rw [if_pos (by omega)]
    have hp2 : PenAt p c cells (T + B) (S1.set S0.length (.lst (acc ++ [v]))) := by
      obtain ⟨t, r, e1, e2, e3⟩ := hp1
      exact ⟨t, r, by rw [List.getElem?_set_ne (by omega)]; exact e1, by rw [List.getElem?_set_ne (by omega)]; exact e2, e3⟩
    refine Wp.mono (lc_pen hpl hcl hc xs (acc ++ [v]) (T + B) _ (fun y hy => he y (List.mem_cons_of_mem _ hy)) (by rw [List.length_append, List.length_singleton]; omega) hp2 (by omega) ?_ (List.getElem?_set_self (List.getElem?_eq_some_iff.mp h2).1)) ?_
    · intro m o hm e
      have := (List.getElem?_eq_some_iff.mp e).1
      rw [List.getElem?_set_ne (by omega)]
      exact h1 m o hm (hS m o hm e)
    · rintro _ S' ⟨ys, hy, hp', he', hl'⟩
      refine ⟨v :: ys, .cons hr hy, hp'.le (by omega), he', ?_⟩
      rw [hl', List.append_assoc, List.singleton_append]
theorem PenAt.clt {T : Int} {S : Sto} (h : PenAt p c cells T S) : c < S.length := by
  obtain ⟨t, r, _, h1, _⟩ := h
  exact (List.getElem?_eq_some_iff.mp h1).1
theorem wp_lcPen {Q : CV → Sto → Prop} {E : Str → List (Str × CV) → Sto → Prop} {T : Int} {S : Sto} {ρ : Rho} {mi : Rho → M Src} {me : Rho → M CV} {g : CV → Rho → Option Rho} {vs : List Nat} {src : Src} (R : CV → CV → Prop) (hm : mi ρ S = .ok src S) (hc : ∀ S', Ext p S S' → src.chk S' = true) (hp : PenAt p c cells T S) (hT : T + B * src.items.length < 2 ^ 20) (hl : src.items.length ≤ sizeLine)
    (he : ∀ x ∈ src.items, ∃ ρ1, g x (wipeC ρ vs) = some ρ1 ∧ ∀ T S', PenAt p c cells T S' → T + B < 2 ^ 20 → Ext p S S' → Tr (me ρ1 S') (fun v S2 => R x v ∧ PenAt p c cells (T + B) S2 ∧ Ext p S' S2))
    (hq : ∀ ys S', All2 R src.items ys → PenAt p c cells (T + B * src.items.length) S' → Ext p S S' → S'[S.length]? = some (.lst ys) → Q (.ref S.length) S') : Wp (mLc mi g mYes me vs ρ S) Q E := by
  rw [wp_lc, hm, wp_ok]
  refine Wp.mono (lc_pen hp.lt hp.clt hc src.items [] T (S ++ [.lst []]) he (by rw [List.length_nil]; omega) hp.app hT Ext.app look_new0) ?_
  rintro _ S' ⟨ys, h1, h2, h3, h4⟩
  exact hq ys S' h1 h2 h3 (by rw [h4, List.nil_append])
end
/-! ### texts put together of signs -/
abbrev one (x : Nat) : Str := ⟨#[x]⟩
theorem strsOf_map : ∀ l : List Str, strsOf (l.map CV.str) = some l
  | [] => rfl
  | x :: l => by rw [List.map_cons, strsOf, strsOf_map l]; rfl
theorem join_ones : ∀ l : List Nat, Txt.join (Str.ofString "") (l.map one) = ⟨l.toArray⟩ := by
  intro l
  have e0 : Str.ofString "" = ⟨#[]⟩ := by decide +kernel
  show Builtin.Str.glued _ _ = _
  rw [StrLaws.glued_eq_join, e0]
  induction l with
  | nil => rfl
  | cons x l ih =>
    cases l with
    | nil => rfl
    | cons y l =>
      show one x ++ (⟨#[]⟩ : Str) ++ Str.join ⟨#[]⟩ ((y :: l).map one) = _
      rw [ih]
      show (⟨#[x] ++ #[] ++ (y :: l).toArray⟩ : Str) = _
      simp
theorem sum_ones : ∀ l : List Nat, ((l.map one).map (·.length)).sum = l.length
  | [] => rfl
  | x :: l => by rw [List.map_cons, List.map_cons, List.sum_cons, sum_ones l, List.length_cons]; show 1 + _ = _; omega
theorem wp_join_ones {Q : CV → Sto → Prop} {E : Str → List (Str × CV) → Sto → Prop} {S : Sto} {n : Nat} {l : List Nat} (h : S[n]? = some (.lst ((l.map one).map CV.str))) (hl : l.length ≤ 1000) : Wp (joinC (.str (Str.ofString "")) [.ref n] S) Q E = Q (.str ⟨l.toArray⟩) S := by
  refine wp_eq ?_
  unfold joinC
  dsimp only
  rw [h]
  dsimp only
  rw [strsOf_map]
  dsimp only
  have e0 : (Str.ofString "").length = 0 := by decide +kernel
  rw [if_pos (by rw [sum_ones, e0]; omega), join_ones]
/-- signs drawn -/
theorem signs_of {P : Nat → Prop} : ∀ {xs ys : List CV}, All2 (fun _ v => ∃ x, P x ∧ v = .str (one x)) xs ys → ∃ l : List Nat, ys = (l.map one).map CV.str ∧ (∀ x ∈ l, P x) ∧ l.length = xs.length
  | _, _, .nil => ⟨[], rfl, (fun x h => nomatch h), rfl⟩
  | _, _, .cons ⟨x, hx, e⟩ t => by
    obtain ⟨l, e1, h, hl⟩ := signs_of t
    subst e; subst e1
    exact ⟨x :: l, rfl, (fun y hy => by
      rcases List.mem_cons.mp hy with rfl | hy
      · exact hx
      · exact h y hy), by rw [List.length_cons, List.length_cons, hl]⟩
end MW
set_option Elab.async false
set_option linter.all false
set_option maxRecDepth 100000
set_option maxHeartbeats 4000000
namespace L02
open PySem PySem.Spec PyProof.Rows L2 MW
noncomputable section
def isi_n : List Str := ["Kind", "DeadEnd", "Bend", "Fork"]
def isi_o : List ((Str × Str) × Bool) := [(("Kind", "Kind"), true), (("Kind", "DeadEnd"), false), (("Kind", "Bend"), false), (("Kind", "Fork"), false), (("DeadEnd", "Kind"), true), (("DeadEnd", "DeadEnd"), true), (("DeadEnd", "Bend"), false), (("DeadEnd", "Fork"), false), (("Bend", "Kind"), true), (("Bend", "DeadEnd"), false), (("Bend", "Bend"), true), (("Bend", "Fork"), false), (("Fork", "Kind"), true), (("Fork", "DeadEnd"), false), (("Fork", "Bend"), false), (("Fork", "Fork"), true)]
def isi_b : List ((Str × String) × Bool) := [(("Kind", "str"), false), (("Kind", "int"), false), (("Kind", "bool"), false), (("Kind", "tuple"), false), (("Kind", "list"), false), (("Kind", "dict"), false), (("DeadEnd", "str"), false), (("DeadEnd", "int"), false), (("DeadEnd", "bool"), false), (("DeadEnd", "tuple"), false), (("DeadEnd", "list"), false), (("DeadEnd", "dict"), false), (("Bend", "str"), false), (("Bend", "int"), false), (("Bend", "bool"), false), (("Bend", "tuple"), false), (("Bend", "list"), false), (("Bend", "dict"), false), (("Fork", "str"), false), (("Fork", "int"), false), (("Fork", "bool"), false), (("Fork", "tuple"), false), (("Fork", "list"), false), (("Fork", "dict"), false)]
def b_is_whole : Rho → M CF := (sRet (mAndV truC (mFn (isiC isi_n isi_o isi_b) (mCons (mVar 0) (mCons (mC (.ty "int")) mNil))) (mNotV truC (mFn (isiC isi_n isi_o isi_b) (mCons (mVar 0) (mCons (mC (.ty "bool")) mNil))))))
def m_is_whole : List CV → M CV := runF 1 b_is_whole
def b_is_between : Rho → M CF := (sRet (mAndV truC (mAp 1 m_is_whole (mCons (mVar 0) mNil)) (mChain leC leC (mVar 1) (mVar 0) (mVar 2))))
def m_is_between : List CV → M CV := runF 3 b_is_between
def b_is_letter : Rho → M CF := (sRet (mAndV truC (mFn (isiC isi_n isi_o isi_b) (mCons (mVar 0) (mCons (mC (.ty "str")) mNil))) (mAndV truC (mOp eqC (mFn lenC (mCons (mVar 0) mNil)) (mC (.int 1))) (mOp (inC false) (mVar 0) (mC (.str "abcdefghijklmnopqrstuvwxyz"))))))
def m_is_letter : List CV → M CV := runF 1 b_is_letter
def b_is_word : Rho → M CF := (sRet (mAndV truC (mFn (isiC isi_n isi_o isi_b) (mCons (mVar 0) (mCons (mC (.ty "str")) mNil))) (mAndV truC (mChain leC leC (mC (.int 1)) (mFn lenC (mCons (mVar 0) mNil)) (mC (.int 8))) (mFn allC (mCons (mLc (mSrc (mVar 0)) (cN 1) mYes (mOp (inC false) (mVar 1) (mC (.str "abcdefghijklmnopqrstuvwxyz"))) [1]) mNil)))))
def m_is_word : List CV → M CV := runF 2 b_is_word
def b_is_port : Rho → M CF := (sRet (mAndV truC (mFn (isiC isi_n isi_o isi_b) (mCons (mVar 0) (mCons (mC (.ty "str")) mNil))) (mAndV truC (mOp eqC (mFn lenC (mCons (mVar 0) mNil)) (mC (.int 2))) (mAndV truC (mOp (inC false) (mOp ixC (mVar 0) (mC (.int 0))) (mC (.str "abcdefghijklmnopqrstuvwxyz"))) (mOp (inC false) (mOp ixC (mVar 0) (mC (.int 1))) (mC (.str "012")))))))
def m_is_port : List CV → M CV := runF 1 b_is_port
def fld_letter_0 : List Str := ["Kind", "DeadEnd", "Bend", "Fork"]
def b_Kind___init__ : Rho → M CF := (sSeq (sIf (mNot (mTru truC (mAp 1 m_is_letter (mCons (mVar 1) mNil)))) sBad sNext) (sFldC "letter" fld_letter_0 (mVar 0) (mVar 1)))
def m_Kind___init__ : List CV → M CV := runF 2 b_Kind___init__
def att_letter_0 : List (Str × AK) := [("Kind", .fld), ("DeadEnd", .fld), ("Bend", .fld), ("Fork", .fld)]
def att_ENDS_0 : List (Str × AK) := [("Kind", .con (.int 0)), ("DeadEnd", .con (.int 1)), ("Bend", .con (.int 2)), ("Fork", .con (.int 3))]
def b_Kind___eq__ : Rho → M CF := (sRet (mAndV truC (mFn (isiC isi_n isi_o isi_b) (mCons (mVar 1) (mCons (mC (.cls "Kind")) mNil))) (mAndV truC (mOp eqC (mUn (attC "letter" att_letter_0) (mVar 0)) (mUn (attC "letter" att_letter_0) (mVar 1))) (mOp eqC (mUn (attC "ENDS" att_ENDS_0) (mVar 0)) (mUn (attC "ENDS" att_ENDS_0) (mVar 1))))))
def m_Kind___eq__ : List CV → M CV := runF 2 b_Kind___eq__
def b_Kind___str__ : Rho → M CF := (sRet (mJoined [(mUn fmtC (mUn (attC "letter" att_letter_0) (mVar 0))), (mUn fmtC (mUn (attC "ENDS" att_ENDS_0) (mVar 0)))]))
def m_Kind___str__ : List CV → M CV := runF 1 b_Kind___str__
def own_str_0 : List (Str × (List CV → M CV)) := [("Kind", m_Kind___str__), ("DeadEnd", m_Kind___str__), ("Bend", m_Kind___str__), ("Fork", m_Kind___str__)]
def b_Kind___lt__ : Rho → M CF := (sRet (mOp ltC (mFn (strC own_str_0) (mCons (mVar 0) mNil)) (mFn (strC own_str_0) (mCons (mVar 1) mNil))))
def m_Kind___lt__ : List CV → M CV := runF 2 b_Kind___lt__
def own_eq_0 : List (Str × (List CV → M CV)) := [("Kind", m_Kind___eq__), ("DeadEnd", m_Kind___eq__), ("Bend", m_Kind___eq__), ("Fork", m_Kind___eq__)]
def nf_x_0_c : List (Str × Str) := [("Kind", "Kind"), ("DeadEnd", "Kind"), ("DeadEnd", "DeadEnd"), ("DeadEnd", "Bend"), ("DeadEnd", "Fork"), ("Bend", "Kind"), ("Bend", "DeadEnd"), ("Bend", "Bend"), ("Bend", "Fork"), ("Fork", "Kind"), ("Fork", "DeadEnd"), ("Fork", "Bend"), ("Fork", "Fork")]
def nf_x_0_b : List Str := ["Kind", "DeadEnd", "Bend", "Fork"]
def b_Kind_of : Rho → M CF := (sSeq (sIf (mNot (mTru truC (mAp 1 m_is_letter (mCons (mVar 0) mNil)))) sBad sNext) (sSeq (sIf (mNot (mTru truC (mAp 3 m_is_between (mCons (mVar 1) (mCons (mC (.int 1)) (mCons (mC (.int 3)) mNil)))))) sBad sNext) (sSeq (sIf (mTest (mOp (cmpOwn own_eq_0 nf_x_0_c nf_x_0_b id eqC) (mVar 1) (mC (.int 1)))) (sRet (mMk "DeadEnd" 2 m_Kind___init__ (mCons (mVar 0) mNil))) sNext) (sRet (mIf (mTest (mOp (cmpOwn own_eq_0 nf_x_0_c nf_x_0_b id eqC) (mVar 1) (mC (.int 2)))) (mMk "Bend" 2 m_Kind___init__ (mCons (mVar 0) mNil)) (mMk "Fork" 2 m_Kind___init__ (mCons (mVar 0) mNil)))))))
def m_Kind_of : List CV → M CV := runF 2 b_Kind_of
def met_of_0 : List (Str × MK) := [("Kind", .smeth 2 m_Kind_of), ("DeadEnd", .smeth 2 m_Kind_of), ("Bend", .smeth 2 m_Kind_of), ("Fork", .smeth 2 m_Kind_of)]
def b_Kind_read : Rho → M CF := (sSeq (sIf (mOr (mNot (mTru truC (mFn (isiC isi_n isi_o isi_b) (mCons (mVar 1) (mCons (mC (.ty "str")) mNil))))) (mOr (mTest (mOp (cmpOwn own_eq_0 nf_x_0_c nf_x_0_b (fun b => !b) neC) (mFn lenC (mCons (mVar 1) mNil)) (mC (.int 2)))) (mOr (mNot (mTru truC (mAp 1 m_is_letter (mCons (mOp ixC (mVar 1) (mC (.int 0))) mNil)))) (mTest (mOp (inC true) (mOp ixC (mVar 1) (mC (.int 1))) (mC (.str "123"))))))) sBad sNext) (sRet (mMet "of" met_of_0 (mC (.cls "Kind")) (mCons (mOp ixC (mVar 1) (mC (.int 0))) (mCons (mFn intC (mCons (mOp ixC (mVar 1) (mC (.int 1))) mNil)) mNil)))))
def m_Kind_read : List CV → M CV := runF 2 b_Kind_read
def b_Kind_ports : Rho → M CF := (sRet (mFn tupleC (mCons (mLc (mRng1 (mCons (mUn (attC "ENDS" att_ENDS_0) (mVar 0)) mNil)) (cN 1) mYes (mJoined [(mUn fmtC (mUn (attC "letter" att_letter_0) (mVar 0))), (mUn fmtC (mVar 1))]) [1]) mNil)))
def m_Kind_ports : List CV → M CV := runF 2 b_Kind_ports
def att_ports_0 : List (Str × AK) := [("Kind", .prop m_Kind_ports), ("DeadEnd", .prop m_Kind_ports), ("Bend", .prop m_Kind_ports), ("Fork", .prop m_Kind_ports)]
def b_Kind___contains__ : Rho → M CF := (sRet (mAndV truC (mFn (isiC isi_n isi_o isi_b) (mCons (mVar 1) (mCons (mC (.ty "str")) mNil))) (mOp (inC false) (mVar 1) (mUn (attC "ports" att_ports_0) (mVar 0)))))
def m_Kind___contains__ : List CV → M CV := runF 2 b_Kind___contains__
def b__law_pen : Rho → M CF := (sRet (mLst (mCons (mFn listC (mCons (mSl (mVar 0) mNoPart (mPart (mC (.int 63)))) mNil)) (mCons (mC (.int 0)) (mCons (mC (.int 0)) mNil)))))
def m__law_pen : List CV → M CV := runF 1 b__law_pen
def own_lt_0 : List (Str × (List CV → M CV)) := [("Kind", m_Kind___lt__), ("DeadEnd", m_Kind___lt__), ("Bend", m_Kind___lt__), ("Fork", m_Kind___lt__)]
def b__law_draw : Rho → M CF := (sSeq (sIf (mTest (mOp gtC (mOp ixC (mVar 0) (mC (.int 2))) (mC (.int 0)))) (sSeq (sAsg (mOp modC (mFn intC (mCons (mOp ixC (mVar 0) (mC (.int 2))) mNil)) (mVar 1)) (gN 2)) (sSeq (sAsg (mOp fdivC (mFn intC (mCons (mOp ixC (mVar 0) (mC (.int 2))) mNil)) (mVar 1)) (gIx (mVar 0) (mC (.int 2)))) (sRet (mVar 2)))) sNext) (sSeq (sAsg (mOp ixC (mVar 0) (mC (.int 1))) (gN 3)) (sSeq (sAsg (mOp addC (mVar 3) (mC (.int 1))) (gIx (mVar 0) (mC (.int 1)))) (sSeq (sAsg (mOp addC (mOp mulC (mC (.int 81127)) (mVar 3)) (mC (.int 2241))) (gN 4)) (sSeq (sIf (mTest (mOp (cmpOwn own_eq_0 nf_x_0_c nf_x_0_b (fun b => !b) neC) (mOp ixC (mVar 0) (mC (.int 0))) (mLst mNil))) (sAsg (mOp ixC (mOp ixC (mVar 0) (mC (.int 0))) (mOp modC (mFn intC (mCons (mVar 3) mNil)) (mFn lenC (mCons (mOp ixC (mVar 0) (mC (.int 0))) mNil)))) (gN 4)) sNext) (sSeq (sIf (mAnd (mTest (mOp (cmpOwn own_lt_0 nf_x_0_c nf_x_0_b id ltC) (mVar 3) (mFn lenC (mCons (mOp ixC (mVar 0) (mC (.int 0))) mNil)))) (mTest (mOp geC (mFn absC (mCons (mVar 4) mNil)) (mOp powC (mC (.int 10)) (mC (.int 18)))))) (sSeq (sAsg (mOp addC (mOp mulC (mC (.int 2)) (mOp subC (mFn absC (mCons (mVar 4) mNil)) (mOp powC (mC (.int 10)) (mC (.int 18))))) (mFn intC (mCons (mOp (cmpOwn own_lt_0 nf_x_0_c nf_x_0_b id ltC) (mVar 4) (mC (.int 0))) mNil))) (gN 5)) (sSeq (sAsg (mOp fdivC (mFn intC (mCons (mVar 5) mNil)) (mVar 1)) (gIx (mVar 0) (mC (.int 2)))) (sRet (mOp modC (mFn intC (mCons (mVar 5) mNil)) (mVar 1))))) sNext) (sSeq (sAsg (mOp modC (mFn intC (mCons (mOp powC (mOp addC (mOp addC (mOp modC (mFn intC (mCons (mVar 4) mNil)) (mC (.int 2147483543))) (mOp mulC (mC (.int 70199)) (mVar 3))) (mC (.int 1423))) (mC (.int 5))) mNil)) (mC (.int 2147483647))) (gN 6)) (sSeq (sAsg (mOp addC (mOp mulC (mVar 6) (mOp addC (mOp mulC (mC (.int 2)) (mVar 3)) (mC (.int 245)))) (mOp mulC (mOp mulC (mC (.int 60185)) (mVar 3)) (mVar 3))) (gN 7)) (sSeq (sAsg (mOp modC (mFn intC (mCons (mOp powC (mOp addC (mVar 7) (mC (.int 89))) (mC (.int 3))) mNil)) (mC (.int 2147483563))) (gN 6)) (sRet (mOp modC (mFn intC (mCons (mOp fdivC (mVar 6) (mC (.int 32))) mNil)) (mVar 1))))))))))))
def m__law_draw : List CV → M CV := runF 8 b__law_draw
def b__law_pick : Rho → M CF := (sRet (mOp ixC (mVar 1) (mAp 2 m__law_draw (mCons (mVar 0) (mCons (mFn lenC (mCons (mVar 1) mNil)) mNil)))))
def m__law_pick : List CV → M CV := runF 2 b__law_pick
def b__law_made : Rho → M CF := (sSeq (sIf (mTest (mOp (cmpOwn own_eq_0 nf_x_0_c nf_x_0_b id eqC) (mVar 1) (mC (.int 1)))) (sRet (mMk "DeadEnd" 2 m_Kind___init__ (mCons (mVar 0) mNil))) sNext) (sRet (mIf (mTest (mOp (cmpOwn own_eq_0 nf_x_0_c nf_x_0_b id eqC) (mVar 1) (mC (.int 2)))) (mMk "Bend" 2 m_Kind___init__ (mCons (mVar 0) mNil)) (mMk "Fork" 2 m_Kind___init__ (mCons (mVar 0) mNil)))))
def m__law_made : List CV → M CV := runF 2 b__law_made
def met_read_0 : List (Str × MK) := [("Kind", .cmeth 2 m_Kind_read), ("DeadEnd", .cmeth 2 m_Kind_read), ("Bend", .cmeth 2 m_Kind_read), ("Fork", .cmeth 2 m_Kind_read)]
def b__law_read : Rho → M CF := (sSeq (sIf (mTest (mOp (cmpOwn own_eq_0 nf_x_0_c nf_x_0_b id eqC) (mVar 0) (mC (.int 0)))) (sRet (mMet "read" met_read_0 (mC (.cls "Kind")) (mCons (mVar 1) mNil))) sNext) (sSeq (sIf (mTest (mOp (cmpOwn own_eq_0 nf_x_0_c nf_x_0_b id eqC) (mVar 0) (mC (.int 1)))) (sRet (mMet "read" met_read_0 (mC (.cls "DeadEnd")) (mCons (mVar 1) mNil))) sNext) (sRet (mIf (mTest (mOp (cmpOwn own_eq_0 nf_x_0_c nf_x_0_b id eqC) (mVar 0) (mC (.int 2)))) (mMet "read" met_read_0 (mC (.cls "Bend")) (mCons (mVar 1) mNil)) (mMet "read" met_read_0 (mC (.cls "Fork")) (mCons (mVar 1) mNil))))))
def m__law_read : List CV → M CV := runF 2 b__law_read
def own_contains_0 : List (Str × (List CV → M CV)) := [("Kind", m_Kind___contains__), ("DeadEnd", m_Kind___contains__), ("Bend", m_Kind___contains__), ("Fork", m_Kind___contains__)]
def L__law_told_right_0 : Rho → M CF := (sSeq (sAsg (mFn tupleC (mCons (mLc (mRng1 (mCons (mVar 2) mNil)) (cN 8) mYes (mOp addC (mVar 1) (mFn (strC own_str_0) (mCons (mVar 8) mNil))) [8]) mNil)) (gN 4)) (sSeq (sIf (mTest (mOp (cmpOwn own_eq_0 nf_x_0_c nf_x_0_b (fun b => !b) neC) (mFn reprC (mCons (mLst (mCons (mUn (attC "letter" att_letter_0) (mVar 3)) (mCons (mUn (attC "ports" att_ports_0) (mVar 3)) (mCons (mUn (attC "ENDS" att_ENDS_0) (mVar 3)) (mCons (mFn (strC own_str_0) (mCons (mVar 3) mNil)) mNil))))) mNil)) (mFn reprC (mCons (mLst (mCons (mVar 1) (mCons (mVar 4) (mCons (mVar 2) (mCons (mOp addC (mVar 1) (mFn (strC own_str_0) (mCons (mVar 2) mNil))) mNil))))) mNil)))) (sRet (mC (.bl false))) sNext) (sSeq (sAsg (mLst (mCons (mFn (isiC isi_n isi_o isi_b) (mCons (mVar 3) (mCons (mC (.cls "DeadEnd")) mNil))) (mCons (mFn (isiC isi_n isi_o isi_b) (mCons (mVar 3) (mCons (mC (.cls "Bend")) mNil))) (mCons (mFn (isiC isi_n isi_o isi_b) (mCons (mVar 3) (mCons (mC (.cls "Fork")) mNil))) mNil)))) (gN 5)) (sSeq (sIf (mOr (mTest (mOp (cmpOwn own_eq_0 nf_x_0_c nf_x_0_b (fun b => !b) neC) (mVar 5) (mLst (mCons (mOp (cmpOwn own_eq_0 nf_x_0_c nf_x_0_b id eqC) (mVar 2) (mC (.int 1))) (mCons (mOp (cmpOwn own_eq_0 nf_x_0_c nf_x_0_b id eqC) (mVar 2) (mC (.int 2))) (mCons (mOp (cmpOwn own_eq_0 nf_x_0_c nf_x_0_b id eqC) (mVar 2) (mC (.int 3))) mNil)))))) (mNot (mTru truC (mFn (isiC isi_n isi_o isi_b) (mCons (mVar 3) (mCons (mC (.cls "Kind")) mNil)))))) (sRet (mC (.bl false))) sNext) (sSeq (sAsg (mOp addC (mLc (mRng1 (mCons (mC (.int 4)) mNil)) (cN 8) mYes (mOp addC (mVar 1) (mFn (strC own_str_0) (mCons (mVar 8) mNil))) [8]) (mLst (mCons (mVar 1) (mCons (mC (.str "")) (mCons (mC .non) (mCons (mC (.int 0)) (mCons (mC (.bl true)) (mCons (mTup (mCons (mVar 1) (mCons (mC (.int 0)) mNil))) (mCons (mLst (mCons (mOp addC (mVar 1) (mC (.str "0"))) mNil)) (mCons mDict0 mNil)))))))))) (gN 6)) (sSeq (sIf (mTest (mOp (cmpOwn own_eq_0 nf_x_0_c nf_x_0_b (fun b => !b) neC) (mFn reprC (mCons (mLc (mSrc (mVar 6)) (cN 9) mYes (mOp (inOwn own_contains_0 false) (mVar 9) (mVar 3)) [9]) mNil)) (mFn reprC (mCons (mLc (mSrc (mVar 6)) (cN 9) mYes (mOp (inOwn own_contains_0 false) (mVar 9) (mVar 4)) [9]) mNil)))) (sRet (mC (.bl false))) sNext) (sSeq (sAsg (mAp 2 m__law_read (mCons (mAp 2 m__law_draw (mCons (mVar 0) (mCons (mC (.int 4)) mNil))) (mCons (mOp addC (mVar 1) (mFn (strC own_str_0) (mCons (mVar 2) mNil))) mNil))) (gN 7)) (sIf (mOr (mNot (mTest (mOp (cmpOwn own_eq_0 nf_x_0_c nf_x_0_b id eqC) (mVar 7) (mVar 3)))) (mOr (mTest (mOp (cmpOwn own_eq_0 nf_x_0_c nf_x_0_b (fun b => !b) neC) (mVar 7) (mVar 3))) (mTest (mOp (cmpOwn own_eq_0 nf_x_0_c nf_x_0_b (fun b => !b) neC) (mUn (attC "ENDS" att_ENDS_0) (mVar 7)) (mVar 2))))) (sRet (mC (.bl false))) sNext))))))))
def b__law_told_right : Rho → M CF := (sSeq (sFor (mSrc (mLst (mCons (mAp 2 m__law_made (mCons (mVar 1) (mCons (mVar 2) mNil))) (mCons (mMet "of" met_of_0 (mC (.cls "Kind")) (mCons (mVar 1) (mCons (mVar 2) mNil))) (mCons (mCmK "Kind" (appK 2 0 2 [1, 0] m_Kind_of []) (mC (.cls "Kind")) (mCons (mVar 2) (mCons (mVar 1) mNil))) mNil))))) (gN 3) L__law_told_right_0) (sRet (mC (.bl true))))
def m__law_told_right : List CV → M CV := runF 10 b__law_told_right
def b__law_pair_right : Rho → M CF := (sSeq (sAsg (mTup (mCons (mAp 2 m__law_made (mCons (mOp ixC (mVar 0) (mC (.int 0))) (mCons (mOp ixC (mVar 0) (mC (.int 1))) mNil))) (mCons (mAp 2 m__law_made (mCons (mOp ixC (mVar 1) (mC (.int 0))) (mCons (mOp ixC (mVar 1) (mC (.int 1))) mNil))) mNil))) (gT [2, 3])) (sSeq (sIf (mTest (mOp (cmpOwn own_eq_0 nf_x_0_c nf_x_0_b (fun b => !b) neC) (mFn reprC (mCons (mLst (mCons (mOp (cmpOwn own_eq_0 nf_x_0_c nf_x_0_b id eqC) (mVar 2) (mVar 3)) (mCons (mOp (cmpOwn own_eq_0 nf_x_0_c nf_x_0_b (fun b => !b) neC) (mVar 2) (mVar 3)) (mCons (mOp (cmpOwn own_lt_0 nf_x_0_c nf_x_0_b id ltC) (mVar 2) (mVar 3)) mNil)))) mNil)) (mFn reprC (mCons (mLst (mCons (mOp (cmpOwn own_eq_0 nf_x_0_c nf_x_0_b id eqC) (mVar 0) (mVar 1)) (mCons (mOp (cmpOwn own_eq_0 nf_x_0_c nf_x_0_b (fun b => !b) neC) (mVar 0) (mVar 1)) (mCons (mOp (cmpOwn own_lt_0 nf_x_0_c nf_x_0_b id ltC) (mVar 0) (mVar 1)) mNil)))) mNil)))) (sRet (mC (.bl false))) sNext) (sSeq (sAsg (mLst (mCons (mC .non) (mCons (mC (.int 0)) (mCons (mFn (strC own_str_0) (mCons (mVar 2) mNil)) (mCons (mUn (attC "letter" att_letter_0) (mVar 2)) (mCons (mUn (attC "ports" att_ports_0) (mVar 2)) (mCons (mTup (mCons (mOp ixC (mVar 0) (mC (.int 0))) (mCons (mOp ixC (mVar 0) (mC (.int 1))) mNil))) (mCons (mLst (mCons (mVar 2) mNil)) (mCons mDict0 mNil))))))))) (gN 4)) (sRet (mOp (cmpOwn own_eq_0 nf_x_0_c nf_x_0_b id eqC) (mLc (mSrc (mVar 4)) (cN 5) (mOr (mTest (mOp (cmpOwn own_eq_0 nf_x_0_c nf_x_0_b id eqC) (mVar 2) (mVar 5))) (mNot (mTest (mOp (cmpOwn own_eq_0 nf_x_0_c nf_x_0_b (fun b => !b) neC) (mVar 2) (mVar 5))))) (mVar 5) [5]) (mLst mNil))))))
def m__law_pair_right : List CV → M CV := runF 6 b__law_pair_right
def b__law_is_letter : Rho → M CF := (sRet (mAndV truC (mFn (isiC isi_n isi_o isi_b) (mCons (mVar 0) (mCons (mC (.ty "str")) mNil))) (mAndV truC (mOp (cmpOwn own_eq_0 nf_x_0_c nf_x_0_b id eqC) (mFn lenC (mCons (mVar 0) mNil)) (mC (.int 1))) (mChain leC leC (mC (.str "a")) (mVar 0) (mC (.str "z"))))))
def m__law_is_letter : List CV → M CV := runF 1 b__law_is_letter
def b__law_is_word : Rho → M CF := (sSeq (sIf (mOr (mNot (mTru truC (mFn (isiC isi_n isi_o isi_b) (mCons (mVar 0) (mCons (mC (.ty "str")) mNil))))) (mOr (mTest (mOp (cmpOwn own_lt_0 nf_x_0_c nf_x_0_b id ltC) (mFn lenC (mCons (mVar 0) mNil)) (mC (.int 1)))) (mTest (mOp gtC (mFn lenC (mCons (mVar 0) mNil)) (mC (.int 8)))))) (sRet (mC (.bl false))) sNext) (sRet (mOp (cmpOwn own_eq_0 nf_x_0_c nf_x_0_b id eqC) (mLc (mSrc (mVar 0)) (cN 1) (mNot (mTest (mChain leC leC (mC (.str "a")) (mVar 1) (mC (.str "z"))))) (mVar 1) [1]) (mLst mNil))))
def m__law_is_word : List CV → M CV := runF 2 b__law_is_word
def L__law_names_right_0 : Rho → M CF := (sSeq (sAsg (mAndV truC (mFn (isiC isi_n isi_o isi_b) (mCons (mVar 7) (mCons (mC (.ty "str")) mNil))) (mAndV truC (mOp (cmpOwn own_eq_0 nf_x_0_c nf_x_0_b id eqC) (mFn lenC (mCons (mVar 7) mNil)) (mC (.int 2))) (mAndV truC (mChain leC leC (mC (.str "a")) (mOp ixC (mVar 7) (mC (.int 0))) (mC (.str "z"))) (mOp (inOwn own_contains_0 false) (mOp ixC (mVar 7) (mC (.int 1))) (mC (.str "012")))))) (gN 8)) (sSeq (sAsg (mLst (mCons (mAp 1 m_is_letter (mCons (mVar 7) mNil)) (mCons (mApK 1 1 [0] m_is_word (mCons (mVar 7) mNil)) (mCons (mAp 1 m_is_port (mCons (mVar 7) mNil)) mNil)))) (gN 9)) (sIf (mTest (mOp (cmpOwn own_eq_0 nf_x_0_c nf_x_0_b (fun b => !b) neC) (mFn reprC (mCons (mVar 9) mNil)) (mFn reprC (mCons (mLst (mCons (mAp 1 m__law_is_letter (mCons (mVar 7) mNil)) (mCons (mAp 1 m__law_is_word (mCons (mVar 7) mNil)) (mCons (mVar 8) mNil)))) mNil)))) (sRet (mC (.bl false))) sNext)))
def b__law_names_right : Rho → M CF := (sSeq (sAsg (mC (.str "abz01239-AZ_ ~{`")) (gN 1)) (sSeq (sAsg (mBM "str" joinC (mC (.str "")) (mCons (mLc (mRng1 (mCons (mAp 2 m__law_draw (mCons (mVar 0) (mCons (mC (.int 10)) mNil))) mNil)) (cN 10) mYes (mAp 2 m__law_pick (mCons (mVar 0) (mCons (mVar 1) mNil))) [10]) mNil)) (gN 2)) (sSeq (sAsg (mC (.str "abcdefghijklmnopqrstuvwxyz")) (gN 3)) (sSeq (sAsg (mBM "str" joinC (mC (.str "")) (mCons (mLc (mRng1 (mCons (mAp 2 m__law_draw (mCons (mVar 0) (mCons (mC (.int 11)) mNil))) mNil)) (cN 10) mYes (mAp 2 m__law_pick (mCons (mVar 0) (mCons (mVar 3) mNil))) [10]) mNil)) (gN 4)) (sSeq (sAsg (mOp addC (mAp 2 m__law_pick (mCons (mVar 0) (mCons (mC (.str "azmAZ0")) mNil))) (mAp 2 m__law_pick (mCons (mVar 0) (mCons (mC (.str "012349a-")) mNil)))) (gN 5)) (sSeq (sAsg (mLst (mCons (mVar 2) (mCons (mVar 4) (mCons (mVar 5) (mCons (mOp addC (mVar 5) (mC (.str " "))) (mCons (mOp mulC (mC (.str "a")) (mC (.int 8))) (mCons (mOp mulC (mC (.str "a")) (mC (.int 9))) (mCons (mC (.str "")) (mCons (mC .non) (mCons (mC (.int 0)) (mCons (mC (.bl true)) (mCons (mLst (mCons (mC (.str "a")) mNil)) (mCons (mTup (mCons (mC (.str "a")) (mCons (mC (.int 0)) mNil))) (mCons mDict0 (mCons (mOp powC (mC (.int 10)) (mC (.int 30))) mNil))))))))))))))) (gN 6)) (sSeq (sFor (mSrc (mVar 6)) (gN 7) L__law_names_right_0) (sRet (mC (.bl true))))))))))
def m__law_names_right : List CV → M CV := runF 11 b__law_names_right
def L_law_0 : Rho → M CF := (sIf (mNot (mTru truC (mAp 3 m__law_told_right (mCons (mVar 1) (mCons (mVar 5) (mCons (mVar 6) mNil)))))) (sRet (mC (.bl false))) sNext)
def L_law_1 : Rho → M CF := (sIf (mNot (mTru truC (mAp 2 m__law_pair_right (mCons (mVar 7) (mCons (mVar 8) mNil))))) (sRet (mC (.bl false))) sNext)
def L_law_2 : Rho → M CF := (sFor (mSrc (mVar 4)) (gN 8) L_law_1)
def L_law_3 : Rho → M CF := (sSeq (sAsg (mLc (mRng1 (mCons (mC (.int 3)) mNil)) (cN 9) mYes (mAp 2 m__law_pick (mCons (mVar 1) (mCons (mC (.str "abcdefghijklmnopqrstuvwxyz")) mNil))) [9]) (gN 3)) (sSeq (sAsg (mLc (mSrc (mVar 3)) (cN 5) mYes (mTup (mCons (mVar 5) (mCons (mOp addC (mC (.int 1)) (mAp 2 m__law_draw (mCons (mVar 1) (mCons (mC (.int 3)) mNil)))) mNil))) [5]) (gN 4)) (sSeq (sAsg (mOp addC (mVar 4) (mLc (mSrc (mVar 4)) (cT [5, 6]) mYes (mTup (mCons (mVar 5) (mCons (mOp addC (mC (.int 1)) (mOp modC (mFn intC (mCons (mVar 6) mNil)) (mC (.int 3)))) mNil))) [5, 6])) (gN 4)) (sSeq (sFor (mSrc (mVar 4)) (gT [5, 6]) L_law_0) (sSeq (sFor (mSrc (mVar 4)) (gN 7) L_law_2) (sIf (mNot (mTru truC (mAp 1 m__law_names_right (mCons (mVar 1) mNil)))) (sRet (mC (.bl false))) sNext))))))
def b_law : Rho → M CF := (sSeq (sAsg (mAp 1 m__law_pen (mCons (mVar 0) mNil)) (gN 1)) (sSeq (sFor (mRng1 (mCons (mC (.int 6)) mNil)) (gN 2) L_law_3) (sRet (mOp (cmpOwn own_eq_0 nf_x_0_c nf_x_0_b id eqC) (mLst (mCons (mUn (attC "ENDS" att_ENDS_0) (mC (.cls "DeadEnd"))) (mCons (mUn (attC "ENDS" att_ENDS_0) (mC (.cls "Bend"))) (mCons (mUn (attC "ENDS" att_ENDS_0) (mC (.cls "Fork"))) mNil)))) (mLst (mCons (mC (.int 1)) (mCons (mC (.int 2)) (mCons (mC (.int 3)) mNil))))))))
def m_law : List CV → M CV := runF 10 b_law
end
end L02
set_option Elab.async false
set_option linter.all false
set_option maxRecDepth 100000
set_option maxHeartbeats 400000
namespace L02
open PySem PySem.Spec PyProof.Rows L2 MW
theorem ixN_31 : ixN 3 1 = some 1 := rfl
theorem ixN_32 : ixN 3 2 = some 2 := rfl
theorem draw {S : Sto} {p c : Nat} {T n : Int} {cells : List Int} (hp : PenAt p c cells T S) (hT : T < 2 ^ 20) (hn : 0 < n) (hn2 : n < 2 ^ 30) :
    Wp (m__law_draw [.ref p, .int n] S) (fun v S' => ∃ d, v = .int d ∧ 0 ≤ d ∧ d < n ∧ PenAt p c cells (T + 1) S' ∧ Ext p S S') NoE := by
  obtain ⟨t, r, hp, hc, h0, hle, hr, hne, hl⟩ := hp
  have hlt := (List.getElem?_eq_some_iff.mp hp).1
  have hn0 : n ≠ 0 := by omega
  have hna : n.natAbs < 1073741824 := by omega
  have bt : Bd t 1048576 := ⟨h0, by omega⟩
  have g1 : ∀ o, (S.set p o)[p]? = some o := fun o => List.getElem?_set_self hlt
  have g2 : ∀ o, (S.set p o)[c]? = some (.lst (cells.map .int)) := fun o => (List.getElem?_set_ne hne).trans hc
  have g3 : ∀ o l, (S.set p o ++ l)[p]? = some o := fun o l => look_old (g1 o)
  have g4 : ∀ o l, (S.set p o ++ l)[c]? = some (.lst (cells.map .int)) := fun o l => look_old (g2 o)
  have g5 : ∀ o o' l, (S.set p o ++ l).set p o' = S.set p o' ++ l := fun o o' l => by
    rw [List.set_append_left _ _ (by rw [List.length_set]; exact hlt), List.set_set]
  have g6 : ∀ o, eqD (S.set p o ++ [.lst []]) (.ref c) (.ref (S.set p o).length) = some cells.isEmpty := fun o => eqD_nil (g4 _ _) look_new0
  have fin : ∀ {x : Int} {o : CO} {l : Sto} {t' r' : Int}, o = .lst [.ref c, .int t', .int r'] → 0 ≤ t' → t' ≤ T + 1 → 0 ≤ r' → ∃ d, CV.int (x.fmod n) = .int d ∧ 0 ≤ d ∧ d < n ∧ PenAt p c cells (T + 1) (S.set p o ++ l) ∧ Ext p S (S.set p o ++ l) := fun {x o l t' r'} ho h1 h2 h3 =>
    ⟨_, rfl, Int.fmod_nonneg_of_pos _ hn, Int.fmod_lt_of_pos _ hn, ⟨t', r', by rw [g3, ho], g4 _ _, h1, h2, h3, hne, hl⟩, Ext.set.trans Ext.app⟩
  unfold m__law_draw b__law_draw
  by_cases hr0 : 0 < r
  · simp only [hr0, ↓wp_run, ↓wp_var, ↓wp_c, ↓wp_op, ↓wp_un, ↓wp_fn, ↓wp_app, ↓wp_ap, ↓wp_nil, ↓wp_cons, ↓wp_mkTup, ↓wp_mkLst, ↓wp_tup, ↓wp_lst, ↓wp_asB, ↓wp_test, ↓wp_tru, ↓wp_and, ↓wp_or, ↓wp_not, ↓wp_if, ↓wp_andV, ↓wp_orV, ↓wp_notV, ↓wp_yes, ↓seqK_nx, ↓seqK_rt, ↓seqK_bk, ↓seqK_ct, ↓seqK_xc, ↓wp_seq, ↓wp_lft, ↓wp_next, ↓wp_brk, ↓wp_cont, ↓wp_sbad, ↓wp_expr, ↓wp_sret, ↓wp_sretN, ↓wp_sif, ↓wp_asg, ↓wp_gN, ↓wp_gT, ↓wp_par, ↓wp_gIx, ↓wp_fld, ↓finK_nx, ↓finK_rt, ↓finK_xc, ↓wp_mk, ↓wp_srcT, ↓wp_src, ↓wp_rng1, ↓wp_rng2, ↓wp_for, ↓forK_nx, ↓forK_ct, ↓forK_bk, ↓forK_rt, ↓wp_ok, ↓wp_ret, ↓wp_bnd, ↓wp_Rbnd, ↓wp_calm, ↓wp_t, ↓wp_f, startC, List.map_cons, List.map_nil, List.length_cons, List.length_nil, List.replicate_succ, List.replicate_zero, List.cons_append, List.nil_append, List.append_assoc, List.getElem?_cons_zero, List.getElem?_cons_succ, List.set_cons_zero, List.set_cons_succ, Nat.reduceAdd, Nat.reduceSub, Nat.zero_add, if_true, if_false, ite_true, ite_false, reduceIte, sizeLine, Nat.reducePow, Nat.reduceLeDiff, Nat.reduceEqDiff, atI_0, atI_1, atI_2, atI_3, ↓wp_add_i, ↓wp_add_s, ↓wp_sub_i, ↓wp_mul_i, ↓wp_mod_i, ↓wp_fdiv_i, ↓wp_pow_i, ↓wp_lt_i, ↓wp_le_i, ↓wp_gt_i, ↓wp_ge_i, ↓wp_lt_s, ↓wp_le_s, ↓wp_eq_i, ↓wp_ne_i, ↓wp_eq_s, ↓wp_ne_s, ↓wp_ix_t, ↓wp_ix_l, ↓wp_ix_s, ↓wp_setIx, ↓wp_len_s, ↓wp_len_t, ↓wp_len_l, ↓wp_abs, ↓wp_int, ↓wp_int_b, ↓wp_tru_b, ↓wp_tru_i, ↓wp_tru_non, ↓wp_tru_t, ↓wp_src_l, ↓wp_cmp_i, ↓wp_cmp_s, ↓wp_cmp_b, ↓wp_cmp_t, ↓wp_cmp_non, ↓wp_cmp_r, ↓ownR_b, ↓wp_ne_r, ↓wp_eq_r, ↓wp_ne_t, ↓wp_eq_t, ite_F, Int.reduceNeg, Int.reducePow, Int.reduceLT, Int.reduceLE, Int.reduceToNat, true_and, and_true, true_or, or_true, and_self, decide_true, decide_false, Bool.not_true, Bool.not_false, not_false_eq_true, ne_eq, Bool.false_eq_true, hp, hc, hn0, hna, ixN_31, ixN_32]
    have := fin (x := r) (l := []) (t' := t) (r' := r.fdiv n) rfl h0 (by omega) (Int.fdiv_nonneg (by omega) (by omega))
    rw [List.append_nil] at this
    exact this
  · obtain rfl : r = 0 := by omega
    cases hce : cells.isEmpty with
    | true =>
      have hl0 : cells.length = 0 := by rw [List.isEmpty_iff.mp hce]; rfl
      have ht0 : ¬ t < (0 : Int) := by omega
      simp only [Int.lt_irrefl, ↓wp_run, ↓wp_var, ↓wp_c, ↓wp_op, ↓wp_un, ↓wp_fn, ↓wp_app, ↓wp_ap, ↓wp_nil, ↓wp_cons, ↓wp_mkTup, ↓wp_mkLst, ↓wp_tup, ↓wp_lst, ↓wp_asB, ↓wp_test, ↓wp_tru, ↓wp_and, ↓wp_or, ↓wp_not, ↓wp_if, ↓wp_andV, ↓wp_orV, ↓wp_notV, ↓wp_yes, ↓seqK_nx, ↓seqK_rt, ↓seqK_bk, ↓seqK_ct, ↓seqK_xc, ↓wp_seq, ↓wp_lft, ↓wp_next, ↓wp_brk, ↓wp_cont, ↓wp_sbad, ↓wp_expr, ↓wp_sret, ↓wp_sretN, ↓wp_sif, ↓wp_asg, ↓wp_gN, ↓wp_gT, ↓wp_par, ↓wp_gIx, ↓wp_fld, ↓finK_nx, ↓finK_rt, ↓finK_xc, ↓wp_mk, ↓wp_srcT, ↓wp_src, ↓wp_rng1, ↓wp_rng2, ↓wp_for, ↓forK_nx, ↓forK_ct, ↓forK_bk, ↓forK_rt, ↓wp_ok, ↓wp_ret, ↓wp_bnd, ↓wp_Rbnd, ↓wp_calm, ↓wp_t, ↓wp_f, startC, List.map_cons, List.map_nil, List.length_cons, List.length_nil, List.replicate_succ, List.replicate_zero, List.cons_append, List.nil_append, List.append_assoc, List.getElem?_cons_zero, List.getElem?_cons_succ, List.set_cons_zero, List.set_cons_succ, Nat.reduceAdd, Nat.reduceSub, Nat.zero_add, if_true, if_false, ite_true, ite_false, reduceIte, sizeLine, Nat.reducePow, Nat.reduceLeDiff, Nat.reduceEqDiff, atI_0, atI_1, atI_2, atI_3, ↓wp_add_i, ↓wp_add_s, ↓wp_sub_i, ↓wp_mul_i, ↓wp_mod_i, ↓wp_fdiv_i, ↓wp_pow_i, ↓wp_lt_i, ↓wp_le_i, ↓wp_gt_i, ↓wp_ge_i, ↓wp_lt_s, ↓wp_le_s, ↓wp_eq_i, ↓wp_ne_i, ↓wp_eq_s, ↓wp_ne_s, ↓wp_ix_t, ↓wp_ix_l, ↓wp_ix_s, ↓wp_setIx, ↓wp_len_s, ↓wp_len_t, ↓wp_len_l, ↓wp_abs, ↓wp_int, ↓wp_int_b, ↓wp_tru_b, ↓wp_tru_i, ↓wp_tru_non, ↓wp_tru_t, ↓wp_src_l, ↓wp_cmp_i, ↓wp_cmp_s, ↓wp_cmp_b, ↓wp_cmp_t, ↓wp_cmp_non, ↓wp_cmp_r, ↓ownR_b, ↓wp_ne_r, ↓wp_eq_r, ↓wp_ne_t, ↓wp_eq_t, ite_F, Int.reduceNeg, Int.reducePow, Int.reduceLT, Int.reduceLE, Int.reduceToNat, true_and, and_true, true_or, or_true, and_self, decide_true, decide_false, Bool.not_true, Bool.not_false, not_false_eq_true, ne_eq, Bool.false_eq_true, hp, hc, hn0, hna, g1, g2, g3, g4, g5, g6, hce, hl0, ht0, List.length_map, Int.natCast_zero, Int.ofNat_zero, ixN_31, ixN_32]
      repeat' apply And.intro
      all_goals first | exact fin rfl (by omega) (by omega) (by omega) | exact Nat.zero_le _ | decide | omega | (apply Bd.nat; (repeat (first | exact bt | exact Bd.fmod (by decide) | exact Bd.lit (by decide) | apply Bd.add | apply Bd.mul)); decide)
    | false =>
      have hl0 : ¬ cells.length = 0 := by intro e; rw [List.length_eq_zero_iff.mp e] at hce; cases hce
      have hl1 : ¬ (cells.length : Int) = 0 := by omega
      have b0 := Int.fmod_nonneg_of_pos t (b := (cells.length : Int)) (by omega)
      have b1 := Int.fmod_lt_of_pos t (b := (cells.length : Int)) (by omega)
      obtain ⟨cell, hcell⟩ : ∃ cell, atI (cells.map CV.int) (t.fmod (cells.length : Int)) = some (.int cell) := by
        rw [atI_nat b0 (by rw [List.length_map]; exact b1), List.getElem?_map, List.getElem?_eq_getElem (by omega)]
        exact ⟨_, rfl⟩
      by_cases h1 : t < (cells.length : Int)
      · by_cases h2 : 1000000000000000000 ≤ (if cell < 0 then -cell else cell)
        · simp only [Int.lt_irrefl, ↓wp_run, ↓wp_var, ↓wp_c, ↓wp_op, ↓wp_un, ↓wp_fn, ↓wp_app, ↓wp_ap, ↓wp_nil, ↓wp_cons, ↓wp_mkTup, ↓wp_mkLst, ↓wp_tup, ↓wp_lst, ↓wp_asB, ↓wp_test, ↓wp_tru, ↓wp_and, ↓wp_or, ↓wp_not, ↓wp_if, ↓wp_andV, ↓wp_orV, ↓wp_notV, ↓wp_yes, ↓seqK_nx, ↓seqK_rt, ↓seqK_bk, ↓seqK_ct, ↓seqK_xc, ↓wp_seq, ↓wp_lft, ↓wp_next, ↓wp_brk, ↓wp_cont, ↓wp_sbad, ↓wp_expr, ↓wp_sret, ↓wp_sretN, ↓wp_sif, ↓wp_asg, ↓wp_gN, ↓wp_gT, ↓wp_par, ↓wp_gIx, ↓wp_fld, ↓finK_nx, ↓finK_rt, ↓finK_xc, ↓wp_mk, ↓wp_srcT, ↓wp_src, ↓wp_rng1, ↓wp_rng2, ↓wp_for, ↓forK_nx, ↓forK_ct, ↓forK_bk, ↓forK_rt, ↓wp_ok, ↓wp_ret, ↓wp_bnd, ↓wp_Rbnd, ↓wp_calm, ↓wp_t, ↓wp_f, startC, List.map_cons, List.map_nil, List.length_cons, List.length_nil, List.replicate_succ, List.replicate_zero, List.cons_append, List.nil_append, List.append_assoc, List.getElem?_cons_zero, List.getElem?_cons_succ, List.set_cons_zero, List.set_cons_succ, Nat.reduceAdd, Nat.reduceSub, Nat.zero_add, if_true, if_false, ite_true, ite_false, reduceIte, sizeLine, Nat.reducePow, Nat.reduceLeDiff, Nat.reduceEqDiff, atI_0, atI_1, atI_2, atI_3, ↓wp_add_i, ↓wp_add_s, ↓wp_sub_i, ↓wp_mul_i, ↓wp_mod_i, ↓wp_fdiv_i, ↓wp_pow_i, ↓wp_lt_i, ↓wp_le_i, ↓wp_gt_i, ↓wp_ge_i, ↓wp_lt_s, ↓wp_le_s, ↓wp_eq_i, ↓wp_ne_i, ↓wp_eq_s, ↓wp_ne_s, ↓wp_ix_t, ↓wp_ix_l, ↓wp_ix_s, ↓wp_setIx, ↓wp_len_s, ↓wp_len_t, ↓wp_len_l, ↓wp_abs, ↓wp_int, ↓wp_int_b, ↓wp_tru_b, ↓wp_tru_i, ↓wp_tru_non, ↓wp_tru_t, ↓wp_src_l, ↓wp_cmp_i, ↓wp_cmp_s, ↓wp_cmp_b, ↓wp_cmp_t, ↓wp_cmp_non, ↓wp_cmp_r, ↓ownR_b, ↓wp_ne_r, ↓wp_eq_r, ↓wp_ne_t, ↓wp_eq_t, ite_F, Int.reduceNeg, Int.reducePow, Int.reduceLT, Int.reduceLE, Int.reduceToNat, true_and, and_true, true_or, or_true, and_self, decide_true, decide_false, Bool.not_true, Bool.not_false, not_false_eq_true, ne_eq, Bool.false_eq_true, hp, hc, hn0, hna, g1, g2, g3, g4, g5, g6, hce, hl0, hl1, hcell, h1, h2, List.length_map, ixN_31, ixN_32]
          repeat' apply And.intro
          all_goals first | exact Nat.zero_le _ | decide | skip
          exact fin rfl (by omega) (by omega) (Int.fdiv_nonneg (by split at h2 <;> simp_all <;> omega) (by omega))
        · simp only [Int.lt_irrefl, ↓wp_run, ↓wp_var, ↓wp_c, ↓wp_op, ↓wp_un, ↓wp_fn, ↓wp_app, ↓wp_ap, ↓wp_nil, ↓wp_cons, ↓wp_mkTup, ↓wp_mkLst, ↓wp_tup, ↓wp_lst, ↓wp_asB, ↓wp_test, ↓wp_tru, ↓wp_and, ↓wp_or, ↓wp_not, ↓wp_if, ↓wp_andV, ↓wp_orV, ↓wp_notV, ↓wp_yes, ↓seqK_nx, ↓seqK_rt, ↓seqK_bk, ↓seqK_ct, ↓seqK_xc, ↓wp_seq, ↓wp_lft, ↓wp_next, ↓wp_brk, ↓wp_cont, ↓wp_sbad, ↓wp_expr, ↓wp_sret, ↓wp_sretN, ↓wp_sif, ↓wp_asg, ↓wp_gN, ↓wp_gT, ↓wp_par, ↓wp_gIx, ↓wp_fld, ↓finK_nx, ↓finK_rt, ↓finK_xc, ↓wp_mk, ↓wp_srcT, ↓wp_src, ↓wp_rng1, ↓wp_rng2, ↓wp_for, ↓forK_nx, ↓forK_ct, ↓forK_bk, ↓forK_rt, ↓wp_ok, ↓wp_ret, ↓wp_bnd, ↓wp_Rbnd, ↓wp_calm, ↓wp_t, ↓wp_f, startC, List.map_cons, List.map_nil, List.length_cons, List.length_nil, List.replicate_succ, List.replicate_zero, List.cons_append, List.nil_append, List.append_assoc, List.getElem?_cons_zero, List.getElem?_cons_succ, List.set_cons_zero, List.set_cons_succ, Nat.reduceAdd, Nat.reduceSub, Nat.zero_add, if_true, if_false, ite_true, ite_false, reduceIte, sizeLine, Nat.reducePow, Nat.reduceLeDiff, Nat.reduceEqDiff, atI_0, atI_1, atI_2, atI_3, ↓wp_add_i, ↓wp_add_s, ↓wp_sub_i, ↓wp_mul_i, ↓wp_mod_i, ↓wp_fdiv_i, ↓wp_pow_i, ↓wp_lt_i, ↓wp_le_i, ↓wp_gt_i, ↓wp_ge_i, ↓wp_lt_s, ↓wp_le_s, ↓wp_eq_i, ↓wp_ne_i, ↓wp_eq_s, ↓wp_ne_s, ↓wp_ix_t, ↓wp_ix_l, ↓wp_ix_s, ↓wp_setIx, ↓wp_len_s, ↓wp_len_t, ↓wp_len_l, ↓wp_abs, ↓wp_int, ↓wp_int_b, ↓wp_tru_b, ↓wp_tru_i, ↓wp_tru_non, ↓wp_tru_t, ↓wp_src_l, ↓wp_cmp_i, ↓wp_cmp_s, ↓wp_cmp_b, ↓wp_cmp_t, ↓wp_cmp_non, ↓wp_cmp_r, ↓ownR_b, ↓wp_ne_r, ↓wp_eq_r, ↓wp_ne_t, ↓wp_eq_t, ite_F, Int.reduceNeg, Int.reducePow, Int.reduceLT, Int.reduceLE, Int.reduceToNat, true_and, and_true, true_or, or_true, and_self, decide_true, decide_false, Bool.not_true, Bool.not_false, not_false_eq_true, ne_eq, Bool.false_eq_true, hp, hc, hn0, hna, g1, g2, g3, g4, g5, g6, hce, hl0, hl1, hcell, h1, h2, List.length_map, ixN_31, ixN_32]
          repeat' apply And.intro
          all_goals first | exact fin rfl (by omega) (by omega) (by omega) | exact Nat.zero_le _ | decide | omega | (apply Bd.nat; (repeat (first | exact bt | exact Bd.fmod (by decide) | exact Bd.lit (by decide) | apply Bd.add | apply Bd.mul)); decide)
      · simp only [Int.lt_irrefl, ↓wp_run, ↓wp_var, ↓wp_c, ↓wp_op, ↓wp_un, ↓wp_fn, ↓wp_app, ↓wp_ap, ↓wp_nil, ↓wp_cons, ↓wp_mkTup, ↓wp_mkLst, ↓wp_tup, ↓wp_lst, ↓wp_asB, ↓wp_test, ↓wp_tru, ↓wp_and, ↓wp_or, ↓wp_not, ↓wp_if, ↓wp_andV, ↓wp_orV, ↓wp_notV, ↓wp_yes, ↓seqK_nx, ↓seqK_rt, ↓seqK_bk, ↓seqK_ct, ↓seqK_xc, ↓wp_seq, ↓wp_lft, ↓wp_next, ↓wp_brk, ↓wp_cont, ↓wp_sbad, ↓wp_expr, ↓wp_sret, ↓wp_sretN, ↓wp_sif, ↓wp_asg, ↓wp_gN, ↓wp_gT, ↓wp_par, ↓wp_gIx, ↓wp_fld, ↓finK_nx, ↓finK_rt, ↓finK_xc, ↓wp_mk, ↓wp_srcT, ↓wp_src, ↓wp_rng1, ↓wp_rng2, ↓wp_for, ↓forK_nx, ↓forK_ct, ↓forK_bk, ↓forK_rt, ↓wp_ok, ↓wp_ret, ↓wp_bnd, ↓wp_Rbnd, ↓wp_calm, ↓wp_t, ↓wp_f, startC, List.map_cons, List.map_nil, List.length_cons, List.length_nil, List.replicate_succ, List.replicate_zero, List.cons_append, List.nil_append, List.append_assoc, List.getElem?_cons_zero, List.getElem?_cons_succ, List.set_cons_zero, List.set_cons_succ, Nat.reduceAdd, Nat.reduceSub, Nat.zero_add, if_true, if_false, ite_true, ite_false, reduceIte, sizeLine, Nat.reducePow, Nat.reduceLeDiff, Nat.reduceEqDiff, atI_0, atI_1, atI_2, atI_3, ↓wp_add_i, ↓wp_add_s, ↓wp_sub_i, ↓wp_mul_i, ↓wp_mod_i, ↓wp_fdiv_i, ↓wp_pow_i, ↓wp_lt_i, ↓wp_le_i, ↓wp_gt_i, ↓wp_ge_i, ↓wp_lt_s, ↓wp_le_s, ↓wp_eq_i, ↓wp_ne_i, ↓wp_eq_s, ↓wp_ne_s, ↓wp_ix_t, ↓wp_ix_l, ↓wp_ix_s, ↓wp_setIx, ↓wp_len_s, ↓wp_len_t, ↓wp_len_l, ↓wp_abs, ↓wp_int, ↓wp_int_b, ↓wp_tru_b, ↓wp_tru_i, ↓wp_tru_non, ↓wp_tru_t, ↓wp_src_l, ↓wp_cmp_i, ↓wp_cmp_s, ↓wp_cmp_b, ↓wp_cmp_t, ↓wp_cmp_non, ↓wp_cmp_r, ↓ownR_b, ↓wp_ne_r, ↓wp_eq_r, ↓wp_ne_t, ↓wp_eq_t, ite_F, Int.reduceNeg, Int.reducePow, Int.reduceLT, Int.reduceLE, Int.reduceToNat, true_and, and_true, true_or, or_true, and_self, decide_true, decide_false, Bool.not_true, Bool.not_false, not_false_eq_true, ne_eq, Bool.false_eq_true, hp, hc, hn0, hna, g1, g2, g3, g4, g5, g6, hce, hl0, hl1, hcell, h1, List.length_map, ixN_31, ixN_32]
        repeat' apply And.intro
        all_goals first | exact fin rfl (by omega) (by omega) (by omega) | exact Nat.zero_le _ | decide | omega | (apply Bd.nat; (repeat (first | exact bt | exact Bd.fmod (by decide) | exact Bd.lit (by decide) | apply Bd.add | apply Bd.mul)); decide)
end L02
set_option Elab.async false
set_option linter.all false
set_option maxRecDepth 100000
set_option maxHeartbeats 400000
namespace L02
open PySem PySem.Spec PyProof.Rows L2 MW
/-- one sign drawn of a text -/
theorem pick {S : Sto} {p c : Nat} {T : Int} {cells : List Int} {z : Str} (hp : PenAt p c cells T S) (hT : T < 2 ^ 20) (h0 : 0 < z.length) (h1 : z.length < 1000) :
    Wp (m__law_pick [.ref p, .str z] S) (fun v S' => ∃ x ∈ z.cps.toList, v = .str ⟨#[x]⟩ ∧ PenAt p c cells (T + 1) S' ∧ Ext p S S') NoE := by
  have hz : z.length ≤ 16777216 := by omega
  unfold m__law_pick b__law_pick
  simp only [↓wp_run, ↓wp_var, ↓wp_c, ↓wp_op, ↓wp_un, ↓wp_fn, ↓wp_app, ↓wp_ap, ↓wp_nil, ↓wp_cons, ↓wp_mkTup, ↓wp_mkLst, ↓wp_tup, ↓wp_lst, ↓wp_asB, ↓wp_test, ↓wp_tru, ↓wp_and, ↓wp_or, ↓wp_not, ↓wp_if, ↓wp_andV, ↓wp_orV, ↓wp_notV, ↓wp_yes, ↓seqK_nx, ↓seqK_rt, ↓seqK_bk, ↓seqK_ct, ↓seqK_xc, ↓wp_seq, ↓wp_lft, ↓wp_next, ↓wp_brk, ↓wp_cont, ↓wp_sbad, ↓wp_expr, ↓wp_sret, ↓wp_sretN, ↓wp_sif, ↓wp_asg, ↓wp_gN, ↓wp_gT, ↓wp_par, ↓wp_gIx, ↓wp_fld, ↓finK_nx, ↓finK_rt, ↓finK_xc, ↓wp_mk, ↓wp_srcT, ↓wp_src, ↓wp_rng1, ↓wp_rng2, ↓wp_for, ↓forK_nx, ↓forK_ct, ↓forK_bk, ↓forK_rt, ↓wp_ok, ↓wp_ret, ↓wp_bnd, ↓wp_Rbnd, ↓wp_calm, ↓wp_t, ↓wp_f, startC, List.map_cons, List.map_nil, List.length_cons, List.length_nil, List.replicate_succ, List.replicate_zero, List.cons_append, List.nil_append, List.append_assoc, List.getElem?_cons_zero, List.getElem?_cons_succ, List.set_cons_zero, List.set_cons_succ, Nat.reduceAdd, Nat.reduceSub, Nat.zero_add, if_true, if_false, ite_true, ite_false, reduceIte, sizeLine, Nat.reducePow, Nat.reduceLeDiff, Nat.reduceEqDiff, atI_0, atI_1, atI_2, atI_3, ↓wp_add_i, ↓wp_add_s, ↓wp_sub_i, ↓wp_mul_i, ↓wp_mod_i, ↓wp_fdiv_i, ↓wp_pow_i, ↓wp_lt_i, ↓wp_le_i, ↓wp_gt_i, ↓wp_ge_i, ↓wp_lt_s, ↓wp_le_s, ↓wp_eq_i, ↓wp_ne_i, ↓wp_eq_s, ↓wp_ne_s, ↓wp_ix_t, ↓wp_ix_l, ↓wp_ix_s, ↓wp_setIx, ↓wp_len_s, ↓wp_len_t, ↓wp_len_l, ↓wp_abs, ↓wp_int, ↓wp_int_b, ↓wp_tru_b, ↓wp_tru_i, ↓wp_tru_non, ↓wp_tru_t, ↓wp_src_l, ↓wp_cmp_i, ↓wp_cmp_s, ↓wp_cmp_b, ↓wp_cmp_t, ↓wp_cmp_non, ↓wp_cmp_r, ↓ownR_b, ↓wp_ne_r, ↓wp_eq_r, ↓wp_ne_t, ↓wp_eq_t, ite_F, Int.reduceNeg, Int.reducePow, Int.reduceLT, Int.reduceLE, Int.reduceToNat, true_and, and_true, true_or, or_true, and_self, decide_true, decide_false, Bool.not_true, Bool.not_false, not_false_eq_true, ne_eq, Bool.false_eq_true, ↓wp_isiT, ↓wp_isiC, kindB_non, kindB_b, kindB_i, kindB_s, kindB_t, kindB_r, kindO_r, kindO_non, kindO_b, kindO_i, kindO_s, kindO_t, isi_nn, isi_bs, isi_is, isi_ss, isi_ts, isi_ls, isi_ds, mem_str, ↓wp_in_t, ↓wp_in_s, ↓wp_inOwn, ↓wp_inOwn_t, ↓wp_inOwn_s, ↓wp_att, ↓wp_met, ↓wp_setF, ↓wp_str_s, ↓wp_str_i, ↓wp_str_r, ↓strR_s, ↓wp_fmt_s, ↓wp_js0, ↓wp_js1, ↓wp_joined, ↓wp_dict0, ↓wp_list_t, ↓wp_list_l, ↓wp_add_l, ↓wp_bm, ↓wp_split, ↓wp_mkK, ↓wp_appK, ↓wp_cmK, ↓wp_callV, hz]
  refine (draw hp hT (by omega) (by omega)).mono fun v S1 ⟨d, hv, k1, k2, k3, k4⟩ => ?_
  subst hv
  have hk : d.toNat < z.cps.toList.length := by rw [Array.length_toList]; show d.toNat < z.length; omega
  have e : atI z.cps.toList d = some (z.cps.toList[d.toNat]) := by
    rw [atI_nat k1 (by omega), List.getElem?_eq_getElem hk]
  simp only [↓wp_run, ↓wp_var, ↓wp_c, ↓wp_op, ↓wp_un, ↓wp_fn, ↓wp_app, ↓wp_ap, ↓wp_nil, ↓wp_cons, ↓wp_mkTup, ↓wp_mkLst, ↓wp_tup, ↓wp_lst, ↓wp_asB, ↓wp_test, ↓wp_tru, ↓wp_and, ↓wp_or, ↓wp_not, ↓wp_if, ↓wp_andV, ↓wp_orV, ↓wp_notV, ↓wp_yes, ↓seqK_nx, ↓seqK_rt, ↓seqK_bk, ↓seqK_ct, ↓seqK_xc, ↓wp_seq, ↓wp_lft, ↓wp_next, ↓wp_brk, ↓wp_cont, ↓wp_sbad, ↓wp_expr, ↓wp_sret, ↓wp_sretN, ↓wp_sif, ↓wp_asg, ↓wp_gN, ↓wp_gT, ↓wp_par, ↓wp_gIx, ↓wp_fld, ↓finK_nx, ↓finK_rt, ↓finK_xc, ↓wp_mk, ↓wp_srcT, ↓wp_src, ↓wp_rng1, ↓wp_rng2, ↓wp_for, ↓forK_nx, ↓forK_ct, ↓forK_bk, ↓forK_rt, ↓wp_ok, ↓wp_ret, ↓wp_bnd, ↓wp_Rbnd, ↓wp_calm, ↓wp_t, ↓wp_f, startC, List.map_cons, List.map_nil, List.length_cons, List.length_nil, List.replicate_succ, List.replicate_zero, List.cons_append, List.nil_append, List.append_assoc, List.getElem?_cons_zero, List.getElem?_cons_succ, List.set_cons_zero, List.set_cons_succ, Nat.reduceAdd, Nat.reduceSub, Nat.zero_add, if_true, if_false, ite_true, ite_false, reduceIte, sizeLine, Nat.reducePow, Nat.reduceLeDiff, Nat.reduceEqDiff, atI_0, atI_1, atI_2, atI_3, ↓wp_add_i, ↓wp_add_s, ↓wp_sub_i, ↓wp_mul_i, ↓wp_mod_i, ↓wp_fdiv_i, ↓wp_pow_i, ↓wp_lt_i, ↓wp_le_i, ↓wp_gt_i, ↓wp_ge_i, ↓wp_lt_s, ↓wp_le_s, ↓wp_eq_i, ↓wp_ne_i, ↓wp_eq_s, ↓wp_ne_s, ↓wp_ix_t, ↓wp_ix_l, ↓wp_ix_s, ↓wp_setIx, ↓wp_len_s, ↓wp_len_t, ↓wp_len_l, ↓wp_abs, ↓wp_int, ↓wp_int_b, ↓wp_tru_b, ↓wp_tru_i, ↓wp_tru_non, ↓wp_tru_t, ↓wp_src_l, ↓wp_cmp_i, ↓wp_cmp_s, ↓wp_cmp_b, ↓wp_cmp_t, ↓wp_cmp_non, ↓wp_cmp_r, ↓ownR_b, ↓wp_ne_r, ↓wp_eq_r, ↓wp_ne_t, ↓wp_eq_t, ite_F, Int.reduceNeg, Int.reducePow, Int.reduceLT, Int.reduceLE, Int.reduceToNat, true_and, and_true, true_or, or_true, and_self, decide_true, decide_false, Bool.not_true, Bool.not_false, not_false_eq_true, ne_eq, Bool.false_eq_true, ↓wp_isiT, ↓wp_isiC, kindB_non, kindB_b, kindB_i, kindB_s, kindB_t, kindB_r, kindO_r, kindO_non, kindO_b, kindO_i, kindO_s, kindO_t, isi_nn, isi_bs, isi_is, isi_ss, isi_ts, isi_ls, isi_ds, mem_str, ↓wp_in_t, ↓wp_in_s, ↓wp_inOwn, ↓wp_inOwn_t, ↓wp_inOwn_s, ↓wp_att, ↓wp_met, ↓wp_setF, ↓wp_str_s, ↓wp_str_i, ↓wp_str_r, ↓strR_s, ↓wp_fmt_s, ↓wp_js0, ↓wp_js1, ↓wp_joined, ↓wp_dict0, ↓wp_list_t, ↓wp_list_l, ↓wp_add_l, ↓wp_bm, ↓wp_split, ↓wp_mkK, ↓wp_appK, ↓wp_cmK, ↓wp_callV, hz, e]
  exact ⟨_, List.getElem_mem hk, rfl, k3, k4⟩
end L02
set_option Elab.async false
set_option linter.all false
set_option maxRecDepth 100000
set_option maxHeartbeats 400000
namespace L02
open PySem PySem.Spec PyProof.Rows L2 MW
section
variable {Q : CV → Sto → Prop} {E : Str → List (Str × CV) → Sto → Prop} {S : Sto} {x : Nat} {n k : Nat}
def Lt (x : Nat) : Prop := 97 ≤ x ∧ x ≤ 122
abbrev ch (x : Nat) : Str := ⟨#[x]⟩
def cl : Nat → Str
  | 1 => "DeadEnd"
  | 2 => "Bend"
  | _ => "Fork"
abbrev ko (x n : Nat) : CO := .ins (cl n) [("letter", .str (ch x))]
abbrev abc : Str := "abcdefghijklmnopqrstuvwxyz"
theorem abc_in : ∀ k : Nat, k < 26 → inStr ⟨#[97 + k]⟩ abc = true := by decide +kernel
theorem wp_is_letter (h : Lt x) : Wp (m_is_letter [.str (ch x)] S) Q E = Q (.bl true) S := by
  have e1 : inStr (ch x) abc = true := by
    have := abc_in (x - 97) (by have := h.1; have := h.2; omega)
    rwa [show 97 + (x - 97) = x by have := h.1; omega] at this
  have l : (ch x).length = 1 := rfl
  have l2 : ((1 : Nat) : Int) == 1 := rfl
  unfold m_is_letter b_is_letter
  simp only [↓wp_run, ↓wp_var, ↓wp_c, ↓wp_op, ↓wp_un, ↓wp_fn, ↓wp_app, ↓wp_ap, ↓wp_nil, ↓wp_cons, ↓wp_mkTup, ↓wp_mkLst, ↓wp_tup, ↓wp_lst, ↓wp_asB, ↓wp_test, ↓wp_tru, ↓wp_and, ↓wp_or, ↓wp_not, ↓wp_if, ↓wp_andV, ↓wp_orV, ↓wp_notV, ↓wp_yes, ↓seqK_nx, ↓seqK_rt, ↓seqK_bk, ↓seqK_ct, ↓seqK_xc, ↓wp_seq, ↓wp_lft, ↓wp_next, ↓wp_brk, ↓wp_cont, ↓wp_sbad, ↓wp_expr, ↓wp_sret, ↓wp_sretN, ↓wp_sif, ↓wp_asg, ↓wp_gN, ↓wp_gT, ↓wp_par, ↓wp_gIx, ↓wp_fld, ↓finK_nx, ↓finK_rt, ↓finK_xc, ↓wp_mk, ↓wp_srcT, ↓wp_src, ↓wp_rng1, ↓wp_rng2, ↓wp_for, ↓forK_nx, ↓forK_ct, ↓forK_bk, ↓forK_rt, ↓wp_ok, ↓wp_ret, ↓wp_bnd, ↓wp_Rbnd, ↓wp_calm, ↓wp_t, ↓wp_f, startC, List.map_cons, List.map_nil, List.length_cons, List.length_nil, List.replicate_succ, List.replicate_zero, List.cons_append, List.nil_append, List.append_assoc, List.getElem?_cons_zero, List.getElem?_cons_succ, List.set_cons_zero, List.set_cons_succ, Nat.reduceAdd, Nat.reduceSub, Nat.zero_add, if_true, if_false, ite_true, ite_false, reduceIte, sizeLine, Nat.reducePow, Nat.reduceLeDiff, Nat.reduceEqDiff, atI_0, atI_1, atI_2, atI_3, ↓wp_add_i, ↓wp_add_s, ↓wp_sub_i, ↓wp_mul_i, ↓wp_mod_i, ↓wp_fdiv_i, ↓wp_pow_i, ↓wp_lt_i, ↓wp_le_i, ↓wp_gt_i, ↓wp_ge_i, ↓wp_lt_s, ↓wp_le_s, ↓wp_eq_i, ↓wp_ne_i, ↓wp_eq_s, ↓wp_ne_s, ↓wp_ix_t, ↓wp_ix_l, ↓wp_ix_s, ↓wp_setIx, ↓wp_len_s, ↓wp_len_t, ↓wp_len_l, ↓wp_abs, ↓wp_int, ↓wp_int_b, ↓wp_tru_b, ↓wp_tru_i, ↓wp_tru_non, ↓wp_tru_t, ↓wp_src_l, ↓wp_cmp_i, ↓wp_cmp_s, ↓wp_cmp_b, ↓wp_cmp_t, ↓wp_cmp_non, ↓wp_cmp_r, ↓ownR_b, ↓wp_ne_r, ↓wp_eq_r, ↓wp_ne_t, ↓wp_eq_t, ite_F, Int.reduceNeg, Int.reducePow, Int.reduceLT, Int.reduceLE, Int.reduceToNat, true_and, and_true, true_or, or_true, and_self, decide_true, decide_false, Bool.not_true, Bool.not_false, not_false_eq_true, ne_eq, Bool.false_eq_true, ↓wp_isiT, ↓wp_isiC, kindB_non, kindB_b, kindB_i, kindB_s, kindB_t, kindB_r, kindO_r, kindO_non, kindO_b, kindO_i, kindO_s, kindO_t, isi_nn, isi_bs, isi_is, isi_ss, isi_ts, isi_ls, isi_ds, mem_str, ↓wp_in_t, ↓wp_in_s, ↓wp_inOwn, ↓wp_inOwn_t, ↓wp_inOwn_s, ↓wp_att, ↓wp_met, ↓wp_setF, ↓wp_str_s, ↓wp_str_i, ↓wp_str_r, ↓strR_s, ↓wp_fmt_s, ↓wp_js0, ↓wp_js1, ↓wp_joined, ↓wp_dict0, ↓wp_list_t, ↓wp_list_l, ↓wp_add_l, ↓wp_bm, ↓wp_split, ↓wp_mkK, ↓wp_appK, ↓wp_cmK, ↓wp_callV, l, l2, e1]
theorem fld_D : (("DeadEnd" : Str) ∈ fld_letter_0) = True := eq_true (by decide +kernel)
theorem fld_B : (("Bend" : Str) ∈ fld_letter_0) = True := eq_true (by decide +kernel)
theorem fld_F : (("Fork" : Str) ∈ fld_letter_0) = True := eq_true (by decide +kernel)
theorem wp_make {c : Str} (hc : (c ∈ fld_letter_0) = True) (h : Lt x) : Wp (mkIns c 2 m_Kind___init__ [.str (ch x)] S) Q E = Q (.ref S.length) (S ++ [.ins c [("letter", .str (ch x))]]) := by
  simp only [↓wp_run, ↓wp_var, ↓wp_c, ↓wp_op, ↓wp_un, ↓wp_fn, ↓wp_app, ↓wp_ap, ↓wp_nil, ↓wp_cons, ↓wp_mkTup, ↓wp_mkLst, ↓wp_tup, ↓wp_lst, ↓wp_asB, ↓wp_test, ↓wp_tru, ↓wp_and, ↓wp_or, ↓wp_not, ↓wp_if, ↓wp_andV, ↓wp_orV, ↓wp_notV, ↓wp_yes, ↓seqK_nx, ↓seqK_rt, ↓seqK_bk, ↓seqK_ct, ↓seqK_xc, ↓wp_seq, ↓wp_lft, ↓wp_next, ↓wp_brk, ↓wp_cont, ↓wp_sbad, ↓wp_expr, ↓wp_sret, ↓wp_sretN, ↓wp_sif, ↓wp_asg, ↓wp_gN, ↓wp_gT, ↓wp_par, ↓wp_gIx, ↓wp_fld, ↓finK_nx, ↓finK_rt, ↓finK_xc, ↓wp_mk, ↓wp_srcT, ↓wp_src, ↓wp_rng1, ↓wp_rng2, ↓wp_for, ↓forK_nx, ↓forK_ct, ↓forK_bk, ↓forK_rt, ↓wp_ok, ↓wp_ret, ↓wp_bnd, ↓wp_Rbnd, ↓wp_calm, ↓wp_t, ↓wp_f, startC, List.map_cons, List.map_nil, List.length_cons, List.length_nil, List.replicate_succ, List.replicate_zero, List.cons_append, List.nil_append, List.append_assoc, List.getElem?_cons_zero, List.getElem?_cons_succ, List.set_cons_zero, List.set_cons_succ, Nat.reduceAdd, Nat.reduceSub, Nat.zero_add, if_true, if_false, ite_true, ite_false, reduceIte, sizeLine, Nat.reducePow, Nat.reduceLeDiff, Nat.reduceEqDiff, atI_0, atI_1, atI_2, atI_3, ↓wp_add_i, ↓wp_add_s, ↓wp_sub_i, ↓wp_mul_i, ↓wp_mod_i, ↓wp_fdiv_i, ↓wp_pow_i, ↓wp_lt_i, ↓wp_le_i, ↓wp_gt_i, ↓wp_ge_i, ↓wp_lt_s, ↓wp_le_s, ↓wp_eq_i, ↓wp_ne_i, ↓wp_eq_s, ↓wp_ne_s, ↓wp_ix_t, ↓wp_ix_l, ↓wp_ix_s, ↓wp_setIx, ↓wp_len_s, ↓wp_len_t, ↓wp_len_l, ↓wp_abs, ↓wp_int, ↓wp_int_b, ↓wp_tru_b, ↓wp_tru_i, ↓wp_tru_non, ↓wp_tru_t, ↓wp_src_l, ↓wp_cmp_i, ↓wp_cmp_s, ↓wp_cmp_b, ↓wp_cmp_t, ↓wp_cmp_non, ↓wp_cmp_r, ↓ownR_b, ↓wp_ne_r, ↓wp_eq_r, ↓wp_ne_t, ↓wp_eq_t, ite_F, Int.reduceNeg, Int.reducePow, Int.reduceLT, Int.reduceLE, Int.reduceToNat, true_and, and_true, true_or, or_true, and_self, decide_true, decide_false, Bool.not_true, Bool.not_false, not_false_eq_true, ne_eq, Bool.false_eq_true, ↓wp_isiT, ↓wp_isiC, kindB_non, kindB_b, kindB_i, kindB_s, kindB_t, kindB_r, kindO_r, kindO_non, kindO_b, kindO_i, kindO_s, kindO_t, isi_nn, isi_bs, isi_is, isi_ss, isi_ts, isi_ls, isi_ds, mem_str, ↓wp_in_t, ↓wp_in_s, ↓wp_inOwn, ↓wp_inOwn_t, ↓wp_inOwn_s, ↓wp_att, ↓wp_met, ↓wp_setF, ↓wp_str_s, ↓wp_str_i, ↓wp_str_r, ↓strR_s, ↓wp_fmt_s, ↓wp_js0, ↓wp_js1, ↓wp_joined, ↓wp_dict0, ↓wp_list_t, ↓wp_list_l, ↓wp_add_l, ↓wp_bm, ↓wp_split, ↓wp_mkK, ↓wp_appK, ↓wp_cmK, ↓wp_callV, ↓wp_mkIns, ↓wp_mkInsK]
  unfold m_Kind___init__ b_Kind___init__
  simp only [↓wp_run, ↓wp_var, ↓wp_c, ↓wp_op, ↓wp_un, ↓wp_fn, ↓wp_app, ↓wp_ap, ↓wp_nil, ↓wp_cons, ↓wp_mkTup, ↓wp_mkLst, ↓wp_tup, ↓wp_lst, ↓wp_asB, ↓wp_test, ↓wp_tru, ↓wp_and, ↓wp_or, ↓wp_not, ↓wp_if, ↓wp_andV, ↓wp_orV, ↓wp_notV, ↓wp_yes, ↓seqK_nx, ↓seqK_rt, ↓seqK_bk, ↓seqK_ct, ↓seqK_xc, ↓wp_seq, ↓wp_lft, ↓wp_next, ↓wp_brk, ↓wp_cont, ↓wp_sbad, ↓wp_expr, ↓wp_sret, ↓wp_sretN, ↓wp_sif, ↓wp_asg, ↓wp_gN, ↓wp_gT, ↓wp_par, ↓wp_gIx, ↓wp_fld, ↓finK_nx, ↓finK_rt, ↓finK_xc, ↓wp_mk, ↓wp_srcT, ↓wp_src, ↓wp_rng1, ↓wp_rng2, ↓wp_for, ↓forK_nx, ↓forK_ct, ↓forK_bk, ↓forK_rt, ↓wp_ok, ↓wp_ret, ↓wp_bnd, ↓wp_Rbnd, ↓wp_calm, ↓wp_t, ↓wp_f, startC, List.map_cons, List.map_nil, List.length_cons, List.length_nil, List.replicate_succ, List.replicate_zero, List.cons_append, List.nil_append, List.append_assoc, List.getElem?_cons_zero, List.getElem?_cons_succ, List.set_cons_zero, List.set_cons_succ, Nat.reduceAdd, Nat.reduceSub, Nat.zero_add, if_true, if_false, ite_true, ite_false, reduceIte, sizeLine, Nat.reducePow, Nat.reduceLeDiff, Nat.reduceEqDiff, atI_0, atI_1, atI_2, atI_3, ↓wp_add_i, ↓wp_add_s, ↓wp_sub_i, ↓wp_mul_i, ↓wp_mod_i, ↓wp_fdiv_i, ↓wp_pow_i, ↓wp_lt_i, ↓wp_le_i, ↓wp_gt_i, ↓wp_ge_i, ↓wp_lt_s, ↓wp_le_s, ↓wp_eq_i, ↓wp_ne_i, ↓wp_eq_s, ↓wp_ne_s, ↓wp_ix_t, ↓wp_ix_l, ↓wp_ix_s, ↓wp_setIx, ↓wp_len_s, ↓wp_len_t, ↓wp_len_l, ↓wp_abs, ↓wp_int, ↓wp_int_b, ↓wp_tru_b, ↓wp_tru_i, ↓wp_tru_non, ↓wp_tru_t, ↓wp_src_l, ↓wp_cmp_i, ↓wp_cmp_s, ↓wp_cmp_b, ↓wp_cmp_t, ↓wp_cmp_non, ↓wp_cmp_r, ↓ownR_b, ↓wp_ne_r, ↓wp_eq_r, ↓wp_ne_t, ↓wp_eq_t, ite_F, Int.reduceNeg, Int.reducePow, Int.reduceLT, Int.reduceLE, Int.reduceToNat, true_and, and_true, true_or, or_true, and_self, decide_true, decide_false, Bool.not_true, Bool.not_false, not_false_eq_true, ne_eq, Bool.false_eq_true, ↓wp_isiT, ↓wp_isiC, kindB_non, kindB_b, kindB_i, kindB_s, kindB_t, kindB_r, kindO_r, kindO_non, kindO_b, kindO_i, kindO_s, kindO_t, isi_nn, isi_bs, isi_is, isi_ss, isi_ts, isi_ls, isi_ds, mem_str, ↓wp_in_t, ↓wp_in_s, ↓wp_inOwn, ↓wp_inOwn_t, ↓wp_inOwn_s, ↓wp_att, ↓wp_met, ↓wp_setF, ↓wp_str_s, ↓wp_str_i, ↓wp_str_r, ↓strR_s, ↓wp_fmt_s, ↓wp_js0, ↓wp_js1, ↓wp_joined, ↓wp_dict0, ↓wp_list_t, ↓wp_list_l, ↓wp_add_l, ↓wp_bm, ↓wp_split, ↓wp_mkK, ↓wp_appK, ↓wp_cmK, ↓wp_callV, ↓wp_is_letter h, look_new0, set_new0, putFC, Nat.reduceLT, hc]
theorem wp_made (h : Lt x) (hn : n = 1 ∨ n = 2 ∨ n = 3) : Wp (m__law_made [.str (ch x), .int n] S) Q E = Q (.ref S.length) (S ++ [ko x n]) := by
  unfold m__law_made b__law_made
  rcases hn with rfl | rfl | rfl
  · simp only [↓wp_run, ↓wp_var, ↓wp_c, ↓wp_op, ↓wp_un, ↓wp_fn, ↓wp_app, ↓wp_ap, ↓wp_nil, ↓wp_cons, ↓wp_mkTup, ↓wp_mkLst, ↓wp_tup, ↓wp_lst, ↓wp_asB, ↓wp_test, ↓wp_tru, ↓wp_and, ↓wp_or, ↓wp_not, ↓wp_if, ↓wp_andV, ↓wp_orV, ↓wp_notV, ↓wp_yes, ↓seqK_nx, ↓seqK_rt, ↓seqK_bk, ↓seqK_ct, ↓seqK_xc, ↓wp_seq, ↓wp_lft, ↓wp_next, ↓wp_brk, ↓wp_cont, ↓wp_sbad, ↓wp_expr, ↓wp_sret, ↓wp_sretN, ↓wp_sif, ↓wp_asg, ↓wp_gN, ↓wp_gT, ↓wp_par, ↓wp_gIx, ↓wp_fld, ↓finK_nx, ↓finK_rt, ↓finK_xc, ↓wp_mk, ↓wp_srcT, ↓wp_src, ↓wp_rng1, ↓wp_rng2, ↓wp_for, ↓forK_nx, ↓forK_ct, ↓forK_bk, ↓forK_rt, ↓wp_ok, ↓wp_ret, ↓wp_bnd, ↓wp_Rbnd, ↓wp_calm, ↓wp_t, ↓wp_f, startC, List.map_cons, List.map_nil, List.length_cons, List.length_nil, List.replicate_succ, List.replicate_zero, List.cons_append, List.nil_append, List.append_assoc, List.getElem?_cons_zero, List.getElem?_cons_succ, List.set_cons_zero, List.set_cons_succ, Nat.reduceAdd, Nat.reduceSub, Nat.zero_add, if_true, if_false, ite_true, ite_false, reduceIte, sizeLine, Nat.reducePow, Nat.reduceLeDiff, Nat.reduceEqDiff, atI_0, atI_1, atI_2, atI_3, ↓wp_add_i, ↓wp_add_s, ↓wp_sub_i, ↓wp_mul_i, ↓wp_mod_i, ↓wp_fdiv_i, ↓wp_pow_i, ↓wp_lt_i, ↓wp_le_i, ↓wp_gt_i, ↓wp_ge_i, ↓wp_lt_s, ↓wp_le_s, ↓wp_eq_i, ↓wp_ne_i, ↓wp_eq_s, ↓wp_ne_s, ↓wp_ix_t, ↓wp_ix_l, ↓wp_ix_s, ↓wp_setIx, ↓wp_len_s, ↓wp_len_t, ↓wp_len_l, ↓wp_abs, ↓wp_int, ↓wp_int_b, ↓wp_tru_b, ↓wp_tru_i, ↓wp_tru_non, ↓wp_tru_t, ↓wp_src_l, ↓wp_cmp_i, ↓wp_cmp_s, ↓wp_cmp_b, ↓wp_cmp_t, ↓wp_cmp_non, ↓wp_cmp_r, ↓ownR_b, ↓wp_ne_r, ↓wp_eq_r, ↓wp_ne_t, ↓wp_eq_t, ite_F, Int.reduceNeg, Int.reducePow, Int.reduceLT, Int.reduceLE, Int.reduceToNat, true_and, and_true, true_or, or_true, and_self, decide_true, decide_false, Bool.not_true, Bool.not_false, not_false_eq_true, ne_eq, Bool.false_eq_true, ↓wp_isiT, ↓wp_isiC, kindB_non, kindB_b, kindB_i, kindB_s, kindB_t, kindB_r, kindO_r, kindO_non, kindO_b, kindO_i, kindO_s, kindO_t, isi_nn, isi_bs, isi_is, isi_ss, isi_ts, isi_ls, isi_ds, mem_str, ↓wp_in_t, ↓wp_in_s, ↓wp_inOwn, ↓wp_inOwn_t, ↓wp_inOwn_s, ↓wp_att, ↓wp_met, ↓wp_setF, ↓wp_str_s, ↓wp_str_i, ↓wp_str_r, ↓strR_s, ↓wp_fmt_s, ↓wp_js0, ↓wp_js1, ↓wp_joined, ↓wp_dict0, ↓wp_list_t, ↓wp_list_l, ↓wp_add_l, ↓wp_bm, ↓wp_split, ↓wp_mkK, ↓wp_appK, ↓wp_cmK, ↓wp_callV, show (((1 : Nat) : Int) == 1) = true from rfl, ↓wp_make fld_D h]; rfl
  · simp only [↓wp_run, ↓wp_var, ↓wp_c, ↓wp_op, ↓wp_un, ↓wp_fn, ↓wp_app, ↓wp_ap, ↓wp_nil, ↓wp_cons, ↓wp_mkTup, ↓wp_mkLst, ↓wp_tup, ↓wp_lst, ↓wp_asB, ↓wp_test, ↓wp_tru, ↓wp_and, ↓wp_or, ↓wp_not, ↓wp_if, ↓wp_andV, ↓wp_orV, ↓wp_notV, ↓wp_yes, ↓seqK_nx, ↓seqK_rt, ↓seqK_bk, ↓seqK_ct, ↓seqK_xc, ↓wp_seq, ↓wp_lft, ↓wp_next, ↓wp_brk, ↓wp_cont, ↓wp_sbad, ↓wp_expr, ↓wp_sret, ↓wp_sretN, ↓wp_sif, ↓wp_asg, ↓wp_gN, ↓wp_gT, ↓wp_par, ↓wp_gIx, ↓wp_fld, ↓finK_nx, ↓finK_rt, ↓finK_xc, ↓wp_mk, ↓wp_srcT, ↓wp_src, ↓wp_rng1, ↓wp_rng2, ↓wp_for, ↓forK_nx, ↓forK_ct, ↓forK_bk, ↓forK_rt, ↓wp_ok, ↓wp_ret, ↓wp_bnd, ↓wp_Rbnd, ↓wp_calm, ↓wp_t, ↓wp_f, startC, List.map_cons, List.map_nil, List.length_cons, List.length_nil, List.replicate_succ, List.replicate_zero, List.cons_append, List.nil_append, List.append_assoc, List.getElem?_cons_zero, List.getElem?_cons_succ, List.set_cons_zero, List.set_cons_succ, Nat.reduceAdd, Nat.reduceSub, Nat.zero_add, if_true, if_false, ite_true, ite_false, reduceIte, sizeLine, Nat.reducePow, Nat.reduceLeDiff, Nat.reduceEqDiff, atI_0, atI_1, atI_2, atI_3, ↓wp_add_i, ↓wp_add_s, ↓wp_sub_i, ↓wp_mul_i, ↓wp_mod_i, ↓wp_fdiv_i, ↓wp_pow_i, ↓wp_lt_i, ↓wp_le_i, ↓wp_gt_i, ↓wp_ge_i, ↓wp_lt_s, ↓wp_le_s, ↓wp_eq_i, ↓wp_ne_i, ↓wp_eq_s, ↓wp_ne_s, ↓wp_ix_t, ↓wp_ix_l, ↓wp_ix_s, ↓wp_setIx, ↓wp_len_s, ↓wp_len_t, ↓wp_len_l, ↓wp_abs, ↓wp_int, ↓wp_int_b, ↓wp_tru_b, ↓wp_tru_i, ↓wp_tru_non, ↓wp_tru_t, ↓wp_src_l, ↓wp_cmp_i, ↓wp_cmp_s, ↓wp_cmp_b, ↓wp_cmp_t, ↓wp_cmp_non, ↓wp_cmp_r, ↓ownR_b, ↓wp_ne_r, ↓wp_eq_r, ↓wp_ne_t, ↓wp_eq_t, ite_F, Int.reduceNeg, Int.reducePow, Int.reduceLT, Int.reduceLE, Int.reduceToNat, true_and, and_true, true_or, or_true, and_self, decide_true, decide_false, Bool.not_true, Bool.not_false, not_false_eq_true, ne_eq, Bool.false_eq_true, ↓wp_isiT, ↓wp_isiC, kindB_non, kindB_b, kindB_i, kindB_s, kindB_t, kindB_r, kindO_r, kindO_non, kindO_b, kindO_i, kindO_s, kindO_t, isi_nn, isi_bs, isi_is, isi_ss, isi_ts, isi_ls, isi_ds, mem_str, ↓wp_in_t, ↓wp_in_s, ↓wp_inOwn, ↓wp_inOwn_t, ↓wp_inOwn_s, ↓wp_att, ↓wp_met, ↓wp_setF, ↓wp_str_s, ↓wp_str_i, ↓wp_str_r, ↓strR_s, ↓wp_fmt_s, ↓wp_js0, ↓wp_js1, ↓wp_joined, ↓wp_dict0, ↓wp_list_t, ↓wp_list_l, ↓wp_add_l, ↓wp_bm, ↓wp_split, ↓wp_mkK, ↓wp_appK, ↓wp_cmK, ↓wp_callV, show (((2 : Nat) : Int) == 1) = false from rfl, show (((2 : Nat) : Int) == 2) = true from rfl, ↓wp_make fld_B h]; rfl
  · simp only [↓wp_run, ↓wp_var, ↓wp_c, ↓wp_op, ↓wp_un, ↓wp_fn, ↓wp_app, ↓wp_ap, ↓wp_nil, ↓wp_cons, ↓wp_mkTup, ↓wp_mkLst, ↓wp_tup, ↓wp_lst, ↓wp_asB, ↓wp_test, ↓wp_tru, ↓wp_and, ↓wp_or, ↓wp_not, ↓wp_if, ↓wp_andV, ↓wp_orV, ↓wp_notV, ↓wp_yes, ↓seqK_nx, ↓seqK_rt, ↓seqK_bk, ↓seqK_ct, ↓seqK_xc, ↓wp_seq, ↓wp_lft, ↓wp_next, ↓wp_brk, ↓wp_cont, ↓wp_sbad, ↓wp_expr, ↓wp_sret, ↓wp_sretN, ↓wp_sif, ↓wp_asg, ↓wp_gN, ↓wp_gT, ↓wp_par, ↓wp_gIx, ↓wp_fld, ↓finK_nx, ↓finK_rt, ↓finK_xc, ↓wp_mk, ↓wp_srcT, ↓wp_src, ↓wp_rng1, ↓wp_rng2, ↓wp_for, ↓forK_nx, ↓forK_ct, ↓forK_bk, ↓forK_rt, ↓wp_ok, ↓wp_ret, ↓wp_bnd, ↓wp_Rbnd, ↓wp_calm, ↓wp_t, ↓wp_f, startC, List.map_cons, List.map_nil, List.length_cons, List.length_nil, List.replicate_succ, List.replicate_zero, List.cons_append, List.nil_append, List.append_assoc, List.getElem?_cons_zero, List.getElem?_cons_succ, List.set_cons_zero, List.set_cons_succ, Nat.reduceAdd, Nat.reduceSub, Nat.zero_add, if_true, if_false, ite_true, ite_false, reduceIte, sizeLine, Nat.reducePow, Nat.reduceLeDiff, Nat.reduceEqDiff, atI_0, atI_1, atI_2, atI_3, ↓wp_add_i, ↓wp_add_s, ↓wp_sub_i, ↓wp_mul_i, ↓wp_mod_i, ↓wp_fdiv_i, ↓wp_pow_i, ↓wp_lt_i, ↓wp_le_i, ↓wp_gt_i, ↓wp_ge_i, ↓wp_lt_s, ↓wp_le_s, ↓wp_eq_i, ↓wp_ne_i, ↓wp_eq_s, ↓wp_ne_s, ↓wp_ix_t, ↓wp_ix_l, ↓wp_ix_s, ↓wp_setIx, ↓wp_len_s, ↓wp_len_t, ↓wp_len_l, ↓wp_abs, ↓wp_int, ↓wp_int_b, ↓wp_tru_b, ↓wp_tru_i, ↓wp_tru_non, ↓wp_tru_t, ↓wp_src_l, ↓wp_cmp_i, ↓wp_cmp_s, ↓wp_cmp_b, ↓wp_cmp_t, ↓wp_cmp_non, ↓wp_cmp_r, ↓ownR_b, ↓wp_ne_r, ↓wp_eq_r, ↓wp_ne_t, ↓wp_eq_t, ite_F, Int.reduceNeg, Int.reducePow, Int.reduceLT, Int.reduceLE, Int.reduceToNat, true_and, and_true, true_or, or_true, and_self, decide_true, decide_false, Bool.not_true, Bool.not_false, not_false_eq_true, ne_eq, Bool.false_eq_true, ↓wp_isiT, ↓wp_isiC, kindB_non, kindB_b, kindB_i, kindB_s, kindB_t, kindB_r, kindO_r, kindO_non, kindO_b, kindO_i, kindO_s, kindO_t, isi_nn, isi_bs, isi_is, isi_ss, isi_ts, isi_ls, isi_ds, mem_str, ↓wp_in_t, ↓wp_in_s, ↓wp_inOwn, ↓wp_inOwn_t, ↓wp_inOwn_s, ↓wp_att, ↓wp_met, ↓wp_setF, ↓wp_str_s, ↓wp_str_i, ↓wp_str_r, ↓strR_s, ↓wp_fmt_s, ↓wp_js0, ↓wp_js1, ↓wp_joined, ↓wp_dict0, ↓wp_list_t, ↓wp_list_l, ↓wp_add_l, ↓wp_bm, ↓wp_split, ↓wp_mkK, ↓wp_appK, ↓wp_cmK, ↓wp_callV, show (((3 : Nat) : Int) == 1) = false from rfl, show (((3 : Nat) : Int) == 2) = false from rfl, ↓wp_make fld_F h]; rfl
end
end L02
set_option Elab.async false
set_option linter.all false
set_option maxRecDepth 100000
set_option maxHeartbeats 400000
namespace L02
open PySem PySem.Spec PyProof.Rows L2 MW
section
variable {Q : CV → Sto → Prop} {E : Str → List (Str × CV) → Sto → Prop} {S : Sto} {x : Nat} {n k : Nat}
theorem isi_ii : isiB "int" "int" = true := by decide
theorem isi_ib : isiB "int" "bool" = false := by decide
theorem mem_int : ("int" ∈ bTypes) = True := eq_true (by decide)
theorem mem_bool : ("bool" ∈ bTypes) = True := eq_true (by decide)
theorem wp_whole {i : Int} : Wp (m_is_whole [.int i] S) Q E = Q (.bl true) S := by
  unfold m_is_whole b_is_whole
  simp only [↓wp_run, ↓wp_var, ↓wp_c, ↓wp_op, ↓wp_un, ↓wp_fn, ↓wp_app, ↓wp_ap, ↓wp_nil, ↓wp_cons, ↓wp_mkTup, ↓wp_mkLst, ↓wp_tup, ↓wp_lst, ↓wp_asB, ↓wp_test, ↓wp_tru, ↓wp_and, ↓wp_or, ↓wp_not, ↓wp_if, ↓wp_andV, ↓wp_orV, ↓wp_notV, ↓wp_yes, ↓seqK_nx, ↓seqK_rt, ↓seqK_bk, ↓seqK_ct, ↓seqK_xc, ↓wp_seq, ↓wp_lft, ↓wp_next, ↓wp_brk, ↓wp_cont, ↓wp_sbad, ↓wp_expr, ↓wp_sret, ↓wp_sretN, ↓wp_sif, ↓wp_asg, ↓wp_gN, ↓wp_gT, ↓wp_par, ↓wp_gIx, ↓wp_fld, ↓finK_nx, ↓finK_rt, ↓finK_xc, ↓wp_mk, ↓wp_srcT, ↓wp_src, ↓wp_rng1, ↓wp_rng2, ↓wp_for, ↓forK_nx, ↓forK_ct, ↓forK_bk, ↓forK_rt, ↓wp_ok, ↓wp_ret, ↓wp_bnd, ↓wp_Rbnd, ↓wp_calm, ↓wp_t, ↓wp_f, startC, List.map_cons, List.map_nil, List.length_cons, List.length_nil, List.replicate_succ, List.replicate_zero, List.cons_append, List.nil_append, List.append_assoc, List.getElem?_cons_zero, List.getElem?_cons_succ, List.set_cons_zero, List.set_cons_succ, Nat.reduceAdd, Nat.reduceSub, Nat.zero_add, if_true, if_false, ite_true, ite_false, reduceIte, sizeLine, Nat.reducePow, Nat.reduceLeDiff, Nat.reduceEqDiff, atI_0, atI_1, atI_2, atI_3, ↓wp_add_i, ↓wp_add_s, ↓wp_sub_i, ↓wp_mul_i, ↓wp_mod_i, ↓wp_fdiv_i, ↓wp_pow_i, ↓wp_lt_i, ↓wp_le_i, ↓wp_gt_i, ↓wp_ge_i, ↓wp_lt_s, ↓wp_le_s, ↓wp_eq_i, ↓wp_ne_i, ↓wp_eq_s, ↓wp_ne_s, ↓wp_ix_t, ↓wp_ix_l, ↓wp_ix_s, ↓wp_setIx, ↓wp_len_s, ↓wp_len_t, ↓wp_len_l, ↓wp_abs, ↓wp_int, ↓wp_int_b, ↓wp_tru_b, ↓wp_tru_i, ↓wp_tru_non, ↓wp_tru_t, ↓wp_src_l, ↓wp_cmp_i, ↓wp_cmp_s, ↓wp_cmp_b, ↓wp_cmp_t, ↓wp_cmp_non, ↓wp_cmp_r, ↓ownR_b, ↓wp_ne_r, ↓wp_eq_r, ↓wp_ne_t, ↓wp_eq_t, ite_F, Int.reduceNeg, Int.reducePow, Int.reduceLT, Int.reduceLE, Int.reduceToNat, true_and, and_true, true_or, or_true, and_self, decide_true, decide_false, Bool.not_true, Bool.not_false, not_false_eq_true, ne_eq, Bool.false_eq_true, ↓wp_isiT, ↓wp_isiC, kindB_non, kindB_b, kindB_i, kindB_s, kindB_t, kindB_r, kindO_r, kindO_non, kindO_b, kindO_i, kindO_s, kindO_t, isi_nn, isi_bs, isi_is, isi_ss, isi_ts, isi_ls, isi_ds, mem_str, ↓wp_in_t, ↓wp_in_s, ↓wp_inOwn, ↓wp_inOwn_t, ↓wp_inOwn_s, ↓wp_att, ↓wp_met, ↓wp_setF, ↓wp_str_s, ↓wp_str_i, ↓wp_str_r, ↓strR_s, ↓wp_fmt_s, ↓wp_js0, ↓wp_js1, ↓wp_joined, ↓wp_dict0, ↓wp_list_t, ↓wp_list_l, ↓wp_add_l, ↓wp_bm, ↓wp_split, ↓wp_mkK, ↓wp_appK, ↓wp_cmK, ↓wp_callV, isi_ii, isi_ib, mem_int, mem_bool]
theorem wp_betw (hn : n = 1 ∨ n = 2 ∨ n = 3) : Wp (m_is_between [.int n, .int 1, .int 3] S) Q E = Q (.bl true) S := by
  have e1 : decide ((1 : Int) ≤ (n : Int)) = true := decide_eq_true (by omega)
  have e2 : decide ((n : Int) ≤ 3) = true := decide_eq_true (by omega)
  unfold m_is_between b_is_between
  simp only [↓wp_run, ↓wp_var, ↓wp_c, ↓wp_op, ↓wp_un, ↓wp_fn, ↓wp_app, ↓wp_ap, ↓wp_nil, ↓wp_cons, ↓wp_mkTup, ↓wp_mkLst, ↓wp_tup, ↓wp_lst, ↓wp_asB, ↓wp_test, ↓wp_tru, ↓wp_and, ↓wp_or, ↓wp_not, ↓wp_if, ↓wp_andV, ↓wp_orV, ↓wp_notV, ↓wp_yes, ↓seqK_nx, ↓seqK_rt, ↓seqK_bk, ↓seqK_ct, ↓seqK_xc, ↓wp_seq, ↓wp_lft, ↓wp_next, ↓wp_brk, ↓wp_cont, ↓wp_sbad, ↓wp_expr, ↓wp_sret, ↓wp_sretN, ↓wp_sif, ↓wp_asg, ↓wp_gN, ↓wp_gT, ↓wp_par, ↓wp_gIx, ↓wp_fld, ↓finK_nx, ↓finK_rt, ↓finK_xc, ↓wp_mk, ↓wp_srcT, ↓wp_src, ↓wp_rng1, ↓wp_rng2, ↓wp_for, ↓forK_nx, ↓forK_ct, ↓forK_bk, ↓forK_rt, ↓wp_ok, ↓wp_ret, ↓wp_bnd, ↓wp_Rbnd, ↓wp_calm, ↓wp_t, ↓wp_f, startC, List.map_cons, List.map_nil, List.length_cons, List.length_nil, List.replicate_succ, List.replicate_zero, List.cons_append, List.nil_append, List.append_assoc, List.getElem?_cons_zero, List.getElem?_cons_succ, List.set_cons_zero, List.set_cons_succ, Nat.reduceAdd, Nat.reduceSub, Nat.zero_add, if_true, if_false, ite_true, ite_false, reduceIte, sizeLine, Nat.reducePow, Nat.reduceLeDiff, Nat.reduceEqDiff, atI_0, atI_1, atI_2, atI_3, ↓wp_add_i, ↓wp_add_s, ↓wp_sub_i, ↓wp_mul_i, ↓wp_mod_i, ↓wp_fdiv_i, ↓wp_pow_i, ↓wp_lt_i, ↓wp_le_i, ↓wp_gt_i, ↓wp_ge_i, ↓wp_lt_s, ↓wp_le_s, ↓wp_eq_i, ↓wp_ne_i, ↓wp_eq_s, ↓wp_ne_s, ↓wp_ix_t, ↓wp_ix_l, ↓wp_ix_s, ↓wp_setIx, ↓wp_len_s, ↓wp_len_t, ↓wp_len_l, ↓wp_abs, ↓wp_int, ↓wp_int_b, ↓wp_tru_b, ↓wp_tru_i, ↓wp_tru_non, ↓wp_tru_t, ↓wp_src_l, ↓wp_cmp_i, ↓wp_cmp_s, ↓wp_cmp_b, ↓wp_cmp_t, ↓wp_cmp_non, ↓wp_cmp_r, ↓ownR_b, ↓wp_ne_r, ↓wp_eq_r, ↓wp_ne_t, ↓wp_eq_t, ite_F, Int.reduceNeg, Int.reducePow, Int.reduceLT, Int.reduceLE, Int.reduceToNat, true_and, and_true, true_or, or_true, and_self, decide_true, decide_false, Bool.not_true, Bool.not_false, not_false_eq_true, ne_eq, Bool.false_eq_true, ↓wp_isiT, ↓wp_isiC, kindB_non, kindB_b, kindB_i, kindB_s, kindB_t, kindB_r, kindO_r, kindO_non, kindO_b, kindO_i, kindO_s, kindO_t, isi_nn, isi_bs, isi_is, isi_ss, isi_ts, isi_ls, isi_ds, mem_str, ↓wp_in_t, ↓wp_in_s, ↓wp_inOwn, ↓wp_inOwn_t, ↓wp_inOwn_s, ↓wp_att, ↓wp_met, ↓wp_setF, ↓wp_str_s, ↓wp_str_i, ↓wp_str_r, ↓strR_s, ↓wp_fmt_s, ↓wp_js0, ↓wp_js1, ↓wp_joined, ↓wp_dict0, ↓wp_list_t, ↓wp_list_l, ↓wp_add_l, ↓wp_bm, ↓wp_split, ↓wp_mkK, ↓wp_appK, ↓wp_cmK, ↓wp_callV, ↓chR_t, ↓chR_f, ↓wp_chain, ↓wp_src_s, ↓wp_mul_s, ↓wp_lt_t, ↓wp_att_c, ↓wp_tuple_l, ↓wp_fmt_i, ↓wp_strInt, ↓wp_whole, e1, e2]
theorem wp_of (h : Lt x) (hn : n = 1 ∨ n = 2 ∨ n = 3) : Wp (m_Kind_of [.str (ch x), .int n] S) Q E = Q (.ref S.length) (S ++ [ko x n]) := by
  have hb := @wp_betw
  unfold m_Kind_of b_Kind_of
  rcases hn with rfl | rfl | rfl
  · simp only [↓wp_run, ↓wp_var, ↓wp_c, ↓wp_op, ↓wp_un, ↓wp_fn, ↓wp_app, ↓wp_ap, ↓wp_nil, ↓wp_cons, ↓wp_mkTup, ↓wp_mkLst, ↓wp_tup, ↓wp_lst, ↓wp_asB, ↓wp_test, ↓wp_tru, ↓wp_and, ↓wp_or, ↓wp_not, ↓wp_if, ↓wp_andV, ↓wp_orV, ↓wp_notV, ↓wp_yes, ↓seqK_nx, ↓seqK_rt, ↓seqK_bk, ↓seqK_ct, ↓seqK_xc, ↓wp_seq, ↓wp_lft, ↓wp_next, ↓wp_brk, ↓wp_cont, ↓wp_sbad, ↓wp_expr, ↓wp_sret, ↓wp_sretN, ↓wp_sif, ↓wp_asg, ↓wp_gN, ↓wp_gT, ↓wp_par, ↓wp_gIx, ↓wp_fld, ↓finK_nx, ↓finK_rt, ↓finK_xc, ↓wp_mk, ↓wp_srcT, ↓wp_src, ↓wp_rng1, ↓wp_rng2, ↓wp_for, ↓forK_nx, ↓forK_ct, ↓forK_bk, ↓forK_rt, ↓wp_ok, ↓wp_ret, ↓wp_bnd, ↓wp_Rbnd, ↓wp_calm, ↓wp_t, ↓wp_f, startC, List.map_cons, List.map_nil, List.length_cons, List.length_nil, List.replicate_succ, List.replicate_zero, List.cons_append, List.nil_append, List.append_assoc, List.getElem?_cons_zero, List.getElem?_cons_succ, List.set_cons_zero, List.set_cons_succ, Nat.reduceAdd, Nat.reduceSub, Nat.zero_add, if_true, if_false, ite_true, ite_false, reduceIte, sizeLine, Nat.reducePow, Nat.reduceLeDiff, Nat.reduceEqDiff, atI_0, atI_1, atI_2, atI_3, ↓wp_add_i, ↓wp_add_s, ↓wp_sub_i, ↓wp_mul_i, ↓wp_mod_i, ↓wp_fdiv_i, ↓wp_pow_i, ↓wp_lt_i, ↓wp_le_i, ↓wp_gt_i, ↓wp_ge_i, ↓wp_lt_s, ↓wp_le_s, ↓wp_eq_i, ↓wp_ne_i, ↓wp_eq_s, ↓wp_ne_s, ↓wp_ix_t, ↓wp_ix_l, ↓wp_ix_s, ↓wp_setIx, ↓wp_len_s, ↓wp_len_t, ↓wp_len_l, ↓wp_abs, ↓wp_int, ↓wp_int_b, ↓wp_tru_b, ↓wp_tru_i, ↓wp_tru_non, ↓wp_tru_t, ↓wp_src_l, ↓wp_cmp_i, ↓wp_cmp_s, ↓wp_cmp_b, ↓wp_cmp_t, ↓wp_cmp_non, ↓wp_cmp_r, ↓ownR_b, ↓wp_ne_r, ↓wp_eq_r, ↓wp_ne_t, ↓wp_eq_t, ite_F, Int.reduceNeg, Int.reducePow, Int.reduceLT, Int.reduceLE, Int.reduceToNat, true_and, and_true, true_or, or_true, and_self, decide_true, decide_false, Bool.not_true, Bool.not_false, not_false_eq_true, ne_eq, Bool.false_eq_true, ↓wp_isiT, ↓wp_isiC, kindB_non, kindB_b, kindB_i, kindB_s, kindB_t, kindB_r, kindO_r, kindO_non, kindO_b, kindO_i, kindO_s, kindO_t, isi_nn, isi_bs, isi_is, isi_ss, isi_ts, isi_ls, isi_ds, mem_str, ↓wp_in_t, ↓wp_in_s, ↓wp_inOwn, ↓wp_inOwn_t, ↓wp_inOwn_s, ↓wp_att, ↓wp_met, ↓wp_setF, ↓wp_str_s, ↓wp_str_i, ↓wp_str_r, ↓strR_s, ↓wp_fmt_s, ↓wp_js0, ↓wp_js1, ↓wp_joined, ↓wp_dict0, ↓wp_list_t, ↓wp_list_l, ↓wp_add_l, ↓wp_bm, ↓wp_split, ↓wp_mkK, ↓wp_appK, ↓wp_cmK, ↓wp_callV, ↓wp_is_letter h, ↓wp_betw (n := 1) (.inl rfl), show (((1 : Nat) : Int) == 1) = true from rfl, ↓wp_make fld_D h]; rfl
  · simp only [↓wp_run, ↓wp_var, ↓wp_c, ↓wp_op, ↓wp_un, ↓wp_fn, ↓wp_app, ↓wp_ap, ↓wp_nil, ↓wp_cons, ↓wp_mkTup, ↓wp_mkLst, ↓wp_tup, ↓wp_lst, ↓wp_asB, ↓wp_test, ↓wp_tru, ↓wp_and, ↓wp_or, ↓wp_not, ↓wp_if, ↓wp_andV, ↓wp_orV, ↓wp_notV, ↓wp_yes, ↓seqK_nx, ↓seqK_rt, ↓seqK_bk, ↓seqK_ct, ↓seqK_xc, ↓wp_seq, ↓wp_lft, ↓wp_next, ↓wp_brk, ↓wp_cont, ↓wp_sbad, ↓wp_expr, ↓wp_sret, ↓wp_sretN, ↓wp_sif, ↓wp_asg, ↓wp_gN, ↓wp_gT, ↓wp_par, ↓wp_gIx, ↓wp_fld, ↓finK_nx, ↓finK_rt, ↓finK_xc, ↓wp_mk, ↓wp_srcT, ↓wp_src, ↓wp_rng1, ↓wp_rng2, ↓wp_for, ↓forK_nx, ↓forK_ct, ↓forK_bk, ↓forK_rt, ↓wp_ok, ↓wp_ret, ↓wp_bnd, ↓wp_Rbnd, ↓wp_calm, ↓wp_t, ↓wp_f, startC, List.map_cons, List.map_nil, List.length_cons, List.length_nil, List.replicate_succ, List.replicate_zero, List.cons_append, List.nil_append, List.append_assoc, List.getElem?_cons_zero, List.getElem?_cons_succ, List.set_cons_zero, List.set_cons_succ, Nat.reduceAdd, Nat.reduceSub, Nat.zero_add, if_true, if_false, ite_true, ite_false, reduceIte, sizeLine, Nat.reducePow, Nat.reduceLeDiff, Nat.reduceEqDiff, atI_0, atI_1, atI_2, atI_3, ↓wp_add_i, ↓wp_add_s, ↓wp_sub_i, ↓wp_mul_i, ↓wp_mod_i, ↓wp_fdiv_i, ↓wp_pow_i, ↓wp_lt_i, ↓wp_le_i, ↓wp_gt_i, ↓wp_ge_i, ↓wp_lt_s, ↓wp_le_s, ↓wp_eq_i, ↓wp_ne_i, ↓wp_eq_s, ↓wp_ne_s, ↓wp_ix_t, ↓wp_ix_l, ↓wp_ix_s, ↓wp_setIx, ↓wp_len_s, ↓wp_len_t, ↓wp_len_l, ↓wp_abs, ↓wp_int, ↓wp_int_b, ↓wp_tru_b, ↓wp_tru_i, ↓wp_tru_non, ↓wp_tru_t, ↓wp_src_l, ↓wp_cmp_i, ↓wp_cmp_s, ↓wp_cmp_b, ↓wp_cmp_t, ↓wp_cmp_non, ↓wp_cmp_r, ↓ownR_b, ↓wp_ne_r, ↓wp_eq_r, ↓wp_ne_t, ↓wp_eq_t, ite_F, Int.reduceNeg, Int.reducePow, Int.reduceLT, Int.reduceLE, Int.reduceToNat, true_and, and_true, true_or, or_true, and_self, decide_true, decide_false, Bool.not_true, Bool.not_false, not_false_eq_true, ne_eq, Bool.false_eq_true, ↓wp_isiT, ↓wp_isiC, kindB_non, kindB_b, kindB_i, kindB_s, kindB_t, kindB_r, kindO_r, kindO_non, kindO_b, kindO_i, kindO_s, kindO_t, isi_nn, isi_bs, isi_is, isi_ss, isi_ts, isi_ls, isi_ds, mem_str, ↓wp_in_t, ↓wp_in_s, ↓wp_inOwn, ↓wp_inOwn_t, ↓wp_inOwn_s, ↓wp_att, ↓wp_met, ↓wp_setF, ↓wp_str_s, ↓wp_str_i, ↓wp_str_r, ↓strR_s, ↓wp_fmt_s, ↓wp_js0, ↓wp_js1, ↓wp_joined, ↓wp_dict0, ↓wp_list_t, ↓wp_list_l, ↓wp_add_l, ↓wp_bm, ↓wp_split, ↓wp_mkK, ↓wp_appK, ↓wp_cmK, ↓wp_callV, ↓wp_is_letter h, ↓wp_betw (n := 2) (.inr (.inl rfl)), show (((2 : Nat) : Int) == 1) = false from rfl, show (((2 : Nat) : Int) == 2) = true from rfl, ↓wp_make fld_B h]; rfl
  · simp only [↓wp_run, ↓wp_var, ↓wp_c, ↓wp_op, ↓wp_un, ↓wp_fn, ↓wp_app, ↓wp_ap, ↓wp_nil, ↓wp_cons, ↓wp_mkTup, ↓wp_mkLst, ↓wp_tup, ↓wp_lst, ↓wp_asB, ↓wp_test, ↓wp_tru, ↓wp_and, ↓wp_or, ↓wp_not, ↓wp_if, ↓wp_andV, ↓wp_orV, ↓wp_notV, ↓wp_yes, ↓seqK_nx, ↓seqK_rt, ↓seqK_bk, ↓seqK_ct, ↓seqK_xc, ↓wp_seq, ↓wp_lft, ↓wp_next, ↓wp_brk, ↓wp_cont, ↓wp_sbad, ↓wp_expr, ↓wp_sret, ↓wp_sretN, ↓wp_sif, ↓wp_asg, ↓wp_gN, ↓wp_gT, ↓wp_par, ↓wp_gIx, ↓wp_fld, ↓finK_nx, ↓finK_rt, ↓finK_xc, ↓wp_mk, ↓wp_srcT, ↓wp_src, ↓wp_rng1, ↓wp_rng2, ↓wp_for, ↓forK_nx, ↓forK_ct, ↓forK_bk, ↓forK_rt, ↓wp_ok, ↓wp_ret, ↓wp_bnd, ↓wp_Rbnd, ↓wp_calm, ↓wp_t, ↓wp_f, startC, List.map_cons, List.map_nil, List.length_cons, List.length_nil, List.replicate_succ, List.replicate_zero, List.cons_append, List.nil_append, List.append_assoc, List.getElem?_cons_zero, List.getElem?_cons_succ, List.set_cons_zero, List.set_cons_succ, Nat.reduceAdd, Nat.reduceSub, Nat.zero_add, if_true, if_false, ite_true, ite_false, reduceIte, sizeLine, Nat.reducePow, Nat.reduceLeDiff, Nat.reduceEqDiff, atI_0, atI_1, atI_2, atI_3, ↓wp_add_i, ↓wp_add_s, ↓wp_sub_i, ↓wp_mul_i, ↓wp_mod_i, ↓wp_fdiv_i, ↓wp_pow_i, ↓wp_lt_i, ↓wp_le_i, ↓wp_gt_i, ↓wp_ge_i, ↓wp_lt_s, ↓wp_le_s, ↓wp_eq_i, ↓wp_ne_i, ↓wp_eq_s, ↓wp_ne_s, ↓wp_ix_t, ↓wp_ix_l, ↓wp_ix_s, ↓wp_setIx, ↓wp_len_s, ↓wp_len_t, ↓wp_len_l, ↓wp_abs, ↓wp_int, ↓wp_int_b, ↓wp_tru_b, ↓wp_tru_i, ↓wp_tru_non, ↓wp_tru_t, ↓wp_src_l, ↓wp_cmp_i, ↓wp_cmp_s, ↓wp_cmp_b, ↓wp_cmp_t, ↓wp_cmp_non, ↓wp_cmp_r, ↓ownR_b, ↓wp_ne_r, ↓wp_eq_r, ↓wp_ne_t, ↓wp_eq_t, ite_F, Int.reduceNeg, Int.reducePow, Int.reduceLT, Int.reduceLE, Int.reduceToNat, true_and, and_true, true_or, or_true, and_self, decide_true, decide_false, Bool.not_true, Bool.not_false, not_false_eq_true, ne_eq, Bool.false_eq_true, ↓wp_isiT, ↓wp_isiC, kindB_non, kindB_b, kindB_i, kindB_s, kindB_t, kindB_r, kindO_r, kindO_non, kindO_b, kindO_i, kindO_s, kindO_t, isi_nn, isi_bs, isi_is, isi_ss, isi_ts, isi_ls, isi_ds, mem_str, ↓wp_in_t, ↓wp_in_s, ↓wp_inOwn, ↓wp_inOwn_t, ↓wp_inOwn_s, ↓wp_att, ↓wp_met, ↓wp_setF, ↓wp_str_s, ↓wp_str_i, ↓wp_str_r, ↓strR_s, ↓wp_fmt_s, ↓wp_js0, ↓wp_js1, ↓wp_joined, ↓wp_dict0, ↓wp_list_t, ↓wp_list_l, ↓wp_add_l, ↓wp_bm, ↓wp_split, ↓wp_mkK, ↓wp_appK, ↓wp_cmK, ↓wp_callV, ↓wp_is_letter h, ↓wp_betw (n := 3) (.inr (.inr rfl)), show (((3 : Nat) : Int) == 1) = false from rfl, show (((3 : Nat) : Int) == 2) = false from rfl, ↓wp_make fld_F h]; rfl
theorem met_of : metC "of" met_of_0 (.cls "Kind") S = some (fun xs => app 2 m_Kind_of xs) := rfl
theorem dig_in : ∀ k : Nat, k < 3 → inStr ⟨#[49 + k]⟩ "123" = true := by decide +kernel
theorem dig_int : ∀ k : Nat, k < 3 → PySem.intText? ⟨#[49 + k]⟩ = some ((1 + k : Nat) : Int) := by decide +kernel
theorem wp_read (h : Lt x) (hn : n = 1 ∨ n = 2 ∨ n = 3) (c : CV) : Wp (m_Kind_read [c, .str ⟨#[x, 48 + n]⟩] S) Q E = Q (.ref S.length) (S ++ [ko x n]) := by
  have l : (⟨#[x, 48 + n]⟩ : Str).length = 2 := rfl
  have l2 : ((2 : Nat) : Int) == 2 := rfl
  have a0 : atI (⟨#[x, 48 + n]⟩ : Str).cps.toList 0 = some x := rfl
  have a1 : atI (⟨#[x, 48 + n]⟩ : Str).cps.toList 1 = some (48 + n) := rfl
  have e1 : inStr ⟨#[48 + n]⟩ "123" = true := by
    have := dig_in (n - 1) (by omega)
    rwa [show 49 + (n - 1) = 48 + n by omega] at this
  have e2 : PySem.intText? ⟨#[48 + n]⟩ = some (n : Int) := by
    have := dig_int (n - 1) (by omega)
    rwa [show 49 + (n - 1) = 48 + n by omega, show 1 + (n - 1) = n by omega] at this
  have e3 : ∀ S, intC [.str ⟨#[48 + n]⟩] S = .ok (.int n) S := fun S => by
    unfold intC
    dsimp only
    rw [e2]
    exact if_pos (show 1 ≤ 640 by decide)
  have e4 : ∀ S Q E, Wp (intC [.str ⟨#[48 + n]⟩] S) Q E = Q (.int n) S := fun S Q E => wp_eq (e3 S)
  unfold m_Kind_read b_Kind_read
  simp only [↓wp_run, ↓wp_var, ↓wp_c, ↓wp_op, ↓wp_un, ↓wp_fn, ↓wp_app, ↓wp_ap, ↓wp_nil, ↓wp_cons, ↓wp_mkTup, ↓wp_mkLst, ↓wp_tup, ↓wp_lst, ↓wp_asB, ↓wp_test, ↓wp_tru, ↓wp_and, ↓wp_or, ↓wp_not, ↓wp_if, ↓wp_andV, ↓wp_orV, ↓wp_notV, ↓wp_yes, ↓seqK_nx, ↓seqK_rt, ↓seqK_bk, ↓seqK_ct, ↓seqK_xc, ↓wp_seq, ↓wp_lft, ↓wp_next, ↓wp_brk, ↓wp_cont, ↓wp_sbad, ↓wp_expr, ↓wp_sret, ↓wp_sretN, ↓wp_sif, ↓wp_asg, ↓wp_gN, ↓wp_gT, ↓wp_par, ↓wp_gIx, ↓wp_fld, ↓finK_nx, ↓finK_rt, ↓finK_xc, ↓wp_mk, ↓wp_srcT, ↓wp_src, ↓wp_rng1, ↓wp_rng2, ↓wp_for, ↓forK_nx, ↓forK_ct, ↓forK_bk, ↓forK_rt, ↓wp_ok, ↓wp_ret, ↓wp_bnd, ↓wp_Rbnd, ↓wp_calm, ↓wp_t, ↓wp_f, startC, List.map_cons, List.map_nil, List.length_cons, List.length_nil, List.replicate_succ, List.replicate_zero, List.cons_append, List.nil_append, List.append_assoc, List.getElem?_cons_zero, List.getElem?_cons_succ, List.set_cons_zero, List.set_cons_succ, Nat.reduceAdd, Nat.reduceSub, Nat.zero_add, if_true, if_false, ite_true, ite_false, reduceIte, sizeLine, Nat.reducePow, Nat.reduceLeDiff, Nat.reduceEqDiff, atI_0, atI_1, atI_2, atI_3, ↓wp_add_i, ↓wp_add_s, ↓wp_sub_i, ↓wp_mul_i, ↓wp_mod_i, ↓wp_fdiv_i, ↓wp_pow_i, ↓wp_lt_i, ↓wp_le_i, ↓wp_gt_i, ↓wp_ge_i, ↓wp_lt_s, ↓wp_le_s, ↓wp_eq_i, ↓wp_ne_i, ↓wp_eq_s, ↓wp_ne_s, ↓wp_ix_t, ↓wp_ix_l, ↓wp_ix_s, ↓wp_setIx, ↓wp_len_s, ↓wp_len_t, ↓wp_len_l, ↓wp_abs, ↓wp_int, ↓wp_int_b, ↓wp_tru_b, ↓wp_tru_i, ↓wp_tru_non, ↓wp_tru_t, ↓wp_src_l, ↓wp_cmp_i, ↓wp_cmp_s, ↓wp_cmp_b, ↓wp_cmp_t, ↓wp_cmp_non, ↓wp_cmp_r, ↓ownR_b, ↓wp_ne_r, ↓wp_eq_r, ↓wp_ne_t, ↓wp_eq_t, ite_F, Int.reduceNeg, Int.reducePow, Int.reduceLT, Int.reduceLE, Int.reduceToNat, true_and, and_true, true_or, or_true, and_self, decide_true, decide_false, Bool.not_true, Bool.not_false, not_false_eq_true, ne_eq, Bool.false_eq_true, ↓wp_isiT, ↓wp_isiC, kindB_non, kindB_b, kindB_i, kindB_s, kindB_t, kindB_r, kindO_r, kindO_non, kindO_b, kindO_i, kindO_s, kindO_t, isi_nn, isi_bs, isi_is, isi_ss, isi_ts, isi_ls, isi_ds, mem_str, ↓wp_in_t, ↓wp_in_s, ↓wp_inOwn, ↓wp_inOwn_t, ↓wp_inOwn_s, ↓wp_att, ↓wp_met, ↓wp_setF, ↓wp_str_s, ↓wp_str_i, ↓wp_str_r, ↓strR_s, ↓wp_fmt_s, ↓wp_js0, ↓wp_js1, ↓wp_joined, ↓wp_dict0, ↓wp_list_t, ↓wp_list_l, ↓wp_add_l, ↓wp_bm, ↓wp_split, ↓wp_mkK, ↓wp_appK, ↓wp_cmK, ↓wp_callV, ↓chR_t, ↓chR_f, ↓wp_chain, ↓wp_src_s, ↓wp_mul_s, ↓wp_lt_t, ↓wp_att_c, ↓wp_tuple_l, ↓wp_fmt_i, ↓wp_strInt, l, l2, a0, a1, e1, ↓e4, ↓wp_is_letter h, met_of, ↓wp_of h hn]
end
end L02
set_option Elab.async false
set_option linter.all false
set_option maxRecDepth 100000
set_option maxHeartbeats 400000
namespace L02
open PySem PySem.Spec PyProof.Rows L2 MW
section
variable {Q : CV → Sto → Prop} {E : Str → List (Str × CV) → Sto → Prop} {S : Sto} {x x' : Nat} {n n' k j : Nat} {y : CV} {s : Str}
abbrev N3 (n : Nat) : Prop := n = 1 ∨ n = 2 ∨ n = 3
theorem lk_let (hn : N3 n) : att_letter_0.lookup (cl n) = some AK.fld := by rcases hn with rfl | rfl | rfl <;> rfl
theorem lk_ends (hn : N3 n) : att_ENDS_0.lookup (cl n) = some (AK.con (.int n)) := by rcases hn with rfl | rfl | rfl <;> rfl
theorem lk_ports (hn : N3 n) : att_ports_0.lookup (cl n) = some (AK.prop m_Kind_ports) := by rcases hn with rfl | rfl | rfl <;> rfl
theorem lk_cont (hn : N3 n) : own_contains_0.lookup (cl n) = some m_Kind___contains__ := by rcases hn with rfl | rfl | rfl <;> rfl
theorem lk_eq (hn : N3 n) : own_eq_0.lookup (cl n) = some m_Kind___eq__ := by rcases hn with rfl | rfl | rfl <;> rfl
theorem lk_lt (hn : N3 n) : own_lt_0.lookup (cl n) = some m_Kind___lt__ := by rcases hn with rfl | rfl | rfl <;> rfl
theorem lk_str (hn : N3 n) : own_str_0.lookup (cl n) = some m_Kind___str__ := by rcases hn with rfl | rfl | rfl <;> rfl
theorem lk_o (hn : N3 n) : isi_o.lookup (cl n, ("Kind" : Str)) = some true := by rcases hn with rfl | rfl | rfl <;> rfl
theorem lk_b (hn : N3 n) : isi_b.lookup (cl n, "str") = some false := by rcases hn with rfl | rfl | rfl <;> rfl
theorem in_nfb (hn : N3 n) : (cl n ∈ nf_x_0_b) = True := eq_true (by rcases hn with rfl | rfl | rfl <;> decide +kernel)
theorem in_nfc (hn : N3 n) (hn' : N3 n') : ((cl n, cl n') ∈ nf_x_0_c) = True := eq_true (by rcases hn with rfl | rfl | rfl <;> rcases hn' with rfl | rfl | rfl <;> decide +kernel)
theorem in_n : (("Kind" : Str) ∈ isi_n) = True := eq_true (by decide +kernel)
theorem lk_f {v : CV} : List.lookup ("letter" : Str) [("letter", v)] = some v := rfl
theorem lk_fe {v : CV} : List.lookup ("ENDS" : Str) [("letter", v)] = none := rfl
theorem wp_eq_k (h : S[k]? = some (ko x n)) (h' : S[j]? = some (ko x' n')) (hn : N3 n) (hn' : N3 n') : Wp (m_Kind___eq__ [.ref k, .ref j] S) Q E = Q (.bl (ch x == ch x' && ((n : Int) == (n' : Int)))) S := by
  unfold m_Kind___eq__ b_Kind___eq__
  by_cases e : (ch x == ch x') = true
  · simp only [↓wp_run, ↓wp_var, ↓wp_c, ↓wp_op, ↓wp_un, ↓wp_fn, ↓wp_app, ↓wp_ap, ↓wp_nil, ↓wp_cons, ↓wp_mkTup, ↓wp_mkLst, ↓wp_tup, ↓wp_lst, ↓wp_asB, ↓wp_test, ↓wp_tru, ↓wp_and, ↓wp_or, ↓wp_not, ↓wp_if, ↓wp_andV, ↓wp_orV, ↓wp_notV, ↓wp_yes, ↓seqK_nx, ↓seqK_rt, ↓seqK_bk, ↓seqK_ct, ↓seqK_xc, ↓wp_seq, ↓wp_lft, ↓wp_next, ↓wp_brk, ↓wp_cont, ↓wp_sbad, ↓wp_expr, ↓wp_sret, ↓wp_sretN, ↓wp_sif, ↓wp_asg, ↓wp_gN, ↓wp_gT, ↓wp_par, ↓wp_gIx, ↓wp_fld, ↓finK_nx, ↓finK_rt, ↓finK_xc, ↓wp_mk, ↓wp_srcT, ↓wp_src, ↓wp_rng1, ↓wp_rng2, ↓wp_for, ↓forK_nx, ↓forK_ct, ↓forK_bk, ↓forK_rt, ↓wp_ok, ↓wp_ret, ↓wp_bnd, ↓wp_Rbnd, ↓wp_calm, ↓wp_t, ↓wp_f, startC, List.map_cons, List.map_nil, List.length_cons, List.length_nil, List.replicate_succ, List.replicate_zero, List.cons_append, List.nil_append, List.append_assoc, List.getElem?_cons_zero, List.getElem?_cons_succ, List.set_cons_zero, List.set_cons_succ, Nat.reduceAdd, Nat.reduceSub, Nat.zero_add, if_true, if_false, ite_true, ite_false, reduceIte, sizeLine, Nat.reducePow, Nat.reduceLeDiff, Nat.reduceEqDiff, atI_0, atI_1, atI_2, atI_3, ↓wp_add_i, ↓wp_add_s, ↓wp_sub_i, ↓wp_mul_i, ↓wp_mod_i, ↓wp_fdiv_i, ↓wp_pow_i, ↓wp_lt_i, ↓wp_le_i, ↓wp_gt_i, ↓wp_ge_i, ↓wp_lt_s, ↓wp_le_s, ↓wp_eq_i, ↓wp_ne_i, ↓wp_eq_s, ↓wp_ne_s, ↓wp_ix_t, ↓wp_ix_l, ↓wp_ix_s, ↓wp_setIx, ↓wp_len_s, ↓wp_len_t, ↓wp_len_l, ↓wp_abs, ↓wp_int, ↓wp_int_b, ↓wp_tru_b, ↓wp_tru_i, ↓wp_tru_non, ↓wp_tru_t, ↓wp_src_l, ↓wp_cmp_i, ↓wp_cmp_s, ↓wp_cmp_b, ↓wp_cmp_t, ↓wp_cmp_non, ↓wp_cmp_r, ↓ownR_b, ↓wp_ne_r, ↓wp_eq_r, ↓wp_ne_t, ↓wp_eq_t, ite_F, Int.reduceNeg, Int.reducePow, Int.reduceLT, Int.reduceLE, Int.reduceToNat, true_and, and_true, true_or, or_true, and_self, decide_true, decide_false, Bool.not_true, Bool.not_false, not_false_eq_true, ne_eq, Bool.false_eq_true, ↓wp_isiT, ↓wp_isiC, kindB_non, kindB_b, kindB_i, kindB_s, kindB_t, kindB_r, kindO_r, kindO_non, kindO_b, kindO_i, kindO_s, kindO_t, isi_nn, isi_bs, isi_is, isi_ss, isi_ts, isi_ls, isi_ds, mem_str, ↓wp_in_t, ↓wp_in_s, ↓wp_inOwn, ↓wp_inOwn_t, ↓wp_inOwn_s, ↓wp_att, ↓wp_met, ↓wp_setF, ↓wp_str_s, ↓wp_str_i, ↓wp_str_r, ↓strR_s, ↓wp_fmt_s, ↓wp_js0, ↓wp_js1, ↓wp_joined, ↓wp_dict0, ↓wp_list_t, ↓wp_list_l, ↓wp_add_l, ↓wp_bm, ↓wp_split, ↓wp_mkK, ↓wp_appK, ↓wp_cmK, ↓wp_callV, ↓chR_t, ↓chR_f, ↓wp_chain, ↓wp_src_s, ↓wp_mul_s, ↓wp_lt_t, ↓wp_att_c, ↓wp_tuple_l, ↓wp_fmt_i, ↓wp_strInt, h, h', lk_let hn, lk_let hn', lk_ends hn, lk_ends hn', lk_f, lk_fe, lk_o hn', e, Bool.true_and]
  · simp only [Bool.not_eq_true] at e
    simp only [↓wp_run, ↓wp_var, ↓wp_c, ↓wp_op, ↓wp_un, ↓wp_fn, ↓wp_app, ↓wp_ap, ↓wp_nil, ↓wp_cons, ↓wp_mkTup, ↓wp_mkLst, ↓wp_tup, ↓wp_lst, ↓wp_asB, ↓wp_test, ↓wp_tru, ↓wp_and, ↓wp_or, ↓wp_not, ↓wp_if, ↓wp_andV, ↓wp_orV, ↓wp_notV, ↓wp_yes, ↓seqK_nx, ↓seqK_rt, ↓seqK_bk, ↓seqK_ct, ↓seqK_xc, ↓wp_seq, ↓wp_lft, ↓wp_next, ↓wp_brk, ↓wp_cont, ↓wp_sbad, ↓wp_expr, ↓wp_sret, ↓wp_sretN, ↓wp_sif, ↓wp_asg, ↓wp_gN, ↓wp_gT, ↓wp_par, ↓wp_gIx, ↓wp_fld, ↓finK_nx, ↓finK_rt, ↓finK_xc, ↓wp_mk, ↓wp_srcT, ↓wp_src, ↓wp_rng1, ↓wp_rng2, ↓wp_for, ↓forK_nx, ↓forK_ct, ↓forK_bk, ↓forK_rt, ↓wp_ok, ↓wp_ret, ↓wp_bnd, ↓wp_Rbnd, ↓wp_calm, ↓wp_t, ↓wp_f, startC, List.map_cons, List.map_nil, List.length_cons, List.length_nil, List.replicate_succ, List.replicate_zero, List.cons_append, List.nil_append, List.append_assoc, List.getElem?_cons_zero, List.getElem?_cons_succ, List.set_cons_zero, List.set_cons_succ, Nat.reduceAdd, Nat.reduceSub, Nat.zero_add, if_true, if_false, ite_true, ite_false, reduceIte, sizeLine, Nat.reducePow, Nat.reduceLeDiff, Nat.reduceEqDiff, atI_0, atI_1, atI_2, atI_3, ↓wp_add_i, ↓wp_add_s, ↓wp_sub_i, ↓wp_mul_i, ↓wp_mod_i, ↓wp_fdiv_i, ↓wp_pow_i, ↓wp_lt_i, ↓wp_le_i, ↓wp_gt_i, ↓wp_ge_i, ↓wp_lt_s, ↓wp_le_s, ↓wp_eq_i, ↓wp_ne_i, ↓wp_eq_s, ↓wp_ne_s, ↓wp_ix_t, ↓wp_ix_l, ↓wp_ix_s, ↓wp_setIx, ↓wp_len_s, ↓wp_len_t, ↓wp_len_l, ↓wp_abs, ↓wp_int, ↓wp_int_b, ↓wp_tru_b, ↓wp_tru_i, ↓wp_tru_non, ↓wp_tru_t, ↓wp_src_l, ↓wp_cmp_i, ↓wp_cmp_s, ↓wp_cmp_b, ↓wp_cmp_t, ↓wp_cmp_non, ↓wp_cmp_r, ↓ownR_b, ↓wp_ne_r, ↓wp_eq_r, ↓wp_ne_t, ↓wp_eq_t, ite_F, Int.reduceNeg, Int.reducePow, Int.reduceLT, Int.reduceLE, Int.reduceToNat, true_and, and_true, true_or, or_true, and_self, decide_true, decide_false, Bool.not_true, Bool.not_false, not_false_eq_true, ne_eq, Bool.false_eq_true, ↓wp_isiT, ↓wp_isiC, kindB_non, kindB_b, kindB_i, kindB_s, kindB_t, kindB_r, kindO_r, kindO_non, kindO_b, kindO_i, kindO_s, kindO_t, isi_nn, isi_bs, isi_is, isi_ss, isi_ts, isi_ls, isi_ds, mem_str, ↓wp_in_t, ↓wp_in_s, ↓wp_inOwn, ↓wp_inOwn_t, ↓wp_inOwn_s, ↓wp_att, ↓wp_met, ↓wp_setF, ↓wp_str_s, ↓wp_str_i, ↓wp_str_r, ↓strR_s, ↓wp_fmt_s, ↓wp_js0, ↓wp_js1, ↓wp_joined, ↓wp_dict0, ↓wp_list_t, ↓wp_list_l, ↓wp_add_l, ↓wp_bm, ↓wp_split, ↓wp_mkK, ↓wp_appK, ↓wp_cmK, ↓wp_callV, ↓chR_t, ↓chR_f, ↓wp_chain, ↓wp_src_s, ↓wp_mul_s, ↓wp_lt_t, ↓wp_att_c, ↓wp_tuple_l, ↓wp_fmt_i, ↓wp_strInt, h, h', lk_let hn, lk_let hn', lk_ends hn, lk_ends hn', lk_f, lk_fe, lk_o hn', e, Bool.false_and]
theorem wp_eq_o (h : S[k]? = some (ko x n)) (h' : (kindB S y).isSome = true) : Wp (m_Kind___eq__ [.ref k, y] S) Q E = Q (.bl false) S := by
  obtain ⟨t, h'⟩ := Option.isSome_iff_exists.mp h'
  unfold m_Kind___eq__ b_Kind___eq__
  simp only [↓wp_run, ↓wp_var, ↓wp_c, ↓wp_op, ↓wp_un, ↓wp_fn, ↓wp_app, ↓wp_ap, ↓wp_nil, ↓wp_cons, ↓wp_mkTup, ↓wp_mkLst, ↓wp_tup, ↓wp_lst, ↓wp_asB, ↓wp_test, ↓wp_tru, ↓wp_and, ↓wp_or, ↓wp_not, ↓wp_if, ↓wp_andV, ↓wp_orV, ↓wp_notV, ↓wp_yes, ↓seqK_nx, ↓seqK_rt, ↓seqK_bk, ↓seqK_ct, ↓seqK_xc, ↓wp_seq, ↓wp_lft, ↓wp_next, ↓wp_brk, ↓wp_cont, ↓wp_sbad, ↓wp_expr, ↓wp_sret, ↓wp_sretN, ↓wp_sif, ↓wp_asg, ↓wp_gN, ↓wp_gT, ↓wp_par, ↓wp_gIx, ↓wp_fld, ↓finK_nx, ↓finK_rt, ↓finK_xc, ↓wp_mk, ↓wp_srcT, ↓wp_src, ↓wp_rng1, ↓wp_rng2, ↓wp_for, ↓forK_nx, ↓forK_ct, ↓forK_bk, ↓forK_rt, ↓wp_ok, ↓wp_ret, ↓wp_bnd, ↓wp_Rbnd, ↓wp_calm, ↓wp_t, ↓wp_f, startC, List.map_cons, List.map_nil, List.length_cons, List.length_nil, List.replicate_succ, List.replicate_zero, List.cons_append, List.nil_append, List.append_assoc, List.getElem?_cons_zero, List.getElem?_cons_succ, List.set_cons_zero, List.set_cons_succ, Nat.reduceAdd, Nat.reduceSub, Nat.zero_add, if_true, if_false, ite_true, ite_false, reduceIte, sizeLine, Nat.reducePow, Nat.reduceLeDiff, Nat.reduceEqDiff, atI_0, atI_1, atI_2, atI_3, ↓wp_add_i, ↓wp_add_s, ↓wp_sub_i, ↓wp_mul_i, ↓wp_mod_i, ↓wp_fdiv_i, ↓wp_pow_i, ↓wp_lt_i, ↓wp_le_i, ↓wp_gt_i, ↓wp_ge_i, ↓wp_lt_s, ↓wp_le_s, ↓wp_eq_i, ↓wp_ne_i, ↓wp_eq_s, ↓wp_ne_s, ↓wp_ix_t, ↓wp_ix_l, ↓wp_ix_s, ↓wp_setIx, ↓wp_len_s, ↓wp_len_t, ↓wp_len_l, ↓wp_abs, ↓wp_int, ↓wp_int_b, ↓wp_tru_b, ↓wp_tru_i, ↓wp_tru_non, ↓wp_tru_t, ↓wp_src_l, ↓wp_cmp_i, ↓wp_cmp_s, ↓wp_cmp_b, ↓wp_cmp_t, ↓wp_cmp_non, ↓wp_cmp_r, ↓ownR_b, ↓wp_ne_r, ↓wp_eq_r, ↓wp_ne_t, ↓wp_eq_t, ite_F, Int.reduceNeg, Int.reducePow, Int.reduceLT, Int.reduceLE, Int.reduceToNat, true_and, and_true, true_or, or_true, and_self, decide_true, decide_false, Bool.not_true, Bool.not_false, not_false_eq_true, ne_eq, Bool.false_eq_true, ↓wp_isiT, ↓wp_isiC, kindB_non, kindB_b, kindB_i, kindB_s, kindB_t, kindB_r, kindO_r, kindO_non, kindO_b, kindO_i, kindO_s, kindO_t, isi_nn, isi_bs, isi_is, isi_ss, isi_ts, isi_ls, isi_ds, mem_str, ↓wp_in_t, ↓wp_in_s, ↓wp_inOwn, ↓wp_inOwn_t, ↓wp_inOwn_s, ↓wp_att, ↓wp_met, ↓wp_setF, ↓wp_str_s, ↓wp_str_i, ↓wp_str_r, ↓strR_s, ↓wp_fmt_s, ↓wp_js0, ↓wp_js1, ↓wp_joined, ↓wp_dict0, ↓wp_list_t, ↓wp_list_l, ↓wp_add_l, ↓wp_bm, ↓wp_split, ↓wp_mkK, ↓wp_appK, ↓wp_cmK, ↓wp_callV, h, h', in_n]
theorem log_n (hn : N3 n) : ((n : Int).natAbs.log2 < 1920) = True := eq_true (by rcases hn with rfl | rfl | rfl <;> decide)
theorem str_n (hn : N3 n) : (toString (n : Int) : Str) = ⟨#[48 + n]⟩ := by rcases hn with rfl | rfl | rfl <;> decide +kernel
theorem app_len {a b : Str} : (a ++ b).length = a.length + b.length := Array.size_append
theorem e_app {a : Str} : Str.empty ++ a = a := by cases a with | mk c => show (⟨#[] ++ c⟩ : Str) = ⟨c⟩; simp
theorem ch_len : (ch x).length = 1 := rfl
theorem wp_str_k (h : S[k]? = some (ko x n)) (hn : N3 n) : Wp (m_Kind___str__ [.ref k] S) Q E = Q (.str ⟨#[x, 48 + n]⟩) S := by
  have e : ch x ++ (⟨#[48 + n]⟩ : Str) = ⟨#[x, 48 + n]⟩ := rfl
  have e2 : (⟨#[48 + n]⟩ : Str).length = 1 := rfl
  have e3 : (⟨#[x, 48 + n]⟩ : Str).length = 2 := rfl
  unfold m_Kind___str__ b_Kind___str__
  simp only [↓wp_run, ↓wp_var, ↓wp_c, ↓wp_op, ↓wp_un, ↓wp_fn, ↓wp_app, ↓wp_ap, ↓wp_nil, ↓wp_cons, ↓wp_mkTup, ↓wp_mkLst, ↓wp_tup, ↓wp_lst, ↓wp_asB, ↓wp_test, ↓wp_tru, ↓wp_and, ↓wp_or, ↓wp_not, ↓wp_if, ↓wp_andV, ↓wp_orV, ↓wp_notV, ↓wp_yes, ↓seqK_nx, ↓seqK_rt, ↓seqK_bk, ↓seqK_ct, ↓seqK_xc, ↓wp_seq, ↓wp_lft, ↓wp_next, ↓wp_brk, ↓wp_cont, ↓wp_sbad, ↓wp_expr, ↓wp_sret, ↓wp_sretN, ↓wp_sif, ↓wp_asg, ↓wp_gN, ↓wp_gT, ↓wp_par, ↓wp_gIx, ↓wp_fld, ↓finK_nx, ↓finK_rt, ↓finK_xc, ↓wp_mk, ↓wp_srcT, ↓wp_src, ↓wp_rng1, ↓wp_rng2, ↓wp_for, ↓forK_nx, ↓forK_ct, ↓forK_bk, ↓forK_rt, ↓wp_ok, ↓wp_ret, ↓wp_bnd, ↓wp_Rbnd, ↓wp_calm, ↓wp_t, ↓wp_f, startC, List.map_cons, List.map_nil, List.length_cons, List.length_nil, List.replicate_succ, List.replicate_zero, List.cons_append, List.nil_append, List.append_assoc, List.getElem?_cons_zero, List.getElem?_cons_succ, List.set_cons_zero, List.set_cons_succ, Nat.reduceAdd, Nat.reduceSub, Nat.zero_add, if_true, if_false, ite_true, ite_false, reduceIte, sizeLine, Nat.reducePow, Nat.reduceLeDiff, Nat.reduceEqDiff, atI_0, atI_1, atI_2, atI_3, ↓wp_add_i, ↓wp_add_s, ↓wp_sub_i, ↓wp_mul_i, ↓wp_mod_i, ↓wp_fdiv_i, ↓wp_pow_i, ↓wp_lt_i, ↓wp_le_i, ↓wp_gt_i, ↓wp_ge_i, ↓wp_lt_s, ↓wp_le_s, ↓wp_eq_i, ↓wp_ne_i, ↓wp_eq_s, ↓wp_ne_s, ↓wp_ix_t, ↓wp_ix_l, ↓wp_ix_s, ↓wp_setIx, ↓wp_len_s, ↓wp_len_t, ↓wp_len_l, ↓wp_abs, ↓wp_int, ↓wp_int_b, ↓wp_tru_b, ↓wp_tru_i, ↓wp_tru_non, ↓wp_tru_t, ↓wp_src_l, ↓wp_cmp_i, ↓wp_cmp_s, ↓wp_cmp_b, ↓wp_cmp_t, ↓wp_cmp_non, ↓wp_cmp_r, ↓ownR_b, ↓wp_ne_r, ↓wp_eq_r, ↓wp_ne_t, ↓wp_eq_t, ite_F, Int.reduceNeg, Int.reducePow, Int.reduceLT, Int.reduceLE, Int.reduceToNat, true_and, and_true, true_or, or_true, and_self, decide_true, decide_false, Bool.not_true, Bool.not_false, not_false_eq_true, ne_eq, Bool.false_eq_true, ↓wp_isiT, ↓wp_isiC, kindB_non, kindB_b, kindB_i, kindB_s, kindB_t, kindB_r, kindO_r, kindO_non, kindO_b, kindO_i, kindO_s, kindO_t, isi_nn, isi_bs, isi_is, isi_ss, isi_ts, isi_ls, isi_ds, mem_str, ↓wp_in_t, ↓wp_in_s, ↓wp_inOwn, ↓wp_inOwn_t, ↓wp_inOwn_s, ↓wp_att, ↓wp_met, ↓wp_setF, ↓wp_str_s, ↓wp_str_i, ↓wp_str_r, ↓strR_s, ↓wp_fmt_s, ↓wp_js0, ↓wp_js1, ↓wp_joined, ↓wp_dict0, ↓wp_list_t, ↓wp_list_l, ↓wp_add_l, ↓wp_bm, ↓wp_split, ↓wp_mkK, ↓wp_appK, ↓wp_cmK, ↓wp_callV, ↓chR_t, ↓chR_f, ↓wp_chain, ↓wp_src_s, ↓wp_mul_s, ↓wp_lt_t, ↓wp_att_c, ↓wp_tuple_l, ↓wp_fmt_i, ↓wp_strInt, h, lk_let hn, lk_ends hn, lk_f, lk_fe, log_n hn, str_n hn, e_app, ch_len, app_len, e2, e, e3]
end
end L02
set_option Elab.async false
set_option linter.all false
set_option maxRecDepth 100000
set_option maxHeartbeats 400000
namespace L02
open PySem PySem.Spec PyProof.Rows L2 MW
section
variable {Q : CV → Sto → Prop} {E : Str → List (Str × CV) → Sto → Prop} {S : Sto} {x x' : Nat} {n n' k j : Nat} {y : CV} {s : Str}
theorem wp_lt_k (h : S[k]? = some (ko x n)) (h' : S[j]? = some (ko x' n')) (hn : N3 n) (hn' : N3 n') : Wp (m_Kind___lt__ [.ref k, .ref j] S) Q E = Q (.bl (decide ((⟨#[x, 48 + n]⟩ : Str).cps.toList < (⟨#[x', 48 + n']⟩ : Str).cps.toList))) S := by
  unfold m_Kind___lt__ b_Kind___lt__
  simp only [↓wp_run, ↓wp_var, ↓wp_c, ↓wp_op, ↓wp_un, ↓wp_fn, ↓wp_app, ↓wp_ap, ↓wp_nil, ↓wp_cons, ↓wp_mkTup, ↓wp_mkLst, ↓wp_tup, ↓wp_lst, ↓wp_asB, ↓wp_test, ↓wp_tru, ↓wp_and, ↓wp_or, ↓wp_not, ↓wp_if, ↓wp_andV, ↓wp_orV, ↓wp_notV, ↓wp_yes, ↓seqK_nx, ↓seqK_rt, ↓seqK_bk, ↓seqK_ct, ↓seqK_xc, ↓wp_seq, ↓wp_lft, ↓wp_next, ↓wp_brk, ↓wp_cont, ↓wp_sbad, ↓wp_expr, ↓wp_sret, ↓wp_sretN, ↓wp_sif, ↓wp_asg, ↓wp_gN, ↓wp_gT, ↓wp_par, ↓wp_gIx, ↓wp_fld, ↓finK_nx, ↓finK_rt, ↓finK_xc, ↓wp_mk, ↓wp_srcT, ↓wp_src, ↓wp_rng1, ↓wp_rng2, ↓wp_for, ↓forK_nx, ↓forK_ct, ↓forK_bk, ↓forK_rt, ↓wp_ok, ↓wp_ret, ↓wp_bnd, ↓wp_Rbnd, ↓wp_calm, ↓wp_t, ↓wp_f, startC, List.map_cons, List.map_nil, List.length_cons, List.length_nil, List.replicate_succ, List.replicate_zero, List.cons_append, List.nil_append, List.append_assoc, List.getElem?_cons_zero, List.getElem?_cons_succ, List.set_cons_zero, List.set_cons_succ, Nat.reduceAdd, Nat.reduceSub, Nat.zero_add, if_true, if_false, ite_true, ite_false, reduceIte, sizeLine, Nat.reducePow, Nat.reduceLeDiff, Nat.reduceEqDiff, atI_0, atI_1, atI_2, atI_3, ↓wp_add_i, ↓wp_add_s, ↓wp_sub_i, ↓wp_mul_i, ↓wp_mod_i, ↓wp_fdiv_i, ↓wp_pow_i, ↓wp_lt_i, ↓wp_le_i, ↓wp_gt_i, ↓wp_ge_i, ↓wp_lt_s, ↓wp_le_s, ↓wp_eq_i, ↓wp_ne_i, ↓wp_eq_s, ↓wp_ne_s, ↓wp_ix_t, ↓wp_ix_l, ↓wp_ix_s, ↓wp_setIx, ↓wp_len_s, ↓wp_len_t, ↓wp_len_l, ↓wp_abs, ↓wp_int, ↓wp_int_b, ↓wp_tru_b, ↓wp_tru_i, ↓wp_tru_non, ↓wp_tru_t, ↓wp_src_l, ↓wp_cmp_i, ↓wp_cmp_s, ↓wp_cmp_b, ↓wp_cmp_t, ↓wp_cmp_non, ↓wp_cmp_r, ↓ownR_b, ↓wp_ne_r, ↓wp_eq_r, ↓wp_ne_t, ↓wp_eq_t, ite_F, Int.reduceNeg, Int.reducePow, Int.reduceLT, Int.reduceLE, Int.reduceToNat, true_and, and_true, true_or, or_true, and_self, decide_true, decide_false, Bool.not_true, Bool.not_false, not_false_eq_true, ne_eq, Bool.false_eq_true, ↓wp_isiT, ↓wp_isiC, kindB_non, kindB_b, kindB_i, kindB_s, kindB_t, kindB_r, kindO_r, kindO_non, kindO_b, kindO_i, kindO_s, kindO_t, isi_nn, isi_bs, isi_is, isi_ss, isi_ts, isi_ls, isi_ds, mem_str, ↓wp_in_t, ↓wp_in_s, ↓wp_inOwn, ↓wp_inOwn_t, ↓wp_inOwn_s, ↓wp_att, ↓wp_met, ↓wp_setF, ↓wp_str_s, ↓wp_str_i, ↓wp_str_r, ↓strR_s, ↓wp_fmt_s, ↓wp_js0, ↓wp_js1, ↓wp_joined, ↓wp_dict0, ↓wp_list_t, ↓wp_list_l, ↓wp_add_l, ↓wp_bm, ↓wp_split, ↓wp_mkK, ↓wp_appK, ↓wp_cmK, ↓wp_callV, ↓chR_t, ↓chR_f, ↓wp_chain, ↓wp_src_s, ↓wp_mul_s, ↓wp_lt_t, ↓wp_att_c, ↓wp_tuple_l, ↓wp_fmt_i, ↓wp_strInt, h, h', lk_str hn, lk_str hn', ↓wp_str_k h hn, ↓wp_str_k h' hn']
/-- the name of the port at place i -/
def pname (x : Nat) : CV → CV
  | .int i => .str ⟨#[x, 48 + i.toNat]⟩
  | _ => .non
def prt (x n : Nat) : List CV := (rngItems 0 n).map (pname x)
theorem log4 {i : Nat} (h : i < 4) : ((i : Int).natAbs.log2 < 1920) = True := eq_true (by rcases i with _ | _ | _ | _ | i <;> first | decide | omega)
theorem str4 : ∀ i : Nat, i < 4 → (toString (i : Int) : Str) = ⟨#[48 + i]⟩ := by decide +kernel
theorem p1 (h : S[k]? = some (ko x n)) (hn : N3 n) : Wp (mUn (attC "ENDS" att_ENDS_0) (mVar 0) [some (.ref k), none] S) Q E = Q (.int n) S := by
  simp only [↓wp_run, ↓wp_var, ↓wp_c, ↓wp_op, ↓wp_un, ↓wp_fn, ↓wp_app, ↓wp_ap, ↓wp_nil, ↓wp_cons, ↓wp_mkTup, ↓wp_mkLst, ↓wp_tup, ↓wp_lst, ↓wp_asB, ↓wp_test, ↓wp_tru, ↓wp_and, ↓wp_or, ↓wp_not, ↓wp_if, ↓wp_andV, ↓wp_orV, ↓wp_notV, ↓wp_yes, ↓seqK_nx, ↓seqK_rt, ↓seqK_bk, ↓seqK_ct, ↓seqK_xc, ↓wp_seq, ↓wp_lft, ↓wp_next, ↓wp_brk, ↓wp_cont, ↓wp_sbad, ↓wp_expr, ↓wp_sret, ↓wp_sretN, ↓wp_sif, ↓wp_asg, ↓wp_gN, ↓wp_gT, ↓wp_par, ↓wp_gIx, ↓wp_fld, ↓finK_nx, ↓finK_rt, ↓finK_xc, ↓wp_mk, ↓wp_srcT, ↓wp_src, ↓wp_rng1, ↓wp_rng2, ↓wp_for, ↓forK_nx, ↓forK_ct, ↓forK_bk, ↓forK_rt, ↓wp_ok, ↓wp_ret, ↓wp_bnd, ↓wp_Rbnd, ↓wp_calm, ↓wp_t, ↓wp_f, startC, List.map_cons, List.map_nil, List.length_cons, List.length_nil, List.replicate_succ, List.replicate_zero, List.cons_append, List.nil_append, List.append_assoc, List.getElem?_cons_zero, List.getElem?_cons_succ, List.set_cons_zero, List.set_cons_succ, Nat.reduceAdd, Nat.reduceSub, Nat.zero_add, if_true, if_false, ite_true, ite_false, reduceIte, sizeLine, Nat.reducePow, Nat.reduceLeDiff, Nat.reduceEqDiff, atI_0, atI_1, atI_2, atI_3, ↓wp_add_i, ↓wp_add_s, ↓wp_sub_i, ↓wp_mul_i, ↓wp_mod_i, ↓wp_fdiv_i, ↓wp_pow_i, ↓wp_lt_i, ↓wp_le_i, ↓wp_gt_i, ↓wp_ge_i, ↓wp_lt_s, ↓wp_le_s, ↓wp_eq_i, ↓wp_ne_i, ↓wp_eq_s, ↓wp_ne_s, ↓wp_ix_t, ↓wp_ix_l, ↓wp_ix_s, ↓wp_setIx, ↓wp_len_s, ↓wp_len_t, ↓wp_len_l, ↓wp_abs, ↓wp_int, ↓wp_int_b, ↓wp_tru_b, ↓wp_tru_i, ↓wp_tru_non, ↓wp_tru_t, ↓wp_src_l, ↓wp_cmp_i, ↓wp_cmp_s, ↓wp_cmp_b, ↓wp_cmp_t, ↓wp_cmp_non, ↓wp_cmp_r, ↓ownR_b, ↓wp_ne_r, ↓wp_eq_r, ↓wp_ne_t, ↓wp_eq_t, ite_F, Int.reduceNeg, Int.reducePow, Int.reduceLT, Int.reduceLE, Int.reduceToNat, true_and, and_true, true_or, or_true, and_self, decide_true, decide_false, Bool.not_true, Bool.not_false, not_false_eq_true, ne_eq, Bool.false_eq_true, ↓wp_isiT, ↓wp_isiC, kindB_non, kindB_b, kindB_i, kindB_s, kindB_t, kindB_r, kindO_r, kindO_non, kindO_b, kindO_i, kindO_s, kindO_t, isi_nn, isi_bs, isi_is, isi_ss, isi_ts, isi_ls, isi_ds, mem_str, ↓wp_in_t, ↓wp_in_s, ↓wp_inOwn, ↓wp_inOwn_t, ↓wp_inOwn_s, ↓wp_att, ↓wp_met, ↓wp_setF, ↓wp_str_s, ↓wp_str_i, ↓wp_str_r, ↓strR_s, ↓wp_fmt_s, ↓wp_js0, ↓wp_js1, ↓wp_joined, ↓wp_dict0, ↓wp_list_t, ↓wp_list_l, ↓wp_add_l, ↓wp_bm, ↓wp_split, ↓wp_mkK, ↓wp_appK, ↓wp_cmK, ↓wp_callV, h, lk_ends hn, lk_fe]
theorem p2 (hn : n < 100) {QS : Src → Sto → Prop} : Wp (rng1 [.int n] S) QS E = QS ⟨rngItems 0 n, none⟩ S := wp_rng1_n (by omega)
theorem p3 (h : S[k]? = some (ko x n)) (hn : N3 n) {QS : Src → Sto → Prop} : Wp (mRng1 (mCons (mUn (attC "ENDS" att_ENDS_0) (mVar 0)) mNil) [some (.ref k), none] S) QS E = QS ⟨rngItems 0 n, none⟩ S := by
  rw [wp_rng1, wp_cons, p1 h hn, wp_nil]
  exact p2 (by omega)
theorem ports_src (h : S[k]? = some (ko x n)) (hn : N3 n) : (mRng1 (mCons (mUn (attC "ENDS" att_ENDS_0) (mVar 0)) mNil)) [some (.ref k), none] S = .ok ⟨rngItems 0 n, none⟩ S := by
  apply eq_of_wp
  rw [p3 h hn]
  exact ⟨rfl, rfl⟩
theorem ports_one {i : Nat} (h : S[k]? = some (ko x n)) (hn : N3 n) (hi : i < 4) : mJoined [(mUn fmtC (mUn (attC "letter" att_letter_0) (mVar 0))), (mUn fmtC (mVar 1))] [some (.ref k), some (.int i)] S = .ok (.str ⟨#[x, 48 + i]⟩) S := by
  apply eq_of_wp
  have e : ch x ++ (⟨#[48 + i]⟩ : Str) = ⟨#[x, 48 + i]⟩ := rfl
  have e2 : (⟨#[48 + i]⟩ : Str).length = 1 := rfl
  have e3 : (⟨#[x, 48 + i]⟩ : Str).length = 2 := rfl
  simp only [↓wp_run, ↓wp_var, ↓wp_c, ↓wp_op, ↓wp_un, ↓wp_fn, ↓wp_app, ↓wp_ap, ↓wp_nil, ↓wp_cons, ↓wp_mkTup, ↓wp_mkLst, ↓wp_tup, ↓wp_lst, ↓wp_asB, ↓wp_test, ↓wp_tru, ↓wp_and, ↓wp_or, ↓wp_not, ↓wp_if, ↓wp_andV, ↓wp_orV, ↓wp_notV, ↓wp_yes, ↓seqK_nx, ↓seqK_rt, ↓seqK_bk, ↓seqK_ct, ↓seqK_xc, ↓wp_seq, ↓wp_lft, ↓wp_next, ↓wp_brk, ↓wp_cont, ↓wp_sbad, ↓wp_expr, ↓wp_sret, ↓wp_sretN, ↓wp_sif, ↓wp_asg, ↓wp_gN, ↓wp_gT, ↓wp_par, ↓wp_gIx, ↓wp_fld, ↓finK_nx, ↓finK_rt, ↓finK_xc, ↓wp_mk, ↓wp_srcT, ↓wp_src, ↓wp_rng1, ↓wp_rng2, ↓wp_for, ↓forK_nx, ↓forK_ct, ↓forK_bk, ↓forK_rt, ↓wp_ok, ↓wp_ret, ↓wp_bnd, ↓wp_Rbnd, ↓wp_calm, ↓wp_t, ↓wp_f, startC, List.map_cons, List.map_nil, List.length_cons, List.length_nil, List.replicate_succ, List.replicate_zero, List.cons_append, List.nil_append, List.append_assoc, List.getElem?_cons_zero, List.getElem?_cons_succ, List.set_cons_zero, List.set_cons_succ, Nat.reduceAdd, Nat.reduceSub, Nat.zero_add, if_true, if_false, ite_true, ite_false, reduceIte, sizeLine, Nat.reducePow, Nat.reduceLeDiff, Nat.reduceEqDiff, atI_0, atI_1, atI_2, atI_3, ↓wp_add_i, ↓wp_add_s, ↓wp_sub_i, ↓wp_mul_i, ↓wp_mod_i, ↓wp_fdiv_i, ↓wp_pow_i, ↓wp_lt_i, ↓wp_le_i, ↓wp_gt_i, ↓wp_ge_i, ↓wp_lt_s, ↓wp_le_s, ↓wp_eq_i, ↓wp_ne_i, ↓wp_eq_s, ↓wp_ne_s, ↓wp_ix_t, ↓wp_ix_l, ↓wp_ix_s, ↓wp_setIx, ↓wp_len_s, ↓wp_len_t, ↓wp_len_l, ↓wp_abs, ↓wp_int, ↓wp_int_b, ↓wp_tru_b, ↓wp_tru_i, ↓wp_tru_non, ↓wp_tru_t, ↓wp_src_l, ↓wp_cmp_i, ↓wp_cmp_s, ↓wp_cmp_b, ↓wp_cmp_t, ↓wp_cmp_non, ↓wp_cmp_r, ↓ownR_b, ↓wp_ne_r, ↓wp_eq_r, ↓wp_ne_t, ↓wp_eq_t, ite_F, Int.reduceNeg, Int.reducePow, Int.reduceLT, Int.reduceLE, Int.reduceToNat, true_and, and_true, true_or, or_true, and_self, decide_true, decide_false, Bool.not_true, Bool.not_false, not_false_eq_true, ne_eq, Bool.false_eq_true, ↓wp_isiT, ↓wp_isiC, kindB_non, kindB_b, kindB_i, kindB_s, kindB_t, kindB_r, kindO_r, kindO_non, kindO_b, kindO_i, kindO_s, kindO_t, isi_nn, isi_bs, isi_is, isi_ss, isi_ts, isi_ls, isi_ds, mem_str, ↓wp_in_t, ↓wp_in_s, ↓wp_inOwn, ↓wp_inOwn_t, ↓wp_inOwn_s, ↓wp_att, ↓wp_met, ↓wp_setF, ↓wp_str_s, ↓wp_str_i, ↓wp_str_r, ↓strR_s, ↓wp_fmt_s, ↓wp_js0, ↓wp_js1, ↓wp_joined, ↓wp_dict0, ↓wp_list_t, ↓wp_list_l, ↓wp_add_l, ↓wp_bm, ↓wp_split, ↓wp_mkK, ↓wp_appK, ↓wp_cmK, ↓wp_callV, ↓chR_t, ↓chR_f, ↓wp_chain, ↓wp_src_s, ↓wp_mul_s, ↓wp_lt_t, ↓wp_att_c, ↓wp_tuple_l, ↓wp_fmt_i, ↓wp_strInt, h, lk_let hn, lk_f, log4 hi, str4 i hi, e_app, ch_len, app_len, e2, e, e3]
theorem four_le : 4 ≤ sizeLine := by decide
theorem ports_lc (h : S[k]? = some (ko x n)) (hn : N3 n) : Wp (mLc (mRng1 (mCons (mUn (attC "ENDS" att_ENDS_0) (mVar 0)) mNil)) (cN 1) mYes (mJoined [(mUn fmtC (mUn (attC "letter" att_letter_0) (mVar 0))), (mUn fmtC (mVar 1))]) [1] [some (.ref k), none] S) Q E = Q (.ref S.length) (S ++ [.lst (prt x n)]) := by
  have hn3 : n < 4 := by rcases hn with rfl | rfl | rfl <;> decide
  refine wp_lcFree (pname x) (ports_src h hn) ?_ ?_
  · intro v hv acc
    obtain ⟨i, hi, rfl⟩ := rng_mem hv
    exact ports_one (look_old h) hn (by omega)
  · show (rngItems 0 n).length ≤ sizeLine
    rw [rng_len]; exact Nat.le_trans (by omega : n ≤ 4) four_le
theorem wp_ports (h : S[k]? = some (ko x n)) (hn : N3 n) : Wp (m_Kind_ports [.ref k] S) Q E = Q (.tup (prt x n)) (S ++ [.lst (prt x n)]) := by
  unfold m_Kind_ports b_Kind_ports
  simp only [↓wp_run, ↓wp_var, ↓wp_c, ↓wp_op, ↓wp_un, ↓wp_fn, ↓wp_app, ↓wp_ap, ↓wp_nil, ↓wp_cons, ↓wp_mkTup, ↓wp_mkLst, ↓wp_tup, ↓wp_lst, ↓wp_asB, ↓wp_test, ↓wp_tru, ↓wp_and, ↓wp_or, ↓wp_not, ↓wp_if, ↓wp_andV, ↓wp_orV, ↓wp_notV, ↓wp_yes, ↓seqK_nx, ↓seqK_rt, ↓seqK_bk, ↓seqK_ct, ↓seqK_xc, ↓wp_seq, ↓wp_lft, ↓wp_next, ↓wp_brk, ↓wp_cont, ↓wp_sbad, ↓wp_expr, ↓wp_sret, ↓wp_sretN, ↓wp_sif, ↓wp_asg, ↓wp_gN, ↓wp_gT, ↓wp_par, ↓wp_gIx, ↓wp_fld, ↓finK_nx, ↓finK_rt, ↓finK_xc, ↓wp_mk, ↓wp_srcT, ↓wp_src, ↓wp_rng1, ↓wp_rng2, ↓wp_for, ↓forK_nx, ↓forK_ct, ↓forK_bk, ↓forK_rt, ↓wp_ok, ↓wp_ret, ↓wp_bnd, ↓wp_Rbnd, ↓wp_calm, ↓wp_t, ↓wp_f, startC, List.map_cons, List.map_nil, List.length_cons, List.length_nil, List.replicate_succ, List.replicate_zero, List.cons_append, List.nil_append, List.append_assoc, List.getElem?_cons_zero, List.getElem?_cons_succ, List.set_cons_zero, List.set_cons_succ, Nat.reduceAdd, Nat.reduceSub, Nat.zero_add, if_true, if_false, ite_true, ite_false, reduceIte, sizeLine, Nat.reducePow, Nat.reduceLeDiff, Nat.reduceEqDiff, atI_0, atI_1, atI_2, atI_3, ↓wp_add_i, ↓wp_add_s, ↓wp_sub_i, ↓wp_mul_i, ↓wp_mod_i, ↓wp_fdiv_i, ↓wp_pow_i, ↓wp_lt_i, ↓wp_le_i, ↓wp_gt_i, ↓wp_ge_i, ↓wp_lt_s, ↓wp_le_s, ↓wp_eq_i, ↓wp_ne_i, ↓wp_eq_s, ↓wp_ne_s, ↓wp_ix_t, ↓wp_ix_l, ↓wp_ix_s, ↓wp_setIx, ↓wp_len_s, ↓wp_len_t, ↓wp_len_l, ↓wp_abs, ↓wp_int, ↓wp_int_b, ↓wp_tru_b, ↓wp_tru_i, ↓wp_tru_non, ↓wp_tru_t, ↓wp_src_l, ↓wp_cmp_i, ↓wp_cmp_s, ↓wp_cmp_b, ↓wp_cmp_t, ↓wp_cmp_non, ↓wp_cmp_r, ↓ownR_b, ↓wp_ne_r, ↓wp_eq_r, ↓wp_ne_t, ↓wp_eq_t, ite_F, Int.reduceNeg, Int.reducePow, Int.reduceLT, Int.reduceLE, Int.reduceToNat, true_and, and_true, true_or, or_true, and_self, decide_true, decide_false, Bool.not_true, Bool.not_false, not_false_eq_true, ne_eq, Bool.false_eq_true, ↓wp_isiT, ↓wp_isiC, kindB_non, kindB_b, kindB_i, kindB_s, kindB_t, kindB_r, kindO_r, kindO_non, kindO_b, kindO_i, kindO_s, kindO_t, isi_nn, isi_bs, isi_is, isi_ss, isi_ts, isi_ls, isi_ds, mem_str, ↓wp_in_t, ↓wp_in_s, ↓wp_inOwn, ↓wp_inOwn_t, ↓wp_inOwn_s, ↓wp_att, ↓wp_met, ↓wp_setF, ↓wp_str_s, ↓wp_str_i, ↓wp_str_r, ↓strR_s, ↓wp_fmt_s, ↓wp_js0, ↓wp_js1, ↓wp_joined, ↓wp_dict0, ↓wp_list_t, ↓wp_list_l, ↓wp_add_l, ↓wp_bm, ↓wp_split, ↓wp_mkK, ↓wp_appK, ↓wp_cmK, ↓wp_callV, ↓chR_t, ↓chR_f, ↓wp_chain, ↓wp_src_s, ↓wp_mul_s, ↓wp_lt_t, ↓wp_att_c, ↓wp_tuple_l, ↓wp_fmt_i, ↓wp_strInt, ↓ports_lc h hn, look_new0]
end
end L02
set_option Elab.async false
set_option linter.all false
set_option maxRecDepth 100000
set_option maxHeartbeats 1000000
namespace L02
open PySem PySem.Spec PyProof.Rows L2 MW
section
variable {Q : CV → Sto → Prop} {E : Str → List (Str × CV) → Sto → Prop} {S : Sto} {x x' : Nat} {n n' k j : Nat} {y : CV} {s : Str}
/-- whether a value is a port of the kind -/
def ffb (ps : List CV) : CV → Bool
  | .str s => ps.any fun z => eqF z (.str s)
  | _ => false
def Kn (S : Sto) (x : CV) : Prop := isStrC x = true ∨ (isStrC x = false ∧ (kindB S x).isSome = true)
theorem in_prt_s (hn : N3 n) : inSeq S (.str s) (prt x n) = some (ffb (prt x n) (.str s)) := by
  rcases hn with rfl | rfl | rfl <;> rfl
theorem wp_cont_s (h : S[k]? = some (ko x n)) (hn : N3 n) : Wp (m_Kind___contains__ [.ref k, .str s] S) Q E = Q (.bl (ffb (prt x n) (.str s))) (S ++ [.lst (prt x n)]) := by
  unfold m_Kind___contains__ b_Kind___contains__
  simp only [↓wp_run, ↓wp_var, ↓wp_c, ↓wp_op, ↓wp_un, ↓wp_fn, ↓wp_app, ↓wp_ap, ↓wp_nil, ↓wp_cons, ↓wp_mkTup, ↓wp_mkLst, ↓wp_tup, ↓wp_lst, ↓wp_asB, ↓wp_test, ↓wp_tru, ↓wp_and, ↓wp_or, ↓wp_not, ↓wp_if, ↓wp_andV, ↓wp_orV, ↓wp_notV, ↓wp_yes, ↓seqK_nx, ↓seqK_rt, ↓seqK_bk, ↓seqK_ct, ↓seqK_xc, ↓wp_seq, ↓wp_lft, ↓wp_next, ↓wp_brk, ↓wp_cont, ↓wp_sbad, ↓wp_expr, ↓wp_sret, ↓wp_sretN, ↓wp_sif, ↓wp_asg, ↓wp_gN, ↓wp_gT, ↓wp_par, ↓wp_gIx, ↓wp_fld, ↓finK_nx, ↓finK_rt, ↓finK_xc, ↓wp_mk, ↓wp_srcT, ↓wp_src, ↓wp_rng1, ↓wp_rng2, ↓wp_for, ↓forK_nx, ↓forK_ct, ↓forK_bk, ↓forK_rt, ↓wp_ok, ↓wp_ret, ↓wp_bnd, ↓wp_Rbnd, ↓wp_calm, ↓wp_t, ↓wp_f, startC, List.map_cons, List.map_nil, List.length_cons, List.length_nil, List.replicate_succ, List.replicate_zero, List.cons_append, List.nil_append, List.append_assoc, List.getElem?_cons_zero, List.getElem?_cons_succ, List.set_cons_zero, List.set_cons_succ, Nat.reduceAdd, Nat.reduceSub, Nat.zero_add, if_true, if_false, ite_true, ite_false, reduceIte, sizeLine, Nat.reducePow, Nat.reduceLeDiff, Nat.reduceEqDiff, atI_0, atI_1, atI_2, atI_3, ↓wp_add_i, ↓wp_add_s, ↓wp_sub_i, ↓wp_mul_i, ↓wp_mod_i, ↓wp_fdiv_i, ↓wp_pow_i, ↓wp_lt_i, ↓wp_le_i, ↓wp_gt_i, ↓wp_ge_i, ↓wp_lt_s, ↓wp_le_s, ↓wp_eq_i, ↓wp_ne_i, ↓wp_eq_s, ↓wp_ne_s, ↓wp_ix_t, ↓wp_ix_l, ↓wp_ix_s, ↓wp_setIx, ↓wp_len_s, ↓wp_len_t, ↓wp_len_l, ↓wp_abs, ↓wp_int, ↓wp_int_b, ↓wp_tru_b, ↓wp_tru_i, ↓wp_tru_non, ↓wp_tru_t, ↓wp_src_l, ↓wp_cmp_i, ↓wp_cmp_s, ↓wp_cmp_b, ↓wp_cmp_t, ↓wp_cmp_non, ↓wp_cmp_r, ↓ownR_b, ↓wp_ne_r, ↓wp_eq_r, ↓wp_ne_t, ↓wp_eq_t, ite_F, Int.reduceNeg, Int.reducePow, Int.reduceLT, Int.reduceLE, Int.reduceToNat, true_and, and_true, true_or, or_true, and_self, decide_true, decide_false, Bool.not_true, Bool.not_false, not_false_eq_true, ne_eq, Bool.false_eq_true, ↓wp_isiT, ↓wp_isiC, kindB_non, kindB_b, kindB_i, kindB_s, kindB_t, kindB_r, kindO_r, kindO_non, kindO_b, kindO_i, kindO_s, kindO_t, isi_nn, isi_bs, isi_is, isi_ss, isi_ts, isi_ls, isi_ds, mem_str, ↓wp_in_t, ↓wp_in_s, ↓wp_inOwn, ↓wp_inOwn_t, ↓wp_inOwn_s, ↓wp_att, ↓wp_met, ↓wp_setF, ↓wp_str_s, ↓wp_str_i, ↓wp_str_r, ↓strR_s, ↓wp_fmt_s, ↓wp_js0, ↓wp_js1, ↓wp_joined, ↓wp_dict0, ↓wp_list_t, ↓wp_list_l, ↓wp_add_l, ↓wp_bm, ↓wp_split, ↓wp_mkK, ↓wp_appK, ↓wp_cmK, ↓wp_callV, ↓chR_t, ↓chR_f, ↓wp_chain, ↓wp_src_s, ↓wp_mul_s, ↓wp_lt_t, ↓wp_att_c, ↓wp_tuple_l, ↓wp_fmt_i, ↓wp_strInt, h, lk_ports hn, ↓wp_ports h hn, in_prt_s hn]
theorem lkb (hn : N3 n) : isi_b.lookup (cl n, "str") = some false := lk_b hn
theorem wp_cont_o (hk : (kindB S y).isSome = true) (hs : isStrC y = false) : Wp (m_Kind___contains__ [.ref k, y] S) Q E = Q (.bl false) S := by
  unfold m_Kind___contains__ b_Kind___contains__
  cases y with
  | str s => cases hs
  | ref k =>
    rw [kindB_r] at hk
    cases e : S[k]? with
    | none => rw [e] at hk; cases hk
    | some o => cases o with
      | lst l => simp only [↓wp_run, ↓wp_var, ↓wp_c, ↓wp_op, ↓wp_un, ↓wp_fn, ↓wp_app, ↓wp_ap, ↓wp_nil, ↓wp_cons, ↓wp_mkTup, ↓wp_mkLst, ↓wp_tup, ↓wp_lst, ↓wp_asB, ↓wp_test, ↓wp_tru, ↓wp_and, ↓wp_or, ↓wp_not, ↓wp_if, ↓wp_andV, ↓wp_orV, ↓wp_notV, ↓wp_yes, ↓seqK_nx, ↓seqK_rt, ↓seqK_bk, ↓seqK_ct, ↓seqK_xc, ↓wp_seq, ↓wp_lft, ↓wp_next, ↓wp_brk, ↓wp_cont, ↓wp_sbad, ↓wp_expr, ↓wp_sret, ↓wp_sretN, ↓wp_sif, ↓wp_asg, ↓wp_gN, ↓wp_gT, ↓wp_par, ↓wp_gIx, ↓wp_fld, ↓finK_nx, ↓finK_rt, ↓finK_xc, ↓wp_mk, ↓wp_srcT, ↓wp_src, ↓wp_rng1, ↓wp_rng2, ↓wp_for, ↓forK_nx, ↓forK_ct, ↓forK_bk, ↓forK_rt, ↓wp_ok, ↓wp_ret, ↓wp_bnd, ↓wp_Rbnd, ↓wp_calm, ↓wp_t, ↓wp_f, startC, List.map_cons, List.map_nil, List.length_cons, List.length_nil, List.replicate_succ, List.replicate_zero, List.cons_append, List.nil_append, List.append_assoc, List.getElem?_cons_zero, List.getElem?_cons_succ, List.set_cons_zero, List.set_cons_succ, Nat.reduceAdd, Nat.reduceSub, Nat.zero_add, if_true, if_false, ite_true, ite_false, reduceIte, sizeLine, Nat.reducePow, Nat.reduceLeDiff, Nat.reduceEqDiff, atI_0, atI_1, atI_2, atI_3, ↓wp_add_i, ↓wp_add_s, ↓wp_sub_i, ↓wp_mul_i, ↓wp_mod_i, ↓wp_fdiv_i, ↓wp_pow_i, ↓wp_lt_i, ↓wp_le_i, ↓wp_gt_i, ↓wp_ge_i, ↓wp_lt_s, ↓wp_le_s, ↓wp_eq_i, ↓wp_ne_i, ↓wp_eq_s, ↓wp_ne_s, ↓wp_ix_t, ↓wp_ix_l, ↓wp_ix_s, ↓wp_setIx, ↓wp_len_s, ↓wp_len_t, ↓wp_len_l, ↓wp_abs, ↓wp_int, ↓wp_int_b, ↓wp_tru_b, ↓wp_tru_i, ↓wp_tru_non, ↓wp_tru_t, ↓wp_src_l, ↓wp_cmp_i, ↓wp_cmp_s, ↓wp_cmp_b, ↓wp_cmp_t, ↓wp_cmp_non, ↓wp_cmp_r, ↓ownR_b, ↓wp_ne_r, ↓wp_eq_r, ↓wp_ne_t, ↓wp_eq_t, ite_F, Int.reduceNeg, Int.reducePow, Int.reduceLT, Int.reduceLE, Int.reduceToNat, true_and, and_true, true_or, or_true, and_self, decide_true, decide_false, Bool.not_true, Bool.not_false, not_false_eq_true, ne_eq, Bool.false_eq_true, ↓wp_isiT, ↓wp_isiC, kindB_non, kindB_b, kindB_i, kindB_s, kindB_t, kindB_r, kindO_r, kindO_non, kindO_b, kindO_i, kindO_s, kindO_t, isi_nn, isi_bs, isi_is, isi_ss, isi_ts, isi_ls, isi_ds, mem_str, ↓wp_in_t, ↓wp_in_s, ↓wp_inOwn, ↓wp_inOwn_t, ↓wp_inOwn_s, ↓wp_att, ↓wp_met, ↓wp_setF, ↓wp_str_s, ↓wp_str_i, ↓wp_str_r, ↓strR_s, ↓wp_fmt_s, ↓wp_js0, ↓wp_js1, ↓wp_joined, ↓wp_dict0, ↓wp_list_t, ↓wp_list_l, ↓wp_add_l, ↓wp_bm, ↓wp_split, ↓wp_mkK, ↓wp_appK, ↓wp_cmK, ↓wp_callV, e]
      | dic l => simp only [↓wp_run, ↓wp_var, ↓wp_c, ↓wp_op, ↓wp_un, ↓wp_fn, ↓wp_app, ↓wp_ap, ↓wp_nil, ↓wp_cons, ↓wp_mkTup, ↓wp_mkLst, ↓wp_tup, ↓wp_lst, ↓wp_asB, ↓wp_test, ↓wp_tru, ↓wp_and, ↓wp_or, ↓wp_not, ↓wp_if, ↓wp_andV, ↓wp_orV, ↓wp_notV, ↓wp_yes, ↓seqK_nx, ↓seqK_rt, ↓seqK_bk, ↓seqK_ct, ↓seqK_xc, ↓wp_seq, ↓wp_lft, ↓wp_next, ↓wp_brk, ↓wp_cont, ↓wp_sbad, ↓wp_expr, ↓wp_sret, ↓wp_sretN, ↓wp_sif, ↓wp_asg, ↓wp_gN, ↓wp_gT, ↓wp_par, ↓wp_gIx, ↓wp_fld, ↓finK_nx, ↓finK_rt, ↓finK_xc, ↓wp_mk, ↓wp_srcT, ↓wp_src, ↓wp_rng1, ↓wp_rng2, ↓wp_for, ↓forK_nx, ↓forK_ct, ↓forK_bk, ↓forK_rt, ↓wp_ok, ↓wp_ret, ↓wp_bnd, ↓wp_Rbnd, ↓wp_calm, ↓wp_t, ↓wp_f, startC, List.map_cons, List.map_nil, List.length_cons, List.length_nil, List.replicate_succ, List.replicate_zero, List.cons_append, List.nil_append, List.append_assoc, List.getElem?_cons_zero, List.getElem?_cons_succ, List.set_cons_zero, List.set_cons_succ, Nat.reduceAdd, Nat.reduceSub, Nat.zero_add, if_true, if_false, ite_true, ite_false, reduceIte, sizeLine, Nat.reducePow, Nat.reduceLeDiff, Nat.reduceEqDiff, atI_0, atI_1, atI_2, atI_3, ↓wp_add_i, ↓wp_add_s, ↓wp_sub_i, ↓wp_mul_i, ↓wp_mod_i, ↓wp_fdiv_i, ↓wp_pow_i, ↓wp_lt_i, ↓wp_le_i, ↓wp_gt_i, ↓wp_ge_i, ↓wp_lt_s, ↓wp_le_s, ↓wp_eq_i, ↓wp_ne_i, ↓wp_eq_s, ↓wp_ne_s, ↓wp_ix_t, ↓wp_ix_l, ↓wp_ix_s, ↓wp_setIx, ↓wp_len_s, ↓wp_len_t, ↓wp_len_l, ↓wp_abs, ↓wp_int, ↓wp_int_b, ↓wp_tru_b, ↓wp_tru_i, ↓wp_tru_non, ↓wp_tru_t, ↓wp_src_l, ↓wp_cmp_i, ↓wp_cmp_s, ↓wp_cmp_b, ↓wp_cmp_t, ↓wp_cmp_non, ↓wp_cmp_r, ↓ownR_b, ↓wp_ne_r, ↓wp_eq_r, ↓wp_ne_t, ↓wp_eq_t, ite_F, Int.reduceNeg, Int.reducePow, Int.reduceLT, Int.reduceLE, Int.reduceToNat, true_and, and_true, true_or, or_true, and_self, decide_true, decide_false, Bool.not_true, Bool.not_false, not_false_eq_true, ne_eq, Bool.false_eq_true, ↓wp_isiT, ↓wp_isiC, kindB_non, kindB_b, kindB_i, kindB_s, kindB_t, kindB_r, kindO_r, kindO_non, kindO_b, kindO_i, kindO_s, kindO_t, isi_nn, isi_bs, isi_is, isi_ss, isi_ts, isi_ls, isi_ds, mem_str, ↓wp_in_t, ↓wp_in_s, ↓wp_inOwn, ↓wp_inOwn_t, ↓wp_inOwn_s, ↓wp_att, ↓wp_met, ↓wp_setF, ↓wp_str_s, ↓wp_str_i, ↓wp_str_r, ↓strR_s, ↓wp_fmt_s, ↓wp_js0, ↓wp_js1, ↓wp_joined, ↓wp_dict0, ↓wp_list_t, ↓wp_list_l, ↓wp_add_l, ↓wp_bm, ↓wp_split, ↓wp_mkK, ↓wp_appK, ↓wp_cmK, ↓wp_callV, e]
      | _ => rw [e] at hk; cases hk
  | cls c => cases hk
  | ty c => cases hk
  | scr c => cases hk
  | _ => simp only [↓wp_run, ↓wp_var, ↓wp_c, ↓wp_op, ↓wp_un, ↓wp_fn, ↓wp_app, ↓wp_ap, ↓wp_nil, ↓wp_cons, ↓wp_mkTup, ↓wp_mkLst, ↓wp_tup, ↓wp_lst, ↓wp_asB, ↓wp_test, ↓wp_tru, ↓wp_and, ↓wp_or, ↓wp_not, ↓wp_if, ↓wp_andV, ↓wp_orV, ↓wp_notV, ↓wp_yes, ↓seqK_nx, ↓seqK_rt, ↓seqK_bk, ↓seqK_ct, ↓seqK_xc, ↓wp_seq, ↓wp_lft, ↓wp_next, ↓wp_brk, ↓wp_cont, ↓wp_sbad, ↓wp_expr, ↓wp_sret, ↓wp_sretN, ↓wp_sif, ↓wp_asg, ↓wp_gN, ↓wp_gT, ↓wp_par, ↓wp_gIx, ↓wp_fld, ↓finK_nx, ↓finK_rt, ↓finK_xc, ↓wp_mk, ↓wp_srcT, ↓wp_src, ↓wp_rng1, ↓wp_rng2, ↓wp_for, ↓forK_nx, ↓forK_ct, ↓forK_bk, ↓forK_rt, ↓wp_ok, ↓wp_ret, ↓wp_bnd, ↓wp_Rbnd, ↓wp_calm, ↓wp_t, ↓wp_f, startC, List.map_cons, List.map_nil, List.length_cons, List.length_nil, List.replicate_succ, List.replicate_zero, List.cons_append, List.nil_append, List.append_assoc, List.getElem?_cons_zero, List.getElem?_cons_succ, List.set_cons_zero, List.set_cons_succ, Nat.reduceAdd, Nat.reduceSub, Nat.zero_add, if_true, if_false, ite_true, ite_false, reduceIte, sizeLine, Nat.reducePow, Nat.reduceLeDiff, Nat.reduceEqDiff, atI_0, atI_1, atI_2, atI_3, ↓wp_add_i, ↓wp_add_s, ↓wp_sub_i, ↓wp_mul_i, ↓wp_mod_i, ↓wp_fdiv_i, ↓wp_pow_i, ↓wp_lt_i, ↓wp_le_i, ↓wp_gt_i, ↓wp_ge_i, ↓wp_lt_s, ↓wp_le_s, ↓wp_eq_i, ↓wp_ne_i, ↓wp_eq_s, ↓wp_ne_s, ↓wp_ix_t, ↓wp_ix_l, ↓wp_ix_s, ↓wp_setIx, ↓wp_len_s, ↓wp_len_t, ↓wp_len_l, ↓wp_abs, ↓wp_int, ↓wp_int_b, ↓wp_tru_b, ↓wp_tru_i, ↓wp_tru_non, ↓wp_tru_t, ↓wp_src_l, ↓wp_cmp_i, ↓wp_cmp_s, ↓wp_cmp_b, ↓wp_cmp_t, ↓wp_cmp_non, ↓wp_cmp_r, ↓ownR_b, ↓wp_ne_r, ↓wp_eq_r, ↓wp_ne_t, ↓wp_eq_t, ite_F, Int.reduceNeg, Int.reducePow, Int.reduceLT, Int.reduceLE, Int.reduceToNat, true_and, and_true, true_or, or_true, and_self, decide_true, decide_false, Bool.not_true, Bool.not_false, not_false_eq_true, ne_eq, Bool.false_eq_true, ↓wp_isiT, ↓wp_isiC, kindB_non, kindB_b, kindB_i, kindB_s, kindB_t, kindB_r, kindO_r, kindO_non, kindO_b, kindO_i, kindO_s, kindO_t, isi_nn, isi_bs, isi_is, isi_ss, isi_ts, isi_ls, isi_ds, mem_str, ↓wp_in_t, ↓wp_in_s, ↓wp_inOwn, ↓wp_inOwn_t, ↓wp_inOwn_s, ↓wp_att, ↓wp_met, ↓wp_setF, ↓wp_str_s, ↓wp_str_i, ↓wp_str_r, ↓strR_s, ↓wp_fmt_s, ↓wp_js0, ↓wp_js1, ↓wp_joined, ↓wp_dict0, ↓wp_list_t, ↓wp_list_l, ↓wp_add_l, ↓wp_bm, ↓wp_split, ↓wp_mkK, ↓wp_appK, ↓wp_cmK, ↓wp_callV]
theorem in_thing (hk : S[k]? = some (ko x n)) (hn : N3 n) (hy : Kn S y) : Wp (inOwn own_contains_0 false y (.ref k) S) (fun v S' => v = .bl (ffb (prt x n) y) ∧ Subs S S') NoE := by
  simp only [↓wp_run, ↓wp_var, ↓wp_c, ↓wp_op, ↓wp_un, ↓wp_fn, ↓wp_app, ↓wp_ap, ↓wp_nil, ↓wp_cons, ↓wp_mkTup, ↓wp_mkLst, ↓wp_tup, ↓wp_lst, ↓wp_asB, ↓wp_test, ↓wp_tru, ↓wp_and, ↓wp_or, ↓wp_not, ↓wp_if, ↓wp_andV, ↓wp_orV, ↓wp_notV, ↓wp_yes, ↓seqK_nx, ↓seqK_rt, ↓seqK_bk, ↓seqK_ct, ↓seqK_xc, ↓wp_seq, ↓wp_lft, ↓wp_next, ↓wp_brk, ↓wp_cont, ↓wp_sbad, ↓wp_expr, ↓wp_sret, ↓wp_sretN, ↓wp_sif, ↓wp_asg, ↓wp_gN, ↓wp_gT, ↓wp_par, ↓wp_gIx, ↓wp_fld, ↓finK_nx, ↓finK_rt, ↓finK_xc, ↓wp_mk, ↓wp_srcT, ↓wp_src, ↓wp_rng1, ↓wp_rng2, ↓wp_for, ↓forK_nx, ↓forK_ct, ↓forK_bk, ↓forK_rt, ↓wp_ok, ↓wp_ret, ↓wp_bnd, ↓wp_Rbnd, ↓wp_calm, ↓wp_t, ↓wp_f, startC, List.map_cons, List.map_nil, List.length_cons, List.length_nil, List.replicate_succ, List.replicate_zero, List.cons_append, List.nil_append, List.append_assoc, List.getElem?_cons_zero, List.getElem?_cons_succ, List.set_cons_zero, List.set_cons_succ, Nat.reduceAdd, Nat.reduceSub, Nat.zero_add, if_true, if_false, ite_true, ite_false, reduceIte, sizeLine, Nat.reducePow, Nat.reduceLeDiff, Nat.reduceEqDiff, atI_0, atI_1, atI_2, atI_3, ↓wp_add_i, ↓wp_add_s, ↓wp_sub_i, ↓wp_mul_i, ↓wp_mod_i, ↓wp_fdiv_i, ↓wp_pow_i, ↓wp_lt_i, ↓wp_le_i, ↓wp_gt_i, ↓wp_ge_i, ↓wp_lt_s, ↓wp_le_s, ↓wp_eq_i, ↓wp_ne_i, ↓wp_eq_s, ↓wp_ne_s, ↓wp_ix_t, ↓wp_ix_l, ↓wp_ix_s, ↓wp_setIx, ↓wp_len_s, ↓wp_len_t, ↓wp_len_l, ↓wp_abs, ↓wp_int, ↓wp_int_b, ↓wp_tru_b, ↓wp_tru_i, ↓wp_tru_non, ↓wp_tru_t, ↓wp_src_l, ↓wp_cmp_i, ↓wp_cmp_s, ↓wp_cmp_b, ↓wp_cmp_t, ↓wp_cmp_non, ↓wp_cmp_r, ↓ownR_b, ↓wp_ne_r, ↓wp_eq_r, ↓wp_ne_t, ↓wp_eq_t, ite_F, Int.reduceNeg, Int.reducePow, Int.reduceLT, Int.reduceLE, Int.reduceToNat, true_and, and_true, true_or, or_true, and_self, decide_true, decide_false, Bool.not_true, Bool.not_false, not_false_eq_true, ne_eq, Bool.false_eq_true, ↓wp_isiT, ↓wp_isiC, kindB_non, kindB_b, kindB_i, kindB_s, kindB_t, kindB_r, kindO_r, kindO_non, kindO_b, kindO_i, kindO_s, kindO_t, isi_nn, isi_bs, isi_is, isi_ss, isi_ts, isi_ls, isi_ds, mem_str, ↓wp_in_t, ↓wp_in_s, ↓wp_inOwn, ↓wp_inOwn_t, ↓wp_inOwn_s, ↓wp_att, ↓wp_met, ↓wp_setF, ↓wp_str_s, ↓wp_str_i, ↓wp_str_r, ↓strR_s, ↓wp_fmt_s, ↓wp_js0, ↓wp_js1, ↓wp_joined, ↓wp_dict0, ↓wp_list_t, ↓wp_list_l, ↓wp_add_l, ↓wp_bm, ↓wp_split, ↓wp_mkK, ↓wp_appK, ↓wp_cmK, ↓wp_callV, hk, lk_cont hn]
  rcases hy with hy | ⟨hy, hz⟩
  · cases y with
    | str s => rw [wp_cont_s hk hn]; exact ⟨rfl, Subs.app⟩
    | _ => cases hy
  · rw [wp_cont_o hz hy]
    cases y with
    | str s => cases hy
    | _ => exact ⟨rfl, Subs.refl⟩
theorem in_known (hn : N3 n) (hy : Kn S y) : inOwn own_contains_0 false y (.tup (prt x n)) S = .ok (.bl (ffb (prt x n) y)) S := by
  show (match inSeq S y (prt x n) with | some r => _ | none => _) = _
  rcases hy with hy | ⟨hy, hz⟩
  · cases y with
    | str s => rw [in_prt_s hn]; rfl
    | _ => cases hy
  · cases y with
    | str s => cases hy
    | ref m =>
      have e : noStrC S (.ref m) = true := by
        rw [kindB_r] at hz
        show (match S[m]? with | some (.lst _) => true | some (.dic _) => true | _ => false) = true
        cases e : S[m]? with
        | none => rw [e] at hz; cases hz
        | some o => cases o with
          | lst l => rfl
          | dic l => rfl
          | _ => rw [e] at hz; cases hz
      have e2 : inSeq S (.ref m) (prt x n) = some false := by
        unfold inSeq
        rw [e]
        rcases hn with rfl | rfl | rfl <;> rfl
      rw [e2]; rfl
    | cls c => cases hz
    | ty c => cases hz
    | scr c => cases hz
    | _ => rcases hn with rfl | rfl | rfl <;> rfl
/-- sign + str(spot) -/
theorem spot_one {i : Nat} {ρ : Rho} (hi : i < 4) (h1 : ρ[1]? = some (some (.str (ch x)))) (h8 : ρ[8]? = some (some (.int i))) : mOp addC (mVar 1) (mFn (strC own_str_0) (mCons (mVar 8) mNil)) ρ S = .ok (.str ⟨#[x, 48 + i]⟩) S := by
  apply eq_of_wp
  have e : ch x ++ (⟨#[48 + i]⟩ : Str) = ⟨#[x, 48 + i]⟩ := rfl
  have e2 : (⟨#[48 + i]⟩ : Str).length = 1 := rfl
  simp only [↓wp_run, ↓wp_var, ↓wp_c, ↓wp_op, ↓wp_un, ↓wp_fn, ↓wp_app, ↓wp_ap, ↓wp_nil, ↓wp_cons, ↓wp_mkTup, ↓wp_mkLst, ↓wp_tup, ↓wp_lst, ↓wp_asB, ↓wp_test, ↓wp_tru, ↓wp_and, ↓wp_or, ↓wp_not, ↓wp_if, ↓wp_andV, ↓wp_orV, ↓wp_notV, ↓wp_yes, ↓seqK_nx, ↓seqK_rt, ↓seqK_bk, ↓seqK_ct, ↓seqK_xc, ↓wp_seq, ↓wp_lft, ↓wp_next, ↓wp_brk, ↓wp_cont, ↓wp_sbad, ↓wp_expr, ↓wp_sret, ↓wp_sretN, ↓wp_sif, ↓wp_asg, ↓wp_gN, ↓wp_gT, ↓wp_par, ↓wp_gIx, ↓wp_fld, ↓finK_nx, ↓finK_rt, ↓finK_xc, ↓wp_mk, ↓wp_srcT, ↓wp_src, ↓wp_rng1, ↓wp_rng2, ↓wp_for, ↓forK_nx, ↓forK_ct, ↓forK_bk, ↓forK_rt, ↓wp_ok, ↓wp_ret, ↓wp_bnd, ↓wp_Rbnd, ↓wp_calm, ↓wp_t, ↓wp_f, startC, List.map_cons, List.map_nil, List.length_cons, List.length_nil, List.replicate_succ, List.replicate_zero, List.cons_append, List.nil_append, List.append_assoc, List.getElem?_cons_zero, List.getElem?_cons_succ, List.set_cons_zero, List.set_cons_succ, Nat.reduceAdd, Nat.reduceSub, Nat.zero_add, if_true, if_false, ite_true, ite_false, reduceIte, sizeLine, Nat.reducePow, Nat.reduceLeDiff, Nat.reduceEqDiff, atI_0, atI_1, atI_2, atI_3, ↓wp_add_i, ↓wp_add_s, ↓wp_sub_i, ↓wp_mul_i, ↓wp_mod_i, ↓wp_fdiv_i, ↓wp_pow_i, ↓wp_lt_i, ↓wp_le_i, ↓wp_gt_i, ↓wp_ge_i, ↓wp_lt_s, ↓wp_le_s, ↓wp_eq_i, ↓wp_ne_i, ↓wp_eq_s, ↓wp_ne_s, ↓wp_ix_t, ↓wp_ix_l, ↓wp_ix_s, ↓wp_setIx, ↓wp_len_s, ↓wp_len_t, ↓wp_len_l, ↓wp_abs, ↓wp_int, ↓wp_int_b, ↓wp_tru_b, ↓wp_tru_i, ↓wp_tru_non, ↓wp_tru_t, ↓wp_src_l, ↓wp_cmp_i, ↓wp_cmp_s, ↓wp_cmp_b, ↓wp_cmp_t, ↓wp_cmp_non, ↓wp_cmp_r, ↓ownR_b, ↓wp_ne_r, ↓wp_eq_r, ↓wp_ne_t, ↓wp_eq_t, ite_F, Int.reduceNeg, Int.reducePow, Int.reduceLT, Int.reduceLE, Int.reduceToNat, true_and, and_true, true_or, or_true, and_self, decide_true, decide_false, Bool.not_true, Bool.not_false, not_false_eq_true, ne_eq, Bool.false_eq_true, ↓wp_isiT, ↓wp_isiC, kindB_non, kindB_b, kindB_i, kindB_s, kindB_t, kindB_r, kindO_r, kindO_non, kindO_b, kindO_i, kindO_s, kindO_t, isi_nn, isi_bs, isi_is, isi_ss, isi_ts, isi_ls, isi_ds, mem_str, ↓wp_in_t, ↓wp_in_s, ↓wp_inOwn, ↓wp_inOwn_t, ↓wp_inOwn_s, ↓wp_att, ↓wp_met, ↓wp_setF, ↓wp_str_s, ↓wp_str_i, ↓wp_str_r, ↓strR_s, ↓wp_fmt_s, ↓wp_js0, ↓wp_js1, ↓wp_joined, ↓wp_dict0, ↓wp_list_t, ↓wp_list_l, ↓wp_add_l, ↓wp_bm, ↓wp_split, ↓wp_mkK, ↓wp_appK, ↓wp_cmK, ↓wp_callV, ↓chR_t, ↓chR_f, ↓wp_chain, ↓wp_src_s, ↓wp_mul_s, ↓wp_lt_t, ↓wp_att_c, ↓wp_tuple_l, ↓wp_fmt_i, ↓wp_strInt, h1, h8, log4 hi, str4 i hi, ch_len, e2, e]
theorem spots {mi : Rho → M Src} {ρ : Rho} {m : Nat} (hm : m ≤ 4) (hmi : mi ρ S = .ok ⟨rngItems 0 m, none⟩ S) (hρ : ∀ v : CV, ((wipeC ρ [8]).set 8 (some v))[1]? = some (some (.str (ch x))) ∧ ((wipeC ρ [8]).set 8 (some v))[8]? = some (some v)) :
    Wp (mLc mi (cN 8) mYes (mOp addC (mVar 1) (mFn (strC own_str_0) (mCons (mVar 8) mNil))) [8] ρ S) Q E = Q (.ref S.length) (S ++ [.lst (prt x m)]) := by
  refine wp_lcFree (pname x) hmi ?_ ?_
  · intro v hv acc
    obtain ⟨i, hi, rfl⟩ := rng_mem hv
    exact spot_one (by omega) (hρ _).1 (hρ _).2
  · show (rngItems 0 m).length ≤ sizeLine
    rw [rng_len]; exact Nat.le_trans hm four_le
def D1 (x n : Nat) : PyData := .list [.str (ch x), .tuple ((List.range n).map fun i => .str ⟨#[x, 48 + i]⟩), .int n, .str ⟨#[x, 48 + n]⟩]
theorem ok2 {a b : Nat} (h : Lt a) (hb : b < 60) : PyData.strOk ⟨#[a, b]⟩ = true := by
  show (#[a, b] : Array Nat).all (· < 0x110000) = true
  rw [← Array.all_toList]
  have e1 : a < 0x110000 := by have := h.2; omega
  have e2 : b < 0x110000 := by omega
  simp [e1, e2]
theorem ok1 {a : Nat} (h : Lt a) : PyData.strOk (ch a) = true := by
  show (#[a] : Array Nat).all (· < 0x110000) = true
  rw [← Array.all_toList]
  have e1 : a < 0x110000 := by have := h.2; omega
  simp [e1]
theorem rp1 (h : Lt x) (hn : N3 n) : ((D1 x n).showable && !(D1 x n).hasDict && decide ((D1 x n).depth ≤ 60) && decide ((D1 x n).shown.length ≤ sizeLine)) = true := by
  have w2 : ∀ a b : Nat, (⟨#[a, b]⟩ : Str).cps.size = 2 := fun _ _ => rfl
  have w1 : ∀ a : Nat, (ch a).cps.size = 1 := fun _ => rfl
  rcases hn with rfl | rfl | rfl <;> (
    refine rp_mk ?_ ?_ ?_ ?_
    · simp [D1, List.range_succ, PyData.layable0, PyData.canLay0, PyData.canLayAll0, ok2 h, ok1 h, PyData.depth, PyData.depthAll, PyData.weight, PyData.weightAll] <;> decide
    · simp [D1, List.range_succ, PyData.intsShort, PyData.intsShortAll] <;> decide
    · simp [D1, List.range_succ, PyData.showable, PyData.showableAll] <;> decide
    · simp [D1, List.range_succ, PyData.depth, PyData.depthAll])
theorem td1 (hn : N3 n) (h : S[k]? = some (.lst [.str (ch x), .tup (prt x n), .int n, .str ⟨#[x, 48 + n]⟩])) : toD S 40 (.ref k) = some (D1 x n) := by
  rw [td_ref, h]
  rcases hn with rfl | rfl | rfl <;> rfl
end
end L02
set_option Elab.async false
set_option linter.all false
set_option maxRecDepth 100000
set_option maxHeartbeats 4000000
namespace L02
open PySem PySem.Spec PyProof.Rows L2 MW
section
variable {Q : CV → Sto → Prop} {E : Str → List (Str × CV) → Sto → Prop} {S : Sto} {x x' : Nat} {n n' k j : Nat} {y : CV} {s : Str}
theorem lk_oD (hn : N3 n) : isi_o.lookup (cl n, ("DeadEnd" : Str)) = some ((n : Int) == 1) := by rcases hn with rfl | rfl | rfl <;> rfl
theorem lk_oB (hn : N3 n) : isi_o.lookup (cl n, ("Bend" : Str)) = some ((n : Int) == 2) := by rcases hn with rfl | rfl | rfl <;> rfl
theorem lk_oF (hn : N3 n) : isi_o.lookup (cl n, ("Fork" : Str)) = some ((n : Int) == 3) := by rcases hn with rfl | rfl | rfl <;> rfl
theorem eqD_b3 {a b : Nat} {b1 b2 b3 : Bool} (h : S[a]? = some (.lst [.bl b1, .bl b2, .bl b3])) (h' : S[b]? = some (.lst [.bl b1, .bl b2, .bl b3])) : eqD S (.ref a) (.ref b) = some true := by
  rw [eqD_bls (bs := [b1, b2, b3]) (cs := [b1, b2, b3]) h h']
  cases b1 <;> cases b2 <;> cases b3 <;> rfl
theorem src_n {ρ : Rho} (h : ρ[2]? = some (some (.int n))) (hn : n < 100) : mRng1 (mCons (mVar 2) mNil) ρ S = .ok ⟨rngItems 0 n, none⟩ S := by
  apply eq_of_wp
  rw [wp_rng1, wp_cons, wp_var, h]
  dsimp only
  rw [wp_nil, p2 hn]
  exact ⟨rfl, rfl⟩
theorem src_4 {ρ : Rho} : mRng1 (mCons (mC (.int 4)) mNil) ρ S = .ok ⟨rngItems 0 4, none⟩ S := by
  apply eq_of_wp
  rw [wp_rng1, wp_cons, wp_c, wp_nil, show (CV.int 4) = .int ((4 : Nat) : Int) from rfl, p2 (by decide)]
  exact ⟨rfl, rfl⟩
theorem prt4 : prt x 4 = [.str ⟨#[x, 48]⟩, .str ⟨#[x, 49]⟩, .str ⟨#[x, 50]⟩, .str ⟨#[x, 51]⟩] := rfl
theorem wp_read4 {d : Int} {cx : CV} (h : Lt x) (hn : N3 n) (h0 : 0 ≤ d) (h4 : d < 4) : Wp (m__law_read [.int d, .str ⟨#[x, 48 + n]⟩] S) Q E = Q (.ref S.length) (S ++ [ko x n]) := by
  have m1 : ∀ S, metC "read" met_read_0 (.cls "Kind") S = some (fun xs => app 2 m_Kind_read (.cls "Kind" :: xs)) := fun S => rfl
  have m2 : ∀ S, metC "read" met_read_0 (.cls "DeadEnd") S = some (fun xs => app 2 m_Kind_read (.cls "DeadEnd" :: xs)) := fun S => rfl
  have m3 : ∀ S, metC "read" met_read_0 (.cls "Bend") S = some (fun xs => app 2 m_Kind_read (.cls "Bend" :: xs)) := fun S => rfl
  have m4 : ∀ S, metC "read" met_read_0 (.cls "Fork") S = some (fun xs => app 2 m_Kind_read (.cls "Fork" :: xs)) := fun S => rfl
  unfold m__law_read b__law_read
  have hd : d = 0 ∨ d = 1 ∨ d = 2 ∨ d = 3 := by omega
  rcases hd with rfl | rfl | rfl | rfl
  · simp only [↓wp_run, ↓wp_var, ↓wp_c, ↓wp_op, ↓wp_un, ↓wp_fn, ↓wp_app, ↓wp_ap, ↓wp_nil, ↓wp_cons, ↓wp_mkTup, ↓wp_mkLst, ↓wp_tup, ↓wp_lst, ↓wp_asB, ↓wp_test, ↓wp_tru, ↓wp_and, ↓wp_or, ↓wp_not, ↓wp_if, ↓wp_andV, ↓wp_orV, ↓wp_notV, ↓wp_yes, ↓seqK_nx, ↓seqK_rt, ↓seqK_bk, ↓seqK_ct, ↓seqK_xc, ↓wp_seq, ↓wp_lft, ↓wp_next, ↓wp_brk, ↓wp_cont, ↓wp_sbad, ↓wp_expr, ↓wp_sret, ↓wp_sretN, ↓wp_sif, ↓wp_asg, ↓wp_gN, ↓wp_gT, ↓wp_par, ↓wp_gIx, ↓wp_fld, ↓finK_nx, ↓finK_rt, ↓finK_xc, ↓wp_mk, ↓wp_srcT, ↓wp_src, ↓wp_rng1, ↓wp_rng2, ↓wp_for, ↓forK_nx, ↓forK_ct, ↓forK_bk, ↓forK_rt, ↓wp_ok, ↓wp_ret, ↓wp_bnd, ↓wp_Rbnd, ↓wp_calm, ↓wp_t, ↓wp_f, startC, List.map_cons, List.map_nil, List.length_cons, List.length_nil, List.replicate_succ, List.replicate_zero, List.cons_append, List.nil_append, List.append_assoc, List.getElem?_cons_zero, List.getElem?_cons_succ, List.set_cons_zero, List.set_cons_succ, Nat.reduceAdd, Nat.reduceSub, Nat.zero_add, if_true, if_false, ite_true, ite_false, reduceIte, sizeLine, Nat.reducePow, Nat.reduceLeDiff, Nat.reduceEqDiff, atI_0, atI_1, atI_2, atI_3, ↓wp_add_i, ↓wp_add_s, ↓wp_sub_i, ↓wp_mul_i, ↓wp_mod_i, ↓wp_fdiv_i, ↓wp_pow_i, ↓wp_lt_i, ↓wp_le_i, ↓wp_gt_i, ↓wp_ge_i, ↓wp_lt_s, ↓wp_le_s, ↓wp_eq_i, ↓wp_ne_i, ↓wp_eq_s, ↓wp_ne_s, ↓wp_ix_t, ↓wp_ix_l, ↓wp_ix_s, ↓wp_setIx, ↓wp_len_s, ↓wp_len_t, ↓wp_len_l, ↓wp_abs, ↓wp_int, ↓wp_int_b, ↓wp_tru_b, ↓wp_tru_i, ↓wp_tru_non, ↓wp_tru_t, ↓wp_src_l, ↓wp_cmp_i, ↓wp_cmp_s, ↓wp_cmp_b, ↓wp_cmp_t, ↓wp_cmp_non, ↓wp_cmp_r, ↓ownR_b, ↓wp_ne_r, ↓wp_eq_r, ↓wp_ne_t, ↓wp_eq_t, ite_F, Int.reduceNeg, Int.reducePow, Int.reduceLT, Int.reduceLE, Int.reduceToNat, true_and, and_true, true_or, or_true, and_self, decide_true, decide_false, Bool.not_true, Bool.not_false, not_false_eq_true, ne_eq, Bool.false_eq_true, ↓wp_isiT, ↓wp_isiC, kindB_non, kindB_b, kindB_i, kindB_s, kindB_t, kindB_r, kindO_r, kindO_non, kindO_b, kindO_i, kindO_s, kindO_t, isi_nn, isi_bs, isi_is, isi_ss, isi_ts, isi_ls, isi_ds, mem_str, ↓wp_in_t, ↓wp_in_s, ↓wp_inOwn, ↓wp_inOwn_t, ↓wp_inOwn_s, ↓wp_att, ↓wp_met, ↓wp_setF, ↓wp_str_s, ↓wp_str_i, ↓wp_str_r, ↓strR_s, ↓wp_fmt_s, ↓wp_js0, ↓wp_js1, ↓wp_joined, ↓wp_dict0, ↓wp_list_t, ↓wp_list_l, ↓wp_add_l, ↓wp_bm, ↓wp_split, ↓wp_mkK, ↓wp_appK, ↓wp_cmK, ↓wp_callV, ↓chR_t, ↓chR_f, ↓wp_chain, ↓wp_src_s, ↓wp_mul_s, ↓wp_lt_t, ↓wp_att_c, ↓wp_tuple_l, ↓wp_fmt_i, ↓wp_strInt, m1, m2, m3, m4, ↓wp_read h hn, beq_self_eq_true]
  · simp only [↓wp_run, ↓wp_var, ↓wp_c, ↓wp_op, ↓wp_un, ↓wp_fn, ↓wp_app, ↓wp_ap, ↓wp_nil, ↓wp_cons, ↓wp_mkTup, ↓wp_mkLst, ↓wp_tup, ↓wp_lst, ↓wp_asB, ↓wp_test, ↓wp_tru, ↓wp_and, ↓wp_or, ↓wp_not, ↓wp_if, ↓wp_andV, ↓wp_orV, ↓wp_notV, ↓wp_yes, ↓seqK_nx, ↓seqK_rt, ↓seqK_bk, ↓seqK_ct, ↓seqK_xc, ↓wp_seq, ↓wp_lft, ↓wp_next, ↓wp_brk, ↓wp_cont, ↓wp_sbad, ↓wp_expr, ↓wp_sret, ↓wp_sretN, ↓wp_sif, ↓wp_asg, ↓wp_gN, ↓wp_gT, ↓wp_par, ↓wp_gIx, ↓wp_fld, ↓finK_nx, ↓finK_rt, ↓finK_xc, ↓wp_mk, ↓wp_srcT, ↓wp_src, ↓wp_rng1, ↓wp_rng2, ↓wp_for, ↓forK_nx, ↓forK_ct, ↓forK_bk, ↓forK_rt, ↓wp_ok, ↓wp_ret, ↓wp_bnd, ↓wp_Rbnd, ↓wp_calm, ↓wp_t, ↓wp_f, startC, List.map_cons, List.map_nil, List.length_cons, List.length_nil, List.replicate_succ, List.replicate_zero, List.cons_append, List.nil_append, List.append_assoc, List.getElem?_cons_zero, List.getElem?_cons_succ, List.set_cons_zero, List.set_cons_succ, Nat.reduceAdd, Nat.reduceSub, Nat.zero_add, if_true, if_false, ite_true, ite_false, reduceIte, sizeLine, Nat.reducePow, Nat.reduceLeDiff, Nat.reduceEqDiff, atI_0, atI_1, atI_2, atI_3, ↓wp_add_i, ↓wp_add_s, ↓wp_sub_i, ↓wp_mul_i, ↓wp_mod_i, ↓wp_fdiv_i, ↓wp_pow_i, ↓wp_lt_i, ↓wp_le_i, ↓wp_gt_i, ↓wp_ge_i, ↓wp_lt_s, ↓wp_le_s, ↓wp_eq_i, ↓wp_ne_i, ↓wp_eq_s, ↓wp_ne_s, ↓wp_ix_t, ↓wp_ix_l, ↓wp_ix_s, ↓wp_setIx, ↓wp_len_s, ↓wp_len_t, ↓wp_len_l, ↓wp_abs, ↓wp_int, ↓wp_int_b, ↓wp_tru_b, ↓wp_tru_i, ↓wp_tru_non, ↓wp_tru_t, ↓wp_src_l, ↓wp_cmp_i, ↓wp_cmp_s, ↓wp_cmp_b, ↓wp_cmp_t, ↓wp_cmp_non, ↓wp_cmp_r, ↓ownR_b, ↓wp_ne_r, ↓wp_eq_r, ↓wp_ne_t, ↓wp_eq_t, ite_F, Int.reduceNeg, Int.reducePow, Int.reduceLT, Int.reduceLE, Int.reduceToNat, true_and, and_true, true_or, or_true, and_self, decide_true, decide_false, Bool.not_true, Bool.not_false, not_false_eq_true, ne_eq, Bool.false_eq_true, ↓wp_isiT, ↓wp_isiC, kindB_non, kindB_b, kindB_i, kindB_s, kindB_t, kindB_r, kindO_r, kindO_non, kindO_b, kindO_i, kindO_s, kindO_t, isi_nn, isi_bs, isi_is, isi_ss, isi_ts, isi_ls, isi_ds, mem_str, ↓wp_in_t, ↓wp_in_s, ↓wp_inOwn, ↓wp_inOwn_t, ↓wp_inOwn_s, ↓wp_att, ↓wp_met, ↓wp_setF, ↓wp_str_s, ↓wp_str_i, ↓wp_str_r, ↓strR_s, ↓wp_fmt_s, ↓wp_js0, ↓wp_js1, ↓wp_joined, ↓wp_dict0, ↓wp_list_t, ↓wp_list_l, ↓wp_add_l, ↓wp_bm, ↓wp_split, ↓wp_mkK, ↓wp_appK, ↓wp_cmK, ↓wp_callV, ↓chR_t, ↓chR_f, ↓wp_chain, ↓wp_src_s, ↓wp_mul_s, ↓wp_lt_t, ↓wp_att_c, ↓wp_tuple_l, ↓wp_fmt_i, ↓wp_strInt, m1, m2, m3, m4, ↓wp_read h hn, show ((1 : Int) == 0) = false from rfl, beq_self_eq_true]
  · simp only [↓wp_run, ↓wp_var, ↓wp_c, ↓wp_op, ↓wp_un, ↓wp_fn, ↓wp_app, ↓wp_ap, ↓wp_nil, ↓wp_cons, ↓wp_mkTup, ↓wp_mkLst, ↓wp_tup, ↓wp_lst, ↓wp_asB, ↓wp_test, ↓wp_tru, ↓wp_and, ↓wp_or, ↓wp_not, ↓wp_if, ↓wp_andV, ↓wp_orV, ↓wp_notV, ↓wp_yes, ↓seqK_nx, ↓seqK_rt, ↓seqK_bk, ↓seqK_ct, ↓seqK_xc, ↓wp_seq, ↓wp_lft, ↓wp_next, ↓wp_brk, ↓wp_cont, ↓wp_sbad, ↓wp_expr, ↓wp_sret, ↓wp_sretN, ↓wp_sif, ↓wp_asg, ↓wp_gN, ↓wp_gT, ↓wp_par, ↓wp_gIx, ↓wp_fld, ↓finK_nx, ↓finK_rt, ↓finK_xc, ↓wp_mk, ↓wp_srcT, ↓wp_src, ↓wp_rng1, ↓wp_rng2, ↓wp_for, ↓forK_nx, ↓forK_ct, ↓forK_bk, ↓forK_rt, ↓wp_ok, ↓wp_ret, ↓wp_bnd, ↓wp_Rbnd, ↓wp_calm, ↓wp_t, ↓wp_f, startC, List.map_cons, List.map_nil, List.length_cons, List.length_nil, List.replicate_succ, List.replicate_zero, List.cons_append, List.nil_append, List.append_assoc, List.getElem?_cons_zero, List.getElem?_cons_succ, List.set_cons_zero, List.set_cons_succ, Nat.reduceAdd, Nat.reduceSub, Nat.zero_add, if_true, if_false, ite_true, ite_false, reduceIte, sizeLine, Nat.reducePow, Nat.reduceLeDiff, Nat.reduceEqDiff, atI_0, atI_1, atI_2, atI_3, ↓wp_add_i, ↓wp_add_s, ↓wp_sub_i, ↓wp_mul_i, ↓wp_mod_i, ↓wp_fdiv_i, ↓wp_pow_i, ↓wp_lt_i, ↓wp_le_i, ↓wp_gt_i, ↓wp_ge_i, ↓wp_lt_s, ↓wp_le_s, ↓wp_eq_i, ↓wp_ne_i, ↓wp_eq_s, ↓wp_ne_s, ↓wp_ix_t, ↓wp_ix_l, ↓wp_ix_s, ↓wp_setIx, ↓wp_len_s, ↓wp_len_t, ↓wp_len_l, ↓wp_abs, ↓wp_int, ↓wp_int_b, ↓wp_tru_b, ↓wp_tru_i, ↓wp_tru_non, ↓wp_tru_t, ↓wp_src_l, ↓wp_cmp_i, ↓wp_cmp_s, ↓wp_cmp_b, ↓wp_cmp_t, ↓wp_cmp_non, ↓wp_cmp_r, ↓ownR_b, ↓wp_ne_r, ↓wp_eq_r, ↓wp_ne_t, ↓wp_eq_t, ite_F, Int.reduceNeg, Int.reducePow, Int.reduceLT, Int.reduceLE, Int.reduceToNat, true_and, and_true, true_or, or_true, and_self, decide_true, decide_false, Bool.not_true, Bool.not_false, not_false_eq_true, ne_eq, Bool.false_eq_true, ↓wp_isiT, ↓wp_isiC, kindB_non, kindB_b, kindB_i, kindB_s, kindB_t, kindB_r, kindO_r, kindO_non, kindO_b, kindO_i, kindO_s, kindO_t, isi_nn, isi_bs, isi_is, isi_ss, isi_ts, isi_ls, isi_ds, mem_str, ↓wp_in_t, ↓wp_in_s, ↓wp_inOwn, ↓wp_inOwn_t, ↓wp_inOwn_s, ↓wp_att, ↓wp_met, ↓wp_setF, ↓wp_str_s, ↓wp_str_i, ↓wp_str_r, ↓strR_s, ↓wp_fmt_s, ↓wp_js0, ↓wp_js1, ↓wp_joined, ↓wp_dict0, ↓wp_list_t, ↓wp_list_l, ↓wp_add_l, ↓wp_bm, ↓wp_split, ↓wp_mkK, ↓wp_appK, ↓wp_cmK, ↓wp_callV, ↓chR_t, ↓chR_f, ↓wp_chain, ↓wp_src_s, ↓wp_mul_s, ↓wp_lt_t, ↓wp_att_c, ↓wp_tuple_l, ↓wp_fmt_i, ↓wp_strInt, m1, m2, m3, m4, ↓wp_read h hn, show ((2 : Int) == 0) = false from rfl, show ((2 : Int) == 1) = false from rfl, beq_self_eq_true]
  · simp only [↓wp_run, ↓wp_var, ↓wp_c, ↓wp_op, ↓wp_un, ↓wp_fn, ↓wp_app, ↓wp_ap, ↓wp_nil, ↓wp_cons, ↓wp_mkTup, ↓wp_mkLst, ↓wp_tup, ↓wp_lst, ↓wp_asB, ↓wp_test, ↓wp_tru, ↓wp_and, ↓wp_or, ↓wp_not, ↓wp_if, ↓wp_andV, ↓wp_orV, ↓wp_notV, ↓wp_yes, ↓seqK_nx, ↓seqK_rt, ↓seqK_bk, ↓seqK_ct, ↓seqK_xc, ↓wp_seq, ↓wp_lft, ↓wp_next, ↓wp_brk, ↓wp_cont, ↓wp_sbad, ↓wp_expr, ↓wp_sret, ↓wp_sretN, ↓wp_sif, ↓wp_asg, ↓wp_gN, ↓wp_gT, ↓wp_par, ↓wp_gIx, ↓wp_fld, ↓finK_nx, ↓finK_rt, ↓finK_xc, ↓wp_mk, ↓wp_srcT, ↓wp_src, ↓wp_rng1, ↓wp_rng2, ↓wp_for, ↓forK_nx, ↓forK_ct, ↓forK_bk, ↓forK_rt, ↓wp_ok, ↓wp_ret, ↓wp_bnd, ↓wp_Rbnd, ↓wp_calm, ↓wp_t, ↓wp_f, startC, List.map_cons, List.map_nil, List.length_cons, List.length_nil, List.replicate_succ, List.replicate_zero, List.cons_append, List.nil_append, List.append_assoc, List.getElem?_cons_zero, List.getElem?_cons_succ, List.set_cons_zero, List.set_cons_succ, Nat.reduceAdd, Nat.reduceSub, Nat.zero_add, if_true, if_false, ite_true, ite_false, reduceIte, sizeLine, Nat.reducePow, Nat.reduceLeDiff, Nat.reduceEqDiff, atI_0, atI_1, atI_2, atI_3, ↓wp_add_i, ↓wp_add_s, ↓wp_sub_i, ↓wp_mul_i, ↓wp_mod_i, ↓wp_fdiv_i, ↓wp_pow_i, ↓wp_lt_i, ↓wp_le_i, ↓wp_gt_i, ↓wp_ge_i, ↓wp_lt_s, ↓wp_le_s, ↓wp_eq_i, ↓wp_ne_i, ↓wp_eq_s, ↓wp_ne_s, ↓wp_ix_t, ↓wp_ix_l, ↓wp_ix_s, ↓wp_setIx, ↓wp_len_s, ↓wp_len_t, ↓wp_len_l, ↓wp_abs, ↓wp_int, ↓wp_int_b, ↓wp_tru_b, ↓wp_tru_i, ↓wp_tru_non, ↓wp_tru_t, ↓wp_src_l, ↓wp_cmp_i, ↓wp_cmp_s, ↓wp_cmp_b, ↓wp_cmp_t, ↓wp_cmp_non, ↓wp_cmp_r, ↓ownR_b, ↓wp_ne_r, ↓wp_eq_r, ↓wp_ne_t, ↓wp_eq_t, ite_F, Int.reduceNeg, Int.reducePow, Int.reduceLT, Int.reduceLE, Int.reduceToNat, true_and, and_true, true_or, or_true, and_self, decide_true, decide_false, Bool.not_true, Bool.not_false, not_false_eq_true, ne_eq, Bool.false_eq_true, ↓wp_isiT, ↓wp_isiC, kindB_non, kindB_b, kindB_i, kindB_s, kindB_t, kindB_r, kindO_r, kindO_non, kindO_b, kindO_i, kindO_s, kindO_t, isi_nn, isi_bs, isi_is, isi_ss, isi_ts, isi_ls, isi_ds, mem_str, ↓wp_in_t, ↓wp_in_s, ↓wp_inOwn, ↓wp_inOwn_t, ↓wp_inOwn_s, ↓wp_att, ↓wp_met, ↓wp_setF, ↓wp_str_s, ↓wp_str_i, ↓wp_str_r, ↓strR_s, ↓wp_fmt_s, ↓wp_js0, ↓wp_js1, ↓wp_joined, ↓wp_dict0, ↓wp_list_t, ↓wp_list_l, ↓wp_add_l, ↓wp_bm, ↓wp_split, ↓wp_mkK, ↓wp_appK, ↓wp_cmK, ↓wp_callV, ↓chR_t, ↓chR_f, ↓wp_chain, ↓wp_src_s, ↓wp_mul_s, ↓wp_lt_t, ↓wp_att_c, ↓wp_tuple_l, ↓wp_fmt_i, ↓wp_strInt, m1, m2, m3, m4, ↓wp_read h hn, show ((3 : Int) == 0) = false from rfl, show ((3 : Int) == 1) = false from rfl, show ((3 : Int) == 2) = false from rfl]
theorem td_bs {b1 b2 b3 b4 b5 b6 b7 b8 b9 b10 b11 b12 : Bool} : (PyData.list ([b1, b2, b3, b4, b5, b6, b7, b8, b9, b10, b11, b12].map .bool)).showable = true := by
  simp [PyData.showable, PyData.showableAll]
theorem rp_bls (l : List Bool) (hl : l.length = 12) : ((PyData.list (l.map .bool)).showable && !(PyData.list (l.map .bool)).hasDict && decide ((PyData.list (l.map .bool)).depth ≤ 60) && decide ((PyData.list (l.map .bool)).shown.length ≤ sizeLine)) = true := by
  match l, hl with
  | [b1, b2, b3, b4, b5, b6, b7, b8, b9, b10, b11, b12], _ =>
    refine rp_mk ?_ ?_ ?_ ?_
    · simp [PyData.layable0, PyData.canLay0, PyData.canLayAll0, PyData.depth, PyData.depthAll, PyData.weight, PyData.weightAll]
    · simp [PyData.intsShort, PyData.intsShortAll]
    · simp [PyData.showable, PyData.showableAll]
    · simp [PyData.depth, PyData.depthAll]
theorem wp_repr_bls {l : List Bool} (hl : l.length = 12) (h : S[k]? = some (.lst (l.map .bl))) : Wp (reprC [.ref k] S) Q E = Q (.str (PyData.shown (.list (l.map .bool)))) S := by
  refine wp_repr_d ?_ (rp_bls l hl)
  rw [td_ref, h]
  dsimp only
  rw [td_bls]; rfl
theorem zero_len : (Str.ofString "0").length = 1 := by decide +kernel
theorem told_body {p c : Nat} {T : Int} {cells : List Int} {r4 r5 r6 r7 r8 r9 : Option CV} (hp : PenAt p c cells T S) (hT : T + 1 < 2 ^ 20) (hk : S[k]? = some (ko x n)) (hkp : k ≠ p) (h : Lt x) (hn : N3 n) :
    Tr (L__law_told_right_0 [some (.ref p), some (.str (ch x)), some (.int n), some (.ref k), r4, r5, r6, r7, r8, r9] S) (fun f S' => ∃ r4 r5 r6 r7 r8 r9, f = .nx [some (.ref p), some (.str (ch x)), some (.int n), some (.ref k), r4, r5, r6, r7, r8, r9] ∧ PenAt p c cells (T + 1) S' ∧ Ext p S S') := by
  constructor
  have hn3 : n < 4 := by rcases hn with rfl | rfl | rfl <;> decide
  have k1 : ∀ l, (S ++ l)[k]? = some (ko x n) := fun l => look_old hk
  have e2 : (⟨#[48 + n]⟩ : Str).length = 1 := rfl
  have e3 : ch x ++ (⟨#[48 + n]⟩ : Str) = ⟨#[x, 48 + n]⟩ := rfl
  have pk : ∀ l Q E, Wp (m_Kind_ports [.ref k] (S ++ l)) Q E = Q (.tup (prt x n)) ((S ++ l) ++ [.lst (prt x n)]) := fun l Q E => wp_ports (k1 l) hn
  have sk : ∀ l Q E, Wp (m_Kind___str__ [.ref k] (S ++ l)) Q E = Q (.str ⟨#[x, 48 + n]⟩) (S ++ l) := fun l Q E => wp_str_k (k1 l) hn
  have rp2 : ∀ a b l Q E, Wp (reprC [.ref (S.length + 2)] (S ++ a :: b :: CO.lst [.str (ch x), .tup (prt x n), .int n, .str ⟨#[x, 48 + n]⟩] :: l)) Q E = Q (.str (D1 x n).shown) (S ++ a :: b :: CO.lst [.str (ch x), .tup (prt x n), .int n, .str ⟨#[x, 48 + n]⟩] :: l) := fun a b l Q E => wp_repr_d (td1 hn (look_new (k := 2))) (rp1 h hn)
  have rp3 : ∀ a b d l Q E, Wp (reprC [.ref (S.length + 3)] (S ++ a :: b :: d :: CO.lst [.str (ch x), .tup (prt x n), .int n, .str ⟨#[x, 48 + n]⟩] :: l)) Q E = Q (.str (D1 x n).shown) (S ++ a :: b :: d :: CO.lst [.str (ch x), .tup (prt x n), .int n, .str ⟨#[x, 48 + n]⟩] :: l) := fun a b d l Q E => wp_repr_d (td1 hn (look_new (k := 3))) (rp1 h hn)
  have eb : ∀ o1 o2 o3 o4 l b1 b2 b3, eqD (S ++ o1 :: o2 :: o3 :: o4 :: .lst [.bl b1, .bl b2, .bl b3] :: .lst [.bl b1, .bl b2, .bl b3] :: l) (.ref (S.length + 4)) (.ref (S.length + 5)) = some true := fun o1 o2 o3 o4 l b1 b2 b3 => eqD_b3 (look_new (k := 4)) (look_new (k := 5))
  unfold L__law_told_right_0
  simp only [↓wp_run, ↓wp_var, ↓wp_c, ↓wp_op, ↓wp_un, ↓wp_fn, ↓wp_app, ↓wp_ap, ↓wp_nil, ↓wp_cons, ↓wp_mkTup, ↓wp_mkLst, ↓wp_tup, ↓wp_lst, ↓wp_asB, ↓wp_test, ↓wp_tru, ↓wp_and, ↓wp_or, ↓wp_not, ↓wp_if, ↓wp_andV, ↓wp_orV, ↓wp_notV, ↓wp_yes, ↓seqK_nx, ↓seqK_rt, ↓seqK_bk, ↓seqK_ct, ↓seqK_xc, ↓wp_seq, ↓wp_lft, ↓wp_next, ↓wp_brk, ↓wp_cont, ↓wp_sbad, ↓wp_expr, ↓wp_sret, ↓wp_sretN, ↓wp_sif, ↓wp_asg, ↓wp_gN, ↓wp_gT, ↓wp_par, ↓wp_gIx, ↓wp_fld, ↓finK_nx, ↓finK_rt, ↓finK_xc, ↓wp_mk, ↓wp_srcT, ↓wp_src, ↓wp_rng1, ↓wp_rng2, ↓wp_for, ↓forK_nx, ↓forK_ct, ↓forK_bk, ↓forK_rt, ↓wp_ok, ↓wp_ret, ↓wp_bnd, ↓wp_Rbnd, ↓wp_calm, ↓wp_t, ↓wp_f, startC, List.map_cons, List.map_nil, List.length_cons, List.length_nil, List.replicate_succ, List.replicate_zero, List.cons_append, List.nil_append, List.append_assoc, List.getElem?_cons_zero, List.getElem?_cons_succ, List.set_cons_zero, List.set_cons_succ, Nat.reduceAdd, Nat.reduceSub, Nat.zero_add, if_true, if_false, ite_true, ite_false, reduceIte, sizeLine, Nat.reducePow, Nat.reduceLeDiff, Nat.reduceEqDiff]
  rw [spots (x := x) (by omega) (src_n rfl (by omega)) (fun v => ⟨rfl, rfl⟩)]
  simp only [↓wp_run, ↓wp_var, ↓wp_c, ↓wp_op, ↓wp_un, ↓wp_fn, ↓wp_app, ↓wp_ap, ↓wp_nil, ↓wp_cons, ↓wp_mkTup, ↓wp_mkLst, ↓wp_tup, ↓wp_lst, ↓wp_asB, ↓wp_test, ↓wp_tru, ↓wp_and, ↓wp_or, ↓wp_not, ↓wp_if, ↓wp_andV, ↓wp_orV, ↓wp_notV, ↓wp_yes, ↓seqK_nx, ↓seqK_rt, ↓seqK_bk, ↓seqK_ct, ↓seqK_xc, ↓wp_seq, ↓wp_lft, ↓wp_next, ↓wp_brk, ↓wp_cont, ↓wp_sbad, ↓wp_expr, ↓wp_sret, ↓wp_sretN, ↓wp_sif, ↓wp_asg, ↓wp_gN, ↓wp_gT, ↓wp_par, ↓wp_gIx, ↓wp_fld, ↓finK_nx, ↓finK_rt, ↓finK_xc, ↓wp_mk, ↓wp_srcT, ↓wp_src, ↓wp_rng1, ↓wp_rng2, ↓wp_for, ↓forK_nx, ↓forK_ct, ↓forK_bk, ↓forK_rt, ↓wp_ok, ↓wp_ret, ↓wp_bnd, ↓wp_Rbnd, ↓wp_calm, ↓wp_t, ↓wp_f, startC, List.map_cons, List.map_nil, List.length_cons, List.length_nil, List.replicate_succ, List.replicate_zero, List.cons_append, List.nil_append, List.append_assoc, List.getElem?_cons_zero, List.getElem?_cons_succ, List.set_cons_zero, List.set_cons_succ, Nat.reduceAdd, Nat.reduceSub, Nat.zero_add, if_true, if_false, ite_true, ite_false, reduceIte, sizeLine, Nat.reducePow, Nat.reduceLeDiff, Nat.reduceEqDiff, atI_0, atI_1, atI_2, atI_3, ↓wp_add_i, ↓wp_add_s, ↓wp_sub_i, ↓wp_mul_i, ↓wp_mod_i, ↓wp_fdiv_i, ↓wp_pow_i, ↓wp_lt_i, ↓wp_le_i, ↓wp_gt_i, ↓wp_ge_i, ↓wp_lt_s, ↓wp_le_s, ↓wp_eq_i, ↓wp_ne_i, ↓wp_eq_s, ↓wp_ne_s, ↓wp_ix_t, ↓wp_ix_l, ↓wp_ix_s, ↓wp_setIx, ↓wp_len_s, ↓wp_len_t, ↓wp_len_l, ↓wp_abs, ↓wp_int, ↓wp_int_b, ↓wp_tru_b, ↓wp_tru_i, ↓wp_tru_non, ↓wp_tru_t, ↓wp_src_l, ↓wp_cmp_i, ↓wp_cmp_s, ↓wp_cmp_b, ↓wp_cmp_t, ↓wp_cmp_non, ↓wp_cmp_r, ↓ownR_b, ↓wp_ne_r, ↓wp_eq_r, ↓wp_ne_t, ↓wp_eq_t, ite_F, Int.reduceNeg, Int.reducePow, Int.reduceLT, Int.reduceLE, Int.reduceToNat, true_and, and_true, true_or, or_true, and_self, decide_true, decide_false, Bool.not_true, Bool.not_false, not_false_eq_true, ne_eq, Bool.false_eq_true, ↓wp_isiT, ↓wp_isiC, kindB_non, kindB_b, kindB_i, kindB_s, kindB_t, kindB_r, kindO_r, kindO_non, kindO_b, kindO_i, kindO_s, kindO_t, isi_nn, isi_bs, isi_is, isi_ss, isi_ts, isi_ls, isi_ds, mem_str, ↓wp_in_t, ↓wp_in_s, ↓wp_inOwn, ↓wp_inOwn_t, ↓wp_inOwn_s, ↓wp_att, ↓wp_met, ↓wp_setF, ↓wp_str_s, ↓wp_str_i, ↓wp_str_r, ↓strR_s, ↓wp_fmt_s, ↓wp_js0, ↓wp_js1, ↓wp_joined, ↓wp_dict0, ↓wp_list_t, ↓wp_list_l, ↓wp_add_l, ↓wp_bm, ↓wp_split, ↓wp_mkK, ↓wp_appK, ↓wp_cmK, ↓wp_callV, ↓chR_t, ↓chR_f, ↓wp_chain, ↓wp_src_s, ↓wp_mul_s, ↓wp_lt_t, ↓wp_att_c, ↓wp_tuple_l, ↓wp_fmt_i, ↓wp_strInt, look_new, look_new0, set_new, set_new0, List.length_append, Nat.add_assoc, k1, lk_let hn, lk_ends hn, lk_ports hn, lk_str hn, lk_f, lk_fe, ↓pk, ↓sk, log_n hn, str_n hn, ch_len, e2, e3, rp2, rp3, beq_self_eq_true, lk_oD hn, lk_oB hn, lk_oF hn, lk_o hn, id, eb]
  rw [spots (x := x) (m := 4) (by omega) src_4 (fun v => ⟨rfl, rfl⟩)]
  simp only [prt4, ↓wp_run, ↓wp_var, ↓wp_c, ↓wp_op, ↓wp_un, ↓wp_fn, ↓wp_app, ↓wp_ap, ↓wp_nil, ↓wp_cons, ↓wp_mkTup, ↓wp_mkLst, ↓wp_tup, ↓wp_lst, ↓wp_asB, ↓wp_test, ↓wp_tru, ↓wp_and, ↓wp_or, ↓wp_not, ↓wp_if, ↓wp_andV, ↓wp_orV, ↓wp_notV, ↓wp_yes, ↓seqK_nx, ↓seqK_rt, ↓seqK_bk, ↓seqK_ct, ↓seqK_xc, ↓wp_seq, ↓wp_lft, ↓wp_next, ↓wp_brk, ↓wp_cont, ↓wp_sbad, ↓wp_expr, ↓wp_sret, ↓wp_sretN, ↓wp_sif, ↓wp_asg, ↓wp_gN, ↓wp_gT, ↓wp_par, ↓wp_gIx, ↓wp_fld, ↓finK_nx, ↓finK_rt, ↓finK_xc, ↓wp_mk, ↓wp_srcT, ↓wp_src, ↓wp_rng1, ↓wp_rng2, ↓wp_for, ↓forK_nx, ↓forK_ct, ↓forK_bk, ↓forK_rt, ↓wp_ok, ↓wp_ret, ↓wp_bnd, ↓wp_Rbnd, ↓wp_calm, ↓wp_t, ↓wp_f, startC, List.map_cons, List.map_nil, List.length_cons, List.length_nil, List.replicate_succ, List.replicate_zero, List.cons_append, List.nil_append, List.append_assoc, List.getElem?_cons_zero, List.getElem?_cons_succ, List.set_cons_zero, List.set_cons_succ, Nat.reduceAdd, Nat.reduceSub, Nat.zero_add, if_true, if_false, ite_true, ite_false, reduceIte, sizeLine, Nat.reducePow, Nat.reduceLeDiff, Nat.reduceEqDiff, atI_0, atI_1, atI_2, atI_3, ↓wp_add_i, ↓wp_add_s, ↓wp_sub_i, ↓wp_mul_i, ↓wp_mod_i, ↓wp_fdiv_i, ↓wp_pow_i, ↓wp_lt_i, ↓wp_le_i, ↓wp_gt_i, ↓wp_ge_i, ↓wp_lt_s, ↓wp_le_s, ↓wp_eq_i, ↓wp_ne_i, ↓wp_eq_s, ↓wp_ne_s, ↓wp_ix_t, ↓wp_ix_l, ↓wp_ix_s, ↓wp_setIx, ↓wp_len_s, ↓wp_len_t, ↓wp_len_l, ↓wp_abs, ↓wp_int, ↓wp_int_b, ↓wp_tru_b, ↓wp_tru_i, ↓wp_tru_non, ↓wp_tru_t, ↓wp_src_l, ↓wp_cmp_i, ↓wp_cmp_s, ↓wp_cmp_b, ↓wp_cmp_t, ↓wp_cmp_non, ↓wp_cmp_r, ↓ownR_b, ↓wp_ne_r, ↓wp_eq_r, ↓wp_ne_t, ↓wp_eq_t, ite_F, Int.reduceNeg, Int.reducePow, Int.reduceLT, Int.reduceLE, Int.reduceToNat, true_and, and_true, true_or, or_true, and_self, decide_true, decide_false, Bool.not_true, Bool.not_false, not_false_eq_true, ne_eq, Bool.false_eq_true, ↓wp_isiT, ↓wp_isiC, kindB_non, kindB_b, kindB_i, kindB_s, kindB_t, kindB_r, kindO_r, kindO_non, kindO_b, kindO_i, kindO_s, kindO_t, isi_nn, isi_bs, isi_is, isi_ss, isi_ts, isi_ls, isi_ds, mem_str, ↓wp_in_t, ↓wp_in_s, ↓wp_inOwn, ↓wp_inOwn_t, ↓wp_inOwn_s, ↓wp_att, ↓wp_met, ↓wp_setF, ↓wp_str_s, ↓wp_str_i, ↓wp_str_r, ↓strR_s, ↓wp_fmt_s, ↓wp_js0, ↓wp_js1, ↓wp_joined, ↓wp_dict0, ↓wp_list_t, ↓wp_list_l, ↓wp_add_l, ↓wp_bm, ↓wp_split, ↓wp_mkK, ↓wp_appK, ↓wp_cmK, ↓wp_callV, ↓chR_t, ↓chR_f, ↓wp_chain, ↓wp_src_s, ↓wp_mul_s, ↓wp_lt_t, ↓wp_att_c, ↓wp_tuple_l, ↓wp_fmt_i, ↓wp_strInt, look_new, look_new0, set_new, set_new0, List.length_append, Nat.add_assoc, ch_len]
  refine ⟨by rw [zero_len]; decide, ?_⟩
  have kn : ∀ y ∈ [CV.str ⟨#[x, 48]⟩, CV.str ⟨#[x, 49]⟩, CV.str ⟨#[x, 50]⟩, CV.str ⟨#[x, 51]⟩, CV.str (ch x), CV.str (Str.ofString ""), CV.non, CV.int 0, CV.bl true, CV.tup [CV.str (ch x), CV.int 0], CV.ref (S.length + 7), CV.ref (S.length + 8)], ∀ S' : Sto, (∃ l, S'[S.length + 7]? = some (.lst l)) → S'[S.length + 8]? = some (.dic []) → Kn S' y := by
    intro y hy S' ⟨l, h7⟩ h8
    simp only [List.mem_cons, List.not_mem_nil, or_false] at hy
    rcases hy with rfl | rfl | rfl | rfl | rfl | rfl | rfl | rfl | rfl | rfl | rfl | rfl
    all_goals first | exact .inl rfl | exact .inr ⟨rfl, rfl⟩ | exact .inr ⟨rfl, by rw [kindB_r, h7]; rfl⟩ | exact .inr ⟨rfl, by rw [kindB_r, h8]; rfl⟩
  refine wp_lcGrow (fun _ => true) (fun y => .bl (ffb (prt x n) y)) (src_at (n := S.length + 10) rfl (look_new (k := 10))) (fun S' hs => decide_eq_true (hs _ _ (look_new (k := 10)))) ?_ (by show 12 ≤ sizeLine; decide) ?_
  · intro y hy S' hs
    rw [wp_yes]
    refine ⟨rfl, Subs.refl, fun _ => ?_⟩
    change Wp (inOwn own_contains_0 false y (.ref k) S') _ _
    exact in_thing (hs _ _ (k1 _)) hn (kn y hy S' ⟨_, hs _ _ (look_new (k := 7))⟩ (hs _ _ (look_new (k := 8))))
  intro S2 hs2 hl2
  have g10 := hs2 _ _ (look_new (k := 10))
  have g7 := hs2 _ _ (look_new (k := 7))
  have g8 := hs2 _ _ (look_new (k := 8))
  rw [wp_repr_bls (l := [CV.str ⟨#[x, 48]⟩, CV.str ⟨#[x, 49]⟩, CV.str ⟨#[x, 50]⟩, CV.str ⟨#[x, 51]⟩, CV.str (ch x), CV.str (Str.ofString ""), CV.non, CV.int 0, CV.bl true, CV.tup [CV.str (ch x), CV.int 0], CV.ref (S.length + 7), CV.ref (S.length + 8)].map (ffb (prt x n))) rfl hl2]
  rw [wp_lcVar (n := S.length + 10) (fun y => .bl (ffb (prt x n) y)) rfl g10 (fun y hy acc => in_known hn (kn y hy _ ⟨_, look_old g7⟩ (look_old g8))) (by show 12 ≤ sizeLine; decide)]
  rw [wp_repr_bls (l := [CV.str ⟨#[x, 48]⟩, CV.str ⟨#[x, 49]⟩, CV.str ⟨#[x, 50]⟩, CV.str ⟨#[x, 51]⟩, CV.str (ch x), CV.str (Str.ofString ""), CV.non, CV.int 0, CV.bl true, CV.tup [CV.str (ch x), CV.int 0], CV.ref (S.length + 7), CV.ref (S.length + 8)].map (ffb (prt x n))) rfl look_new0]
  simp only [↓wp_run, ↓wp_var, ↓wp_c, ↓wp_op, ↓wp_un, ↓wp_fn, ↓wp_app, ↓wp_ap, ↓wp_nil, ↓wp_cons, ↓wp_mkTup, ↓wp_mkLst, ↓wp_tup, ↓wp_lst, ↓wp_asB, ↓wp_test, ↓wp_tru, ↓wp_and, ↓wp_or, ↓wp_not, ↓wp_if, ↓wp_andV, ↓wp_orV, ↓wp_notV, ↓wp_yes, ↓seqK_nx, ↓seqK_rt, ↓seqK_bk, ↓seqK_ct, ↓seqK_xc, ↓wp_seq, ↓wp_lft, ↓wp_next, ↓wp_brk, ↓wp_cont, ↓wp_sbad, ↓wp_expr, ↓wp_sret, ↓wp_sretN, ↓wp_sif, ↓wp_asg, ↓wp_gN, ↓wp_gT, ↓wp_par, ↓wp_gIx, ↓wp_fld, ↓finK_nx, ↓finK_rt, ↓finK_xc, ↓wp_mk, ↓wp_srcT, ↓wp_src, ↓wp_rng1, ↓wp_rng2, ↓wp_for, ↓forK_nx, ↓forK_ct, ↓forK_bk, ↓forK_rt, ↓wp_ok, ↓wp_ret, ↓wp_bnd, ↓wp_Rbnd, ↓wp_calm, ↓wp_t, ↓wp_f, startC, List.map_cons, List.map_nil, List.length_cons, List.length_nil, List.replicate_succ, List.replicate_zero, List.cons_append, List.nil_append, List.append_assoc, List.getElem?_cons_zero, List.getElem?_cons_succ, List.set_cons_zero, List.set_cons_succ, Nat.reduceAdd, Nat.reduceSub, Nat.zero_add, if_true, if_false, ite_true, ite_false, reduceIte, sizeLine, Nat.reducePow, Nat.reduceLeDiff, Nat.reduceEqDiff, atI_0, atI_1, atI_2, atI_3, ↓wp_add_i, ↓wp_add_s, ↓wp_sub_i, ↓wp_mul_i, ↓wp_mod_i, ↓wp_fdiv_i, ↓wp_pow_i, ↓wp_lt_i, ↓wp_le_i, ↓wp_gt_i, ↓wp_ge_i, ↓wp_lt_s, ↓wp_le_s, ↓wp_eq_i, ↓wp_ne_i, ↓wp_eq_s, ↓wp_ne_s, ↓wp_ix_t, ↓wp_ix_l, ↓wp_ix_s, ↓wp_setIx, ↓wp_len_s, ↓wp_len_t, ↓wp_len_l, ↓wp_abs, ↓wp_int, ↓wp_int_b, ↓wp_tru_b, ↓wp_tru_i, ↓wp_tru_non, ↓wp_tru_t, ↓wp_src_l, ↓wp_cmp_i, ↓wp_cmp_s, ↓wp_cmp_b, ↓wp_cmp_t, ↓wp_cmp_non, ↓wp_cmp_r, ↓ownR_b, ↓wp_ne_r, ↓wp_eq_r, ↓wp_ne_t, ↓wp_eq_t, ite_F, Int.reduceNeg, Int.reducePow, Int.reduceLT, Int.reduceLE, Int.reduceToNat, true_and, and_true, true_or, or_true, and_self, decide_true, decide_false, Bool.not_true, Bool.not_false, not_false_eq_true, ne_eq, Bool.false_eq_true, ↓wp_isiT, ↓wp_isiC, kindB_non, kindB_b, kindB_i, kindB_s, kindB_t, kindB_r, kindO_r, kindO_non, kindO_b, kindO_i, kindO_s, kindO_t, isi_nn, isi_bs, isi_is, isi_ss, isi_ts, isi_ls, isi_ds, mem_str, ↓wp_in_t, ↓wp_in_s, ↓wp_inOwn, ↓wp_inOwn_t, ↓wp_inOwn_s, ↓wp_att, ↓wp_met, ↓wp_setF, ↓wp_str_s, ↓wp_str_i, ↓wp_str_r, ↓strR_s, ↓wp_fmt_s, ↓wp_js0, ↓wp_js1, ↓wp_joined, ↓wp_dict0, ↓wp_list_t, ↓wp_list_l, ↓wp_add_l, ↓wp_bm, ↓wp_split, ↓wp_mkK, ↓wp_appK, ↓wp_cmK, ↓wp_callV, ↓chR_t, ↓chR_f, ↓wp_chain, ↓wp_src_s, ↓wp_mul_s, ↓wp_lt_t, ↓wp_att_c, ↓wp_tuple_l, ↓wp_fmt_i, ↓wp_strInt, beq_self_eq_true]
  refine Wp.mono (draw ((hp.app.subs hs2).app) (by omega) (by decide) (by decide)) ?_
  rintro v S3 ⟨d, rfl, d0, d4, hp3, he3⟩
  have k2 : S2[k]? = some (ko x n) := hs2 _ _ (k1 _)
  have k3 : S3[k]? = some (ko x n) := he3 _ _ hkp (look_old k2)
  have k4 : ∀ l, (S3 ++ l)[k]? = some (ko x n) := fun l => look_old k3
  have er : ∀ Q E, Wp (m_Kind___eq__ [.ref S3.length, .ref k] (S3 ++ [ko x n])) Q E = Q (.bl (ch x == ch x && ((n : Int) == (n : Int)))) (S3 ++ [ko x n]) := fun Q E => wp_eq_k look_new0 (k4 _) hn hn
  simp only [↓wp_run, ↓wp_var, ↓wp_c, ↓wp_op, ↓wp_un, ↓wp_fn, ↓wp_app, ↓wp_ap, ↓wp_nil, ↓wp_cons, ↓wp_mkTup, ↓wp_mkLst, ↓wp_tup, ↓wp_lst, ↓wp_asB, ↓wp_test, ↓wp_tru, ↓wp_and, ↓wp_or, ↓wp_not, ↓wp_if, ↓wp_andV, ↓wp_orV, ↓wp_notV, ↓wp_yes, ↓seqK_nx, ↓seqK_rt, ↓seqK_bk, ↓seqK_ct, ↓seqK_xc, ↓wp_seq, ↓wp_lft, ↓wp_next, ↓wp_brk, ↓wp_cont, ↓wp_sbad, ↓wp_expr, ↓wp_sret, ↓wp_sretN, ↓wp_sif, ↓wp_asg, ↓wp_gN, ↓wp_gT, ↓wp_par, ↓wp_gIx, ↓wp_fld, ↓finK_nx, ↓finK_rt, ↓finK_xc, ↓wp_mk, ↓wp_srcT, ↓wp_src, ↓wp_rng1, ↓wp_rng2, ↓wp_for, ↓forK_nx, ↓forK_ct, ↓forK_bk, ↓forK_rt, ↓wp_ok, ↓wp_ret, ↓wp_bnd, ↓wp_Rbnd, ↓wp_calm, ↓wp_t, ↓wp_f, startC, List.map_cons, List.map_nil, List.length_cons, List.length_nil, List.replicate_succ, List.replicate_zero, List.cons_append, List.nil_append, List.append_assoc, List.getElem?_cons_zero, List.getElem?_cons_succ, List.set_cons_zero, List.set_cons_succ, Nat.reduceAdd, Nat.reduceSub, Nat.zero_add, if_true, if_false, ite_true, ite_false, reduceIte, sizeLine, Nat.reducePow, Nat.reduceLeDiff, Nat.reduceEqDiff, atI_0, atI_1, atI_2, atI_3, ↓wp_add_i, ↓wp_add_s, ↓wp_sub_i, ↓wp_mul_i, ↓wp_mod_i, ↓wp_fdiv_i, ↓wp_pow_i, ↓wp_lt_i, ↓wp_le_i, ↓wp_gt_i, ↓wp_ge_i, ↓wp_lt_s, ↓wp_le_s, ↓wp_eq_i, ↓wp_ne_i, ↓wp_eq_s, ↓wp_ne_s, ↓wp_ix_t, ↓wp_ix_l, ↓wp_ix_s, ↓wp_setIx, ↓wp_len_s, ↓wp_len_t, ↓wp_len_l, ↓wp_abs, ↓wp_int, ↓wp_int_b, ↓wp_tru_b, ↓wp_tru_i, ↓wp_tru_non, ↓wp_tru_t, ↓wp_src_l, ↓wp_cmp_i, ↓wp_cmp_s, ↓wp_cmp_b, ↓wp_cmp_t, ↓wp_cmp_non, ↓wp_cmp_r, ↓ownR_b, ↓wp_ne_r, ↓wp_eq_r, ↓wp_ne_t, ↓wp_eq_t, ite_F, Int.reduceNeg, Int.reducePow, Int.reduceLT, Int.reduceLE, Int.reduceToNat, true_and, and_true, true_or, or_true, and_self, decide_true, decide_false, Bool.not_true, Bool.not_false, not_false_eq_true, ne_eq, Bool.false_eq_true, ↓wp_isiT, ↓wp_isiC, kindB_non, kindB_b, kindB_i, kindB_s, kindB_t, kindB_r, kindO_r, kindO_non, kindO_b, kindO_i, kindO_s, kindO_t, isi_nn, isi_bs, isi_is, isi_ss, isi_ts, isi_ls, isi_ds, mem_str, ↓wp_in_t, ↓wp_in_s, ↓wp_inOwn, ↓wp_inOwn_t, ↓wp_inOwn_s, ↓wp_att, ↓wp_met, ↓wp_setF, ↓wp_str_s, ↓wp_str_i, ↓wp_str_r, ↓strR_s, ↓wp_fmt_s, ↓wp_js0, ↓wp_js1, ↓wp_joined, ↓wp_dict0, ↓wp_list_t, ↓wp_list_l, ↓wp_add_l, ↓wp_bm, ↓wp_split, ↓wp_mkK, ↓wp_appK, ↓wp_cmK, ↓wp_callV, ↓chR_t, ↓chR_f, ↓wp_chain, ↓wp_src_s, ↓wp_mul_s, ↓wp_lt_t, ↓wp_att_c, ↓wp_tuple_l, ↓wp_fmt_i, ↓wp_strInt, look_new, look_new0, set_new, set_new0, List.length_append, Nat.add_assoc, log_n hn, str_n hn, ch_len, e2, e3, ↓wp_read4 (cx := .non) h hn d0 d4, lk_eq hn, mayR, in_nfb hn, in_nfc hn hn, k4, er, beq_self_eq_true, Bool.and_self, lk_ends hn, lk_fe, id]
  exact ⟨_, _, _, _, _, _, rfl, hp3.app, ((Subs.app.trans hs2).ext.trans (Ext.app.trans he3)).trans Ext.app⟩
end
end L02
set_option Elab.async false
set_option linter.all false
set_option maxRecDepth 100000
set_option maxHeartbeats 4000000
namespace L02
open PySem PySem.Spec PyProof.Rows L2 MW
section
variable {Q : CV → Sto → Prop} {E : Str → List (Str × CV) → Sto → Prop} {S : Sto} {x x' : Nat} {n n' k j : Nat} {y : CV} {s : Str}
theorem sel10 {a b : CV} : sel [1, 0] [a, b] = [b, a] := rfl
theorem told {p c : Nat} {T : Int} {cells : List Int} (hp : PenAt p c cells T S) (hT : T + 3 < 2 ^ 20) (h : Lt x) (hn : N3 n) :
    Tr (m__law_told_right [.ref p, .str (ch x), .int n] S) (fun v S' => v = .bl true ∧ PenAt p c cells (T + 3) S' ∧ Ext p S S') := by
  constructor
  have hlt := hp.lt
  unfold m__law_told_right b__law_told_right
  simp only [↓wp_run, ↓wp_var, ↓wp_c, ↓wp_op, ↓wp_un, ↓wp_fn, ↓wp_app, ↓wp_ap, ↓wp_nil, ↓wp_cons, ↓wp_mkTup, ↓wp_mkLst, ↓wp_tup, ↓wp_lst, ↓wp_asB, ↓wp_test, ↓wp_tru, ↓wp_and, ↓wp_or, ↓wp_not, ↓wp_if, ↓wp_andV, ↓wp_orV, ↓wp_notV, ↓wp_yes, ↓seqK_nx, ↓seqK_rt, ↓seqK_bk, ↓seqK_ct, ↓seqK_xc, ↓wp_seq, ↓wp_lft, ↓wp_next, ↓wp_brk, ↓wp_cont, ↓wp_sbad, ↓wp_expr, ↓wp_sret, ↓wp_sretN, ↓wp_sif, ↓wp_asg, ↓wp_gN, ↓wp_gT, ↓wp_par, ↓wp_gIx, ↓wp_fld, ↓finK_nx, ↓finK_rt, ↓finK_xc, ↓wp_mk, ↓wp_srcT, ↓wp_src, ↓wp_rng1, ↓wp_rng2, ↓wp_for, ↓forK_nx, ↓forK_ct, ↓forK_bk, ↓forK_rt, ↓wp_ok, ↓wp_ret, ↓wp_bnd, ↓wp_Rbnd, ↓wp_calm, ↓wp_t, ↓wp_f, startC, List.map_cons, List.map_nil, List.length_cons, List.length_nil, List.replicate_succ, List.replicate_zero, List.cons_append, List.nil_append, List.append_assoc, List.getElem?_cons_zero, List.getElem?_cons_succ, List.set_cons_zero, List.set_cons_succ, Nat.reduceAdd, Nat.reduceSub, Nat.zero_add, if_true, if_false, ite_true, ite_false, reduceIte, sizeLine, Nat.reducePow, Nat.reduceLeDiff, Nat.reduceEqDiff, atI_0, atI_1, atI_2, atI_3, ↓wp_add_i, ↓wp_add_s, ↓wp_sub_i, ↓wp_mul_i, ↓wp_mod_i, ↓wp_fdiv_i, ↓wp_pow_i, ↓wp_lt_i, ↓wp_le_i, ↓wp_gt_i, ↓wp_ge_i, ↓wp_lt_s, ↓wp_le_s, ↓wp_eq_i, ↓wp_ne_i, ↓wp_eq_s, ↓wp_ne_s, ↓wp_ix_t, ↓wp_ix_l, ↓wp_ix_s, ↓wp_setIx, ↓wp_len_s, ↓wp_len_t, ↓wp_len_l, ↓wp_abs, ↓wp_int, ↓wp_int_b, ↓wp_tru_b, ↓wp_tru_i, ↓wp_tru_non, ↓wp_tru_t, ↓wp_src_l, ↓wp_cmp_i, ↓wp_cmp_s, ↓wp_cmp_b, ↓wp_cmp_t, ↓wp_cmp_non, ↓wp_cmp_r, ↓ownR_b, ↓wp_ne_r, ↓wp_eq_r, ↓wp_ne_t, ↓wp_eq_t, ite_F, Int.reduceNeg, Int.reducePow, Int.reduceLT, Int.reduceLE, Int.reduceToNat, true_and, and_true, true_or, or_true, and_self, decide_true, decide_false, Bool.not_true, Bool.not_false, not_false_eq_true, ne_eq, Bool.false_eq_true, ↓wp_isiT, ↓wp_isiC, kindB_non, kindB_b, kindB_i, kindB_s, kindB_t, kindB_r, kindO_r, kindO_non, kindO_b, kindO_i, kindO_s, kindO_t, isi_nn, isi_bs, isi_is, isi_ss, isi_ts, isi_ls, isi_ds, mem_str, ↓wp_in_t, ↓wp_in_s, ↓wp_inOwn, ↓wp_inOwn_t, ↓wp_inOwn_s, ↓wp_att, ↓wp_met, ↓wp_setF, ↓wp_str_s, ↓wp_str_i, ↓wp_str_r, ↓strR_s, ↓wp_fmt_s, ↓wp_js0, ↓wp_js1, ↓wp_joined, ↓wp_dict0, ↓wp_list_t, ↓wp_list_l, ↓wp_add_l, ↓wp_bm, ↓wp_split, ↓wp_mkK, ↓wp_appK, ↓wp_cmK, ↓wp_callV, look_new, look_new0, set_new, set_new0, List.length_append, Nat.add_assoc, ↓wp_made h hn, ↓wp_of h hn, met_of, sel10, ↓wp_for1, ↓wp_for0, Src.chk]
  have q1 : PenAt p c cells T (S ++ [ko x n, ko x n, ko x n, CO.lst [CV.ref (List.length S), CV.ref (List.length S + 1), CV.ref (List.length S + 2)]]) := hp.app
  have q3 : (S ++ [ko x n, ko x n, ko x n, CO.lst [CV.ref (List.length S), CV.ref (List.length S + 1), CV.ref (List.length S + 2)]])[S.length]? = some (ko x n) := look_new0
  have q5 := fun r4 r5 r6 r7 r8 r9 => told_body (r4 := r4) (r5 := r5) (r6 := r6) (r7 := r7) (r8 := r8) (r9 := r9) q1 (by omega) q3 (by omega) h hn
  refine @Tr.mono _ _ _ _ _ (q5 _ _ _ _ _ _) ?_
  rintro f S1 ⟨_, _, _, _, _, _, hf, hp1, he1⟩
  subst hf
  have hl1 := he1 (S.length + 3) _ (by omega) (look_new (k := 3))
  have h11 := he1 (S.length + 1) _ (by omega) (look_new (k := 1))
  have h12 := he1 (S.length + 2) _ (by omega) (look_new (k := 2))
  simp only [↓wp_run, ↓wp_var, ↓wp_c, ↓wp_op, ↓wp_un, ↓wp_fn, ↓wp_app, ↓wp_ap, ↓wp_nil, ↓wp_cons, ↓wp_mkTup, ↓wp_mkLst, ↓wp_tup, ↓wp_lst, ↓wp_asB, ↓wp_test, ↓wp_tru, ↓wp_and, ↓wp_or, ↓wp_not, ↓wp_if, ↓wp_andV, ↓wp_orV, ↓wp_notV, ↓wp_yes, ↓seqK_nx, ↓seqK_rt, ↓seqK_bk, ↓seqK_ct, ↓seqK_xc, ↓wp_seq, ↓wp_lft, ↓wp_next, ↓wp_brk, ↓wp_cont, ↓wp_sbad, ↓wp_expr, ↓wp_sret, ↓wp_sretN, ↓wp_sif, ↓wp_asg, ↓wp_gN, ↓wp_gT, ↓wp_par, ↓wp_gIx, ↓wp_fld, ↓finK_nx, ↓finK_rt, ↓finK_xc, ↓wp_mk, ↓wp_srcT, ↓wp_src, ↓wp_rng1, ↓wp_rng2, ↓wp_for, ↓forK_nx, ↓forK_ct, ↓forK_bk, ↓forK_rt, ↓wp_ok, ↓wp_ret, ↓wp_bnd, ↓wp_Rbnd, ↓wp_calm, ↓wp_t, ↓wp_f, startC, List.map_cons, List.map_nil, List.length_cons, List.length_nil, List.replicate_succ, List.replicate_zero, List.cons_append, List.nil_append, List.append_assoc, List.getElem?_cons_zero, List.getElem?_cons_succ, List.set_cons_zero, List.set_cons_succ, Nat.reduceAdd, Nat.reduceSub, Nat.zero_add, if_true, if_false, ite_true, ite_false, reduceIte, sizeLine, Nat.reducePow, Nat.reduceLeDiff, Nat.reduceEqDiff, atI_0, atI_1, atI_2, atI_3, ↓wp_add_i, ↓wp_add_s, ↓wp_sub_i, ↓wp_mul_i, ↓wp_mod_i, ↓wp_fdiv_i, ↓wp_pow_i, ↓wp_lt_i, ↓wp_le_i, ↓wp_gt_i, ↓wp_ge_i, ↓wp_lt_s, ↓wp_le_s, ↓wp_eq_i, ↓wp_ne_i, ↓wp_eq_s, ↓wp_ne_s, ↓wp_ix_t, ↓wp_ix_l, ↓wp_ix_s, ↓wp_setIx, ↓wp_len_s, ↓wp_len_t, ↓wp_len_l, ↓wp_abs, ↓wp_int, ↓wp_int_b, ↓wp_tru_b, ↓wp_tru_i, ↓wp_tru_non, ↓wp_tru_t, ↓wp_src_l, ↓wp_cmp_i, ↓wp_cmp_s, ↓wp_cmp_b, ↓wp_cmp_t, ↓wp_cmp_non, ↓wp_cmp_r, ↓ownR_b, ↓wp_ne_r, ↓wp_eq_r, ↓wp_ne_t, ↓wp_eq_t, ite_F, Int.reduceNeg, Int.reducePow, Int.reduceLT, Int.reduceLE, Int.reduceToNat, true_and, and_true, true_or, or_true, and_self, decide_true, decide_false, Bool.not_true, Bool.not_false, not_false_eq_true, ne_eq, Bool.false_eq_true, ↓wp_isiT, ↓wp_isiC, kindB_non, kindB_b, kindB_i, kindB_s, kindB_t, kindB_r, kindO_r, kindO_non, kindO_b, kindO_i, kindO_s, kindO_t, isi_nn, isi_bs, isi_is, isi_ss, isi_ts, isi_ls, isi_ds, mem_str, ↓wp_in_t, ↓wp_in_s, ↓wp_inOwn, ↓wp_inOwn_t, ↓wp_inOwn_s, ↓wp_att, ↓wp_met, ↓wp_setF, ↓wp_str_s, ↓wp_str_i, ↓wp_str_r, ↓strR_s, ↓wp_fmt_s, ↓wp_js0, ↓wp_js1, ↓wp_joined, ↓wp_dict0, ↓wp_list_t, ↓wp_list_l, ↓wp_add_l, ↓wp_bm, ↓wp_split, ↓wp_mkK, ↓wp_appK, ↓wp_cmK, ↓wp_callV, look_new, look_new0, set_new, set_new0, List.length_append, Nat.add_assoc, ↓wp_for1, ↓wp_for0, Src.chk, hl1]
  refine @Tr.mono _ _ _ _ _ (told_body hp1 (by omega) h11 (by omega) h hn) ?_
  rintro f S2 ⟨_, _, _, _, _, _, hf, hp2, he2⟩
  subst hf
  have hl2 := he2 _ _ (by omega) hl1
  have h22 := he2 _ _ (by omega) h12
  simp only [↓wp_run, ↓wp_var, ↓wp_c, ↓wp_op, ↓wp_un, ↓wp_fn, ↓wp_app, ↓wp_ap, ↓wp_nil, ↓wp_cons, ↓wp_mkTup, ↓wp_mkLst, ↓wp_tup, ↓wp_lst, ↓wp_asB, ↓wp_test, ↓wp_tru, ↓wp_and, ↓wp_or, ↓wp_not, ↓wp_if, ↓wp_andV, ↓wp_orV, ↓wp_notV, ↓wp_yes, ↓seqK_nx, ↓seqK_rt, ↓seqK_bk, ↓seqK_ct, ↓seqK_xc, ↓wp_seq, ↓wp_lft, ↓wp_next, ↓wp_brk, ↓wp_cont, ↓wp_sbad, ↓wp_expr, ↓wp_sret, ↓wp_sretN, ↓wp_sif, ↓wp_asg, ↓wp_gN, ↓wp_gT, ↓wp_par, ↓wp_gIx, ↓wp_fld, ↓finK_nx, ↓finK_rt, ↓finK_xc, ↓wp_mk, ↓wp_srcT, ↓wp_src, ↓wp_rng1, ↓wp_rng2, ↓wp_for, ↓forK_nx, ↓forK_ct, ↓forK_bk, ↓forK_rt, ↓wp_ok, ↓wp_ret, ↓wp_bnd, ↓wp_Rbnd, ↓wp_calm, ↓wp_t, ↓wp_f, startC, List.map_cons, List.map_nil, List.length_cons, List.length_nil, List.replicate_succ, List.replicate_zero, List.cons_append, List.nil_append, List.append_assoc, List.getElem?_cons_zero, List.getElem?_cons_succ, List.set_cons_zero, List.set_cons_succ, Nat.reduceAdd, Nat.reduceSub, Nat.zero_add, if_true, if_false, ite_true, ite_false, reduceIte, sizeLine, Nat.reducePow, Nat.reduceLeDiff, Nat.reduceEqDiff, atI_0, atI_1, atI_2, atI_3, ↓wp_add_i, ↓wp_add_s, ↓wp_sub_i, ↓wp_mul_i, ↓wp_mod_i, ↓wp_fdiv_i, ↓wp_pow_i, ↓wp_lt_i, ↓wp_le_i, ↓wp_gt_i, ↓wp_ge_i, ↓wp_lt_s, ↓wp_le_s, ↓wp_eq_i, ↓wp_ne_i, ↓wp_eq_s, ↓wp_ne_s, ↓wp_ix_t, ↓wp_ix_l, ↓wp_ix_s, ↓wp_setIx, ↓wp_len_s, ↓wp_len_t, ↓wp_len_l, ↓wp_abs, ↓wp_int, ↓wp_int_b, ↓wp_tru_b, ↓wp_tru_i, ↓wp_tru_non, ↓wp_tru_t, ↓wp_src_l, ↓wp_cmp_i, ↓wp_cmp_s, ↓wp_cmp_b, ↓wp_cmp_t, ↓wp_cmp_non, ↓wp_cmp_r, ↓ownR_b, ↓wp_ne_r, ↓wp_eq_r, ↓wp_ne_t, ↓wp_eq_t, ite_F, Int.reduceNeg, Int.reducePow, Int.reduceLT, Int.reduceLE, Int.reduceToNat, true_and, and_true, true_or, or_true, and_self, decide_true, decide_false, Bool.not_true, Bool.not_false, not_false_eq_true, ne_eq, Bool.false_eq_true, ↓wp_isiT, ↓wp_isiC, kindB_non, kindB_b, kindB_i, kindB_s, kindB_t, kindB_r, kindO_r, kindO_non, kindO_b, kindO_i, kindO_s, kindO_t, isi_nn, isi_bs, isi_is, isi_ss, isi_ts, isi_ls, isi_ds, mem_str, ↓wp_in_t, ↓wp_in_s, ↓wp_inOwn, ↓wp_inOwn_t, ↓wp_inOwn_s, ↓wp_att, ↓wp_met, ↓wp_setF, ↓wp_str_s, ↓wp_str_i, ↓wp_str_r, ↓strR_s, ↓wp_fmt_s, ↓wp_js0, ↓wp_js1, ↓wp_joined, ↓wp_dict0, ↓wp_list_t, ↓wp_list_l, ↓wp_add_l, ↓wp_bm, ↓wp_split, ↓wp_mkK, ↓wp_appK, ↓wp_cmK, ↓wp_callV, look_new, look_new0, set_new, set_new0, List.length_append, Nat.add_assoc, ↓wp_for1, ↓wp_for0, Src.chk, hl2]
  refine @Tr.mono _ _ _ _ _ (told_body hp2 (by omega) h22 (by omega) h hn) ?_
  rintro f S3 ⟨_, _, _, _, _, _, hf, hp3, he3⟩
  subst hf
  have hl3 := he3 _ _ (by omega) hl2
  simp only [↓wp_run, ↓wp_var, ↓wp_c, ↓wp_op, ↓wp_un, ↓wp_fn, ↓wp_app, ↓wp_ap, ↓wp_nil, ↓wp_cons, ↓wp_mkTup, ↓wp_mkLst, ↓wp_tup, ↓wp_lst, ↓wp_asB, ↓wp_test, ↓wp_tru, ↓wp_and, ↓wp_or, ↓wp_not, ↓wp_if, ↓wp_andV, ↓wp_orV, ↓wp_notV, ↓wp_yes, ↓seqK_nx, ↓seqK_rt, ↓seqK_bk, ↓seqK_ct, ↓seqK_xc, ↓wp_seq, ↓wp_lft, ↓wp_next, ↓wp_brk, ↓wp_cont, ↓wp_sbad, ↓wp_expr, ↓wp_sret, ↓wp_sretN, ↓wp_sif, ↓wp_asg, ↓wp_gN, ↓wp_gT, ↓wp_par, ↓wp_gIx, ↓wp_fld, ↓finK_nx, ↓finK_rt, ↓finK_xc, ↓wp_mk, ↓wp_srcT, ↓wp_src, ↓wp_rng1, ↓wp_rng2, ↓wp_for, ↓forK_nx, ↓forK_ct, ↓forK_bk, ↓forK_rt, ↓wp_ok, ↓wp_ret, ↓wp_bnd, ↓wp_Rbnd, ↓wp_calm, ↓wp_t, ↓wp_f, startC, List.map_cons, List.map_nil, List.length_cons, List.length_nil, List.replicate_succ, List.replicate_zero, List.cons_append, List.nil_append, List.append_assoc, List.getElem?_cons_zero, List.getElem?_cons_succ, List.set_cons_zero, List.set_cons_succ, Nat.reduceAdd, Nat.reduceSub, Nat.zero_add, if_true, if_false, ite_true, ite_false, reduceIte, sizeLine, Nat.reducePow, Nat.reduceLeDiff, Nat.reduceEqDiff, atI_0, atI_1, atI_2, atI_3, ↓wp_add_i, ↓wp_add_s, ↓wp_sub_i, ↓wp_mul_i, ↓wp_mod_i, ↓wp_fdiv_i, ↓wp_pow_i, ↓wp_lt_i, ↓wp_le_i, ↓wp_gt_i, ↓wp_ge_i, ↓wp_lt_s, ↓wp_le_s, ↓wp_eq_i, ↓wp_ne_i, ↓wp_eq_s, ↓wp_ne_s, ↓wp_ix_t, ↓wp_ix_l, ↓wp_ix_s, ↓wp_setIx, ↓wp_len_s, ↓wp_len_t, ↓wp_len_l, ↓wp_abs, ↓wp_int, ↓wp_int_b, ↓wp_tru_b, ↓wp_tru_i, ↓wp_tru_non, ↓wp_tru_t, ↓wp_src_l, ↓wp_cmp_i, ↓wp_cmp_s, ↓wp_cmp_b, ↓wp_cmp_t, ↓wp_cmp_non, ↓wp_cmp_r, ↓ownR_b, ↓wp_ne_r, ↓wp_eq_r, ↓wp_ne_t, ↓wp_eq_t, ite_F, Int.reduceNeg, Int.reducePow, Int.reduceLT, Int.reduceLE, Int.reduceToNat, true_and, and_true, true_or, or_true, and_self, decide_true, decide_false, Bool.not_true, Bool.not_false, not_false_eq_true, ne_eq, Bool.false_eq_true, ↓wp_isiT, ↓wp_isiC, kindB_non, kindB_b, kindB_i, kindB_s, kindB_t, kindB_r, kindO_r, kindO_non, kindO_b, kindO_i, kindO_s, kindO_t, isi_nn, isi_bs, isi_is, isi_ss, isi_ts, isi_ls, isi_ds, mem_str, ↓wp_in_t, ↓wp_in_s, ↓wp_inOwn, ↓wp_inOwn_t, ↓wp_inOwn_s, ↓wp_att, ↓wp_met, ↓wp_setF, ↓wp_str_s, ↓wp_str_i, ↓wp_str_r, ↓strR_s, ↓wp_fmt_s, ↓wp_js0, ↓wp_js1, ↓wp_joined, ↓wp_dict0, ↓wp_list_t, ↓wp_list_l, ↓wp_add_l, ↓wp_bm, ↓wp_split, ↓wp_mkK, ↓wp_appK, ↓wp_cmK, ↓wp_callV, look_new, look_new0, set_new, set_new0, List.length_append, Nat.add_assoc, ↓wp_for1, ↓wp_for0, Src.chk, hl3]
  exact ⟨hp3.le (by omega), ((Ext.app.trans he1).trans he2).trans he3⟩
end
end L02
set_option Elab.async false
set_option linter.all false
set_option maxRecDepth 100000
set_option maxHeartbeats 4000000
namespace L02
open PySem PySem.Spec PyProof.Rows L2 MW
section
variable {Q : CV → Sto → Prop} {E : Str → List (Str × CV) → Sto → Prop} {S : Sto} {x x' : Nat} {n n' k j : Nat} {y : CV} {s : Str}
theorem lex_same : MW.sameAll [.str (ch x), .int n] [.str (ch x'), .int n'] = true := rfl
theorem lex_eq : lexP [.str (ch x), .int n] [.str (ch x'), .int n'] = decide ((⟨#[x, 48 + n]⟩ : Str).cps.toList < (⟨#[x', 48 + n']⟩ : Str).cps.toList) := by
  have e : ∀ a b c d : Nat, decide ((⟨#[a, b]⟩ : Str).cps.toList < (⟨#[c, d]⟩ : Str).cps.toList) = decide (a < c ∨ a = c ∧ b < d) := by
    intro a b c d
    show decide ([a, b] < [c, d]) = _
    apply decide_eq_decide.mpr
    simp [List.cons_lt_cons_iff]
  rw [e]
  unfold lexP
  simp [Ob.lexAt, eqP, ltP]
  by_cases e1 : x = x'
  · subst e1
    rw [if_pos rfl]
    by_cases e2 : n < n'
    · have : ¬ ((n : Int) = (n' : Int)) := by omega
      simp [e2, this]
    · simp [e2]
  · rw [if_neg e1]
    simp [e1, List.cons_lt_cons_iff]
theorem sh2 (h : Lt x) (hn : N3 n) : SeqAt.shaped (.tuple [.str (ch x), .int n]) = true := by
  simp only [SeqAt.shaped, PyData.canLay0, PyData.canLayAll0, ok1 h, PyData.depth, PyData.depthAll]; rfl
theorem eqD_t (h : Lt x) (h' : Lt x') (hn : N3 n) (hn' : N3 n') : eqD S (.tup [.str (ch x), .int n]) (.tup [.str (ch x'), .int n']) = some (ch x == ch x' && ((n : Int) == (n' : Int))) := by
  show (if SeqAt.shaped (.tuple [.str (ch x), .int n]) && SeqAt.shaped (.tuple [.str (ch x'), .int n']) then some _ else none) = _
  rw [sh2 h hn, sh2 h' hn']
  simp [PyData.eqv, PyData.eqvAll]
theorem rp_b3 (l : List Bool) (hl : l.length = 3) : ((PyData.list (l.map .bool)).showable && !(PyData.list (l.map .bool)).hasDict && decide ((PyData.list (l.map .bool)).depth ≤ 60) && decide ((PyData.list (l.map .bool)).shown.length ≤ sizeLine)) = true := by
  match l, hl with
  | [b1, b2, b3], _ =>
    refine rp_mk ?_ ?_ ?_ ?_
    · simp [PyData.layable0, PyData.canLay0, PyData.canLayAll0, PyData.depth, PyData.depthAll, PyData.weight, PyData.weightAll]
    · simp [PyData.intsShort, PyData.intsShortAll]
    · simp [PyData.showable, PyData.showableAll]
    · simp [PyData.depth, PyData.depthAll]
theorem wp_repr_b3 {b1 b2 b3 : Bool} (h : S[k]? = some (.lst [.bl b1, .bl b2, .bl b3])) : Wp (reprC [.ref k] S) Q E = Q (.str (PyData.shown (.list [.bool b1, .bool b2, .bool b3]))) S := by
  refine wp_repr_d ?_ (rp_b3 [b1, b2, b3] rfl)
  rw [td_ref, h]; rfl
theorem eq_odd (hk : S[k]? = some (ko x n)) (hn : N3 n) (hy : (kindB S y).isSome = true) : cmpOwn own_eq_0 nf_x_0_c nf_x_0_b id eqC (.ref k) y S = .ok (.bl false) S := by
  obtain ⟨t, ht⟩ := Option.isSome_iff_exists.mp hy
  apply eq_of_wp
  simp only [↓wp_run, ↓wp_var, ↓wp_c, ↓wp_op, ↓wp_un, ↓wp_fn, ↓wp_app, ↓wp_ap, ↓wp_nil, ↓wp_cons, ↓wp_mkTup, ↓wp_mkLst, ↓wp_tup, ↓wp_lst, ↓wp_asB, ↓wp_test, ↓wp_tru, ↓wp_and, ↓wp_or, ↓wp_not, ↓wp_if, ↓wp_andV, ↓wp_orV, ↓wp_notV, ↓wp_yes, ↓seqK_nx, ↓seqK_rt, ↓seqK_bk, ↓seqK_ct, ↓seqK_xc, ↓wp_seq, ↓wp_lft, ↓wp_next, ↓wp_brk, ↓wp_cont, ↓wp_sbad, ↓wp_expr, ↓wp_sret, ↓wp_sretN, ↓wp_sif, ↓wp_asg, ↓wp_gN, ↓wp_gT, ↓wp_par, ↓wp_gIx, ↓wp_fld, ↓finK_nx, ↓finK_rt, ↓finK_xc, ↓wp_mk, ↓wp_srcT, ↓wp_src, ↓wp_rng1, ↓wp_rng2, ↓wp_for, ↓forK_nx, ↓forK_ct, ↓forK_bk, ↓forK_rt, ↓wp_ok, ↓wp_ret, ↓wp_bnd, ↓wp_Rbnd, ↓wp_calm, ↓wp_t, ↓wp_f, startC, List.map_cons, List.map_nil, List.length_cons, List.length_nil, List.replicate_succ, List.replicate_zero, List.cons_append, List.nil_append, List.append_assoc, List.getElem?_cons_zero, List.getElem?_cons_succ, List.set_cons_zero, List.set_cons_succ, Nat.reduceAdd, Nat.reduceSub, Nat.zero_add, if_true, if_false, ite_true, ite_false, reduceIte, sizeLine, Nat.reducePow, Nat.reduceLeDiff, Nat.reduceEqDiff, atI_0, atI_1, atI_2, atI_3, ↓wp_add_i, ↓wp_add_s, ↓wp_sub_i, ↓wp_mul_i, ↓wp_mod_i, ↓wp_fdiv_i, ↓wp_pow_i, ↓wp_lt_i, ↓wp_le_i, ↓wp_gt_i, ↓wp_ge_i, ↓wp_lt_s, ↓wp_le_s, ↓wp_eq_i, ↓wp_ne_i, ↓wp_eq_s, ↓wp_ne_s, ↓wp_ix_t, ↓wp_ix_l, ↓wp_ix_s, ↓wp_setIx, ↓wp_len_s, ↓wp_len_t, ↓wp_len_l, ↓wp_abs, ↓wp_int, ↓wp_int_b, ↓wp_tru_b, ↓wp_tru_i, ↓wp_tru_non, ↓wp_tru_t, ↓wp_src_l, ↓wp_cmp_i, ↓wp_cmp_s, ↓wp_cmp_b, ↓wp_cmp_t, ↓wp_cmp_non, ↓wp_cmp_r, ↓ownR_b, ↓wp_ne_r, ↓wp_eq_r, ↓wp_ne_t, ↓wp_eq_t, ite_F, Int.reduceNeg, Int.reducePow, Int.reduceLT, Int.reduceLE, Int.reduceToNat, true_and, and_true, true_or, or_true, and_self, decide_true, decide_false, Bool.not_true, Bool.not_false, not_false_eq_true, ne_eq, Bool.false_eq_true, ↓wp_isiT, ↓wp_isiC, kindB_non, kindB_b, kindB_i, kindB_s, kindB_t, kindB_r, kindO_r, kindO_non, kindO_b, kindO_i, kindO_s, kindO_t, isi_nn, isi_bs, isi_is, isi_ss, isi_ts, isi_ls, isi_ds, mem_str, ↓wp_in_t, ↓wp_in_s, ↓wp_inOwn, ↓wp_inOwn_t, ↓wp_inOwn_s, ↓wp_att, ↓wp_met, ↓wp_setF, ↓wp_str_s, ↓wp_str_i, ↓wp_str_r, ↓strR_s, ↓wp_fmt_s, ↓wp_js0, ↓wp_js1, ↓wp_joined, ↓wp_dict0, ↓wp_list_t, ↓wp_list_l, ↓wp_add_l, ↓wp_bm, ↓wp_split, ↓wp_mkK, ↓wp_appK, ↓wp_cmK, ↓wp_callV, hk, lk_eq hn, mayR, ht, in_nfb hn, ↓wp_eq_o hk hy, id]
theorem ne_odd (hk : S[k]? = some (ko x n)) (hn : N3 n) (hy : (kindB S y).isSome = true) : cmpOwn own_eq_0 nf_x_0_c nf_x_0_b (fun b => !b) neC (.ref k) y S = .ok (.bl true) S := by
  obtain ⟨t, ht⟩ := Option.isSome_iff_exists.mp hy
  apply eq_of_wp
  simp only [↓wp_run, ↓wp_var, ↓wp_c, ↓wp_op, ↓wp_un, ↓wp_fn, ↓wp_app, ↓wp_ap, ↓wp_nil, ↓wp_cons, ↓wp_mkTup, ↓wp_mkLst, ↓wp_tup, ↓wp_lst, ↓wp_asB, ↓wp_test, ↓wp_tru, ↓wp_and, ↓wp_or, ↓wp_not, ↓wp_if, ↓wp_andV, ↓wp_orV, ↓wp_notV, ↓wp_yes, ↓seqK_nx, ↓seqK_rt, ↓seqK_bk, ↓seqK_ct, ↓seqK_xc, ↓wp_seq, ↓wp_lft, ↓wp_next, ↓wp_brk, ↓wp_cont, ↓wp_sbad, ↓wp_expr, ↓wp_sret, ↓wp_sretN, ↓wp_sif, ↓wp_asg, ↓wp_gN, ↓wp_gT, ↓wp_par, ↓wp_gIx, ↓wp_fld, ↓finK_nx, ↓finK_rt, ↓finK_xc, ↓wp_mk, ↓wp_srcT, ↓wp_src, ↓wp_rng1, ↓wp_rng2, ↓wp_for, ↓forK_nx, ↓forK_ct, ↓forK_bk, ↓forK_rt, ↓wp_ok, ↓wp_ret, ↓wp_bnd, ↓wp_Rbnd, ↓wp_calm, ↓wp_t, ↓wp_f, startC, List.map_cons, List.map_nil, List.length_cons, List.length_nil, List.replicate_succ, List.replicate_zero, List.cons_append, List.nil_append, List.append_assoc, List.getElem?_cons_zero, List.getElem?_cons_succ, List.set_cons_zero, List.set_cons_succ, Nat.reduceAdd, Nat.reduceSub, Nat.zero_add, if_true, if_false, ite_true, ite_false, reduceIte, sizeLine, Nat.reducePow, Nat.reduceLeDiff, Nat.reduceEqDiff, atI_0, atI_1, atI_2, atI_3, ↓wp_add_i, ↓wp_add_s, ↓wp_sub_i, ↓wp_mul_i, ↓wp_mod_i, ↓wp_fdiv_i, ↓wp_pow_i, ↓wp_lt_i, ↓wp_le_i, ↓wp_gt_i, ↓wp_ge_i, ↓wp_lt_s, ↓wp_le_s, ↓wp_eq_i, ↓wp_ne_i, ↓wp_eq_s, ↓wp_ne_s, ↓wp_ix_t, ↓wp_ix_l, ↓wp_ix_s, ↓wp_setIx, ↓wp_len_s, ↓wp_len_t, ↓wp_len_l, ↓wp_abs, ↓wp_int, ↓wp_int_b, ↓wp_tru_b, ↓wp_tru_i, ↓wp_tru_non, ↓wp_tru_t, ↓wp_src_l, ↓wp_cmp_i, ↓wp_cmp_s, ↓wp_cmp_b, ↓wp_cmp_t, ↓wp_cmp_non, ↓wp_cmp_r, ↓ownR_b, ↓wp_ne_r, ↓wp_eq_r, ↓wp_ne_t, ↓wp_eq_t, ite_F, Int.reduceNeg, Int.reducePow, Int.reduceLT, Int.reduceLE, Int.reduceToNat, true_and, and_true, true_or, or_true, and_self, decide_true, decide_false, Bool.not_true, Bool.not_false, not_false_eq_true, ne_eq, Bool.false_eq_true, ↓wp_isiT, ↓wp_isiC, kindB_non, kindB_b, kindB_i, kindB_s, kindB_t, kindB_r, kindO_r, kindO_non, kindO_b, kindO_i, kindO_s, kindO_t, isi_nn, isi_bs, isi_is, isi_ss, isi_ts, isi_ls, isi_ds, mem_str, ↓wp_in_t, ↓wp_in_s, ↓wp_inOwn, ↓wp_inOwn_t, ↓wp_inOwn_s, ↓wp_att, ↓wp_met, ↓wp_setF, ↓wp_str_s, ↓wp_str_i, ↓wp_str_r, ↓strR_s, ↓wp_fmt_s, ↓wp_js0, ↓wp_js1, ↓wp_joined, ↓wp_dict0, ↓wp_list_t, ↓wp_list_l, ↓wp_add_l, ↓wp_bm, ↓wp_split, ↓wp_mkK, ↓wp_appK, ↓wp_cmK, ↓wp_callV, hk, lk_eq hn, mayR, ht, in_nfb hn, ↓wp_eq_o hk hy, id]
theorem odd_test {r0 r1 r3 r4 : Option CV} (hk : S[k]? = some (ko x n)) (hn : N3 n) (hy : (kindB S y).isSome = true) : (mOr (mTest (mOp (cmpOwn own_eq_0 nf_x_0_c nf_x_0_b id eqC) (mVar 2) (mVar 5))) (mNot (mTest (mOp (cmpOwn own_eq_0 nf_x_0_c nf_x_0_b (fun b => !b) neC) (mVar 2) (mVar 5))))) [r0, r1, some (.ref k), r3, r4, some y] S = .ok false S := by
  have e1 := eq_odd hk hn hy
  have e2 := ne_odd hk hn hy
  apply eq_of_wp
  simp only [↓wp_run, ↓wp_var, ↓wp_c, ↓wp_op, ↓wp_un, ↓wp_fn, ↓wp_app, ↓wp_ap, ↓wp_nil, ↓wp_cons, ↓wp_mkTup, ↓wp_mkLst, ↓wp_tup, ↓wp_lst, ↓wp_asB, ↓wp_test, ↓wp_tru, ↓wp_and, ↓wp_or, ↓wp_not, ↓wp_if, ↓wp_andV, ↓wp_orV, ↓wp_notV, ↓wp_yes, ↓seqK_nx, ↓seqK_rt, ↓seqK_bk, ↓seqK_ct, ↓seqK_xc, ↓wp_seq, ↓wp_lft, ↓wp_next, ↓wp_brk, ↓wp_cont, ↓wp_sbad, ↓wp_expr, ↓wp_sret, ↓wp_sretN, ↓wp_sif, ↓wp_asg, ↓wp_gN, ↓wp_gT, ↓wp_par, ↓wp_gIx, ↓wp_fld, ↓finK_nx, ↓finK_rt, ↓finK_xc, ↓wp_mk, ↓wp_srcT, ↓wp_src, ↓wp_rng1, ↓wp_rng2, ↓wp_for, ↓forK_nx, ↓forK_ct, ↓forK_bk, ↓forK_rt, ↓wp_ok, ↓wp_ret, ↓wp_bnd, ↓wp_Rbnd, ↓wp_calm, ↓wp_t, ↓wp_f, startC, List.map_cons, List.map_nil, List.length_cons, List.length_nil, List.replicate_succ, List.replicate_zero, List.cons_append, List.nil_append, List.append_assoc, List.getElem?_cons_zero, List.getElem?_cons_succ, List.set_cons_zero, List.set_cons_succ, Nat.reduceAdd, Nat.reduceSub, Nat.zero_add, if_true, if_false, ite_true, ite_false, reduceIte, sizeLine, Nat.reducePow, Nat.reduceLeDiff, Nat.reduceEqDiff]
  rw [wp_eq e1]
  simp only [↓wp_run, ↓wp_var, ↓wp_c, ↓wp_op, ↓wp_un, ↓wp_fn, ↓wp_app, ↓wp_ap, ↓wp_nil, ↓wp_cons, ↓wp_mkTup, ↓wp_mkLst, ↓wp_tup, ↓wp_lst, ↓wp_asB, ↓wp_test, ↓wp_tru, ↓wp_and, ↓wp_or, ↓wp_not, ↓wp_if, ↓wp_andV, ↓wp_orV, ↓wp_notV, ↓wp_yes, ↓seqK_nx, ↓seqK_rt, ↓seqK_bk, ↓seqK_ct, ↓seqK_xc, ↓wp_seq, ↓wp_lft, ↓wp_next, ↓wp_brk, ↓wp_cont, ↓wp_sbad, ↓wp_expr, ↓wp_sret, ↓wp_sretN, ↓wp_sif, ↓wp_asg, ↓wp_gN, ↓wp_gT, ↓wp_par, ↓wp_gIx, ↓wp_fld, ↓finK_nx, ↓finK_rt, ↓finK_xc, ↓wp_mk, ↓wp_srcT, ↓wp_src, ↓wp_rng1, ↓wp_rng2, ↓wp_for, ↓forK_nx, ↓forK_ct, ↓forK_bk, ↓forK_rt, ↓wp_ok, ↓wp_ret, ↓wp_bnd, ↓wp_Rbnd, ↓wp_calm, ↓wp_t, ↓wp_f, startC, List.map_cons, List.map_nil, List.length_cons, List.length_nil, List.replicate_succ, List.replicate_zero, List.cons_append, List.nil_append, List.append_assoc, List.getElem?_cons_zero, List.getElem?_cons_succ, List.set_cons_zero, List.set_cons_succ, Nat.reduceAdd, Nat.reduceSub, Nat.zero_add, if_true, if_false, ite_true, ite_false, reduceIte, sizeLine, Nat.reducePow, Nat.reduceLeDiff, Nat.reduceEqDiff]
  rw [wp_eq e2]
  simp only [↓wp_run, ↓wp_var, ↓wp_c, ↓wp_op, ↓wp_un, ↓wp_fn, ↓wp_app, ↓wp_ap, ↓wp_nil, ↓wp_cons, ↓wp_mkTup, ↓wp_mkLst, ↓wp_tup, ↓wp_lst, ↓wp_asB, ↓wp_test, ↓wp_tru, ↓wp_and, ↓wp_or, ↓wp_not, ↓wp_if, ↓wp_andV, ↓wp_orV, ↓wp_notV, ↓wp_yes, ↓seqK_nx, ↓seqK_rt, ↓seqK_bk, ↓seqK_ct, ↓seqK_xc, ↓wp_seq, ↓wp_lft, ↓wp_next, ↓wp_brk, ↓wp_cont, ↓wp_sbad, ↓wp_expr, ↓wp_sret, ↓wp_sretN, ↓wp_sif, ↓wp_asg, ↓wp_gN, ↓wp_gT, ↓wp_par, ↓wp_gIx, ↓wp_fld, ↓finK_nx, ↓finK_rt, ↓finK_xc, ↓wp_mk, ↓wp_srcT, ↓wp_src, ↓wp_rng1, ↓wp_rng2, ↓wp_for, ↓forK_nx, ↓forK_ct, ↓forK_bk, ↓forK_rt, ↓wp_ok, ↓wp_ret, ↓wp_bnd, ↓wp_Rbnd, ↓wp_calm, ↓wp_t, ↓wp_f, startC, List.map_cons, List.map_nil, List.length_cons, List.length_nil, List.replicate_succ, List.replicate_zero, List.cons_append, List.nil_append, List.append_assoc, List.getElem?_cons_zero, List.getElem?_cons_succ, List.set_cons_zero, List.set_cons_succ, Nat.reduceAdd, Nat.reduceSub, Nat.zero_add, if_true, if_false, ite_true, ite_false, reduceIte, sizeLine, Nat.reducePow, Nat.reduceLeDiff, Nat.reduceEqDiff, Bool.not_true, and_self]
theorem pairr (h : Lt x) (h' : Lt x') (hn : N3 n) (hn' : N3 n') :
    Tr (m__law_pair_right [.tup [.str (ch x), .int n], .tup [.str (ch x'), .int n']] S) (fun v S' => v = .bl true ∧ ∃ l, S' = S ++ l) := by
  constructor
  have ej : ∀ l Q E, Wp (m_Kind___eq__ [.ref S.length, .ref (S.length + 1)] (S ++ ko x n :: ko x' n' :: l)) Q E = Q (.bl (ch x == ch x' && ((n : Int) == (n' : Int)))) (S ++ ko x n :: ko x' n' :: l) := fun l Q E => wp_eq_k look_new0 (look_new (k := 1)) hn hn'
  have ltj : ∀ l Q E, Wp (m_Kind___lt__ [.ref S.length, .ref (S.length + 1)] (S ++ ko x n :: ko x' n' :: l)) Q E = Q (.bl (decide ((⟨#[x, 48 + n]⟩ : Str).cps.toList < (⟨#[x', 48 + n']⟩ : Str).cps.toList))) (S ++ ko x n :: ko x' n' :: l) := fun l Q E => wp_lt_k look_new0 (look_new (k := 1)) hn hn'
  have stj : ∀ l Q E, Wp (m_Kind___str__ [.ref S.length] (S ++ ko x n :: l)) Q E = Q (.str ⟨#[x, 48 + n]⟩) (S ++ ko x n :: l) := fun l Q E => wp_str_k look_new0 hn
  have poj : ∀ l Q E, Wp (m_Kind_ports [.ref S.length] (S ++ ko x n :: l)) Q E = Q (.tup (prt x n)) ((S ++ ko x n :: l) ++ [.lst (prt x n)]) := fun l Q E => wp_ports look_new0 hn
  have r2 : ∀ a b b1 b2 b3 l Q E, Wp (reprC [.ref (S.length + 2)] (S ++ a :: b :: CO.lst [.bl b1, .bl b2, .bl b3] :: l)) Q E = Q (.str (PyData.shown (.list [.bool b1, .bool b2, .bool b3]))) (S ++ a :: b :: CO.lst [.bl b1, .bl b2, .bl b3] :: l) := fun a b b1 b2 b3 l Q E => wp_repr_b3 (look_new (k := 2))
  have r3 : ∀ a b c b1 b2 b3 l Q E, Wp (reprC [.ref (S.length + 3)] (S ++ a :: b :: c :: CO.lst [.bl b1, .bl b2, .bl b3] :: l)) Q E = Q (.str (PyData.shown (.list [.bool b1, .bool b2, .bool b3]))) (S ++ a :: b :: c :: CO.lst [.bl b1, .bl b2, .bl b3] :: l) := fun a b c b1 b2 b3 l Q E => wp_repr_b3 (look_new (k := 3))
  unfold m__law_pair_right b__law_pair_right
  simp only [↓wp_run, ↓wp_var, ↓wp_c, ↓wp_op, ↓wp_un, ↓wp_fn, ↓wp_app, ↓wp_ap, ↓wp_nil, ↓wp_cons, ↓wp_mkTup, ↓wp_mkLst, ↓wp_tup, ↓wp_lst, ↓wp_asB, ↓wp_test, ↓wp_tru, ↓wp_and, ↓wp_or, ↓wp_not, ↓wp_if, ↓wp_andV, ↓wp_orV, ↓wp_notV, ↓wp_yes, ↓seqK_nx, ↓seqK_rt, ↓seqK_bk, ↓seqK_ct, ↓seqK_xc, ↓wp_seq, ↓wp_lft, ↓wp_next, ↓wp_brk, ↓wp_cont, ↓wp_sbad, ↓wp_expr, ↓wp_sret, ↓wp_sretN, ↓wp_sif, ↓wp_asg, ↓wp_gN, ↓wp_gT, ↓wp_par, ↓wp_gIx, ↓wp_fld, ↓finK_nx, ↓finK_rt, ↓finK_xc, ↓wp_mk, ↓wp_srcT, ↓wp_src, ↓wp_rng1, ↓wp_rng2, ↓wp_for, ↓forK_nx, ↓forK_ct, ↓forK_bk, ↓forK_rt, ↓wp_ok, ↓wp_ret, ↓wp_bnd, ↓wp_Rbnd, ↓wp_calm, ↓wp_t, ↓wp_f, startC, List.map_cons, List.map_nil, List.length_cons, List.length_nil, List.replicate_succ, List.replicate_zero, List.cons_append, List.nil_append, List.append_assoc, List.getElem?_cons_zero, List.getElem?_cons_succ, List.set_cons_zero, List.set_cons_succ, Nat.reduceAdd, Nat.reduceSub, Nat.zero_add, if_true, if_false, ite_true, ite_false, reduceIte, sizeLine, Nat.reducePow, Nat.reduceLeDiff, Nat.reduceEqDiff, atI_0, atI_1, atI_2, atI_3, ↓wp_add_i, ↓wp_add_s, ↓wp_sub_i, ↓wp_mul_i, ↓wp_mod_i, ↓wp_fdiv_i, ↓wp_pow_i, ↓wp_lt_i, ↓wp_le_i, ↓wp_gt_i, ↓wp_ge_i, ↓wp_lt_s, ↓wp_le_s, ↓wp_eq_i, ↓wp_ne_i, ↓wp_eq_s, ↓wp_ne_s, ↓wp_ix_t, ↓wp_ix_l, ↓wp_ix_s, ↓wp_setIx, ↓wp_len_s, ↓wp_len_t, ↓wp_len_l, ↓wp_abs, ↓wp_int, ↓wp_int_b, ↓wp_tru_b, ↓wp_tru_i, ↓wp_tru_non, ↓wp_tru_t, ↓wp_src_l, ↓wp_cmp_i, ↓wp_cmp_s, ↓wp_cmp_b, ↓wp_cmp_t, ↓wp_cmp_non, ↓wp_cmp_r, ↓ownR_b, ↓wp_ne_r, ↓wp_eq_r, ↓wp_ne_t, ↓wp_eq_t, ite_F, Int.reduceNeg, Int.reducePow, Int.reduceLT, Int.reduceLE, Int.reduceToNat, true_and, and_true, true_or, or_true, and_self, decide_true, decide_false, Bool.not_true, Bool.not_false, not_false_eq_true, ne_eq, Bool.false_eq_true, ↓wp_isiT, ↓wp_isiC, kindB_non, kindB_b, kindB_i, kindB_s, kindB_t, kindB_r, kindO_r, kindO_non, kindO_b, kindO_i, kindO_s, kindO_t, isi_nn, isi_bs, isi_is, isi_ss, isi_ts, isi_ls, isi_ds, mem_str, ↓wp_in_t, ↓wp_in_s, ↓wp_inOwn, ↓wp_inOwn_t, ↓wp_inOwn_s, ↓wp_att, ↓wp_met, ↓wp_setF, ↓wp_str_s, ↓wp_str_i, ↓wp_str_r, ↓strR_s, ↓wp_fmt_s, ↓wp_js0, ↓wp_js1, ↓wp_joined, ↓wp_dict0, ↓wp_list_t, ↓wp_list_l, ↓wp_add_l, ↓wp_bm, ↓wp_split, ↓wp_mkK, ↓wp_appK, ↓wp_cmK, ↓wp_callV, ↓chR_t, ↓chR_f, ↓wp_chain, ↓wp_src_s, ↓wp_mul_s, ↓wp_lt_t, ↓wp_att_c, ↓wp_tuple_l, ↓wp_fmt_i, ↓wp_strInt, look_new, look_new0, set_new, set_new0, List.length_append, Nat.add_assoc, ↓wp_made h hn, ↓wp_made h' hn', gNs, lk_eq hn, lk_eq hn', lk_lt hn, lk_lt hn', lk_str hn, lk_ports hn, lk_let hn, lk_f, mayR, in_nfb hn, in_nfc hn hn', ej, ltj, stj, poj, eqD_t h h' hn hn', lex_same, lex_eq, id, r2, r3, beq_self_eq_true]
  have hall : ∀ y ∈ [CV.non, CV.int 0, CV.str ⟨#[x, 48 + n]⟩, CV.str (ch x), CV.tup (prt x n), CV.tup [CV.str (ch x), CV.int n], CV.ref (S.length + 5), CV.ref (S.length + 6)], ∀ o1 o2 o3 o4 o5 l1 l, (kindB (S ++ o1 :: o2 :: o3 :: o4 :: o5 :: .lst l1 :: .dic [] :: l) y).isSome = true := by
    intro y hy o1 o2 o3 o4 o5 l1 l
    simp only [List.mem_cons, List.not_mem_nil, or_false] at hy
    rcases hy with rfl | rfl | rfl | rfl | rfl | rfl | rfl | rfl
    all_goals first | rfl | (rw [kindB_r, look_new]; rfl)
  rw [wp_lcFil (n := S.length + 7) (fun _ => false) id rfl look_new (fun y hy acc => ⟨odd_test (k := S.length) (x := x) (n := n) (look_old look_new0) hn (by rw [List.append_assoc]; exact hall y hy _ _ _ _ _ _ _), fun h => nomatch h⟩) (by show 8 ≤ sizeLine; decide)]
  simp only [↓wp_run, ↓wp_var, ↓wp_c, ↓wp_op, ↓wp_un, ↓wp_fn, ↓wp_app, ↓wp_ap, ↓wp_nil, ↓wp_cons, ↓wp_mkTup, ↓wp_mkLst, ↓wp_tup, ↓wp_lst, ↓wp_asB, ↓wp_test, ↓wp_tru, ↓wp_and, ↓wp_or, ↓wp_not, ↓wp_if, ↓wp_andV, ↓wp_orV, ↓wp_notV, ↓wp_yes, ↓seqK_nx, ↓seqK_rt, ↓seqK_bk, ↓seqK_ct, ↓seqK_xc, ↓wp_seq, ↓wp_lft, ↓wp_next, ↓wp_brk, ↓wp_cont, ↓wp_sbad, ↓wp_expr, ↓wp_sret, ↓wp_sretN, ↓wp_sif, ↓wp_asg, ↓wp_gN, ↓wp_gT, ↓wp_par, ↓wp_gIx, ↓wp_fld, ↓finK_nx, ↓finK_rt, ↓finK_xc, ↓wp_mk, ↓wp_srcT, ↓wp_src, ↓wp_rng1, ↓wp_rng2, ↓wp_for, ↓forK_nx, ↓forK_ct, ↓forK_bk, ↓forK_rt, ↓wp_ok, ↓wp_ret, ↓wp_bnd, ↓wp_Rbnd, ↓wp_calm, ↓wp_t, ↓wp_f, startC, List.map_cons, List.map_nil, List.length_cons, List.length_nil, List.replicate_succ, List.replicate_zero, List.cons_append, List.nil_append, List.append_assoc, List.getElem?_cons_zero, List.getElem?_cons_succ, List.set_cons_zero, List.set_cons_succ, Nat.reduceAdd, Nat.reduceSub, Nat.zero_add, if_true, if_false, ite_true, ite_false, reduceIte, sizeLine, Nat.reducePow, Nat.reduceLeDiff, Nat.reduceEqDiff, atI_0, atI_1, atI_2, atI_3, ↓wp_add_i, ↓wp_add_s, ↓wp_sub_i, ↓wp_mul_i, ↓wp_mod_i, ↓wp_fdiv_i, ↓wp_pow_i, ↓wp_lt_i, ↓wp_le_i, ↓wp_gt_i, ↓wp_ge_i, ↓wp_lt_s, ↓wp_le_s, ↓wp_eq_i, ↓wp_ne_i, ↓wp_eq_s, ↓wp_ne_s, ↓wp_ix_t, ↓wp_ix_l, ↓wp_ix_s, ↓wp_setIx, ↓wp_len_s, ↓wp_len_t, ↓wp_len_l, ↓wp_abs, ↓wp_int, ↓wp_int_b, ↓wp_tru_b, ↓wp_tru_i, ↓wp_tru_non, ↓wp_tru_t, ↓wp_src_l, ↓wp_cmp_i, ↓wp_cmp_s, ↓wp_cmp_b, ↓wp_cmp_t, ↓wp_cmp_non, ↓wp_cmp_r, ↓ownR_b, ↓wp_ne_r, ↓wp_eq_r, ↓wp_ne_t, ↓wp_eq_t, ite_F, Int.reduceNeg, Int.reducePow, Int.reduceLT, Int.reduceLE, Int.reduceToNat, true_and, and_true, true_or, or_true, and_self, decide_true, decide_false, Bool.not_true, Bool.not_false, not_false_eq_true, ne_eq, Bool.false_eq_true, ↓wp_isiT, ↓wp_isiC, kindB_non, kindB_b, kindB_i, kindB_s, kindB_t, kindB_r, kindO_r, kindO_non, kindO_b, kindO_i, kindO_s, kindO_t, isi_nn, isi_bs, isi_is, isi_ss, isi_ts, isi_ls, isi_ds, mem_str, ↓wp_in_t, ↓wp_in_s, ↓wp_inOwn, ↓wp_inOwn_t, ↓wp_inOwn_s, ↓wp_att, ↓wp_met, ↓wp_setF, ↓wp_str_s, ↓wp_str_i, ↓wp_str_r, ↓strR_s, ↓wp_fmt_s, ↓wp_js0, ↓wp_js1, ↓wp_joined, ↓wp_dict0, ↓wp_list_t, ↓wp_list_l, ↓wp_add_l, ↓wp_bm, ↓wp_split, ↓wp_mkK, ↓wp_appK, ↓wp_cmK, ↓wp_callV, look_new, look_new0, set_new, set_new0, List.length_append, Nat.add_assoc]
  rw [eqD_nil (l := []) (look_new (k := 8)) (look_new (k := 9))]
  first | exact ⟨rfl, _, rfl⟩ | exact ⟨rfl, rfl, _, rfl⟩ | exact ⟨rp_b3 _ rfl, rfl, _, rfl⟩ | trace_state
end
end L02
set_option Elab.async false
set_option linter.all false
set_option maxRecDepth 100000
set_option maxHeartbeats 4000000
namespace L02
open PySem PySem.Spec PyProof.Rows L2 MW
section
variable {Q : CV → Sto → Prop} {E : Str → List (Str × CV) → Sto → Prop} {S : Sto} {x x' : Nat} {n n' k j : Nat} {y : CV} {s : Str}
def low (c : Nat) : Bool := decide (97 ≤ c) && decide (c ≤ 122)
theorem in_low : ∀ c : Nat, c < 128 → inStr ⟨#[c]⟩ abc = low c := by decide +kernel
/-- a text of plain signs -/
structure Pl (s : Str) : Prop where
  len : s.length ≤ 20
  chs : ∀ c ∈ s.cps.toList, c < 128
theorem a_cps : (Str.ofString "a").cps.toList = [97] := by decide +kernel
theorem z_cps : (Str.ofString "z").cps.toList = [122] := by decide +kernel
theorem le_a {c : Nat} : (!decide ([c] < [97])) = decide (97 ≤ c) := by
  by_cases h : 97 ≤ c
  · simp [List.cons_lt_cons_iff, h]
  · simp [List.cons_lt_cons_iff, h]; omega
theorem le_z {c : Nat} : (!decide ([122] < [c])) = decide (c ≤ 122) := by
  by_cases h : c ≤ 122
  · simp [List.cons_lt_cons_iff, h]
  · simp [List.cons_lt_cons_iff, h]; omega
/-- 'a' <= z <= 'z' -/
theorem chain_low {c : Nat} {mv : Rho → M CV} {ρ : Rho} (h : mv ρ S = .ok (.str ⟨#[c]⟩) S) : Wp (mChain leC leC (mC (.str "a")) mv (mC (.str "z")) ρ S) Q E = Q (.bl (low c)) S := by
  rw [wp_chain, wp_c, wp_eq h, wp_le_s]
  rw [a_cps, show (⟨#[c]⟩ : Str).cps.toList = [c] from rfl, le_a]
  unfold low
  cases h1 : decide (97 ≤ c) with
  | true => rw [chR_t, wp_c, wp_le_s, z_cps, show (⟨#[c]⟩ : Str).cps.toList = [c] from rfl, le_z, Bool.true_and]
  | false => rw [chR_f, Bool.false_and]
theorem mvar_at {i : Nat} {ρ : Rho} {v : CV} (h : ρ[i]? = some (some v)) : mVar i ρ S = .ok v S := by unfold mVar; rw [h]
theorem one_of_len (h : s.length = 1) : ∃ c, s = ⟨#[c]⟩ ∧ s.cps.toList = [c] := by
  obtain ⟨⟨l⟩⟩ := s
  match l, h with
  | [c], _ => exact ⟨c, rfl, rfl⟩
theorem two_of_len (h : s.length = 2) : ∃ c d, s = ⟨#[c, d]⟩ ∧ s.cps.toList = [c, d] := by
  obtain ⟨⟨l⟩⟩ := s
  match l, h with
  | [c, d], _ => exact ⟨c, d, rfl, rfl⟩
def isL (s : Str) : Bool := ((s.length : Int) == 1) && s.cps.toList.all low
theorem sl_20 : 20 ≤ sizeLine := by decide
theorem wp_isL (h : Pl s) : Wp (m_is_letter [.str s] S) Q E = Q (.bl (isL s)) S := by
  have hl : s.length ≤ 16777216 := Nat.le_trans h.len (by decide)
  unfold m_is_letter b_is_letter isL
  by_cases e : s.length = 1
  · obtain ⟨c, rfl, hc⟩ := one_of_len e
    have e1 := in_low c (h.chs c (by rw [hc]; exact List.mem_singleton.mpr rfl))
    have l : (⟨#[c]⟩ : Str).length = 1 := rfl
    have l2 : ((1 : Nat) : Int) == 1 := rfl
    have l1 : 1 ≤ 16777216 := by decide
    simp only [↓wp_run, ↓wp_var, ↓wp_c, ↓wp_op, ↓wp_un, ↓wp_fn, ↓wp_app, ↓wp_ap, ↓wp_nil, ↓wp_cons, ↓wp_mkTup, ↓wp_mkLst, ↓wp_tup, ↓wp_lst, ↓wp_asB, ↓wp_test, ↓wp_tru, ↓wp_and, ↓wp_or, ↓wp_not, ↓wp_if, ↓wp_andV, ↓wp_orV, ↓wp_notV, ↓wp_yes, ↓seqK_nx, ↓seqK_rt, ↓seqK_bk, ↓seqK_ct, ↓seqK_xc, ↓wp_seq, ↓wp_lft, ↓wp_next, ↓wp_brk, ↓wp_cont, ↓wp_sbad, ↓wp_expr, ↓wp_sret, ↓wp_sretN, ↓wp_sif, ↓wp_asg, ↓wp_gN, ↓wp_gT, ↓wp_par, ↓wp_gIx, ↓wp_fld, ↓finK_nx, ↓finK_rt, ↓finK_xc, ↓wp_mk, ↓wp_srcT, ↓wp_src, ↓wp_rng1, ↓wp_rng2, ↓wp_for, ↓forK_nx, ↓forK_ct, ↓forK_bk, ↓forK_rt, ↓wp_ok, ↓wp_ret, ↓wp_bnd, ↓wp_Rbnd, ↓wp_calm, ↓wp_t, ↓wp_f, startC, List.map_cons, List.map_nil, List.length_cons, List.length_nil, List.replicate_succ, List.replicate_zero, List.cons_append, List.nil_append, List.append_assoc, List.getElem?_cons_zero, List.getElem?_cons_succ, List.set_cons_zero, List.set_cons_succ, Nat.reduceAdd, Nat.reduceSub, Nat.zero_add, if_true, if_false, ite_true, ite_false, reduceIte, sizeLine, Nat.reducePow, Nat.reduceLeDiff, Nat.reduceEqDiff, atI_0, atI_1, atI_2, atI_3, ↓wp_add_i, ↓wp_add_s, ↓wp_sub_i, ↓wp_mul_i, ↓wp_mod_i, ↓wp_fdiv_i, ↓wp_pow_i, ↓wp_lt_i, ↓wp_le_i, ↓wp_gt_i, ↓wp_ge_i, ↓wp_lt_s, ↓wp_le_s, ↓wp_eq_i, ↓wp_ne_i, ↓wp_eq_s, ↓wp_ne_s, ↓wp_ix_t, ↓wp_ix_l, ↓wp_ix_s, ↓wp_setIx, ↓wp_len_s, ↓wp_len_t, ↓wp_len_l, ↓wp_abs, ↓wp_int, ↓wp_int_b, ↓wp_tru_b, ↓wp_tru_i, ↓wp_tru_non, ↓wp_tru_t, ↓wp_src_l, ↓wp_cmp_i, ↓wp_cmp_s, ↓wp_cmp_b, ↓wp_cmp_t, ↓wp_cmp_non, ↓wp_cmp_r, ↓ownR_b, ↓wp_ne_r, ↓wp_eq_r, ↓wp_ne_t, ↓wp_eq_t, ite_F, Int.reduceNeg, Int.reducePow, Int.reduceLT, Int.reduceLE, Int.reduceToNat, true_and, and_true, true_or, or_true, and_self, decide_true, decide_false, Bool.not_true, Bool.not_false, not_false_eq_true, ne_eq, Bool.false_eq_true, ↓wp_isiT, ↓wp_isiC, kindB_non, kindB_b, kindB_i, kindB_s, kindB_t, kindB_r, kindO_r, kindO_non, kindO_b, kindO_i, kindO_s, kindO_t, isi_nn, isi_bs, isi_is, isi_ss, isi_ts, isi_ls, isi_ds, mem_str, ↓wp_in_t, ↓wp_in_s, ↓wp_inOwn, ↓wp_inOwn_t, ↓wp_inOwn_s, ↓wp_att, ↓wp_met, ↓wp_setF, ↓wp_str_s, ↓wp_str_i, ↓wp_str_r, ↓strR_s, ↓wp_fmt_s, ↓wp_js0, ↓wp_js1, ↓wp_joined, ↓wp_dict0, ↓wp_list_t, ↓wp_list_l, ↓wp_add_l, ↓wp_bm, ↓wp_split, ↓wp_mkK, ↓wp_appK, ↓wp_cmK, ↓wp_callV, l, l2, e1, List.all_cons, List.all_nil, Bool.and_true, Bool.true_and]
  · have e1 : ((s.length : Int) == 1) = false := by
      rw [beq_eq_false_iff_ne]; omega
    simp only [↓wp_run, ↓wp_var, ↓wp_c, ↓wp_op, ↓wp_un, ↓wp_fn, ↓wp_app, ↓wp_ap, ↓wp_nil, ↓wp_cons, ↓wp_mkTup, ↓wp_mkLst, ↓wp_tup, ↓wp_lst, ↓wp_asB, ↓wp_test, ↓wp_tru, ↓wp_and, ↓wp_or, ↓wp_not, ↓wp_if, ↓wp_andV, ↓wp_orV, ↓wp_notV, ↓wp_yes, ↓seqK_nx, ↓seqK_rt, ↓seqK_bk, ↓seqK_ct, ↓seqK_xc, ↓wp_seq, ↓wp_lft, ↓wp_next, ↓wp_brk, ↓wp_cont, ↓wp_sbad, ↓wp_expr, ↓wp_sret, ↓wp_sretN, ↓wp_sif, ↓wp_asg, ↓wp_gN, ↓wp_gT, ↓wp_par, ↓wp_gIx, ↓wp_fld, ↓finK_nx, ↓finK_rt, ↓finK_xc, ↓wp_mk, ↓wp_srcT, ↓wp_src, ↓wp_rng1, ↓wp_rng2, ↓wp_for, ↓forK_nx, ↓forK_ct, ↓forK_bk, ↓forK_rt, ↓wp_ok, ↓wp_ret, ↓wp_bnd, ↓wp_Rbnd, ↓wp_calm, ↓wp_t, ↓wp_f, startC, List.map_cons, List.map_nil, List.length_cons, List.length_nil, List.replicate_succ, List.replicate_zero, List.cons_append, List.nil_append, List.append_assoc, List.getElem?_cons_zero, List.getElem?_cons_succ, List.set_cons_zero, List.set_cons_succ, Nat.reduceAdd, Nat.reduceSub, Nat.zero_add, if_true, if_false, ite_true, ite_false, reduceIte, sizeLine, Nat.reducePow, Nat.reduceLeDiff, Nat.reduceEqDiff, atI_0, atI_1, atI_2, atI_3, ↓wp_add_i, ↓wp_add_s, ↓wp_sub_i, ↓wp_mul_i, ↓wp_mod_i, ↓wp_fdiv_i, ↓wp_pow_i, ↓wp_lt_i, ↓wp_le_i, ↓wp_gt_i, ↓wp_ge_i, ↓wp_lt_s, ↓wp_le_s, ↓wp_eq_i, ↓wp_ne_i, ↓wp_eq_s, ↓wp_ne_s, ↓wp_ix_t, ↓wp_ix_l, ↓wp_ix_s, ↓wp_setIx, ↓wp_len_s, ↓wp_len_t, ↓wp_len_l, ↓wp_abs, ↓wp_int, ↓wp_int_b, ↓wp_tru_b, ↓wp_tru_i, ↓wp_tru_non, ↓wp_tru_t, ↓wp_src_l, ↓wp_cmp_i, ↓wp_cmp_s, ↓wp_cmp_b, ↓wp_cmp_t, ↓wp_cmp_non, ↓wp_cmp_r, ↓ownR_b, ↓wp_ne_r, ↓wp_eq_r, ↓wp_ne_t, ↓wp_eq_t, ite_F, Int.reduceNeg, Int.reducePow, Int.reduceLT, Int.reduceLE, Int.reduceToNat, true_and, and_true, true_or, or_true, and_self, decide_true, decide_false, Bool.not_true, Bool.not_false, not_false_eq_true, ne_eq, Bool.false_eq_true, ↓wp_isiT, ↓wp_isiC, kindB_non, kindB_b, kindB_i, kindB_s, kindB_t, kindB_r, kindO_r, kindO_non, kindO_b, kindO_i, kindO_s, kindO_t, isi_nn, isi_bs, isi_is, isi_ss, isi_ts, isi_ls, isi_ds, mem_str, ↓wp_in_t, ↓wp_in_s, ↓wp_inOwn, ↓wp_inOwn_t, ↓wp_inOwn_s, ↓wp_att, ↓wp_met, ↓wp_setF, ↓wp_str_s, ↓wp_str_i, ↓wp_str_r, ↓strR_s, ↓wp_fmt_s, ↓wp_js0, ↓wp_js1, ↓wp_joined, ↓wp_dict0, ↓wp_list_t, ↓wp_list_l, ↓wp_add_l, ↓wp_bm, ↓wp_split, ↓wp_mkK, ↓wp_appK, ↓wp_cmK, ↓wp_callV, hl, e1, Bool.false_and]
theorem wp_lisL (h : Pl s) : Wp (m__law_is_letter [.str s] S) Q E = Q (.bl (isL s)) S := by
  have hl : s.length ≤ 16777216 := Nat.le_trans h.len (by decide)
  unfold m__law_is_letter b__law_is_letter isL
  by_cases e : s.length = 1
  · obtain ⟨c, rfl, hc⟩ := one_of_len e
    have l : (⟨#[c]⟩ : Str).length = 1 := rfl
    have l2 : ((1 : Nat) : Int) == 1 := rfl
    have ech : ∀ Q E, Wp (mChain leC leC (mC (.str "a")) (mVar 0) (mC (.str "z")) [some (.str ⟨#[c]⟩)] S) Q E = Q (.bl (low c)) S := fun Q E => chain_low rfl
    simp only [↓wp_run, ↓wp_var, ↓wp_c, ↓wp_op, ↓wp_un, ↓wp_fn, ↓wp_app, ↓wp_ap, ↓wp_nil, ↓wp_cons, ↓wp_mkTup, ↓wp_mkLst, ↓wp_tup, ↓wp_lst, ↓wp_asB, ↓wp_test, ↓wp_tru, ↓wp_and, ↓wp_or, ↓wp_not, ↓wp_if, ↓wp_andV, ↓wp_orV, ↓wp_notV, ↓wp_yes, ↓seqK_nx, ↓seqK_rt, ↓seqK_bk, ↓seqK_ct, ↓seqK_xc, ↓wp_seq, ↓wp_lft, ↓wp_next, ↓wp_brk, ↓wp_cont, ↓wp_sbad, ↓wp_expr, ↓wp_sret, ↓wp_sretN, ↓wp_sif, ↓wp_asg, ↓wp_gN, ↓wp_gT, ↓wp_par, ↓wp_gIx, ↓wp_fld, ↓finK_nx, ↓finK_rt, ↓finK_xc, ↓wp_mk, ↓wp_srcT, ↓wp_src, ↓wp_rng1, ↓wp_rng2, ↓wp_for, ↓forK_nx, ↓forK_ct, ↓forK_bk, ↓forK_rt, ↓wp_ok, ↓wp_ret, ↓wp_bnd, ↓wp_Rbnd, ↓wp_calm, ↓wp_t, ↓wp_f, startC, List.map_cons, List.map_nil, List.length_cons, List.length_nil, List.replicate_succ, List.replicate_zero, List.cons_append, List.nil_append, List.append_assoc, List.getElem?_cons_zero, List.getElem?_cons_succ, List.set_cons_zero, List.set_cons_succ, Nat.reduceAdd, Nat.reduceSub, Nat.zero_add, if_true, if_false, ite_true, ite_false, reduceIte, sizeLine, Nat.reducePow, Nat.reduceLeDiff, Nat.reduceEqDiff, atI_0, atI_1, atI_2, atI_3, ↓wp_add_i, ↓wp_add_s, ↓wp_sub_i, ↓wp_mul_i, ↓wp_mod_i, ↓wp_fdiv_i, ↓wp_pow_i, ↓wp_lt_i, ↓wp_le_i, ↓wp_gt_i, ↓wp_ge_i, ↓wp_lt_s, ↓wp_le_s, ↓wp_eq_i, ↓wp_ne_i, ↓wp_eq_s, ↓wp_ne_s, ↓wp_ix_t, ↓wp_ix_l, ↓wp_ix_s, ↓wp_setIx, ↓wp_len_s, ↓wp_len_t, ↓wp_len_l, ↓wp_abs, ↓wp_int, ↓wp_int_b, ↓wp_tru_b, ↓wp_tru_i, ↓wp_tru_non, ↓wp_tru_t, ↓wp_src_l, ↓wp_cmp_i, ↓wp_cmp_s, ↓wp_cmp_b, ↓wp_cmp_t, ↓wp_cmp_non, ↓wp_cmp_r, ↓ownR_b, ↓wp_ne_r, ↓wp_eq_r, ↓wp_ne_t, ↓wp_eq_t, ite_F, Int.reduceNeg, Int.reducePow, Int.reduceLT, Int.reduceLE, Int.reduceToNat, true_and, and_true, true_or, or_true, and_self, decide_true, decide_false, Bool.not_true, Bool.not_false, not_false_eq_true, ne_eq, Bool.false_eq_true, ↓wp_isiT, ↓wp_isiC, kindB_non, kindB_b, kindB_i, kindB_s, kindB_t, kindB_r, kindO_r, kindO_non, kindO_b, kindO_i, kindO_s, kindO_t, isi_nn, isi_bs, isi_is, isi_ss, isi_ts, isi_ls, isi_ds, mem_str, ↓wp_in_t, ↓wp_in_s, ↓wp_inOwn, ↓wp_inOwn_t, ↓wp_inOwn_s, ↓wp_att, ↓wp_met, ↓wp_setF, ↓wp_str_s, ↓wp_str_i, ↓wp_str_r, ↓strR_s, ↓wp_fmt_s, ↓wp_js0, ↓wp_js1, ↓wp_joined, ↓wp_dict0, ↓wp_list_t, ↓wp_list_l, ↓wp_add_l, ↓wp_bm, ↓wp_split, ↓wp_mkK, ↓wp_appK, ↓wp_cmK, ↓wp_callV, l, l2, ↓ech, List.all_cons, List.all_nil, Bool.and_true, Bool.true_and]
  · have e1 : ((s.length : Int) == 1) = false := by
      rw [beq_eq_false_iff_ne]; omega
    simp only [↓wp_run, ↓wp_var, ↓wp_c, ↓wp_op, ↓wp_un, ↓wp_fn, ↓wp_app, ↓wp_ap, ↓wp_nil, ↓wp_cons, ↓wp_mkTup, ↓wp_mkLst, ↓wp_tup, ↓wp_lst, ↓wp_asB, ↓wp_test, ↓wp_tru, ↓wp_and, ↓wp_or, ↓wp_not, ↓wp_if, ↓wp_andV, ↓wp_orV, ↓wp_notV, ↓wp_yes, ↓seqK_nx, ↓seqK_rt, ↓seqK_bk, ↓seqK_ct, ↓seqK_xc, ↓wp_seq, ↓wp_lft, ↓wp_next, ↓wp_brk, ↓wp_cont, ↓wp_sbad, ↓wp_expr, ↓wp_sret, ↓wp_sretN, ↓wp_sif, ↓wp_asg, ↓wp_gN, ↓wp_gT, ↓wp_par, ↓wp_gIx, ↓wp_fld, ↓finK_nx, ↓finK_rt, ↓finK_xc, ↓wp_mk, ↓wp_srcT, ↓wp_src, ↓wp_rng1, ↓wp_rng2, ↓wp_for, ↓forK_nx, ↓forK_ct, ↓forK_bk, ↓forK_rt, ↓wp_ok, ↓wp_ret, ↓wp_bnd, ↓wp_Rbnd, ↓wp_calm, ↓wp_t, ↓wp_f, startC, List.map_cons, List.map_nil, List.length_cons, List.length_nil, List.replicate_succ, List.replicate_zero, List.cons_append, List.nil_append, List.append_assoc, List.getElem?_cons_zero, List.getElem?_cons_succ, List.set_cons_zero, List.set_cons_succ, Nat.reduceAdd, Nat.reduceSub, Nat.zero_add, if_true, if_false, ite_true, ite_false, reduceIte, sizeLine, Nat.reducePow, Nat.reduceLeDiff, Nat.reduceEqDiff, atI_0, atI_1, atI_2, atI_3, ↓wp_add_i, ↓wp_add_s, ↓wp_sub_i, ↓wp_mul_i, ↓wp_mod_i, ↓wp_fdiv_i, ↓wp_pow_i, ↓wp_lt_i, ↓wp_le_i, ↓wp_gt_i, ↓wp_ge_i, ↓wp_lt_s, ↓wp_le_s, ↓wp_eq_i, ↓wp_ne_i, ↓wp_eq_s, ↓wp_ne_s, ↓wp_ix_t, ↓wp_ix_l, ↓wp_ix_s, ↓wp_setIx, ↓wp_len_s, ↓wp_len_t, ↓wp_len_l, ↓wp_abs, ↓wp_int, ↓wp_int_b, ↓wp_tru_b, ↓wp_tru_i, ↓wp_tru_non, ↓wp_tru_t, ↓wp_src_l, ↓wp_cmp_i, ↓wp_cmp_s, ↓wp_cmp_b, ↓wp_cmp_t, ↓wp_cmp_non, ↓wp_cmp_r, ↓ownR_b, ↓wp_ne_r, ↓wp_eq_r, ↓wp_ne_t, ↓wp_eq_t, ite_F, Int.reduceNeg, Int.reducePow, Int.reduceLT, Int.reduceLE, Int.reduceToNat, true_and, and_true, true_or, or_true, and_self, decide_true, decide_false, Bool.not_true, Bool.not_false, not_false_eq_true, ne_eq, Bool.false_eq_true, ↓wp_isiT, ↓wp_isiC, kindB_non, kindB_b, kindB_i, kindB_s, kindB_t, kindB_r, kindO_r, kindO_non, kindO_b, kindO_i, kindO_s, kindO_t, isi_nn, isi_bs, isi_is, isi_ss, isi_ts, isi_ls, isi_ds, mem_str, ↓wp_in_t, ↓wp_in_s, ↓wp_inOwn, ↓wp_inOwn_t, ↓wp_inOwn_s, ↓wp_att, ↓wp_met, ↓wp_setF, ↓wp_str_s, ↓wp_str_i, ↓wp_str_r, ↓strR_s, ↓wp_fmt_s, ↓wp_js0, ↓wp_js1, ↓wp_joined, ↓wp_dict0, ↓wp_list_t, ↓wp_list_l, ↓wp_add_l, ↓wp_bm, ↓wp_split, ↓wp_mkK, ↓wp_appK, ↓wp_cmK, ↓wp_callV, hl, e1, Bool.false_and]
/-- words -/
def isW (s : Str) : Bool := (decide ((1 : Int) ≤ s.length) && decide ((s.length : Int) ≤ 8)) && s.cps.toList.all low
def fIn : CV → CV
  | .str z => .bl (inStr z abc)
  | _ => .non
theorem chars_in (h : Pl s) : (charsC s).map fIn = (s.cps.toList.map low).map CV.bl := by
  unfold charsC
  rw [List.map_map, List.map_map]
  refine List.map_congr_left fun c hc => ?_
  show CV.bl (inStr ⟨#[c]⟩ abc) = .bl (low c)
  rw [in_low c (h.chs c hc)]
theorem chars_len : (charsC s).length = s.length := by unfold charsC; rw [List.length_map, Array.length_toList]; rfl
theorem chars_mem {v : CV} (h : v ∈ charsC s) : ∃ c ∈ s.cps.toList, v = .str ⟨#[c]⟩ := by
  unfold charsC at h
  obtain ⟨c, hc, e⟩ := List.mem_map.mp h
  exact ⟨c, hc, e.symm⟩
theorem src_str {i : Nat} {ρ : Rho} (h : ρ[i]? = some (some (.str s))) : mSrc (mVar i) ρ S = .ok ⟨charsC s, none⟩ S := by
  unfold mSrc bnd
  rw [mvar_at h]; rfl
theorem word_lc (h : Pl s) {r : Option CV} : Wp (mLc (mSrc (mVar 0)) (cN 1) mYes (mOp (inC false) (mVar 1) (mC (.str "abcdefghijklmnopqrstuvwxyz"))) [1] [some (.str s), r] S) Q E = Q (.ref S.length) (S ++ [.lst ((s.cps.toList.map low).map CV.bl)]) := by
  rw [← chars_in h]
  refine wp_lcFree fIn (src_str rfl) ?_ ?_
  · intro v hv acc
    obtain ⟨c, hc, rfl⟩ := chars_mem hv
    rfl
  · rw [chars_len]; exact Nat.le_trans h.len sl_20
theorem all_id {l : List Nat} : (l.map low).all id = l.all low := by rw [List.all_map]; rfl
theorem wp_isW (h : Pl s) : Tr (m_is_word [.str s] S) (fun v S' => v = .bl (isW s) ∧ ∃ l, S' = S ++ l) := by
  constructor
  have hl : s.length ≤ 16777216 := Nat.le_trans h.len (by decide)
  unfold m_is_word b_is_word isW
  cases e1 : decide ((1 : Int) ≤ s.length) with
  | false =>
    simp only [↓wp_run, ↓wp_var, ↓wp_c, ↓wp_op, ↓wp_un, ↓wp_fn, ↓wp_app, ↓wp_ap, ↓wp_nil, ↓wp_cons, ↓wp_mkTup, ↓wp_mkLst, ↓wp_tup, ↓wp_lst, ↓wp_asB, ↓wp_test, ↓wp_tru, ↓wp_and, ↓wp_or, ↓wp_not, ↓wp_if, ↓wp_andV, ↓wp_orV, ↓wp_notV, ↓wp_yes, ↓seqK_nx, ↓seqK_rt, ↓seqK_bk, ↓seqK_ct, ↓seqK_xc, ↓wp_seq, ↓wp_lft, ↓wp_next, ↓wp_brk, ↓wp_cont, ↓wp_sbad, ↓wp_expr, ↓wp_sret, ↓wp_sretN, ↓wp_sif, ↓wp_asg, ↓wp_gN, ↓wp_gT, ↓wp_par, ↓wp_gIx, ↓wp_fld, ↓finK_nx, ↓finK_rt, ↓finK_xc, ↓wp_mk, ↓wp_srcT, ↓wp_src, ↓wp_rng1, ↓wp_rng2, ↓wp_for, ↓forK_nx, ↓forK_ct, ↓forK_bk, ↓forK_rt, ↓wp_ok, ↓wp_ret, ↓wp_bnd, ↓wp_Rbnd, ↓wp_calm, ↓wp_t, ↓wp_f, startC, List.map_cons, List.map_nil, List.length_cons, List.length_nil, List.replicate_succ, List.replicate_zero, List.cons_append, List.nil_append, List.append_assoc, List.getElem?_cons_zero, List.getElem?_cons_succ, List.set_cons_zero, List.set_cons_succ, Nat.reduceAdd, Nat.reduceSub, Nat.zero_add, if_true, if_false, ite_true, ite_false, reduceIte, sizeLine, Nat.reducePow, Nat.reduceLeDiff, Nat.reduceEqDiff, atI_0, atI_1, atI_2, atI_3, ↓wp_add_i, ↓wp_add_s, ↓wp_sub_i, ↓wp_mul_i, ↓wp_mod_i, ↓wp_fdiv_i, ↓wp_pow_i, ↓wp_lt_i, ↓wp_le_i, ↓wp_gt_i, ↓wp_ge_i, ↓wp_lt_s, ↓wp_le_s, ↓wp_eq_i, ↓wp_ne_i, ↓wp_eq_s, ↓wp_ne_s, ↓wp_ix_t, ↓wp_ix_l, ↓wp_ix_s, ↓wp_setIx, ↓wp_len_s, ↓wp_len_t, ↓wp_len_l, ↓wp_abs, ↓wp_int, ↓wp_int_b, ↓wp_tru_b, ↓wp_tru_i, ↓wp_tru_non, ↓wp_tru_t, ↓wp_src_l, ↓wp_cmp_i, ↓wp_cmp_s, ↓wp_cmp_b, ↓wp_cmp_t, ↓wp_cmp_non, ↓wp_cmp_r, ↓ownR_b, ↓wp_ne_r, ↓wp_eq_r, ↓wp_ne_t, ↓wp_eq_t, ite_F, Int.reduceNeg, Int.reducePow, Int.reduceLT, Int.reduceLE, Int.reduceToNat, true_and, and_true, true_or, or_true, and_self, decide_true, decide_false, Bool.not_true, Bool.not_false, not_false_eq_true, ne_eq, Bool.false_eq_true, ↓wp_isiT, ↓wp_isiC, kindB_non, kindB_b, kindB_i, kindB_s, kindB_t, kindB_r, kindO_r, kindO_non, kindO_b, kindO_i, kindO_s, kindO_t, isi_nn, isi_bs, isi_is, isi_ss, isi_ts, isi_ls, isi_ds, mem_str, ↓wp_in_t, ↓wp_in_s, ↓wp_inOwn, ↓wp_inOwn_t, ↓wp_inOwn_s, ↓wp_att, ↓wp_met, ↓wp_setF, ↓wp_str_s, ↓wp_str_i, ↓wp_str_r, ↓strR_s, ↓wp_fmt_s, ↓wp_js0, ↓wp_js1, ↓wp_joined, ↓wp_dict0, ↓wp_list_t, ↓wp_list_l, ↓wp_add_l, ↓wp_bm, ↓wp_split, ↓wp_mkK, ↓wp_appK, ↓wp_cmK, ↓wp_callV, ↓chR_t, ↓chR_f, ↓wp_chain, ↓wp_src_s, ↓wp_mul_s, ↓wp_lt_t, ↓wp_att_c, ↓wp_tuple_l, ↓wp_fmt_i, ↓wp_strInt, hl, e1, Bool.false_and]
    exact ⟨[], by rw [List.append_nil]⟩
  | true =>
    cases e2 : decide ((s.length : Int) ≤ 8) with
    | false =>
      simp only [↓wp_run, ↓wp_var, ↓wp_c, ↓wp_op, ↓wp_un, ↓wp_fn, ↓wp_app, ↓wp_ap, ↓wp_nil, ↓wp_cons, ↓wp_mkTup, ↓wp_mkLst, ↓wp_tup, ↓wp_lst, ↓wp_asB, ↓wp_test, ↓wp_tru, ↓wp_and, ↓wp_or, ↓wp_not, ↓wp_if, ↓wp_andV, ↓wp_orV, ↓wp_notV, ↓wp_yes, ↓seqK_nx, ↓seqK_rt, ↓seqK_bk, ↓seqK_ct, ↓seqK_xc, ↓wp_seq, ↓wp_lft, ↓wp_next, ↓wp_brk, ↓wp_cont, ↓wp_sbad, ↓wp_expr, ↓wp_sret, ↓wp_sretN, ↓wp_sif, ↓wp_asg, ↓wp_gN, ↓wp_gT, ↓wp_par, ↓wp_gIx, ↓wp_fld, ↓finK_nx, ↓finK_rt, ↓finK_xc, ↓wp_mk, ↓wp_srcT, ↓wp_src, ↓wp_rng1, ↓wp_rng2, ↓wp_for, ↓forK_nx, ↓forK_ct, ↓forK_bk, ↓forK_rt, ↓wp_ok, ↓wp_ret, ↓wp_bnd, ↓wp_Rbnd, ↓wp_calm, ↓wp_t, ↓wp_f, startC, List.map_cons, List.map_nil, List.length_cons, List.length_nil, List.replicate_succ, List.replicate_zero, List.cons_append, List.nil_append, List.append_assoc, List.getElem?_cons_zero, List.getElem?_cons_succ, List.set_cons_zero, List.set_cons_succ, Nat.reduceAdd, Nat.reduceSub, Nat.zero_add, if_true, if_false, ite_true, ite_false, reduceIte, sizeLine, Nat.reducePow, Nat.reduceLeDiff, Nat.reduceEqDiff, atI_0, atI_1, atI_2, atI_3, ↓wp_add_i, ↓wp_add_s, ↓wp_sub_i, ↓wp_mul_i, ↓wp_mod_i, ↓wp_fdiv_i, ↓wp_pow_i, ↓wp_lt_i, ↓wp_le_i, ↓wp_gt_i, ↓wp_ge_i, ↓wp_lt_s, ↓wp_le_s, ↓wp_eq_i, ↓wp_ne_i, ↓wp_eq_s, ↓wp_ne_s, ↓wp_ix_t, ↓wp_ix_l, ↓wp_ix_s, ↓wp_setIx, ↓wp_len_s, ↓wp_len_t, ↓wp_len_l, ↓wp_abs, ↓wp_int, ↓wp_int_b, ↓wp_tru_b, ↓wp_tru_i, ↓wp_tru_non, ↓wp_tru_t, ↓wp_src_l, ↓wp_cmp_i, ↓wp_cmp_s, ↓wp_cmp_b, ↓wp_cmp_t, ↓wp_cmp_non, ↓wp_cmp_r, ↓ownR_b, ↓wp_ne_r, ↓wp_eq_r, ↓wp_ne_t, ↓wp_eq_t, ite_F, Int.reduceNeg, Int.reducePow, Int.reduceLT, Int.reduceLE, Int.reduceToNat, true_and, and_true, true_or, or_true, and_self, decide_true, decide_false, Bool.not_true, Bool.not_false, not_false_eq_true, ne_eq, Bool.false_eq_true, ↓wp_isiT, ↓wp_isiC, kindB_non, kindB_b, kindB_i, kindB_s, kindB_t, kindB_r, kindO_r, kindO_non, kindO_b, kindO_i, kindO_s, kindO_t, isi_nn, isi_bs, isi_is, isi_ss, isi_ts, isi_ls, isi_ds, mem_str, ↓wp_in_t, ↓wp_in_s, ↓wp_inOwn, ↓wp_inOwn_t, ↓wp_inOwn_s, ↓wp_att, ↓wp_met, ↓wp_setF, ↓wp_str_s, ↓wp_str_i, ↓wp_str_r, ↓strR_s, ↓wp_fmt_s, ↓wp_js0, ↓wp_js1, ↓wp_joined, ↓wp_dict0, ↓wp_list_t, ↓wp_list_l, ↓wp_add_l, ↓wp_bm, ↓wp_split, ↓wp_mkK, ↓wp_appK, ↓wp_cmK, ↓wp_callV, ↓chR_t, ↓chR_f, ↓wp_chain, ↓wp_src_s, ↓wp_mul_s, ↓wp_lt_t, ↓wp_att_c, ↓wp_tuple_l, ↓wp_fmt_i, ↓wp_strInt, hl, e1, e2, Bool.false_and, Bool.and_false]
      exact ⟨[], by rw [List.append_nil]⟩
    | true =>
      simp only [↓wp_run, ↓wp_var, ↓wp_c, ↓wp_op, ↓wp_un, ↓wp_fn, ↓wp_app, ↓wp_ap, ↓wp_nil, ↓wp_cons, ↓wp_mkTup, ↓wp_mkLst, ↓wp_tup, ↓wp_lst, ↓wp_asB, ↓wp_test, ↓wp_tru, ↓wp_and, ↓wp_or, ↓wp_not, ↓wp_if, ↓wp_andV, ↓wp_orV, ↓wp_notV, ↓wp_yes, ↓seqK_nx, ↓seqK_rt, ↓seqK_bk, ↓seqK_ct, ↓seqK_xc, ↓wp_seq, ↓wp_lft, ↓wp_next, ↓wp_brk, ↓wp_cont, ↓wp_sbad, ↓wp_expr, ↓wp_sret, ↓wp_sretN, ↓wp_sif, ↓wp_asg, ↓wp_gN, ↓wp_gT, ↓wp_par, ↓wp_gIx, ↓wp_fld, ↓finK_nx, ↓finK_rt, ↓finK_xc, ↓wp_mk, ↓wp_srcT, ↓wp_src, ↓wp_rng1, ↓wp_rng2, ↓wp_for, ↓forK_nx, ↓forK_ct, ↓forK_bk, ↓forK_rt, ↓wp_ok, ↓wp_ret, ↓wp_bnd, ↓wp_Rbnd, ↓wp_calm, ↓wp_t, ↓wp_f, startC, List.map_cons, List.map_nil, List.length_cons, List.length_nil, List.replicate_succ, List.replicate_zero, List.cons_append, List.nil_append, List.append_assoc, List.getElem?_cons_zero, List.getElem?_cons_succ, List.set_cons_zero, List.set_cons_succ, Nat.reduceAdd, Nat.reduceSub, Nat.zero_add, if_true, if_false, ite_true, ite_false, reduceIte, sizeLine, Nat.reducePow, Nat.reduceLeDiff, Nat.reduceEqDiff, atI_0, atI_1, atI_2, atI_3, ↓wp_add_i, ↓wp_add_s, ↓wp_sub_i, ↓wp_mul_i, ↓wp_mod_i, ↓wp_fdiv_i, ↓wp_pow_i, ↓wp_lt_i, ↓wp_le_i, ↓wp_gt_i, ↓wp_ge_i, ↓wp_lt_s, ↓wp_le_s, ↓wp_eq_i, ↓wp_ne_i, ↓wp_eq_s, ↓wp_ne_s, ↓wp_ix_t, ↓wp_ix_l, ↓wp_ix_s, ↓wp_setIx, ↓wp_len_s, ↓wp_len_t, ↓wp_len_l, ↓wp_abs, ↓wp_int, ↓wp_int_b, ↓wp_tru_b, ↓wp_tru_i, ↓wp_tru_non, ↓wp_tru_t, ↓wp_src_l, ↓wp_cmp_i, ↓wp_cmp_s, ↓wp_cmp_b, ↓wp_cmp_t, ↓wp_cmp_non, ↓wp_cmp_r, ↓ownR_b, ↓wp_ne_r, ↓wp_eq_r, ↓wp_ne_t, ↓wp_eq_t, ite_F, Int.reduceNeg, Int.reducePow, Int.reduceLT, Int.reduceLE, Int.reduceToNat, true_and, and_true, true_or, or_true, and_self, decide_true, decide_false, Bool.not_true, Bool.not_false, not_false_eq_true, ne_eq, Bool.false_eq_true, ↓wp_isiT, ↓wp_isiC, kindB_non, kindB_b, kindB_i, kindB_s, kindB_t, kindB_r, kindO_r, kindO_non, kindO_b, kindO_i, kindO_s, kindO_t, isi_nn, isi_bs, isi_is, isi_ss, isi_ts, isi_ls, isi_ds, mem_str, ↓wp_in_t, ↓wp_in_s, ↓wp_inOwn, ↓wp_inOwn_t, ↓wp_inOwn_s, ↓wp_att, ↓wp_met, ↓wp_setF, ↓wp_str_s, ↓wp_str_i, ↓wp_str_r, ↓strR_s, ↓wp_fmt_s, ↓wp_js0, ↓wp_js1, ↓wp_joined, ↓wp_dict0, ↓wp_list_t, ↓wp_list_l, ↓wp_add_l, ↓wp_bm, ↓wp_split, ↓wp_mkK, ↓wp_appK, ↓wp_cmK, ↓wp_callV, ↓chR_t, ↓chR_f, ↓wp_chain, ↓wp_src_s, ↓wp_mul_s, ↓wp_lt_t, ↓wp_att_c, ↓wp_tuple_l, ↓wp_fmt_i, ↓wp_strInt, hl, e1, e2, ↓word_lc h]
      rw [wp_all_b look_new0, all_id]
      exact ⟨rfl, _, rfl⟩
theorem ok_one {c : Nat} (h : c < 128) : PyData.strOk ⟨#[c]⟩ = true := by
  show (#[c] : Array Nat).all (· < 0x110000) = true
  rw [← Array.all_toList]
  have e1 : c < 0x110000 := by omega
  simp [e1]
def notLow : CV → Bool
  | .str ⟨#[c]⟩ => !low c
  | _ => false
theorem lword_lc (h : Pl s) {r : Option CV} : Wp (mLc (mSrc (mVar 0)) (cN 1) (mNot (mTest (mChain leC leC (mC (.str "a")) (mVar 1) (mC (.str "z"))))) (mVar 1) [1] [some (.str s), r] S) Q E = Q (.ref S.length) (S ++ [.lst (((s.cps.toList.filter fun c => !low c).map fun c => (⟨#[c]⟩ : Str)).map CV.str)]) := by
  have e : ((charsC s).filter notLow).map id = ((s.cps.toList.filter fun c => !low c).map fun c => (⟨#[c]⟩ : Str)).map CV.str := by
    rw [List.map_id]
    unfold charsC
    rw [List.filter_map, List.map_map]
    rfl
  rw [← e]
  refine wp_lcFilFree notLow id (src_str rfl) ?_ ?_
  · intro v hv acc
    obtain ⟨c, hc, rfl⟩ := chars_mem hv
    refine ⟨?_, fun _ => rfl⟩
    apply eq_of_wp
    rw [wp_not, wp_test, chain_low (c := c) rfl, wp_asB]
    exact ⟨rfl, rfl⟩
  · rw [chars_len]; exact Nat.le_trans h.len sl_20
theorem fil_all {l : List Nat} : ((l.filter fun c => !low c).map fun c => (⟨#[c]⟩ : Str)).isEmpty = l.all low := by
  rw [List.isEmpty_map]
  induction l with
  | nil => rfl
  | cons c l ih =>
    rw [List.all_cons, List.filter_cons]
    cases low c with
    | true => simpa using ih
    | false => rfl
theorem wp_lisW (h : Pl s) : Tr (m__law_is_word [.str s] S) (fun v S' => v = .bl (isW s) ∧ ∃ l, S' = S ++ l) := by
  constructor
  have hl : s.length ≤ 16777216 := Nat.le_trans h.len (by decide)
  unfold m__law_is_word b__law_is_word isW
  by_cases e1 : (1 : Int) ≤ s.length
  · have e1' : decide ((s.length : Int) < 1) = false := decide_eq_false (by omega)
    by_cases e2 : (s.length : Int) ≤ 8
    · have e2' : decide ((8 : Int) < s.length) = false := decide_eq_false (by omega)
      simp only [↓wp_run, ↓wp_var, ↓wp_c, ↓wp_op, ↓wp_un, ↓wp_fn, ↓wp_app, ↓wp_ap, ↓wp_nil, ↓wp_cons, ↓wp_mkTup, ↓wp_mkLst, ↓wp_tup, ↓wp_lst, ↓wp_asB, ↓wp_test, ↓wp_tru, ↓wp_and, ↓wp_or, ↓wp_not, ↓wp_if, ↓wp_andV, ↓wp_orV, ↓wp_notV, ↓wp_yes, ↓seqK_nx, ↓seqK_rt, ↓seqK_bk, ↓seqK_ct, ↓seqK_xc, ↓wp_seq, ↓wp_lft, ↓wp_next, ↓wp_brk, ↓wp_cont, ↓wp_sbad, ↓wp_expr, ↓wp_sret, ↓wp_sretN, ↓wp_sif, ↓wp_asg, ↓wp_gN, ↓wp_gT, ↓wp_par, ↓wp_gIx, ↓wp_fld, ↓finK_nx, ↓finK_rt, ↓finK_xc, ↓wp_mk, ↓wp_srcT, ↓wp_src, ↓wp_rng1, ↓wp_rng2, ↓wp_for, ↓forK_nx, ↓forK_ct, ↓forK_bk, ↓forK_rt, ↓wp_ok, ↓wp_ret, ↓wp_bnd, ↓wp_Rbnd, ↓wp_calm, ↓wp_t, ↓wp_f, startC, List.map_cons, List.map_nil, List.length_cons, List.length_nil, List.replicate_succ, List.replicate_zero, List.cons_append, List.nil_append, List.append_assoc, List.getElem?_cons_zero, List.getElem?_cons_succ, List.set_cons_zero, List.set_cons_succ, Nat.reduceAdd, Nat.reduceSub, Nat.zero_add, if_true, if_false, ite_true, ite_false, reduceIte, sizeLine, Nat.reducePow, Nat.reduceLeDiff, Nat.reduceEqDiff, atI_0, atI_1, atI_2, atI_3, ↓wp_add_i, ↓wp_add_s, ↓wp_sub_i, ↓wp_mul_i, ↓wp_mod_i, ↓wp_fdiv_i, ↓wp_pow_i, ↓wp_lt_i, ↓wp_le_i, ↓wp_gt_i, ↓wp_ge_i, ↓wp_lt_s, ↓wp_le_s, ↓wp_eq_i, ↓wp_ne_i, ↓wp_eq_s, ↓wp_ne_s, ↓wp_ix_t, ↓wp_ix_l, ↓wp_ix_s, ↓wp_setIx, ↓wp_len_s, ↓wp_len_t, ↓wp_len_l, ↓wp_abs, ↓wp_int, ↓wp_int_b, ↓wp_tru_b, ↓wp_tru_i, ↓wp_tru_non, ↓wp_tru_t, ↓wp_src_l, ↓wp_cmp_i, ↓wp_cmp_s, ↓wp_cmp_b, ↓wp_cmp_t, ↓wp_cmp_non, ↓wp_cmp_r, ↓ownR_b, ↓wp_ne_r, ↓wp_eq_r, ↓wp_ne_t, ↓wp_eq_t, ite_F, Int.reduceNeg, Int.reducePow, Int.reduceLT, Int.reduceLE, Int.reduceToNat, true_and, and_true, true_or, or_true, and_self, decide_true, decide_false, Bool.not_true, Bool.not_false, not_false_eq_true, ne_eq, Bool.false_eq_true, ↓wp_isiT, ↓wp_isiC, kindB_non, kindB_b, kindB_i, kindB_s, kindB_t, kindB_r, kindO_r, kindO_non, kindO_b, kindO_i, kindO_s, kindO_t, isi_nn, isi_bs, isi_is, isi_ss, isi_ts, isi_ls, isi_ds, mem_str, ↓wp_in_t, ↓wp_in_s, ↓wp_inOwn, ↓wp_inOwn_t, ↓wp_inOwn_s, ↓wp_att, ↓wp_met, ↓wp_setF, ↓wp_str_s, ↓wp_str_i, ↓wp_str_r, ↓strR_s, ↓wp_fmt_s, ↓wp_js0, ↓wp_js1, ↓wp_joined, ↓wp_dict0, ↓wp_list_t, ↓wp_list_l, ↓wp_add_l, ↓wp_bm, ↓wp_split, ↓wp_mkK, ↓wp_appK, ↓wp_cmK, ↓wp_callV, ↓chR_t, ↓chR_f, ↓wp_chain, ↓wp_src_s, ↓wp_mul_s, ↓wp_lt_t, ↓wp_att_c, ↓wp_tuple_l, ↓wp_fmt_i, ↓wp_strInt, hl, e1', e2', ↓lword_lc h, look_new, look_new0, set_new, set_new0, List.length_append, Nat.add_assoc]
      rw [eqD_strs_nil look_new0 (look_new (k := 1)) (fun z hz => by
        obtain ⟨c, hc, rfl⟩ := List.mem_map.mp hz
        exact ok_one (h.chs c (List.mem_filter.mp hc).1))]
      rw [fil_all, decide_eq_true e1, decide_eq_true e2]
      exact ⟨rfl, _, rfl⟩
    · have e2' : decide ((8 : Int) < s.length) = true := decide_eq_true (by omega)
      simp only [↓wp_run, ↓wp_var, ↓wp_c, ↓wp_op, ↓wp_un, ↓wp_fn, ↓wp_app, ↓wp_ap, ↓wp_nil, ↓wp_cons, ↓wp_mkTup, ↓wp_mkLst, ↓wp_tup, ↓wp_lst, ↓wp_asB, ↓wp_test, ↓wp_tru, ↓wp_and, ↓wp_or, ↓wp_not, ↓wp_if, ↓wp_andV, ↓wp_orV, ↓wp_notV, ↓wp_yes, ↓seqK_nx, ↓seqK_rt, ↓seqK_bk, ↓seqK_ct, ↓seqK_xc, ↓wp_seq, ↓wp_lft, ↓wp_next, ↓wp_brk, ↓wp_cont, ↓wp_sbad, ↓wp_expr, ↓wp_sret, ↓wp_sretN, ↓wp_sif, ↓wp_asg, ↓wp_gN, ↓wp_gT, ↓wp_par, ↓wp_gIx, ↓wp_fld, ↓finK_nx, ↓finK_rt, ↓finK_xc, ↓wp_mk, ↓wp_srcT, ↓wp_src, ↓wp_rng1, ↓wp_rng2, ↓wp_for, ↓forK_nx, ↓forK_ct, ↓forK_bk, ↓forK_rt, ↓wp_ok, ↓wp_ret, ↓wp_bnd, ↓wp_Rbnd, ↓wp_calm, ↓wp_t, ↓wp_f, startC, List.map_cons, List.map_nil, List.length_cons, List.length_nil, List.replicate_succ, List.replicate_zero, List.cons_append, List.nil_append, List.append_assoc, List.getElem?_cons_zero, List.getElem?_cons_succ, List.set_cons_zero, List.set_cons_succ, Nat.reduceAdd, Nat.reduceSub, Nat.zero_add, if_true, if_false, ite_true, ite_false, reduceIte, sizeLine, Nat.reducePow, Nat.reduceLeDiff, Nat.reduceEqDiff, atI_0, atI_1, atI_2, atI_3, ↓wp_add_i, ↓wp_add_s, ↓wp_sub_i, ↓wp_mul_i, ↓wp_mod_i, ↓wp_fdiv_i, ↓wp_pow_i, ↓wp_lt_i, ↓wp_le_i, ↓wp_gt_i, ↓wp_ge_i, ↓wp_lt_s, ↓wp_le_s, ↓wp_eq_i, ↓wp_ne_i, ↓wp_eq_s, ↓wp_ne_s, ↓wp_ix_t, ↓wp_ix_l, ↓wp_ix_s, ↓wp_setIx, ↓wp_len_s, ↓wp_len_t, ↓wp_len_l, ↓wp_abs, ↓wp_int, ↓wp_int_b, ↓wp_tru_b, ↓wp_tru_i, ↓wp_tru_non, ↓wp_tru_t, ↓wp_src_l, ↓wp_cmp_i, ↓wp_cmp_s, ↓wp_cmp_b, ↓wp_cmp_t, ↓wp_cmp_non, ↓wp_cmp_r, ↓ownR_b, ↓wp_ne_r, ↓wp_eq_r, ↓wp_ne_t, ↓wp_eq_t, ite_F, Int.reduceNeg, Int.reducePow, Int.reduceLT, Int.reduceLE, Int.reduceToNat, true_and, and_true, true_or, or_true, and_self, decide_true, decide_false, Bool.not_true, Bool.not_false, not_false_eq_true, ne_eq, Bool.false_eq_true, ↓wp_isiT, ↓wp_isiC, kindB_non, kindB_b, kindB_i, kindB_s, kindB_t, kindB_r, kindO_r, kindO_non, kindO_b, kindO_i, kindO_s, kindO_t, isi_nn, isi_bs, isi_is, isi_ss, isi_ts, isi_ls, isi_ds, mem_str, ↓wp_in_t, ↓wp_in_s, ↓wp_inOwn, ↓wp_inOwn_t, ↓wp_inOwn_s, ↓wp_att, ↓wp_met, ↓wp_setF, ↓wp_str_s, ↓wp_str_i, ↓wp_str_r, ↓strR_s, ↓wp_fmt_s, ↓wp_js0, ↓wp_js1, ↓wp_joined, ↓wp_dict0, ↓wp_list_t, ↓wp_list_l, ↓wp_add_l, ↓wp_bm, ↓wp_split, ↓wp_mkK, ↓wp_appK, ↓wp_cmK, ↓wp_callV, ↓chR_t, ↓chR_f, ↓wp_chain, ↓wp_src_s, ↓wp_mul_s, ↓wp_lt_t, ↓wp_att_c, ↓wp_tuple_l, ↓wp_fmt_i, ↓wp_strInt, hl, e1', e2', decide_eq_false e2, Bool.and_false, Bool.false_and]
      exact ⟨[], by rw [List.append_nil]⟩
  · have e1' : decide ((s.length : Int) < 1) = true := decide_eq_true (by omega)
    simp only [↓wp_run, ↓wp_var, ↓wp_c, ↓wp_op, ↓wp_un, ↓wp_fn, ↓wp_app, ↓wp_ap, ↓wp_nil, ↓wp_cons, ↓wp_mkTup, ↓wp_mkLst, ↓wp_tup, ↓wp_lst, ↓wp_asB, ↓wp_test, ↓wp_tru, ↓wp_and, ↓wp_or, ↓wp_not, ↓wp_if, ↓wp_andV, ↓wp_orV, ↓wp_notV, ↓wp_yes, ↓seqK_nx, ↓seqK_rt, ↓seqK_bk, ↓seqK_ct, ↓seqK_xc, ↓wp_seq, ↓wp_lft, ↓wp_next, ↓wp_brk, ↓wp_cont, ↓wp_sbad, ↓wp_expr, ↓wp_sret, ↓wp_sretN, ↓wp_sif, ↓wp_asg, ↓wp_gN, ↓wp_gT, ↓wp_par, ↓wp_gIx, ↓wp_fld, ↓finK_nx, ↓finK_rt, ↓finK_xc, ↓wp_mk, ↓wp_srcT, ↓wp_src, ↓wp_rng1, ↓wp_rng2, ↓wp_for, ↓forK_nx, ↓forK_ct, ↓forK_bk, ↓forK_rt, ↓wp_ok, ↓wp_ret, ↓wp_bnd, ↓wp_Rbnd, ↓wp_calm, ↓wp_t, ↓wp_f, startC, List.map_cons, List.map_nil, List.length_cons, List.length_nil, List.replicate_succ, List.replicate_zero, List.cons_append, List.nil_append, List.append_assoc, List.getElem?_cons_zero, List.getElem?_cons_succ, List.set_cons_zero, List.set_cons_succ, Nat.reduceAdd, Nat.reduceSub, Nat.zero_add, if_true, if_false, ite_true, ite_false, reduceIte, sizeLine, Nat.reducePow, Nat.reduceLeDiff, Nat.reduceEqDiff, atI_0, atI_1, atI_2, atI_3, ↓wp_add_i, ↓wp_add_s, ↓wp_sub_i, ↓wp_mul_i, ↓wp_mod_i, ↓wp_fdiv_i, ↓wp_pow_i, ↓wp_lt_i, ↓wp_le_i, ↓wp_gt_i, ↓wp_ge_i, ↓wp_lt_s, ↓wp_le_s, ↓wp_eq_i, ↓wp_ne_i, ↓wp_eq_s, ↓wp_ne_s, ↓wp_ix_t, ↓wp_ix_l, ↓wp_ix_s, ↓wp_setIx, ↓wp_len_s, ↓wp_len_t, ↓wp_len_l, ↓wp_abs, ↓wp_int, ↓wp_int_b, ↓wp_tru_b, ↓wp_tru_i, ↓wp_tru_non, ↓wp_tru_t, ↓wp_src_l, ↓wp_cmp_i, ↓wp_cmp_s, ↓wp_cmp_b, ↓wp_cmp_t, ↓wp_cmp_non, ↓wp_cmp_r, ↓ownR_b, ↓wp_ne_r, ↓wp_eq_r, ↓wp_ne_t, ↓wp_eq_t, ite_F, Int.reduceNeg, Int.reducePow, Int.reduceLT, Int.reduceLE, Int.reduceToNat, true_and, and_true, true_or, or_true, and_self, decide_true, decide_false, Bool.not_true, Bool.not_false, not_false_eq_true, ne_eq, Bool.false_eq_true, ↓wp_isiT, ↓wp_isiC, kindB_non, kindB_b, kindB_i, kindB_s, kindB_t, kindB_r, kindO_r, kindO_non, kindO_b, kindO_i, kindO_s, kindO_t, isi_nn, isi_bs, isi_is, isi_ss, isi_ts, isi_ls, isi_ds, mem_str, ↓wp_in_t, ↓wp_in_s, ↓wp_inOwn, ↓wp_inOwn_t, ↓wp_inOwn_s, ↓wp_att, ↓wp_met, ↓wp_setF, ↓wp_str_s, ↓wp_str_i, ↓wp_str_r, ↓strR_s, ↓wp_fmt_s, ↓wp_js0, ↓wp_js1, ↓wp_joined, ↓wp_dict0, ↓wp_list_t, ↓wp_list_l, ↓wp_add_l, ↓wp_bm, ↓wp_split, ↓wp_mkK, ↓wp_appK, ↓wp_cmK, ↓wp_callV, ↓chR_t, ↓chR_f, ↓wp_chain, ↓wp_src_s, ↓wp_mul_s, ↓wp_lt_t, ↓wp_att_c, ↓wp_tuple_l, ↓wp_fmt_i, ↓wp_strInt, hl, e1', decide_eq_false e1, Bool.false_and]
    exact ⟨[], by rw [List.append_nil]⟩
end
end L02
set_option Elab.async false
set_option linter.all false
set_option maxRecDepth 100000
set_option maxHeartbeats 4000000
namespace L02
open PySem PySem.Spec PyProof.Rows L2 MW
section
variable {Q : CV → Sto → Prop} {E : Str → List (Str × CV) → Sto → Prop} {S : Sto} {x x' : Nat} {n n' k j : Nat} {y : CV} {s : Str}
/-- ports -/
def isP (s : Str) : Bool := match s.cps.toList with
  | [c, d] => low c && inStr ⟨#[d]⟩ "012"
  | _ => false
theorem isP_not (h : ¬ s.length = 2) : isP s = false := by
  unfold isP
  split
  · rename_i c d e
    exfalso; apply h
    show s.cps.size = 2
    rw [← Array.length_toList, e]; rfl
  · rfl
theorem wp_isP (h : Pl s) : Wp (m_is_port [.str s] S) Q E = Q (.bl (isP s)) S := by
  have hl : s.length ≤ 16777216 := Nat.le_trans h.len (by decide)
  unfold m_is_port b_is_port
  by_cases e : s.length = 2
  · obtain ⟨c, d, rfl, hc⟩ := two_of_len e
    have e1 := in_low c (h.chs c (by rw [hc]; exact List.mem_cons_self))
    have l : (⟨#[c, d]⟩ : Str).length = 2 := rfl
    have l2 : ((2 : Nat) : Int) == 2 := rfl
    have a0 : atI (⟨#[c, d]⟩ : Str).cps.toList 0 = some c := rfl
    have a1 : atI (⟨#[c, d]⟩ : Str).cps.toList 1 = some d := rfl
    have ep : isP ⟨#[c, d]⟩ = (low c && inStr ⟨#[d]⟩ "012") := rfl
    rw [ep]
    cases e2 : low c with
    | true => simp only [↓wp_run, ↓wp_var, ↓wp_c, ↓wp_op, ↓wp_un, ↓wp_fn, ↓wp_app, ↓wp_ap, ↓wp_nil, ↓wp_cons, ↓wp_mkTup, ↓wp_mkLst, ↓wp_tup, ↓wp_lst, ↓wp_asB, ↓wp_test, ↓wp_tru, ↓wp_and, ↓wp_or, ↓wp_not, ↓wp_if, ↓wp_andV, ↓wp_orV, ↓wp_notV, ↓wp_yes, ↓seqK_nx, ↓seqK_rt, ↓seqK_bk, ↓seqK_ct, ↓seqK_xc, ↓wp_seq, ↓wp_lft, ↓wp_next, ↓wp_brk, ↓wp_cont, ↓wp_sbad, ↓wp_expr, ↓wp_sret, ↓wp_sretN, ↓wp_sif, ↓wp_asg, ↓wp_gN, ↓wp_gT, ↓wp_par, ↓wp_gIx, ↓wp_fld, ↓finK_nx, ↓finK_rt, ↓finK_xc, ↓wp_mk, ↓wp_srcT, ↓wp_src, ↓wp_rng1, ↓wp_rng2, ↓wp_for, ↓forK_nx, ↓forK_ct, ↓forK_bk, ↓forK_rt, ↓wp_ok, ↓wp_ret, ↓wp_bnd, ↓wp_Rbnd, ↓wp_calm, ↓wp_t, ↓wp_f, startC, List.map_cons, List.map_nil, List.length_cons, List.length_nil, List.replicate_succ, List.replicate_zero, List.cons_append, List.nil_append, List.append_assoc, List.getElem?_cons_zero, List.getElem?_cons_succ, List.set_cons_zero, List.set_cons_succ, Nat.reduceAdd, Nat.reduceSub, Nat.zero_add, if_true, if_false, ite_true, ite_false, reduceIte, sizeLine, Nat.reducePow, Nat.reduceLeDiff, Nat.reduceEqDiff, atI_0, atI_1, atI_2, atI_3, ↓wp_add_i, ↓wp_add_s, ↓wp_sub_i, ↓wp_mul_i, ↓wp_mod_i, ↓wp_fdiv_i, ↓wp_pow_i, ↓wp_lt_i, ↓wp_le_i, ↓wp_gt_i, ↓wp_ge_i, ↓wp_lt_s, ↓wp_le_s, ↓wp_eq_i, ↓wp_ne_i, ↓wp_eq_s, ↓wp_ne_s, ↓wp_ix_t, ↓wp_ix_l, ↓wp_ix_s, ↓wp_setIx, ↓wp_len_s, ↓wp_len_t, ↓wp_len_l, ↓wp_abs, ↓wp_int, ↓wp_int_b, ↓wp_tru_b, ↓wp_tru_i, ↓wp_tru_non, ↓wp_tru_t, ↓wp_src_l, ↓wp_cmp_i, ↓wp_cmp_s, ↓wp_cmp_b, ↓wp_cmp_t, ↓wp_cmp_non, ↓wp_cmp_r, ↓ownR_b, ↓wp_ne_r, ↓wp_eq_r, ↓wp_ne_t, ↓wp_eq_t, ite_F, Int.reduceNeg, Int.reducePow, Int.reduceLT, Int.reduceLE, Int.reduceToNat, true_and, and_true, true_or, or_true, and_self, decide_true, decide_false, Bool.not_true, Bool.not_false, not_false_eq_true, ne_eq, Bool.false_eq_true, ↓wp_isiT, ↓wp_isiC, kindB_non, kindB_b, kindB_i, kindB_s, kindB_t, kindB_r, kindO_r, kindO_non, kindO_b, kindO_i, kindO_s, kindO_t, isi_nn, isi_bs, isi_is, isi_ss, isi_ts, isi_ls, isi_ds, mem_str, ↓wp_in_t, ↓wp_in_s, ↓wp_inOwn, ↓wp_inOwn_t, ↓wp_inOwn_s, ↓wp_att, ↓wp_met, ↓wp_setF, ↓wp_str_s, ↓wp_str_i, ↓wp_str_r, ↓strR_s, ↓wp_fmt_s, ↓wp_js0, ↓wp_js1, ↓wp_joined, ↓wp_dict0, ↓wp_list_t, ↓wp_list_l, ↓wp_add_l, ↓wp_bm, ↓wp_split, ↓wp_mkK, ↓wp_appK, ↓wp_cmK, ↓wp_callV, l, l2, a0, a1, e1, e2, Bool.true_and]
    | false => simp only [↓wp_run, ↓wp_var, ↓wp_c, ↓wp_op, ↓wp_un, ↓wp_fn, ↓wp_app, ↓wp_ap, ↓wp_nil, ↓wp_cons, ↓wp_mkTup, ↓wp_mkLst, ↓wp_tup, ↓wp_lst, ↓wp_asB, ↓wp_test, ↓wp_tru, ↓wp_and, ↓wp_or, ↓wp_not, ↓wp_if, ↓wp_andV, ↓wp_orV, ↓wp_notV, ↓wp_yes, ↓seqK_nx, ↓seqK_rt, ↓seqK_bk, ↓seqK_ct, ↓seqK_xc, ↓wp_seq, ↓wp_lft, ↓wp_next, ↓wp_brk, ↓wp_cont, ↓wp_sbad, ↓wp_expr, ↓wp_sret, ↓wp_sretN, ↓wp_sif, ↓wp_asg, ↓wp_gN, ↓wp_gT, ↓wp_par, ↓wp_gIx, ↓wp_fld, ↓finK_nx, ↓finK_rt, ↓finK_xc, ↓wp_mk, ↓wp_srcT, ↓wp_src, ↓wp_rng1, ↓wp_rng2, ↓wp_for, ↓forK_nx, ↓forK_ct, ↓forK_bk, ↓forK_rt, ↓wp_ok, ↓wp_ret, ↓wp_bnd, ↓wp_Rbnd, ↓wp_calm, ↓wp_t, ↓wp_f, startC, List.map_cons, List.map_nil, List.length_cons, List.length_nil, List.replicate_succ, List.replicate_zero, List.cons_append, List.nil_append, List.append_assoc, List.getElem?_cons_zero, List.getElem?_cons_succ, List.set_cons_zero, List.set_cons_succ, Nat.reduceAdd, Nat.reduceSub, Nat.zero_add, if_true, if_false, ite_true, ite_false, reduceIte, sizeLine, Nat.reducePow, Nat.reduceLeDiff, Nat.reduceEqDiff, atI_0, atI_1, atI_2, atI_3, ↓wp_add_i, ↓wp_add_s, ↓wp_sub_i, ↓wp_mul_i, ↓wp_mod_i, ↓wp_fdiv_i, ↓wp_pow_i, ↓wp_lt_i, ↓wp_le_i, ↓wp_gt_i, ↓wp_ge_i, ↓wp_lt_s, ↓wp_le_s, ↓wp_eq_i, ↓wp_ne_i, ↓wp_eq_s, ↓wp_ne_s, ↓wp_ix_t, ↓wp_ix_l, ↓wp_ix_s, ↓wp_setIx, ↓wp_len_s, ↓wp_len_t, ↓wp_len_l, ↓wp_abs, ↓wp_int, ↓wp_int_b, ↓wp_tru_b, ↓wp_tru_i, ↓wp_tru_non, ↓wp_tru_t, ↓wp_src_l, ↓wp_cmp_i, ↓wp_cmp_s, ↓wp_cmp_b, ↓wp_cmp_t, ↓wp_cmp_non, ↓wp_cmp_r, ↓ownR_b, ↓wp_ne_r, ↓wp_eq_r, ↓wp_ne_t, ↓wp_eq_t, ite_F, Int.reduceNeg, Int.reducePow, Int.reduceLT, Int.reduceLE, Int.reduceToNat, true_and, and_true, true_or, or_true, and_self, decide_true, decide_false, Bool.not_true, Bool.not_false, not_false_eq_true, ne_eq, Bool.false_eq_true, ↓wp_isiT, ↓wp_isiC, kindB_non, kindB_b, kindB_i, kindB_s, kindB_t, kindB_r, kindO_r, kindO_non, kindO_b, kindO_i, kindO_s, kindO_t, isi_nn, isi_bs, isi_is, isi_ss, isi_ts, isi_ls, isi_ds, mem_str, ↓wp_in_t, ↓wp_in_s, ↓wp_inOwn, ↓wp_inOwn_t, ↓wp_inOwn_s, ↓wp_att, ↓wp_met, ↓wp_setF, ↓wp_str_s, ↓wp_str_i, ↓wp_str_r, ↓strR_s, ↓wp_fmt_s, ↓wp_js0, ↓wp_js1, ↓wp_joined, ↓wp_dict0, ↓wp_list_t, ↓wp_list_l, ↓wp_add_l, ↓wp_bm, ↓wp_split, ↓wp_mkK, ↓wp_appK, ↓wp_cmK, ↓wp_callV, l, l2, a0, a1, e1, e2, Bool.false_and]
  · have e1 : ((s.length : Int) == 2) = false := by
      rw [beq_eq_false_iff_ne]; omega
    rw [isP_not e]
    simp only [↓wp_run, ↓wp_var, ↓wp_c, ↓wp_op, ↓wp_un, ↓wp_fn, ↓wp_app, ↓wp_ap, ↓wp_nil, ↓wp_cons, ↓wp_mkTup, ↓wp_mkLst, ↓wp_tup, ↓wp_lst, ↓wp_asB, ↓wp_test, ↓wp_tru, ↓wp_and, ↓wp_or, ↓wp_not, ↓wp_if, ↓wp_andV, ↓wp_orV, ↓wp_notV, ↓wp_yes, ↓seqK_nx, ↓seqK_rt, ↓seqK_bk, ↓seqK_ct, ↓seqK_xc, ↓wp_seq, ↓wp_lft, ↓wp_next, ↓wp_brk, ↓wp_cont, ↓wp_sbad, ↓wp_expr, ↓wp_sret, ↓wp_sretN, ↓wp_sif, ↓wp_asg, ↓wp_gN, ↓wp_gT, ↓wp_par, ↓wp_gIx, ↓wp_fld, ↓finK_nx, ↓finK_rt, ↓finK_xc, ↓wp_mk, ↓wp_srcT, ↓wp_src, ↓wp_rng1, ↓wp_rng2, ↓wp_for, ↓forK_nx, ↓forK_ct, ↓forK_bk, ↓forK_rt, ↓wp_ok, ↓wp_ret, ↓wp_bnd, ↓wp_Rbnd, ↓wp_calm, ↓wp_t, ↓wp_f, startC, List.map_cons, List.map_nil, List.length_cons, List.length_nil, List.replicate_succ, List.replicate_zero, List.cons_append, List.nil_append, List.append_assoc, List.getElem?_cons_zero, List.getElem?_cons_succ, List.set_cons_zero, List.set_cons_succ, Nat.reduceAdd, Nat.reduceSub, Nat.zero_add, if_true, if_false, ite_true, ite_false, reduceIte, sizeLine, Nat.reducePow, Nat.reduceLeDiff, Nat.reduceEqDiff, atI_0, atI_1, atI_2, atI_3, ↓wp_add_i, ↓wp_add_s, ↓wp_sub_i, ↓wp_mul_i, ↓wp_mod_i, ↓wp_fdiv_i, ↓wp_pow_i, ↓wp_lt_i, ↓wp_le_i, ↓wp_gt_i, ↓wp_ge_i, ↓wp_lt_s, ↓wp_le_s, ↓wp_eq_i, ↓wp_ne_i, ↓wp_eq_s, ↓wp_ne_s, ↓wp_ix_t, ↓wp_ix_l, ↓wp_ix_s, ↓wp_setIx, ↓wp_len_s, ↓wp_len_t, ↓wp_len_l, ↓wp_abs, ↓wp_int, ↓wp_int_b, ↓wp_tru_b, ↓wp_tru_i, ↓wp_tru_non, ↓wp_tru_t, ↓wp_src_l, ↓wp_cmp_i, ↓wp_cmp_s, ↓wp_cmp_b, ↓wp_cmp_t, ↓wp_cmp_non, ↓wp_cmp_r, ↓ownR_b, ↓wp_ne_r, ↓wp_eq_r, ↓wp_ne_t, ↓wp_eq_t, ite_F, Int.reduceNeg, Int.reducePow, Int.reduceLT, Int.reduceLE, Int.reduceToNat, true_and, and_true, true_or, or_true, and_self, decide_true, decide_false, Bool.not_true, Bool.not_false, not_false_eq_true, ne_eq, Bool.false_eq_true, ↓wp_isiT, ↓wp_isiC, kindB_non, kindB_b, kindB_i, kindB_s, kindB_t, kindB_r, kindO_r, kindO_non, kindO_b, kindO_i, kindO_s, kindO_t, isi_nn, isi_bs, isi_is, isi_ss, isi_ts, isi_ls, isi_ds, mem_str, ↓wp_in_t, ↓wp_in_s, ↓wp_inOwn, ↓wp_inOwn_t, ↓wp_inOwn_s, ↓wp_att, ↓wp_met, ↓wp_setF, ↓wp_str_s, ↓wp_str_i, ↓wp_str_r, ↓strR_s, ↓wp_fmt_s, ↓wp_js0, ↓wp_js1, ↓wp_joined, ↓wp_dict0, ↓wp_list_t, ↓wp_list_l, ↓wp_add_l, ↓wp_bm, ↓wp_split, ↓wp_mkK, ↓wp_appK, ↓wp_cmK, ↓wp_callV, hl, e1]
/-- the law's own -/
theorem wp_gate {r0 r1 r2 r3 r4 r5 r6 r8 r9 r10 : Option CV} (h : Pl s) : Wp ((mAndV truC (mFn (isiC isi_n isi_o isi_b) (mCons (mVar 7) (mCons (mC (.ty "str")) mNil))) (mAndV truC (mOp (cmpOwn own_eq_0 nf_x_0_c nf_x_0_b id eqC) (mFn lenC (mCons (mVar 7) mNil)) (mC (.int 2))) (mAndV truC (mChain leC leC (mC (.str "a")) (mOp ixC (mVar 7) (mC (.int 0))) (mC (.str "z"))) (mOp (inOwn own_contains_0 false) (mOp ixC (mVar 7) (mC (.int 1))) (mC (.str "012")))))) [r0, r1, r2, r3, r4, r5, r6, some (.str s), r8, r9, r10] S) Q E = Q (.bl (isP s)) S := by
  have hl : s.length ≤ 16777216 := Nat.le_trans h.len (by decide)
  by_cases e : s.length = 2
  · obtain ⟨c, d, rfl, hc⟩ := two_of_len e
    have l : (⟨#[c, d]⟩ : Str).length = 2 := rfl
    have l2 : ((2 : Nat) : Int) == 2 := rfl
    have a0 : atI (⟨#[c, d]⟩ : Str).cps.toList 0 = some c := rfl
    have a1 : atI (⟨#[c, d]⟩ : Str).cps.toList 1 = some d := rfl
    have ep : isP ⟨#[c, d]⟩ = (low c && inStr ⟨#[d]⟩ "012") := rfl
    have ix : (mOp ixC (mVar 7) (mC (.int 0))) [r0, r1, r2, r3, r4, r5, r6, some (.str ⟨#[c, d]⟩), r8, r9, r10] S = .ok (.str ⟨#[c]⟩) S := by
      apply eq_of_wp
      simp only [↓wp_run, ↓wp_var, ↓wp_c, ↓wp_op, ↓wp_un, ↓wp_fn, ↓wp_app, ↓wp_ap, ↓wp_nil, ↓wp_cons, ↓wp_mkTup, ↓wp_mkLst, ↓wp_tup, ↓wp_lst, ↓wp_asB, ↓wp_test, ↓wp_tru, ↓wp_and, ↓wp_or, ↓wp_not, ↓wp_if, ↓wp_andV, ↓wp_orV, ↓wp_notV, ↓wp_yes, ↓seqK_nx, ↓seqK_rt, ↓seqK_bk, ↓seqK_ct, ↓seqK_xc, ↓wp_seq, ↓wp_lft, ↓wp_next, ↓wp_brk, ↓wp_cont, ↓wp_sbad, ↓wp_expr, ↓wp_sret, ↓wp_sretN, ↓wp_sif, ↓wp_asg, ↓wp_gN, ↓wp_gT, ↓wp_par, ↓wp_gIx, ↓wp_fld, ↓finK_nx, ↓finK_rt, ↓finK_xc, ↓wp_mk, ↓wp_srcT, ↓wp_src, ↓wp_rng1, ↓wp_rng2, ↓wp_for, ↓forK_nx, ↓forK_ct, ↓forK_bk, ↓forK_rt, ↓wp_ok, ↓wp_ret, ↓wp_bnd, ↓wp_Rbnd, ↓wp_calm, ↓wp_t, ↓wp_f, startC, List.map_cons, List.map_nil, List.length_cons, List.length_nil, List.replicate_succ, List.replicate_zero, List.cons_append, List.nil_append, List.append_assoc, List.getElem?_cons_zero, List.getElem?_cons_succ, List.set_cons_zero, List.set_cons_succ, Nat.reduceAdd, Nat.reduceSub, Nat.zero_add, if_true, if_false, ite_true, ite_false, reduceIte, sizeLine, Nat.reducePow, Nat.reduceLeDiff, Nat.reduceEqDiff, atI_0, atI_1, atI_2, atI_3, ↓wp_add_i, ↓wp_add_s, ↓wp_sub_i, ↓wp_mul_i, ↓wp_mod_i, ↓wp_fdiv_i, ↓wp_pow_i, ↓wp_lt_i, ↓wp_le_i, ↓wp_gt_i, ↓wp_ge_i, ↓wp_lt_s, ↓wp_le_s, ↓wp_eq_i, ↓wp_ne_i, ↓wp_eq_s, ↓wp_ne_s, ↓wp_ix_t, ↓wp_ix_l, ↓wp_ix_s, ↓wp_setIx, ↓wp_len_s, ↓wp_len_t, ↓wp_len_l, ↓wp_abs, ↓wp_int, ↓wp_int_b, ↓wp_tru_b, ↓wp_tru_i, ↓wp_tru_non, ↓wp_tru_t, ↓wp_src_l, ↓wp_cmp_i, ↓wp_cmp_s, ↓wp_cmp_b, ↓wp_cmp_t, ↓wp_cmp_non, ↓wp_cmp_r, ↓ownR_b, ↓wp_ne_r, ↓wp_eq_r, ↓wp_ne_t, ↓wp_eq_t, ite_F, Int.reduceNeg, Int.reducePow, Int.reduceLT, Int.reduceLE, Int.reduceToNat, true_and, and_true, true_or, or_true, and_self, decide_true, decide_false, Bool.not_true, Bool.not_false, not_false_eq_true, ne_eq, Bool.false_eq_true, ↓wp_isiT, ↓wp_isiC, kindB_non, kindB_b, kindB_i, kindB_s, kindB_t, kindB_r, kindO_r, kindO_non, kindO_b, kindO_i, kindO_s, kindO_t, isi_nn, isi_bs, isi_is, isi_ss, isi_ts, isi_ls, isi_ds, mem_str, ↓wp_in_t, ↓wp_in_s, ↓wp_inOwn, ↓wp_inOwn_t, ↓wp_inOwn_s, ↓wp_att, ↓wp_met, ↓wp_setF, ↓wp_str_s, ↓wp_str_i, ↓wp_str_r, ↓strR_s, ↓wp_fmt_s, ↓wp_js0, ↓wp_js1, ↓wp_joined, ↓wp_dict0, ↓wp_list_t, ↓wp_list_l, ↓wp_add_l, ↓wp_bm, ↓wp_split, ↓wp_mkK, ↓wp_appK, ↓wp_cmK, ↓wp_callV, l, a0]
    have ech : ∀ Q E, Wp (mChain leC leC (mC (.str "a")) (mOp ixC (mVar 7) (mC (.int 0))) (mC (.str "z")) [r0, r1, r2, r3, r4, r5, r6, some (.str ⟨#[c, d]⟩), r8, r9, r10] S) Q E = Q (.bl (low c)) S := fun Q E => chain_low ix
    rw [ep]
    cases e2 : low c with
    | true => simp only [↓wp_run, ↓wp_var, ↓wp_c, ↓wp_op, ↓wp_un, ↓wp_fn, ↓wp_app, ↓wp_ap, ↓wp_nil, ↓wp_cons, ↓wp_mkTup, ↓wp_mkLst, ↓wp_tup, ↓wp_lst, ↓wp_asB, ↓wp_test, ↓wp_tru, ↓wp_and, ↓wp_or, ↓wp_not, ↓wp_if, ↓wp_andV, ↓wp_orV, ↓wp_notV, ↓wp_yes, ↓seqK_nx, ↓seqK_rt, ↓seqK_bk, ↓seqK_ct, ↓seqK_xc, ↓wp_seq, ↓wp_lft, ↓wp_next, ↓wp_brk, ↓wp_cont, ↓wp_sbad, ↓wp_expr, ↓wp_sret, ↓wp_sretN, ↓wp_sif, ↓wp_asg, ↓wp_gN, ↓wp_gT, ↓wp_par, ↓wp_gIx, ↓wp_fld, ↓finK_nx, ↓finK_rt, ↓finK_xc, ↓wp_mk, ↓wp_srcT, ↓wp_src, ↓wp_rng1, ↓wp_rng2, ↓wp_for, ↓forK_nx, ↓forK_ct, ↓forK_bk, ↓forK_rt, ↓wp_ok, ↓wp_ret, ↓wp_bnd, ↓wp_Rbnd, ↓wp_calm, ↓wp_t, ↓wp_f, startC, List.map_cons, List.map_nil, List.length_cons, List.length_nil, List.replicate_succ, List.replicate_zero, List.cons_append, List.nil_append, List.append_assoc, List.getElem?_cons_zero, List.getElem?_cons_succ, List.set_cons_zero, List.set_cons_succ, Nat.reduceAdd, Nat.reduceSub, Nat.zero_add, if_true, if_false, ite_true, ite_false, reduceIte, sizeLine, Nat.reducePow, Nat.reduceLeDiff, Nat.reduceEqDiff, atI_0, atI_1, atI_2, atI_3, ↓wp_add_i, ↓wp_add_s, ↓wp_sub_i, ↓wp_mul_i, ↓wp_mod_i, ↓wp_fdiv_i, ↓wp_pow_i, ↓wp_lt_i, ↓wp_le_i, ↓wp_gt_i, ↓wp_ge_i, ↓wp_lt_s, ↓wp_le_s, ↓wp_eq_i, ↓wp_ne_i, ↓wp_eq_s, ↓wp_ne_s, ↓wp_ix_t, ↓wp_ix_l, ↓wp_ix_s, ↓wp_setIx, ↓wp_len_s, ↓wp_len_t, ↓wp_len_l, ↓wp_abs, ↓wp_int, ↓wp_int_b, ↓wp_tru_b, ↓wp_tru_i, ↓wp_tru_non, ↓wp_tru_t, ↓wp_src_l, ↓wp_cmp_i, ↓wp_cmp_s, ↓wp_cmp_b, ↓wp_cmp_t, ↓wp_cmp_non, ↓wp_cmp_r, ↓ownR_b, ↓wp_ne_r, ↓wp_eq_r, ↓wp_ne_t, ↓wp_eq_t, ite_F, Int.reduceNeg, Int.reducePow, Int.reduceLT, Int.reduceLE, Int.reduceToNat, true_and, and_true, true_or, or_true, and_self, decide_true, decide_false, Bool.not_true, Bool.not_false, not_false_eq_true, ne_eq, Bool.false_eq_true, ↓wp_isiT, ↓wp_isiC, kindB_non, kindB_b, kindB_i, kindB_s, kindB_t, kindB_r, kindO_r, kindO_non, kindO_b, kindO_i, kindO_s, kindO_t, isi_nn, isi_bs, isi_is, isi_ss, isi_ts, isi_ls, isi_ds, mem_str, ↓wp_in_t, ↓wp_in_s, ↓wp_inOwn, ↓wp_inOwn_t, ↓wp_inOwn_s, ↓wp_att, ↓wp_met, ↓wp_setF, ↓wp_str_s, ↓wp_str_i, ↓wp_str_r, ↓strR_s, ↓wp_fmt_s, ↓wp_js0, ↓wp_js1, ↓wp_joined, ↓wp_dict0, ↓wp_list_t, ↓wp_list_l, ↓wp_add_l, ↓wp_bm, ↓wp_split, ↓wp_mkK, ↓wp_appK, ↓wp_cmK, ↓wp_callV, l, l2, a0, a1, ↓ech, e2, Bool.true_and, id]
    | false => simp only [↓wp_run, ↓wp_var, ↓wp_c, ↓wp_op, ↓wp_un, ↓wp_fn, ↓wp_app, ↓wp_ap, ↓wp_nil, ↓wp_cons, ↓wp_mkTup, ↓wp_mkLst, ↓wp_tup, ↓wp_lst, ↓wp_asB, ↓wp_test, ↓wp_tru, ↓wp_and, ↓wp_or, ↓wp_not, ↓wp_if, ↓wp_andV, ↓wp_orV, ↓wp_notV, ↓wp_yes, ↓seqK_nx, ↓seqK_rt, ↓seqK_bk, ↓seqK_ct, ↓seqK_xc, ↓wp_seq, ↓wp_lft, ↓wp_next, ↓wp_brk, ↓wp_cont, ↓wp_sbad, ↓wp_expr, ↓wp_sret, ↓wp_sretN, ↓wp_sif, ↓wp_asg, ↓wp_gN, ↓wp_gT, ↓wp_par, ↓wp_gIx, ↓wp_fld, ↓finK_nx, ↓finK_rt, ↓finK_xc, ↓wp_mk, ↓wp_srcT, ↓wp_src, ↓wp_rng1, ↓wp_rng2, ↓wp_for, ↓forK_nx, ↓forK_ct, ↓forK_bk, ↓forK_rt, ↓wp_ok, ↓wp_ret, ↓wp_bnd, ↓wp_Rbnd, ↓wp_calm, ↓wp_t, ↓wp_f, startC, List.map_cons, List.map_nil, List.length_cons, List.length_nil, List.replicate_succ, List.replicate_zero, List.cons_append, List.nil_append, List.append_assoc, List.getElem?_cons_zero, List.getElem?_cons_succ, List.set_cons_zero, List.set_cons_succ, Nat.reduceAdd, Nat.reduceSub, Nat.zero_add, if_true, if_false, ite_true, ite_false, reduceIte, sizeLine, Nat.reducePow, Nat.reduceLeDiff, Nat.reduceEqDiff, atI_0, atI_1, atI_2, atI_3, ↓wp_add_i, ↓wp_add_s, ↓wp_sub_i, ↓wp_mul_i, ↓wp_mod_i, ↓wp_fdiv_i, ↓wp_pow_i, ↓wp_lt_i, ↓wp_le_i, ↓wp_gt_i, ↓wp_ge_i, ↓wp_lt_s, ↓wp_le_s, ↓wp_eq_i, ↓wp_ne_i, ↓wp_eq_s, ↓wp_ne_s, ↓wp_ix_t, ↓wp_ix_l, ↓wp_ix_s, ↓wp_setIx, ↓wp_len_s, ↓wp_len_t, ↓wp_len_l, ↓wp_abs, ↓wp_int, ↓wp_int_b, ↓wp_tru_b, ↓wp_tru_i, ↓wp_tru_non, ↓wp_tru_t, ↓wp_src_l, ↓wp_cmp_i, ↓wp_cmp_s, ↓wp_cmp_b, ↓wp_cmp_t, ↓wp_cmp_non, ↓wp_cmp_r, ↓ownR_b, ↓wp_ne_r, ↓wp_eq_r, ↓wp_ne_t, ↓wp_eq_t, ite_F, Int.reduceNeg, Int.reducePow, Int.reduceLT, Int.reduceLE, Int.reduceToNat, true_and, and_true, true_or, or_true, and_self, decide_true, decide_false, Bool.not_true, Bool.not_false, not_false_eq_true, ne_eq, Bool.false_eq_true, ↓wp_isiT, ↓wp_isiC, kindB_non, kindB_b, kindB_i, kindB_s, kindB_t, kindB_r, kindO_r, kindO_non, kindO_b, kindO_i, kindO_s, kindO_t, isi_nn, isi_bs, isi_is, isi_ss, isi_ts, isi_ls, isi_ds, mem_str, ↓wp_in_t, ↓wp_in_s, ↓wp_inOwn, ↓wp_inOwn_t, ↓wp_inOwn_s, ↓wp_att, ↓wp_met, ↓wp_setF, ↓wp_str_s, ↓wp_str_i, ↓wp_str_r, ↓strR_s, ↓wp_fmt_s, ↓wp_js0, ↓wp_js1, ↓wp_joined, ↓wp_dict0, ↓wp_list_t, ↓wp_list_l, ↓wp_add_l, ↓wp_bm, ↓wp_split, ↓wp_mkK, ↓wp_appK, ↓wp_cmK, ↓wp_callV, l, l2, a0, a1, ↓ech, e2, Bool.false_and, id]
  · have e1 : ((s.length : Int) == 2) = false := by
      rw [beq_eq_false_iff_ne]; omega
    rw [isP_not e]
    simp only [↓wp_run, ↓wp_var, ↓wp_c, ↓wp_op, ↓wp_un, ↓wp_fn, ↓wp_app, ↓wp_ap, ↓wp_nil, ↓wp_cons, ↓wp_mkTup, ↓wp_mkLst, ↓wp_tup, ↓wp_lst, ↓wp_asB, ↓wp_test, ↓wp_tru, ↓wp_and, ↓wp_or, ↓wp_not, ↓wp_if, ↓wp_andV, ↓wp_orV, ↓wp_notV, ↓wp_yes, ↓seqK_nx, ↓seqK_rt, ↓seqK_bk, ↓seqK_ct, ↓seqK_xc, ↓wp_seq, ↓wp_lft, ↓wp_next, ↓wp_brk, ↓wp_cont, ↓wp_sbad, ↓wp_expr, ↓wp_sret, ↓wp_sretN, ↓wp_sif, ↓wp_asg, ↓wp_gN, ↓wp_gT, ↓wp_par, ↓wp_gIx, ↓wp_fld, ↓finK_nx, ↓finK_rt, ↓finK_xc, ↓wp_mk, ↓wp_srcT, ↓wp_src, ↓wp_rng1, ↓wp_rng2, ↓wp_for, ↓forK_nx, ↓forK_ct, ↓forK_bk, ↓forK_rt, ↓wp_ok, ↓wp_ret, ↓wp_bnd, ↓wp_Rbnd, ↓wp_calm, ↓wp_t, ↓wp_f, startC, List.map_cons, List.map_nil, List.length_cons, List.length_nil, List.replicate_succ, List.replicate_zero, List.cons_append, List.nil_append, List.append_assoc, List.getElem?_cons_zero, List.getElem?_cons_succ, List.set_cons_zero, List.set_cons_succ, Nat.reduceAdd, Nat.reduceSub, Nat.zero_add, if_true, if_false, ite_true, ite_false, reduceIte, sizeLine, Nat.reducePow, Nat.reduceLeDiff, Nat.reduceEqDiff, atI_0, atI_1, atI_2, atI_3, ↓wp_add_i, ↓wp_add_s, ↓wp_sub_i, ↓wp_mul_i, ↓wp_mod_i, ↓wp_fdiv_i, ↓wp_pow_i, ↓wp_lt_i, ↓wp_le_i, ↓wp_gt_i, ↓wp_ge_i, ↓wp_lt_s, ↓wp_le_s, ↓wp_eq_i, ↓wp_ne_i, ↓wp_eq_s, ↓wp_ne_s, ↓wp_ix_t, ↓wp_ix_l, ↓wp_ix_s, ↓wp_setIx, ↓wp_len_s, ↓wp_len_t, ↓wp_len_l, ↓wp_abs, ↓wp_int, ↓wp_int_b, ↓wp_tru_b, ↓wp_tru_i, ↓wp_tru_non, ↓wp_tru_t, ↓wp_src_l, ↓wp_cmp_i, ↓wp_cmp_s, ↓wp_cmp_b, ↓wp_cmp_t, ↓wp_cmp_non, ↓wp_cmp_r, ↓ownR_b, ↓wp_ne_r, ↓wp_eq_r, ↓wp_ne_t, ↓wp_eq_t, ite_F, Int.reduceNeg, Int.reducePow, Int.reduceLT, Int.reduceLE, Int.reduceToNat, true_and, and_true, true_or, or_true, and_self, decide_true, decide_false, Bool.not_true, Bool.not_false, not_false_eq_true, ne_eq, Bool.false_eq_true, ↓wp_isiT, ↓wp_isiC, kindB_non, kindB_b, kindB_i, kindB_s, kindB_t, kindB_r, kindO_r, kindO_non, kindO_b, kindO_i, kindO_s, kindO_t, isi_nn, isi_bs, isi_is, isi_ss, isi_ts, isi_ls, isi_ds, mem_str, ↓wp_in_t, ↓wp_in_s, ↓wp_inOwn, ↓wp_inOwn_t, ↓wp_inOwn_s, ↓wp_att, ↓wp_met, ↓wp_setF, ↓wp_str_s, ↓wp_str_i, ↓wp_str_r, ↓strR_s, ↓wp_fmt_s, ↓wp_js0, ↓wp_js1, ↓wp_joined, ↓wp_dict0, ↓wp_list_t, ↓wp_list_l, ↓wp_add_l, ↓wp_bm, ↓wp_split, ↓wp_mkK, ↓wp_appK, ↓wp_cmK, ↓wp_callV, hl, e1, id]
theorem sel0 {a : CV} : sel [0] [a] = [a] := rfl
/-- one text -/
theorem name_s {r0 r1 r2 r3 r4 r5 r6 r8 r9 r10 : Option CV} (h : Pl s) : Tr (L__law_names_right_0 [r0, r1, r2, r3, r4, r5, r6, some (.str s), r8, r9, r10] S)
    (fun f S' => ∃ r8 r9, f = .nx [r0, r1, r2, r3, r4, r5, r6, some (.str s), r8, r9, r10] ∧ Subs S S') := by
  constructor
  unfold L__law_names_right_0
  rw [wp_seq, wp_asg, wp_gate h]
  simp only [↓wp_run, ↓wp_var, ↓wp_c, ↓wp_op, ↓wp_un, ↓wp_fn, ↓wp_app, ↓wp_ap, ↓wp_nil, ↓wp_cons, ↓wp_mkTup, ↓wp_mkLst, ↓wp_tup, ↓wp_lst, ↓wp_asB, ↓wp_test, ↓wp_tru, ↓wp_and, ↓wp_or, ↓wp_not, ↓wp_if, ↓wp_andV, ↓wp_orV, ↓wp_notV, ↓wp_yes, ↓seqK_nx, ↓seqK_rt, ↓seqK_bk, ↓seqK_ct, ↓seqK_xc, ↓wp_seq, ↓wp_lft, ↓wp_next, ↓wp_brk, ↓wp_cont, ↓wp_sbad, ↓wp_expr, ↓wp_sret, ↓wp_sretN, ↓wp_sif, ↓wp_asg, ↓wp_gN, ↓wp_gT, ↓wp_par, ↓wp_gIx, ↓wp_fld, ↓finK_nx, ↓finK_rt, ↓finK_xc, ↓wp_mk, ↓wp_srcT, ↓wp_src, ↓wp_rng1, ↓wp_rng2, ↓wp_for, ↓forK_nx, ↓forK_ct, ↓forK_bk, ↓forK_rt, ↓wp_ok, ↓wp_ret, ↓wp_bnd, ↓wp_Rbnd, ↓wp_calm, ↓wp_t, ↓wp_f, startC, List.map_cons, List.map_nil, List.length_cons, List.length_nil, List.replicate_succ, List.replicate_zero, List.cons_append, List.nil_append, List.append_assoc, List.getElem?_cons_zero, List.getElem?_cons_succ, List.set_cons_zero, List.set_cons_succ, Nat.reduceAdd, Nat.reduceSub, Nat.zero_add, if_true, if_false, ite_true, ite_false, reduceIte, sizeLine, Nat.reducePow, Nat.reduceLeDiff, Nat.reduceEqDiff, ↓wp_isL h, ↓wp_isiT, ↓wp_isiC, kindB_non, kindB_b, kindB_i, kindB_s, kindB_t, kindB_r, kindO_r, kindO_non, kindO_b, kindO_i, kindO_s, kindO_t, isi_nn, isi_bs, isi_is, isi_ss, isi_ts, isi_ls, isi_ds, mem_str, ↓wp_in_t, ↓wp_in_s, ↓wp_inOwn, ↓wp_inOwn_t, ↓wp_inOwn_s, ↓wp_att, ↓wp_met, ↓wp_setF, ↓wp_str_s, ↓wp_str_i, ↓wp_str_r, ↓strR_s, ↓wp_fmt_s, ↓wp_js0, ↓wp_js1, ↓wp_joined, ↓wp_dict0, ↓wp_list_t, ↓wp_list_l, ↓wp_add_l, ↓wp_bm, ↓wp_split, ↓wp_mkK, ↓wp_appK, ↓wp_cmK, ↓wp_callV, sel0]
  refine @Tr.mono _ _ _ _ _ (wp_isW h) ?_
  rintro v S1 ⟨rfl, l1, rfl⟩
  simp only [↓wp_run, ↓wp_var, ↓wp_c, ↓wp_op, ↓wp_un, ↓wp_fn, ↓wp_app, ↓wp_ap, ↓wp_nil, ↓wp_cons, ↓wp_mkTup, ↓wp_mkLst, ↓wp_tup, ↓wp_lst, ↓wp_asB, ↓wp_test, ↓wp_tru, ↓wp_and, ↓wp_or, ↓wp_not, ↓wp_if, ↓wp_andV, ↓wp_orV, ↓wp_notV, ↓wp_yes, ↓seqK_nx, ↓seqK_rt, ↓seqK_bk, ↓seqK_ct, ↓seqK_xc, ↓wp_seq, ↓wp_lft, ↓wp_next, ↓wp_brk, ↓wp_cont, ↓wp_sbad, ↓wp_expr, ↓wp_sret, ↓wp_sretN, ↓wp_sif, ↓wp_asg, ↓wp_gN, ↓wp_gT, ↓wp_par, ↓wp_gIx, ↓wp_fld, ↓finK_nx, ↓finK_rt, ↓finK_xc, ↓wp_mk, ↓wp_srcT, ↓wp_src, ↓wp_rng1, ↓wp_rng2, ↓wp_for, ↓forK_nx, ↓forK_ct, ↓forK_bk, ↓forK_rt, ↓wp_ok, ↓wp_ret, ↓wp_bnd, ↓wp_Rbnd, ↓wp_calm, ↓wp_t, ↓wp_f, startC, List.map_cons, List.map_nil, List.length_cons, List.length_nil, List.replicate_succ, List.replicate_zero, List.cons_append, List.nil_append, List.append_assoc, List.getElem?_cons_zero, List.getElem?_cons_succ, List.set_cons_zero, List.set_cons_succ, Nat.reduceAdd, Nat.reduceSub, Nat.zero_add, if_true, if_false, ite_true, ite_false, reduceIte, sizeLine, Nat.reducePow, Nat.reduceLeDiff, Nat.reduceEqDiff, ↓wp_isP h, look_new, look_new0, set_new, set_new0, List.length_append, Nat.add_assoc]
  rw [wp_repr_b3 (b1 := isL s) (b2 := isW s) (b3 := isP s) (by simp)]
  simp only [↓wp_run, ↓wp_var, ↓wp_c, ↓wp_op, ↓wp_un, ↓wp_fn, ↓wp_app, ↓wp_ap, ↓wp_nil, ↓wp_cons, ↓wp_mkTup, ↓wp_mkLst, ↓wp_tup, ↓wp_lst, ↓wp_asB, ↓wp_test, ↓wp_tru, ↓wp_and, ↓wp_or, ↓wp_not, ↓wp_if, ↓wp_andV, ↓wp_orV, ↓wp_notV, ↓wp_yes, ↓seqK_nx, ↓seqK_rt, ↓seqK_bk, ↓seqK_ct, ↓seqK_xc, ↓wp_seq, ↓wp_lft, ↓wp_next, ↓wp_brk, ↓wp_cont, ↓wp_sbad, ↓wp_expr, ↓wp_sret, ↓wp_sretN, ↓wp_sif, ↓wp_asg, ↓wp_gN, ↓wp_gT, ↓wp_par, ↓wp_gIx, ↓wp_fld, ↓finK_nx, ↓finK_rt, ↓finK_xc, ↓wp_mk, ↓wp_srcT, ↓wp_src, ↓wp_rng1, ↓wp_rng2, ↓wp_for, ↓forK_nx, ↓forK_ct, ↓forK_bk, ↓forK_rt, ↓wp_ok, ↓wp_ret, ↓wp_bnd, ↓wp_Rbnd, ↓wp_calm, ↓wp_t, ↓wp_f, startC, List.map_cons, List.map_nil, List.length_cons, List.length_nil, List.replicate_succ, List.replicate_zero, List.cons_append, List.nil_append, List.append_assoc, List.getElem?_cons_zero, List.getElem?_cons_succ, List.set_cons_zero, List.set_cons_succ, Nat.reduceAdd, Nat.reduceSub, Nat.zero_add, if_true, if_false, ite_true, ite_false, reduceIte, sizeLine, Nat.reducePow, Nat.reduceLeDiff, Nat.reduceEqDiff, ↓wp_lisL h, look_new, look_new0, set_new, set_new0, List.length_append, Nat.add_assoc]
  refine @Tr.mono _ _ _ _ _ (wp_lisW h) ?_
  rintro v S2 ⟨rfl, l2, rfl⟩
  simp only [↓wp_run, ↓wp_var, ↓wp_c, ↓wp_op, ↓wp_un, ↓wp_fn, ↓wp_app, ↓wp_ap, ↓wp_nil, ↓wp_cons, ↓wp_mkTup, ↓wp_mkLst, ↓wp_tup, ↓wp_lst, ↓wp_asB, ↓wp_test, ↓wp_tru, ↓wp_and, ↓wp_or, ↓wp_not, ↓wp_if, ↓wp_andV, ↓wp_orV, ↓wp_notV, ↓wp_yes, ↓seqK_nx, ↓seqK_rt, ↓seqK_bk, ↓seqK_ct, ↓seqK_xc, ↓wp_seq, ↓wp_lft, ↓wp_next, ↓wp_brk, ↓wp_cont, ↓wp_sbad, ↓wp_expr, ↓wp_sret, ↓wp_sretN, ↓wp_sif, ↓wp_asg, ↓wp_gN, ↓wp_gT, ↓wp_par, ↓wp_gIx, ↓wp_fld, ↓finK_nx, ↓finK_rt, ↓finK_xc, ↓wp_mk, ↓wp_srcT, ↓wp_src, ↓wp_rng1, ↓wp_rng2, ↓wp_for, ↓forK_nx, ↓forK_ct, ↓forK_bk, ↓forK_rt, ↓wp_ok, ↓wp_ret, ↓wp_bnd, ↓wp_Rbnd, ↓wp_calm, ↓wp_t, ↓wp_f, startC, List.map_cons, List.map_nil, List.length_cons, List.length_nil, List.replicate_succ, List.replicate_zero, List.cons_append, List.nil_append, List.append_assoc, List.getElem?_cons_zero, List.getElem?_cons_succ, List.set_cons_zero, List.set_cons_succ, Nat.reduceAdd, Nat.reduceSub, Nat.zero_add, if_true, if_false, ite_true, ite_false, reduceIte, sizeLine, Nat.reducePow, Nat.reduceLeDiff, Nat.reduceEqDiff, look_new, look_new0, set_new, set_new0, List.length_append, Nat.add_assoc]
  rw [wp_repr_b3 (b1 := isL s) (b2 := isW s) (b3 := isP s) (by simp)]
  simp only [↓wp_run, ↓wp_var, ↓wp_c, ↓wp_op, ↓wp_un, ↓wp_fn, ↓wp_app, ↓wp_ap, ↓wp_nil, ↓wp_cons, ↓wp_mkTup, ↓wp_mkLst, ↓wp_tup, ↓wp_lst, ↓wp_asB, ↓wp_test, ↓wp_tru, ↓wp_and, ↓wp_or, ↓wp_not, ↓wp_if, ↓wp_andV, ↓wp_orV, ↓wp_notV, ↓wp_yes, ↓seqK_nx, ↓seqK_rt, ↓seqK_bk, ↓seqK_ct, ↓seqK_xc, ↓wp_seq, ↓wp_lft, ↓wp_next, ↓wp_brk, ↓wp_cont, ↓wp_sbad, ↓wp_expr, ↓wp_sret, ↓wp_sretN, ↓wp_sif, ↓wp_asg, ↓wp_gN, ↓wp_gT, ↓wp_par, ↓wp_gIx, ↓wp_fld, ↓finK_nx, ↓finK_rt, ↓finK_xc, ↓wp_mk, ↓wp_srcT, ↓wp_src, ↓wp_rng1, ↓wp_rng2, ↓wp_for, ↓forK_nx, ↓forK_ct, ↓forK_bk, ↓forK_rt, ↓wp_ok, ↓wp_ret, ↓wp_bnd, ↓wp_Rbnd, ↓wp_calm, ↓wp_t, ↓wp_f, startC, List.map_cons, List.map_nil, List.length_cons, List.length_nil, List.replicate_succ, List.replicate_zero, List.cons_append, List.nil_append, List.append_assoc, List.getElem?_cons_zero, List.getElem?_cons_succ, List.set_cons_zero, List.set_cons_succ, Nat.reduceAdd, Nat.reduceSub, Nat.zero_add, if_true, if_false, ite_true, ite_false, reduceIte, sizeLine, Nat.reducePow, Nat.reduceLeDiff, Nat.reduceEqDiff, atI_0, atI_1, atI_2, atI_3, ↓wp_add_i, ↓wp_add_s, ↓wp_sub_i, ↓wp_mul_i, ↓wp_mod_i, ↓wp_fdiv_i, ↓wp_pow_i, ↓wp_lt_i, ↓wp_le_i, ↓wp_gt_i, ↓wp_ge_i, ↓wp_lt_s, ↓wp_le_s, ↓wp_eq_i, ↓wp_ne_i, ↓wp_eq_s, ↓wp_ne_s, ↓wp_ix_t, ↓wp_ix_l, ↓wp_ix_s, ↓wp_setIx, ↓wp_len_s, ↓wp_len_t, ↓wp_len_l, ↓wp_abs, ↓wp_int, ↓wp_int_b, ↓wp_tru_b, ↓wp_tru_i, ↓wp_tru_non, ↓wp_tru_t, ↓wp_src_l, ↓wp_cmp_i, ↓wp_cmp_s, ↓wp_cmp_b, ↓wp_cmp_t, ↓wp_cmp_non, ↓wp_cmp_r, ↓ownR_b, ↓wp_ne_r, ↓wp_eq_r, ↓wp_ne_t, ↓wp_eq_t, ite_F, Int.reduceNeg, Int.reducePow, Int.reduceLT, Int.reduceLE, Int.reduceToNat, true_and, and_true, true_or, or_true, and_self, decide_true, decide_false, Bool.not_true, Bool.not_false, not_false_eq_true, ne_eq, Bool.false_eq_true, beq_self_eq_true]
  exact ⟨_, _, rfl, Subs.app⟩
end
end L02
set_option Elab.async false
set_option linter.all false
set_option maxRecDepth 100000
set_option maxHeartbeats 4000000
namespace L02
open PySem PySem.Spec PyProof.Rows L2 MW
section
variable {Q : CV → Sto → Prop} {E : Str → List (Str × CV) → Sto → Prop} {S : Sto} {x x' : Nat} {n n' k j : Nat} {y : CV} {s : Str} {t : String}
theorem wp_apK1 {m : List CV → M CV} {ms : Rho → M (List CV)} {ρ : Rho} : Wp (mApK 1 1 [0] m ms ρ S) Q E = Wp (ms ρ S) (fun xs S1 => Wp (appK 1 0 1 [0] m [] xs S1) Q E) E := wp_bnd
/-! values that are no texts -/
theorem isL_o (hk : kindB S y = some t) (ht : isiB t "str" = false) : Wp (m_is_letter [y] S) Q E = Q (.bl false) S := by
  unfold m_is_letter b_is_letter
  simp only [↓wp_run, ↓wp_var, ↓wp_c, ↓wp_op, ↓wp_un, ↓wp_fn, ↓wp_app, ↓wp_ap, ↓wp_nil, ↓wp_cons, ↓wp_mkTup, ↓wp_mkLst, ↓wp_tup, ↓wp_lst, ↓wp_asB, ↓wp_test, ↓wp_tru, ↓wp_and, ↓wp_or, ↓wp_not, ↓wp_if, ↓wp_andV, ↓wp_orV, ↓wp_notV, ↓wp_yes, ↓seqK_nx, ↓seqK_rt, ↓seqK_bk, ↓seqK_ct, ↓seqK_xc, ↓wp_seq, ↓wp_lft, ↓wp_next, ↓wp_brk, ↓wp_cont, ↓wp_sbad, ↓wp_expr, ↓wp_sret, ↓wp_sretN, ↓wp_sif, ↓wp_asg, ↓wp_gN, ↓wp_gT, ↓wp_par, ↓wp_gIx, ↓wp_fld, ↓finK_nx, ↓finK_rt, ↓finK_xc, ↓wp_mk, ↓wp_srcT, ↓wp_src, ↓wp_rng1, ↓wp_rng2, ↓wp_for, ↓forK_nx, ↓forK_ct, ↓forK_bk, ↓forK_rt, ↓wp_ok, ↓wp_ret, ↓wp_bnd, ↓wp_Rbnd, ↓wp_calm, ↓wp_t, ↓wp_f, startC, List.map_cons, List.map_nil, List.length_cons, List.length_nil, List.replicate_succ, List.replicate_zero, List.cons_append, List.nil_append, List.append_assoc, List.getElem?_cons_zero, List.getElem?_cons_succ, List.set_cons_zero, List.set_cons_succ, Nat.reduceAdd, Nat.reduceSub, Nat.zero_add, if_true, if_false, ite_true, ite_false, reduceIte, sizeLine, Nat.reducePow, Nat.reduceLeDiff, Nat.reduceEqDiff, atI_0, atI_1, atI_2, atI_3, ↓wp_add_i, ↓wp_add_s, ↓wp_sub_i, ↓wp_mul_i, ↓wp_mod_i, ↓wp_fdiv_i, ↓wp_pow_i, ↓wp_lt_i, ↓wp_le_i, ↓wp_gt_i, ↓wp_ge_i, ↓wp_lt_s, ↓wp_le_s, ↓wp_eq_i, ↓wp_ne_i, ↓wp_eq_s, ↓wp_ne_s, ↓wp_ix_t, ↓wp_ix_l, ↓wp_ix_s, ↓wp_setIx, ↓wp_len_s, ↓wp_len_t, ↓wp_len_l, ↓wp_abs, ↓wp_int, ↓wp_int_b, ↓wp_tru_b, ↓wp_tru_i, ↓wp_tru_non, ↓wp_tru_t, ↓wp_src_l, ↓wp_cmp_i, ↓wp_cmp_s, ↓wp_cmp_b, ↓wp_cmp_t, ↓wp_cmp_non, ↓wp_cmp_r, ↓ownR_b, ↓wp_ne_r, ↓wp_eq_r, ↓wp_ne_t, ↓wp_eq_t, ite_F, Int.reduceNeg, Int.reducePow, Int.reduceLT, Int.reduceLE, Int.reduceToNat, true_and, and_true, true_or, or_true, and_self, decide_true, decide_false, Bool.not_true, Bool.not_false, not_false_eq_true, ne_eq, Bool.false_eq_true, ↓wp_isiT, ↓wp_isiC, kindB_non, kindB_b, kindB_i, kindB_s, kindB_t, kindB_r, kindO_r, kindO_non, kindO_b, kindO_i, kindO_s, kindO_t, isi_nn, isi_bs, isi_is, isi_ss, isi_ts, isi_ls, isi_ds, mem_str, ↓wp_in_t, ↓wp_in_s, ↓wp_inOwn, ↓wp_inOwn_t, ↓wp_inOwn_s, ↓wp_att, ↓wp_met, ↓wp_setF, ↓wp_str_s, ↓wp_str_i, ↓wp_str_r, ↓strR_s, ↓wp_fmt_s, ↓wp_js0, ↓wp_js1, ↓wp_joined, ↓wp_dict0, ↓wp_list_t, ↓wp_list_l, ↓wp_add_l, ↓wp_bm, ↓wp_split, ↓wp_mkK, ↓wp_appK, ↓wp_cmK, ↓wp_callV, hk, ht]
theorem isW_o (hk : kindB S y = some t) (ht : isiB t "str" = false) : Wp (m_is_word [y] S) Q E = Q (.bl false) S := by
  unfold m_is_word b_is_word
  simp only [↓wp_run, ↓wp_var, ↓wp_c, ↓wp_op, ↓wp_un, ↓wp_fn, ↓wp_app, ↓wp_ap, ↓wp_nil, ↓wp_cons, ↓wp_mkTup, ↓wp_mkLst, ↓wp_tup, ↓wp_lst, ↓wp_asB, ↓wp_test, ↓wp_tru, ↓wp_and, ↓wp_or, ↓wp_not, ↓wp_if, ↓wp_andV, ↓wp_orV, ↓wp_notV, ↓wp_yes, ↓seqK_nx, ↓seqK_rt, ↓seqK_bk, ↓seqK_ct, ↓seqK_xc, ↓wp_seq, ↓wp_lft, ↓wp_next, ↓wp_brk, ↓wp_cont, ↓wp_sbad, ↓wp_expr, ↓wp_sret, ↓wp_sretN, ↓wp_sif, ↓wp_asg, ↓wp_gN, ↓wp_gT, ↓wp_par, ↓wp_gIx, ↓wp_fld, ↓finK_nx, ↓finK_rt, ↓finK_xc, ↓wp_mk, ↓wp_srcT, ↓wp_src, ↓wp_rng1, ↓wp_rng2, ↓wp_for, ↓forK_nx, ↓forK_ct, ↓forK_bk, ↓forK_rt, ↓wp_ok, ↓wp_ret, ↓wp_bnd, ↓wp_Rbnd, ↓wp_calm, ↓wp_t, ↓wp_f, startC, List.map_cons, List.map_nil, List.length_cons, List.length_nil, List.replicate_succ, List.replicate_zero, List.cons_append, List.nil_append, List.append_assoc, List.getElem?_cons_zero, List.getElem?_cons_succ, List.set_cons_zero, List.set_cons_succ, Nat.reduceAdd, Nat.reduceSub, Nat.zero_add, if_true, if_false, ite_true, ite_false, reduceIte, sizeLine, Nat.reducePow, Nat.reduceLeDiff, Nat.reduceEqDiff, atI_0, atI_1, atI_2, atI_3, ↓wp_add_i, ↓wp_add_s, ↓wp_sub_i, ↓wp_mul_i, ↓wp_mod_i, ↓wp_fdiv_i, ↓wp_pow_i, ↓wp_lt_i, ↓wp_le_i, ↓wp_gt_i, ↓wp_ge_i, ↓wp_lt_s, ↓wp_le_s, ↓wp_eq_i, ↓wp_ne_i, ↓wp_eq_s, ↓wp_ne_s, ↓wp_ix_t, ↓wp_ix_l, ↓wp_ix_s, ↓wp_setIx, ↓wp_len_s, ↓wp_len_t, ↓wp_len_l, ↓wp_abs, ↓wp_int, ↓wp_int_b, ↓wp_tru_b, ↓wp_tru_i, ↓wp_tru_non, ↓wp_tru_t, ↓wp_src_l, ↓wp_cmp_i, ↓wp_cmp_s, ↓wp_cmp_b, ↓wp_cmp_t, ↓wp_cmp_non, ↓wp_cmp_r, ↓ownR_b, ↓wp_ne_r, ↓wp_eq_r, ↓wp_ne_t, ↓wp_eq_t, ite_F, Int.reduceNeg, Int.reducePow, Int.reduceLT, Int.reduceLE, Int.reduceToNat, true_and, and_true, true_or, or_true, and_self, decide_true, decide_false, Bool.not_true, Bool.not_false, not_false_eq_true, ne_eq, Bool.false_eq_true, ↓wp_isiT, ↓wp_isiC, kindB_non, kindB_b, kindB_i, kindB_s, kindB_t, kindB_r, kindO_r, kindO_non, kindO_b, kindO_i, kindO_s, kindO_t, isi_nn, isi_bs, isi_is, isi_ss, isi_ts, isi_ls, isi_ds, mem_str, ↓wp_in_t, ↓wp_in_s, ↓wp_inOwn, ↓wp_inOwn_t, ↓wp_inOwn_s, ↓wp_att, ↓wp_met, ↓wp_setF, ↓wp_str_s, ↓wp_str_i, ↓wp_str_r, ↓strR_s, ↓wp_fmt_s, ↓wp_js0, ↓wp_js1, ↓wp_joined, ↓wp_dict0, ↓wp_list_t, ↓wp_list_l, ↓wp_add_l, ↓wp_bm, ↓wp_split, ↓wp_mkK, ↓wp_appK, ↓wp_cmK, ↓wp_callV, hk, ht]
theorem isP_o (hk : kindB S y = some t) (ht : isiB t "str" = false) : Wp (m_is_port [y] S) Q E = Q (.bl false) S := by
  unfold m_is_port b_is_port
  simp only [↓wp_run, ↓wp_var, ↓wp_c, ↓wp_op, ↓wp_un, ↓wp_fn, ↓wp_app, ↓wp_ap, ↓wp_nil, ↓wp_cons, ↓wp_mkTup, ↓wp_mkLst, ↓wp_tup, ↓wp_lst, ↓wp_asB, ↓wp_test, ↓wp_tru, ↓wp_and, ↓wp_or, ↓wp_not, ↓wp_if, ↓wp_andV, ↓wp_orV, ↓wp_notV, ↓wp_yes, ↓seqK_nx, ↓seqK_rt, ↓seqK_bk, ↓seqK_ct, ↓seqK_xc, ↓wp_seq, ↓wp_lft, ↓wp_next, ↓wp_brk, ↓wp_cont, ↓wp_sbad, ↓wp_expr, ↓wp_sret, ↓wp_sretN, ↓wp_sif, ↓wp_asg, ↓wp_gN, ↓wp_gT, ↓wp_par, ↓wp_gIx, ↓wp_fld, ↓finK_nx, ↓finK_rt, ↓finK_xc, ↓wp_mk, ↓wp_srcT, ↓wp_src, ↓wp_rng1, ↓wp_rng2, ↓wp_for, ↓forK_nx, ↓forK_ct, ↓forK_bk, ↓forK_rt, ↓wp_ok, ↓wp_ret, ↓wp_bnd, ↓wp_Rbnd, ↓wp_calm, ↓wp_t, ↓wp_f, startC, List.map_cons, List.map_nil, List.length_cons, List.length_nil, List.replicate_succ, List.replicate_zero, List.cons_append, List.nil_append, List.append_assoc, List.getElem?_cons_zero, List.getElem?_cons_succ, List.set_cons_zero, List.set_cons_succ, Nat.reduceAdd, Nat.reduceSub, Nat.zero_add, if_true, if_false, ite_true, ite_false, reduceIte, sizeLine, Nat.reducePow, Nat.reduceLeDiff, Nat.reduceEqDiff, atI_0, atI_1, atI_2, atI_3, ↓wp_add_i, ↓wp_add_s, ↓wp_sub_i, ↓wp_mul_i, ↓wp_mod_i, ↓wp_fdiv_i, ↓wp_pow_i, ↓wp_lt_i, ↓wp_le_i, ↓wp_gt_i, ↓wp_ge_i, ↓wp_lt_s, ↓wp_le_s, ↓wp_eq_i, ↓wp_ne_i, ↓wp_eq_s, ↓wp_ne_s, ↓wp_ix_t, ↓wp_ix_l, ↓wp_ix_s, ↓wp_setIx, ↓wp_len_s, ↓wp_len_t, ↓wp_len_l, ↓wp_abs, ↓wp_int, ↓wp_int_b, ↓wp_tru_b, ↓wp_tru_i, ↓wp_tru_non, ↓wp_tru_t, ↓wp_src_l, ↓wp_cmp_i, ↓wp_cmp_s, ↓wp_cmp_b, ↓wp_cmp_t, ↓wp_cmp_non, ↓wp_cmp_r, ↓ownR_b, ↓wp_ne_r, ↓wp_eq_r, ↓wp_ne_t, ↓wp_eq_t, ite_F, Int.reduceNeg, Int.reducePow, Int.reduceLT, Int.reduceLE, Int.reduceToNat, true_and, and_true, true_or, or_true, and_self, decide_true, decide_false, Bool.not_true, Bool.not_false, not_false_eq_true, ne_eq, Bool.false_eq_true, ↓wp_isiT, ↓wp_isiC, kindB_non, kindB_b, kindB_i, kindB_s, kindB_t, kindB_r, kindO_r, kindO_non, kindO_b, kindO_i, kindO_s, kindO_t, isi_nn, isi_bs, isi_is, isi_ss, isi_ts, isi_ls, isi_ds, mem_str, ↓wp_in_t, ↓wp_in_s, ↓wp_inOwn, ↓wp_inOwn_t, ↓wp_inOwn_s, ↓wp_att, ↓wp_met, ↓wp_setF, ↓wp_str_s, ↓wp_str_i, ↓wp_str_r, ↓strR_s, ↓wp_fmt_s, ↓wp_js0, ↓wp_js1, ↓wp_joined, ↓wp_dict0, ↓wp_list_t, ↓wp_list_l, ↓wp_add_l, ↓wp_bm, ↓wp_split, ↓wp_mkK, ↓wp_appK, ↓wp_cmK, ↓wp_callV, hk, ht]
theorem lisL_o (hk : kindB S y = some t) (ht : isiB t "str" = false) : Wp (m__law_is_letter [y] S) Q E = Q (.bl false) S := by
  unfold m__law_is_letter b__law_is_letter
  simp only [↓wp_run, ↓wp_var, ↓wp_c, ↓wp_op, ↓wp_un, ↓wp_fn, ↓wp_app, ↓wp_ap, ↓wp_nil, ↓wp_cons, ↓wp_mkTup, ↓wp_mkLst, ↓wp_tup, ↓wp_lst, ↓wp_asB, ↓wp_test, ↓wp_tru, ↓wp_and, ↓wp_or, ↓wp_not, ↓wp_if, ↓wp_andV, ↓wp_orV, ↓wp_notV, ↓wp_yes, ↓seqK_nx, ↓seqK_rt, ↓seqK_bk, ↓seqK_ct, ↓seqK_xc, ↓wp_seq, ↓wp_lft, ↓wp_next, ↓wp_brk, ↓wp_cont, ↓wp_sbad, ↓wp_expr, ↓wp_sret, ↓wp_sretN, ↓wp_sif, ↓wp_asg, ↓wp_gN, ↓wp_gT, ↓wp_par, ↓wp_gIx, ↓wp_fld, ↓finK_nx, ↓finK_rt, ↓finK_xc, ↓wp_mk, ↓wp_srcT, ↓wp_src, ↓wp_rng1, ↓wp_rng2, ↓wp_for, ↓forK_nx, ↓forK_ct, ↓forK_bk, ↓forK_rt, ↓wp_ok, ↓wp_ret, ↓wp_bnd, ↓wp_Rbnd, ↓wp_calm, ↓wp_t, ↓wp_f, startC, List.map_cons, List.map_nil, List.length_cons, List.length_nil, List.replicate_succ, List.replicate_zero, List.cons_append, List.nil_append, List.append_assoc, List.getElem?_cons_zero, List.getElem?_cons_succ, List.set_cons_zero, List.set_cons_succ, Nat.reduceAdd, Nat.reduceSub, Nat.zero_add, if_true, if_false, ite_true, ite_false, reduceIte, sizeLine, Nat.reducePow, Nat.reduceLeDiff, Nat.reduceEqDiff, atI_0, atI_1, atI_2, atI_3, ↓wp_add_i, ↓wp_add_s, ↓wp_sub_i, ↓wp_mul_i, ↓wp_mod_i, ↓wp_fdiv_i, ↓wp_pow_i, ↓wp_lt_i, ↓wp_le_i, ↓wp_gt_i, ↓wp_ge_i, ↓wp_lt_s, ↓wp_le_s, ↓wp_eq_i, ↓wp_ne_i, ↓wp_eq_s, ↓wp_ne_s, ↓wp_ix_t, ↓wp_ix_l, ↓wp_ix_s, ↓wp_setIx, ↓wp_len_s, ↓wp_len_t, ↓wp_len_l, ↓wp_abs, ↓wp_int, ↓wp_int_b, ↓wp_tru_b, ↓wp_tru_i, ↓wp_tru_non, ↓wp_tru_t, ↓wp_src_l, ↓wp_cmp_i, ↓wp_cmp_s, ↓wp_cmp_b, ↓wp_cmp_t, ↓wp_cmp_non, ↓wp_cmp_r, ↓ownR_b, ↓wp_ne_r, ↓wp_eq_r, ↓wp_ne_t, ↓wp_eq_t, ite_F, Int.reduceNeg, Int.reducePow, Int.reduceLT, Int.reduceLE, Int.reduceToNat, true_and, and_true, true_or, or_true, and_self, decide_true, decide_false, Bool.not_true, Bool.not_false, not_false_eq_true, ne_eq, Bool.false_eq_true, ↓wp_isiT, ↓wp_isiC, kindB_non, kindB_b, kindB_i, kindB_s, kindB_t, kindB_r, kindO_r, kindO_non, kindO_b, kindO_i, kindO_s, kindO_t, isi_nn, isi_bs, isi_is, isi_ss, isi_ts, isi_ls, isi_ds, mem_str, ↓wp_in_t, ↓wp_in_s, ↓wp_inOwn, ↓wp_inOwn_t, ↓wp_inOwn_s, ↓wp_att, ↓wp_met, ↓wp_setF, ↓wp_str_s, ↓wp_str_i, ↓wp_str_r, ↓strR_s, ↓wp_fmt_s, ↓wp_js0, ↓wp_js1, ↓wp_joined, ↓wp_dict0, ↓wp_list_t, ↓wp_list_l, ↓wp_add_l, ↓wp_bm, ↓wp_split, ↓wp_mkK, ↓wp_appK, ↓wp_cmK, ↓wp_callV, hk, ht]
theorem lisW_o (hk : kindB S y = some t) (ht : isiB t "str" = false) : Wp (m__law_is_word [y] S) Q E = Q (.bl false) S := by
  unfold m__law_is_word b__law_is_word
  simp only [↓wp_run, ↓wp_var, ↓wp_c, ↓wp_op, ↓wp_un, ↓wp_fn, ↓wp_app, ↓wp_ap, ↓wp_nil, ↓wp_cons, ↓wp_mkTup, ↓wp_mkLst, ↓wp_tup, ↓wp_lst, ↓wp_asB, ↓wp_test, ↓wp_tru, ↓wp_and, ↓wp_or, ↓wp_not, ↓wp_if, ↓wp_andV, ↓wp_orV, ↓wp_notV, ↓wp_yes, ↓seqK_nx, ↓seqK_rt, ↓seqK_bk, ↓seqK_ct, ↓seqK_xc, ↓wp_seq, ↓wp_lft, ↓wp_next, ↓wp_brk, ↓wp_cont, ↓wp_sbad, ↓wp_expr, ↓wp_sret, ↓wp_sretN, ↓wp_sif, ↓wp_asg, ↓wp_gN, ↓wp_gT, ↓wp_par, ↓wp_gIx, ↓wp_fld, ↓finK_nx, ↓finK_rt, ↓finK_xc, ↓wp_mk, ↓wp_srcT, ↓wp_src, ↓wp_rng1, ↓wp_rng2, ↓wp_for, ↓forK_nx, ↓forK_ct, ↓forK_bk, ↓forK_rt, ↓wp_ok, ↓wp_ret, ↓wp_bnd, ↓wp_Rbnd, ↓wp_calm, ↓wp_t, ↓wp_f, startC, List.map_cons, List.map_nil, List.length_cons, List.length_nil, List.replicate_succ, List.replicate_zero, List.cons_append, List.nil_append, List.append_assoc, List.getElem?_cons_zero, List.getElem?_cons_succ, List.set_cons_zero, List.set_cons_succ, Nat.reduceAdd, Nat.reduceSub, Nat.zero_add, if_true, if_false, ite_true, ite_false, reduceIte, sizeLine, Nat.reducePow, Nat.reduceLeDiff, Nat.reduceEqDiff, atI_0, atI_1, atI_2, atI_3, ↓wp_add_i, ↓wp_add_s, ↓wp_sub_i, ↓wp_mul_i, ↓wp_mod_i, ↓wp_fdiv_i, ↓wp_pow_i, ↓wp_lt_i, ↓wp_le_i, ↓wp_gt_i, ↓wp_ge_i, ↓wp_lt_s, ↓wp_le_s, ↓wp_eq_i, ↓wp_ne_i, ↓wp_eq_s, ↓wp_ne_s, ↓wp_ix_t, ↓wp_ix_l, ↓wp_ix_s, ↓wp_setIx, ↓wp_len_s, ↓wp_len_t, ↓wp_len_l, ↓wp_abs, ↓wp_int, ↓wp_int_b, ↓wp_tru_b, ↓wp_tru_i, ↓wp_tru_non, ↓wp_tru_t, ↓wp_src_l, ↓wp_cmp_i, ↓wp_cmp_s, ↓wp_cmp_b, ↓wp_cmp_t, ↓wp_cmp_non, ↓wp_cmp_r, ↓ownR_b, ↓wp_ne_r, ↓wp_eq_r, ↓wp_ne_t, ↓wp_eq_t, ite_F, Int.reduceNeg, Int.reducePow, Int.reduceLT, Int.reduceLE, Int.reduceToNat, true_and, and_true, true_or, or_true, and_self, decide_true, decide_false, Bool.not_true, Bool.not_false, not_false_eq_true, ne_eq, Bool.false_eq_true, ↓wp_isiT, ↓wp_isiC, kindB_non, kindB_b, kindB_i, kindB_s, kindB_t, kindB_r, kindO_r, kindO_non, kindO_b, kindO_i, kindO_s, kindO_t, isi_nn, isi_bs, isi_is, isi_ss, isi_ts, isi_ls, isi_ds, mem_str, ↓wp_in_t, ↓wp_in_s, ↓wp_inOwn, ↓wp_inOwn_t, ↓wp_inOwn_s, ↓wp_att, ↓wp_met, ↓wp_setF, ↓wp_str_s, ↓wp_str_i, ↓wp_str_r, ↓strR_s, ↓wp_fmt_s, ↓wp_js0, ↓wp_js1, ↓wp_joined, ↓wp_dict0, ↓wp_list_t, ↓wp_list_l, ↓wp_add_l, ↓wp_bm, ↓wp_split, ↓wp_mkK, ↓wp_appK, ↓wp_cmK, ↓wp_callV, hk, ht]
theorem name_o {r0 r1 r2 r3 r4 r5 r6 r8 r9 r10 : Option CV} (hk : ∀ l, kindB (S ++ l) y = some t) (ht : isiB t "str" = false) : Tr (L__law_names_right_0 [r0, r1, r2, r3, r4, r5, r6, some y, r8, r9, r10] S)
    (fun f S' => ∃ r8 r9, f = .nx [r0, r1, r2, r3, r4, r5, r6, some y, r8, r9, r10] ∧ Subs S S') := by
  constructor
  have hk0 : kindB S y = some t := by have := hk []; rwa [List.append_nil] at this
  unfold L__law_names_right_0
  simp only [↓wp_run, ↓wp_var, ↓wp_c, ↓wp_op, ↓wp_un, ↓wp_fn, ↓wp_app, ↓wp_ap, ↓wp_nil, ↓wp_cons, ↓wp_mkTup, ↓wp_mkLst, ↓wp_tup, ↓wp_lst, ↓wp_asB, ↓wp_test, ↓wp_tru, ↓wp_and, ↓wp_or, ↓wp_not, ↓wp_if, ↓wp_andV, ↓wp_orV, ↓wp_notV, ↓wp_yes, ↓seqK_nx, ↓seqK_rt, ↓seqK_bk, ↓seqK_ct, ↓seqK_xc, ↓wp_seq, ↓wp_lft, ↓wp_next, ↓wp_brk, ↓wp_cont, ↓wp_sbad, ↓wp_expr, ↓wp_sret, ↓wp_sretN, ↓wp_sif, ↓wp_asg, ↓wp_gN, ↓wp_gT, ↓wp_par, ↓wp_gIx, ↓wp_fld, ↓finK_nx, ↓finK_rt, ↓finK_xc, ↓wp_mk, ↓wp_srcT, ↓wp_src, ↓wp_rng1, ↓wp_rng2, ↓wp_for, ↓forK_nx, ↓forK_ct, ↓forK_bk, ↓forK_rt, ↓wp_ok, ↓wp_ret, ↓wp_bnd, ↓wp_Rbnd, ↓wp_calm, ↓wp_t, ↓wp_f, startC, List.map_cons, List.map_nil, List.length_cons, List.length_nil, List.replicate_succ, List.replicate_zero, List.cons_append, List.nil_append, List.append_assoc, List.getElem?_cons_zero, List.getElem?_cons_succ, List.set_cons_zero, List.set_cons_succ, Nat.reduceAdd, Nat.reduceSub, Nat.zero_add, if_true, if_false, ite_true, ite_false, reduceIte, sizeLine, Nat.reducePow, Nat.reduceLeDiff, Nat.reduceEqDiff, atI_0, atI_1, atI_2, atI_3, ↓wp_add_i, ↓wp_add_s, ↓wp_sub_i, ↓wp_mul_i, ↓wp_mod_i, ↓wp_fdiv_i, ↓wp_pow_i, ↓wp_lt_i, ↓wp_le_i, ↓wp_gt_i, ↓wp_ge_i, ↓wp_lt_s, ↓wp_le_s, ↓wp_eq_i, ↓wp_ne_i, ↓wp_eq_s, ↓wp_ne_s, ↓wp_ix_t, ↓wp_ix_l, ↓wp_ix_s, ↓wp_setIx, ↓wp_len_s, ↓wp_len_t, ↓wp_len_l, ↓wp_abs, ↓wp_int, ↓wp_int_b, ↓wp_tru_b, ↓wp_tru_i, ↓wp_tru_non, ↓wp_tru_t, ↓wp_src_l, ↓wp_cmp_i, ↓wp_cmp_s, ↓wp_cmp_b, ↓wp_cmp_t, ↓wp_cmp_non, ↓wp_cmp_r, ↓ownR_b, ↓wp_ne_r, ↓wp_eq_r, ↓wp_ne_t, ↓wp_eq_t, ite_F, Int.reduceNeg, Int.reducePow, Int.reduceLT, Int.reduceLE, Int.reduceToNat, true_and, and_true, true_or, or_true, and_self, decide_true, decide_false, Bool.not_true, Bool.not_false, not_false_eq_true, ne_eq, Bool.false_eq_true, ↓wp_isiT, ↓wp_isiC, kindB_non, kindB_b, kindB_i, kindB_s, kindB_t, kindB_r, kindO_r, kindO_non, kindO_b, kindO_i, kindO_s, kindO_t, isi_nn, isi_bs, isi_is, isi_ss, isi_ts, isi_ls, isi_ds, mem_str, ↓wp_in_t, ↓wp_in_s, ↓wp_inOwn, ↓wp_inOwn_t, ↓wp_inOwn_s, ↓wp_att, ↓wp_met, ↓wp_setF, ↓wp_str_s, ↓wp_str_i, ↓wp_str_r, ↓strR_s, ↓wp_fmt_s, ↓wp_js0, ↓wp_js1, ↓wp_joined, ↓wp_dict0, ↓wp_list_t, ↓wp_list_l, ↓wp_add_l, ↓wp_bm, ↓wp_split, ↓wp_mkK, ↓wp_appK, ↓wp_cmK, ↓wp_callV, hk0, ht, sel0, ↓wp_apK1, ↓isL_o hk0 ht, ↓isW_o hk0 ht, ↓isP_o hk0 ht]
  rw [wp_repr_b3 (b1 := false) (b2 := false) (b3 := false) (by simp)]
  simp only [↓wp_run, ↓wp_var, ↓wp_c, ↓wp_op, ↓wp_un, ↓wp_fn, ↓wp_app, ↓wp_ap, ↓wp_nil, ↓wp_cons, ↓wp_mkTup, ↓wp_mkLst, ↓wp_tup, ↓wp_lst, ↓wp_asB, ↓wp_test, ↓wp_tru, ↓wp_and, ↓wp_or, ↓wp_not, ↓wp_if, ↓wp_andV, ↓wp_orV, ↓wp_notV, ↓wp_yes, ↓seqK_nx, ↓seqK_rt, ↓seqK_bk, ↓seqK_ct, ↓seqK_xc, ↓wp_seq, ↓wp_lft, ↓wp_next, ↓wp_brk, ↓wp_cont, ↓wp_sbad, ↓wp_expr, ↓wp_sret, ↓wp_sretN, ↓wp_sif, ↓wp_asg, ↓wp_gN, ↓wp_gT, ↓wp_par, ↓wp_gIx, ↓wp_fld, ↓finK_nx, ↓finK_rt, ↓finK_xc, ↓wp_mk, ↓wp_srcT, ↓wp_src, ↓wp_rng1, ↓wp_rng2, ↓wp_for, ↓forK_nx, ↓forK_ct, ↓forK_bk, ↓forK_rt, ↓wp_ok, ↓wp_ret, ↓wp_bnd, ↓wp_Rbnd, ↓wp_calm, ↓wp_t, ↓wp_f, startC, List.map_cons, List.map_nil, List.length_cons, List.length_nil, List.replicate_succ, List.replicate_zero, List.cons_append, List.nil_append, List.append_assoc, List.getElem?_cons_zero, List.getElem?_cons_succ, List.set_cons_zero, List.set_cons_succ, Nat.reduceAdd, Nat.reduceSub, Nat.zero_add, if_true, if_false, ite_true, ite_false, reduceIte, sizeLine, Nat.reducePow, Nat.reduceLeDiff, Nat.reduceEqDiff, atI_0, atI_1, atI_2, atI_3, ↓wp_add_i, ↓wp_add_s, ↓wp_sub_i, ↓wp_mul_i, ↓wp_mod_i, ↓wp_fdiv_i, ↓wp_pow_i, ↓wp_lt_i, ↓wp_le_i, ↓wp_gt_i, ↓wp_ge_i, ↓wp_lt_s, ↓wp_le_s, ↓wp_eq_i, ↓wp_ne_i, ↓wp_eq_s, ↓wp_ne_s, ↓wp_ix_t, ↓wp_ix_l, ↓wp_ix_s, ↓wp_setIx, ↓wp_len_s, ↓wp_len_t, ↓wp_len_l, ↓wp_abs, ↓wp_int, ↓wp_int_b, ↓wp_tru_b, ↓wp_tru_i, ↓wp_tru_non, ↓wp_tru_t, ↓wp_src_l, ↓wp_cmp_i, ↓wp_cmp_s, ↓wp_cmp_b, ↓wp_cmp_t, ↓wp_cmp_non, ↓wp_cmp_r, ↓ownR_b, ↓wp_ne_r, ↓wp_eq_r, ↓wp_ne_t, ↓wp_eq_t, ite_F, Int.reduceNeg, Int.reducePow, Int.reduceLT, Int.reduceLE, Int.reduceToNat, true_and, and_true, true_or, or_true, and_self, decide_true, decide_false, Bool.not_true, Bool.not_false, not_false_eq_true, ne_eq, Bool.false_eq_true, ↓wp_isiT, ↓wp_isiC, kindB_non, kindB_b, kindB_i, kindB_s, kindB_t, kindB_r, kindO_r, kindO_non, kindO_b, kindO_i, kindO_s, kindO_t, isi_nn, isi_bs, isi_is, isi_ss, isi_ts, isi_ls, isi_ds, mem_str, ↓wp_in_t, ↓wp_in_s, ↓wp_inOwn, ↓wp_inOwn_t, ↓wp_inOwn_s, ↓wp_att, ↓wp_met, ↓wp_setF, ↓wp_str_s, ↓wp_str_i, ↓wp_str_r, ↓strR_s, ↓wp_fmt_s, ↓wp_js0, ↓wp_js1, ↓wp_joined, ↓wp_dict0, ↓wp_list_t, ↓wp_list_l, ↓wp_add_l, ↓wp_bm, ↓wp_split, ↓wp_mkK, ↓wp_appK, ↓wp_cmK, ↓wp_callV, ↓lisL_o (hk _) ht, ↓lisW_o (hk _) ht]
  rw [wp_repr_b3 (b1 := false) (b2 := false) (b3 := false) (by simp)]
  simp only [↓wp_run, ↓wp_var, ↓wp_c, ↓wp_op, ↓wp_un, ↓wp_fn, ↓wp_app, ↓wp_ap, ↓wp_nil, ↓wp_cons, ↓wp_mkTup, ↓wp_mkLst, ↓wp_tup, ↓wp_lst, ↓wp_asB, ↓wp_test, ↓wp_tru, ↓wp_and, ↓wp_or, ↓wp_not, ↓wp_if, ↓wp_andV, ↓wp_orV, ↓wp_notV, ↓wp_yes, ↓seqK_nx, ↓seqK_rt, ↓seqK_bk, ↓seqK_ct, ↓seqK_xc, ↓wp_seq, ↓wp_lft, ↓wp_next, ↓wp_brk, ↓wp_cont, ↓wp_sbad, ↓wp_expr, ↓wp_sret, ↓wp_sretN, ↓wp_sif, ↓wp_asg, ↓wp_gN, ↓wp_gT, ↓wp_par, ↓wp_gIx, ↓wp_fld, ↓finK_nx, ↓finK_rt, ↓finK_xc, ↓wp_mk, ↓wp_srcT, ↓wp_src, ↓wp_rng1, ↓wp_rng2, ↓wp_for, ↓forK_nx, ↓forK_ct, ↓forK_bk, ↓forK_rt, ↓wp_ok, ↓wp_ret, ↓wp_bnd, ↓wp_Rbnd, ↓wp_calm, ↓wp_t, ↓wp_f, startC, List.map_cons, List.map_nil, List.length_cons, List.length_nil, List.replicate_succ, List.replicate_zero, List.cons_append, List.nil_append, List.append_assoc, List.getElem?_cons_zero, List.getElem?_cons_succ, List.set_cons_zero, List.set_cons_succ, Nat.reduceAdd, Nat.reduceSub, Nat.zero_add, if_true, if_false, ite_true, ite_false, reduceIte, sizeLine, Nat.reducePow, Nat.reduceLeDiff, Nat.reduceEqDiff, atI_0, atI_1, atI_2, atI_3, ↓wp_add_i, ↓wp_add_s, ↓wp_sub_i, ↓wp_mul_i, ↓wp_mod_i, ↓wp_fdiv_i, ↓wp_pow_i, ↓wp_lt_i, ↓wp_le_i, ↓wp_gt_i, ↓wp_ge_i, ↓wp_lt_s, ↓wp_le_s, ↓wp_eq_i, ↓wp_ne_i, ↓wp_eq_s, ↓wp_ne_s, ↓wp_ix_t, ↓wp_ix_l, ↓wp_ix_s, ↓wp_setIx, ↓wp_len_s, ↓wp_len_t, ↓wp_len_l, ↓wp_abs, ↓wp_int, ↓wp_int_b, ↓wp_tru_b, ↓wp_tru_i, ↓wp_tru_non, ↓wp_tru_t, ↓wp_src_l, ↓wp_cmp_i, ↓wp_cmp_s, ↓wp_cmp_b, ↓wp_cmp_t, ↓wp_cmp_non, ↓wp_cmp_r, ↓ownR_b, ↓wp_ne_r, ↓wp_eq_r, ↓wp_ne_t, ↓wp_eq_t, ite_F, Int.reduceNeg, Int.reducePow, Int.reduceLT, Int.reduceLE, Int.reduceToNat, true_and, and_true, true_or, or_true, and_self, decide_true, decide_false, Bool.not_true, Bool.not_false, not_false_eq_true, ne_eq, Bool.false_eq_true, beq_self_eq_true]
  exact ⟨_, _, rfl, Subs.app⟩
/-- what can stand in the list -/
def Ok1 (S : Sto) (y : CV) : Prop := (∃ s, y = .str s ∧ Pl s) ∨ (∃ t, (∀ S', Subs S S' → kindB S' y = some t) ∧ isiB t "str" = false)
theorem Ok1.subs {S' : Sto} (h : Ok1 S y) (s : Subs S S') : Ok1 S' y := by
  rcases h with h | ⟨t, h1, h2⟩
  · exact .inl h
  · exact .inr ⟨t, fun S2 s2 => h1 S2 (s.trans s2), h2⟩
theorem names_loop {QF : CF → Sto → Prop} {r0 r1 r2 r3 r4 r5 r6 r7 r8 r9 r10 : Option CV} {xs : List CV} {m : Nat} (hm : S[m]? = some (.lst xs)) (h : ∀ y ∈ xs, Ok1 S y) (hq : ∀ r7 r8 r9 S', Subs S S' → QF (.nx [r0, r1, r2, r3, r4, r5, r6, r7, r8, r9, r10]) S') :
    Wp (forIt (Src.chk ⟨xs, some (m, .lst xs)⟩) (gN 7) L__law_names_right_0 xs [r0, r1, r2, r3, r4, r5, r6, r7, r8, r9, r10] S) QF NoE := by
  refine for_inv (fun l ρ S' => (∃ r7 r8 r9, ρ = [r0, r1, r2, r3, r4, r5, r6, r7, r8, r9, r10]) ∧ Subs S S' ∧ ∀ y ∈ l, y ∈ xs) ⟨⟨_, _, _, rfl⟩, Subs.refl, fun _ h => h⟩ (fun l ρ S' h => decide_eq_true (h.2.1 _ _ hm)) ?_ ?_
  · rintro y l ρ S' ⟨⟨r7, r8, r9, rfl⟩, hs, hl⟩
    have hy := (h y (hl y List.mem_cons_self)).subs hs
    simp only [↓wp_run, ↓wp_var, ↓wp_c, ↓wp_op, ↓wp_un, ↓wp_fn, ↓wp_app, ↓wp_ap, ↓wp_nil, ↓wp_cons, ↓wp_mkTup, ↓wp_mkLst, ↓wp_tup, ↓wp_lst, ↓wp_asB, ↓wp_test, ↓wp_tru, ↓wp_and, ↓wp_or, ↓wp_not, ↓wp_if, ↓wp_andV, ↓wp_orV, ↓wp_notV, ↓wp_yes, ↓seqK_nx, ↓seqK_rt, ↓seqK_bk, ↓seqK_ct, ↓seqK_xc, ↓wp_seq, ↓wp_lft, ↓wp_next, ↓wp_brk, ↓wp_cont, ↓wp_sbad, ↓wp_expr, ↓wp_sret, ↓wp_sretN, ↓wp_sif, ↓wp_asg, ↓wp_gN, ↓wp_gT, ↓wp_par, ↓wp_gIx, ↓wp_fld, ↓finK_nx, ↓finK_rt, ↓finK_xc, ↓wp_mk, ↓wp_srcT, ↓wp_src, ↓wp_rng1, ↓wp_rng2, ↓wp_for, ↓forK_nx, ↓forK_ct, ↓forK_bk, ↓forK_rt, ↓wp_ok, ↓wp_ret, ↓wp_bnd, ↓wp_Rbnd, ↓wp_calm, ↓wp_t, ↓wp_f, startC, List.map_cons, List.map_nil, List.length_cons, List.length_nil, List.replicate_succ, List.replicate_zero, List.cons_append, List.nil_append, List.append_assoc, List.getElem?_cons_zero, List.getElem?_cons_succ, List.set_cons_zero, List.set_cons_succ, Nat.reduceAdd, Nat.reduceSub, Nat.zero_add, if_true, if_false, ite_true, ite_false, reduceIte, sizeLine, Nat.reducePow, Nat.reduceLeDiff, Nat.reduceEqDiff]
    have main : Tr (L__law_names_right_0 [r0, r1, r2, r3, r4, r5, r6, some y, r8, r9, r10] S') (fun f S2 => ∃ r8 r9, f = .nx [r0, r1, r2, r3, r4, r5, r6, some y, r8, r9, r10] ∧ Subs S' S2) := by
      rcases hy with ⟨s, rfl, hs⟩ | ⟨t, h1, h2⟩
      · exact name_s hs
      · exact name_o (t := t) (fun l => h1 _ Subs.app) h2
    refine @Tr.mono _ _ _ _ _ main ?_
    rintro f S2 ⟨r8, r9, rfl, hs2⟩
    exact ⟨⟨_, _, _, rfl⟩, hs.trans hs2, fun z hz => hl z (List.mem_cons_of_mem _ hz)⟩
  · rintro ρ S' ⟨⟨r7, r8, r9, rfl⟩, hs, _⟩
    exact hq _ _ _ _ hs
/-! the drawn texts -/
abbrev mixs : Str := "abz01239-AZ_ ~{`"
abbrev gA : Str := "azmAZ0"
abbrev gB : Str := "012349a-"
theorem mixs_lt : ∀ c ∈ mixs.cps.toList, c < 128 := by decide +kernel
theorem abc_lt : ∀ c ∈ abc.cps.toList, c < 128 := by decide +kernel
theorem gA_lt : ∀ c ∈ gA.cps.toList, c < 128 := by decide +kernel
theorem gB_lt : ∀ c ∈ gB.cps.toList, c < 128 := by decide +kernel
theorem mixs_len : mixs.length = 16 := by decide +kernel
theorem abc_len : abc.length = 26 := by decide +kernel
theorem gA_len : gA.length = 6 := by decide +kernel
theorem gB_len : gB.length = 8 := by decide +kernel
theorem a8 : Pl (Txt.mul (Str.ofString "a") 8) := ⟨by decide +kernel, by decide +kernel⟩
theorem a9 : Pl (Txt.mul (Str.ofString "a") 9) := ⟨by decide +kernel, by decide +kernel⟩
theorem pl0 : Pl (Str.ofString "") := ⟨by decide +kernel, by decide +kernel⟩
theorem pl_of {l : List Nat} (hl : l.length ≤ 20) (h : ∀ c ∈ l, c < 128) : Pl ⟨l.toArray⟩ := ⟨by show l.toArray.size ≤ 20; simpa using hl, by simpa using h⟩
theorem drawnText {p c i d : Nat} {T : Int} {cells : List Int} {z : Str} {r1 r2 r3 r4 r5 r6 r7 r8 r9 r10 : Option CV} (hi : [some (.ref p), r1, r2, r3, r4, r5, r6, r7, r8, r9, r10][i]? = some (some (.str z))) (hi10 : i < 10) (hz : ∀ c ∈ z.cps.toList, c < 128) (hz0 : 0 < z.length) (hz1 : z.length < 1000) (hp : PenAt p c cells T S) (hT : T + d + 1 < 2 ^ 20) (hd0 : 0 < d) (hd : d ≤ 20)
    (hq : ∀ s S', Pl s → PenAt p c cells (T + d) S' → Ext p S S' → Q (.str s) S') :
    Wp (mBM "str" joinC (mC (.str "")) (mCons (mLc (mRng1 (mCons (mAp 2 m__law_draw (mCons (mVar 0) (mCons (mC (.int d)) mNil))) mNil)) (cN 10) mYes (mAp 2 m__law_pick (mCons (mVar 0) (mCons (mVar i) mNil))) [10]) mNil) [some (.ref p), r1, r2, r3, r4, r5, r6, r7, r8, r9, r10] S) Q E := by
  simp only [↓wp_run, ↓wp_var, ↓wp_c, ↓wp_op, ↓wp_un, ↓wp_fn, ↓wp_app, ↓wp_ap, ↓wp_nil, ↓wp_cons, ↓wp_mkTup, ↓wp_mkLst, ↓wp_tup, ↓wp_lst, ↓wp_asB, ↓wp_test, ↓wp_tru, ↓wp_and, ↓wp_or, ↓wp_not, ↓wp_if, ↓wp_andV, ↓wp_orV, ↓wp_notV, ↓wp_yes, ↓seqK_nx, ↓seqK_rt, ↓seqK_bk, ↓seqK_ct, ↓seqK_xc, ↓wp_seq, ↓wp_lft, ↓wp_next, ↓wp_brk, ↓wp_cont, ↓wp_sbad, ↓wp_expr, ↓wp_sret, ↓wp_sretN, ↓wp_sif, ↓wp_asg, ↓wp_gN, ↓wp_gT, ↓wp_par, ↓wp_gIx, ↓wp_fld, ↓finK_nx, ↓finK_rt, ↓finK_xc, ↓wp_mk, ↓wp_srcT, ↓wp_src, ↓wp_rng1, ↓wp_rng2, ↓wp_for, ↓forK_nx, ↓forK_ct, ↓forK_bk, ↓forK_rt, ↓wp_ok, ↓wp_ret, ↓wp_bnd, ↓wp_Rbnd, ↓wp_calm, ↓wp_t, ↓wp_f, startC, List.map_cons, List.map_nil, List.length_cons, List.length_nil, List.replicate_succ, List.replicate_zero, List.cons_append, List.nil_append, List.append_assoc, List.getElem?_cons_zero, List.getElem?_cons_succ, List.set_cons_zero, List.set_cons_succ, Nat.reduceAdd, Nat.reduceSub, Nat.zero_add, if_true, if_false, ite_true, ite_false, reduceIte, sizeLine, Nat.reducePow, Nat.reduceLeDiff, Nat.reduceEqDiff, ↓wp_isiT, ↓wp_isiC, kindB_non, kindB_b, kindB_i, kindB_s, kindB_t, kindB_r, kindO_r, kindO_non, kindO_b, kindO_i, kindO_s, kindO_t, isi_nn, isi_bs, isi_is, isi_ss, isi_ts, isi_ls, isi_ds, mem_str, ↓wp_in_t, ↓wp_in_s, ↓wp_inOwn, ↓wp_inOwn_t, ↓wp_inOwn_s, ↓wp_att, ↓wp_met, ↓wp_setF, ↓wp_str_s, ↓wp_str_i, ↓wp_str_r, ↓strR_s, ↓wp_fmt_s, ↓wp_js0, ↓wp_js1, ↓wp_joined, ↓wp_dict0, ↓wp_list_t, ↓wp_list_l, ↓wp_add_l, ↓wp_bm, ↓wp_split, ↓wp_mkK, ↓wp_appK, ↓wp_cmK, ↓wp_callV, tyB, ↓wp_lc]
  refine Wp.mono (draw hp (by omega) (by omega) (by omega)) ?_
  rintro v S1 ⟨e, rfl, e0, e1, hp1, he1⟩
  obtain ⟨m, rfl⟩ : ∃ m : Nat, e = m := ⟨e.toNat, by omega⟩
  rw [wp_rng1_n (by omega)]
  have hw : wipeC [some (.ref p), r1, r2, r3, r4, r5, r6, r7, r8, r9, r10] [10] = [some (.ref p), r1, r2, r3, r4, r5, r6, r7, r8, r9, none] := rfl
  have hv : ∀ v, [some (.ref p), r1, r2, r3, r4, r5, r6, r7, r8, r9, v][i]? = some (some (.str z)) := by
    intro v
    rcases i with _ | _ | _ | _ | _ | _ | _ | _ | _ | _ | i <;> first | exact hi | omega
  refine Wp.mono (lc_pen (chk := Src.chk ⟨rngItems 0 m, none⟩) (B := 1) (R := fun _ v => ∃ x, x < 128 ∧ v = .str (one x)) hp1.lt hp1.clt (fun _ _ => rfl) (rngItems 0 m) [] (T + 1) (S1 ++ [.lst []]) ?_ (by rw [List.length_nil, rng_len]; exact Nat.le_trans (by omega : 0 + m ≤ 20) sl_20) hp1.app (by rw [rng_len]; omega) Ext.app look_new0) ?_
  · intro x hx
    refine ⟨_, rfl, fun T S' hp hT he => ⟨?_⟩⟩
    simp only [hw, List.set_cons_succ, List.set_cons_zero, ↓wp_run, ↓wp_var, ↓wp_c, ↓wp_op, ↓wp_un, ↓wp_fn, ↓wp_app, ↓wp_ap, ↓wp_nil, ↓wp_cons, ↓wp_mkTup, ↓wp_mkLst, ↓wp_tup, ↓wp_lst, ↓wp_asB, ↓wp_test, ↓wp_tru, ↓wp_and, ↓wp_or, ↓wp_not, ↓wp_if, ↓wp_andV, ↓wp_orV, ↓wp_notV, ↓wp_yes, ↓seqK_nx, ↓seqK_rt, ↓seqK_bk, ↓seqK_ct, ↓seqK_xc, ↓wp_seq, ↓wp_lft, ↓wp_next, ↓wp_brk, ↓wp_cont, ↓wp_sbad, ↓wp_expr, ↓wp_sret, ↓wp_sretN, ↓wp_sif, ↓wp_asg, ↓wp_gN, ↓wp_gT, ↓wp_par, ↓wp_gIx, ↓wp_fld, ↓finK_nx, ↓finK_rt, ↓finK_xc, ↓wp_mk, ↓wp_srcT, ↓wp_src, ↓wp_rng1, ↓wp_rng2, ↓wp_for, ↓forK_nx, ↓forK_ct, ↓forK_bk, ↓forK_rt, ↓wp_ok, ↓wp_ret, ↓wp_bnd, ↓wp_Rbnd, ↓wp_calm, ↓wp_t, ↓wp_f, startC, List.map_cons, List.map_nil, List.length_cons, List.length_nil, List.replicate_succ, List.replicate_zero, List.cons_append, List.nil_append, List.append_assoc, List.getElem?_cons_zero, List.getElem?_cons_succ, List.set_cons_zero, List.set_cons_succ, Nat.reduceAdd, Nat.reduceSub, Nat.zero_add, if_true, if_false, ite_true, ite_false, reduceIte, sizeLine, Nat.reducePow, Nat.reduceLeDiff, Nat.reduceEqDiff, hv]
    refine Wp.mono (pick hp (by omega) hz0 hz1) ?_
    rintro v S2 ⟨c, hc, rfl, hp2, he2⟩
    exact ⟨⟨c, hz c hc, rfl⟩, hp2, he2⟩
  · rintro _ S2 ⟨ys, hy, hp2, he2, hl2⟩
    obtain ⟨l, rfl, hl, hll⟩ := signs_of hy
    rw [rng_len] at hll hp2
    rw [List.nil_append] at hl2
    rw [wp_join_ones hl2 (by omega)]
    exact hq _ _ (pl_of (by omega) hl) (hp2.le (by omega)) (he1.trans he2)
theorem two_len {a b : Nat} : (⟨#[a, b]⟩ : Str).length = 2 := rfl
theorem one_app {a b : Nat} : (⟨#[a]⟩ : Str) ++ (⟨#[b]⟩ : Str) = ⟨#[a, b]⟩ := rfl
theorem sp_app {a b : Nat} : (⟨#[a, b]⟩ : Str) ++ Str.ofString " " = ⟨#[a, b, 32]⟩ := by
  have : Str.ofString " " = ⟨#[32]⟩ := by decide +kernel
  rw [this]; rfl
theorem sp_len : (Str.ofString " ").length = 1 := by decide +kernel
theorem a_len : (Str.ofString "a").length = 1 := by decide +kernel
theorem namesR {p c : Nat} {T : Int} {cells : List Int} (hp : PenAt p c cells T S) (hT : T + 24 < 2 ^ 20) :
    Tr (m__law_names_right [.ref p] S) (fun v S' => v = .bl true ∧ PenAt p c cells (T + 23) S' ∧ Ext p S S') := by
  constructor
  unfold m__law_names_right b__law_names_right
  simp only [↓wp_run, ↓wp_var, ↓wp_c, ↓wp_op, ↓wp_un, ↓wp_fn, ↓wp_app, ↓wp_ap, ↓wp_nil, ↓wp_cons, ↓wp_mkTup, ↓wp_mkLst, ↓wp_tup, ↓wp_lst, ↓wp_asB, ↓wp_test, ↓wp_tru, ↓wp_and, ↓wp_or, ↓wp_not, ↓wp_if, ↓wp_andV, ↓wp_orV, ↓wp_notV, ↓wp_yes, ↓seqK_nx, ↓seqK_rt, ↓seqK_bk, ↓seqK_ct, ↓seqK_xc, ↓wp_seq, ↓wp_lft, ↓wp_next, ↓wp_brk, ↓wp_cont, ↓wp_sbad, ↓wp_expr, ↓wp_sret, ↓wp_sretN, ↓wp_sif, ↓wp_asg, ↓wp_gN, ↓wp_gT, ↓wp_par, ↓wp_gIx, ↓wp_fld, ↓finK_nx, ↓finK_rt, ↓finK_xc, ↓wp_mk, ↓wp_srcT, ↓wp_src, ↓wp_rng1, ↓wp_rng2, ↓wp_for, ↓forK_nx, ↓forK_ct, ↓forK_bk, ↓forK_rt, ↓wp_ok, ↓wp_ret, ↓wp_bnd, ↓wp_Rbnd, ↓wp_calm, ↓wp_t, ↓wp_f, startC, List.map_cons, List.map_nil, List.length_cons, List.length_nil, List.replicate_succ, List.replicate_zero, List.cons_append, List.nil_append, List.append_assoc, List.getElem?_cons_zero, List.getElem?_cons_succ, List.set_cons_zero, List.set_cons_succ, Nat.reduceAdd, Nat.reduceSub, Nat.zero_add, if_true, if_false, ite_true, ite_false, reduceIte, sizeLine, Nat.reducePow, Nat.reduceLeDiff, Nat.reduceEqDiff]
  refine drawnText (i := 1) (d := 10) (z := mixs) rfl (by decide) mixs_lt (by rw [mixs_len]; decide) (by rw [mixs_len]; decide) hp (by omega) (by decide) (by decide) ?_
  intro s1 S1 hs1 hp1 he1
  refine drawnText (i := 3) (d := 11) (z := abc) rfl (by decide) abc_lt (by rw [abc_len]; decide) (by rw [abc_len]; decide) hp1 (by omega) (by decide) (by decide) ?_
  intro s2 S2 hs2 hp2 he2
  try simp only [↓wp_run, ↓wp_var, ↓wp_c, ↓wp_op, ↓wp_un, ↓wp_fn, ↓wp_app, ↓wp_ap, ↓wp_nil, ↓wp_cons, ↓wp_mkTup, ↓wp_mkLst, ↓wp_tup, ↓wp_lst, ↓wp_asB, ↓wp_test, ↓wp_tru, ↓wp_and, ↓wp_or, ↓wp_not, ↓wp_if, ↓wp_andV, ↓wp_orV, ↓wp_notV, ↓wp_yes, ↓seqK_nx, ↓seqK_rt, ↓seqK_bk, ↓seqK_ct, ↓seqK_xc, ↓wp_seq, ↓wp_lft, ↓wp_next, ↓wp_brk, ↓wp_cont, ↓wp_sbad, ↓wp_expr, ↓wp_sret, ↓wp_sretN, ↓wp_sif, ↓wp_asg, ↓wp_gN, ↓wp_gT, ↓wp_par, ↓wp_gIx, ↓wp_fld, ↓finK_nx, ↓finK_rt, ↓finK_xc, ↓wp_mk, ↓wp_srcT, ↓wp_src, ↓wp_rng1, ↓wp_rng2, ↓wp_for, ↓forK_nx, ↓forK_ct, ↓forK_bk, ↓forK_rt, ↓wp_ok, ↓wp_ret, ↓wp_bnd, ↓wp_Rbnd, ↓wp_calm, ↓wp_t, ↓wp_f, startC, List.map_cons, List.map_nil, List.length_cons, List.length_nil, List.replicate_succ, List.replicate_zero, List.cons_append, List.nil_append, List.append_assoc, List.getElem?_cons_zero, List.getElem?_cons_succ, List.set_cons_zero, List.set_cons_succ, Nat.reduceAdd, Nat.reduceSub, Nat.zero_add, if_true, if_false, ite_true, ite_false, reduceIte, sizeLine, Nat.reducePow, Nat.reduceLeDiff, Nat.reduceEqDiff]
  refine Wp.mono (pick hp2 (by omega) (by rw [gA_len]; decide) (by rw [gA_len]; decide)) ?_
  rintro v S3 ⟨a, ha, rfl, hp3, he3⟩
  refine Wp.mono (pick hp3 (by omega) (by rw [gB_len]; decide) (by rw [gB_len]; decide)) ?_
  rintro v S4 ⟨b, hb, rfl, hp4, he4⟩
  have hc2 : Pl ⟨#[a, b]⟩ := pl_of (l := [a, b]) (by show 2 ≤ 20; decide) (by
    intro c hc
    simp only [List.mem_cons, List.not_mem_nil, or_false] at hc
    rcases hc with rfl | rfl
    · exact gA_lt _ ha
    · exact gB_lt _ hb)
  have hc3 : Pl ⟨#[a, b, 32]⟩ := pl_of (l := [a, b, 32]) (by show 3 ≤ 20; decide) (by
    intro c hc
    simp only [List.mem_cons, List.not_mem_nil, or_false] at hc
    rcases hc with rfl | rfl | rfl
    · exact gA_lt _ ha
    · exact gB_lt _ hb
    · decide)
  simp only [↓wp_run, ↓wp_var, ↓wp_c, ↓wp_op, ↓wp_un, ↓wp_fn, ↓wp_app, ↓wp_ap, ↓wp_nil, ↓wp_cons, ↓wp_mkTup, ↓wp_mkLst, ↓wp_tup, ↓wp_lst, ↓wp_asB, ↓wp_test, ↓wp_tru, ↓wp_and, ↓wp_or, ↓wp_not, ↓wp_if, ↓wp_andV, ↓wp_orV, ↓wp_notV, ↓wp_yes, ↓seqK_nx, ↓seqK_rt, ↓seqK_bk, ↓seqK_ct, ↓seqK_xc, ↓wp_seq, ↓wp_lft, ↓wp_next, ↓wp_brk, ↓wp_cont, ↓wp_sbad, ↓wp_expr, ↓wp_sret, ↓wp_sretN, ↓wp_sif, ↓wp_asg, ↓wp_gN, ↓wp_gT, ↓wp_par, ↓wp_gIx, ↓wp_fld, ↓finK_nx, ↓finK_rt, ↓finK_xc, ↓wp_mk, ↓wp_srcT, ↓wp_src, ↓wp_rng1, ↓wp_rng2, ↓wp_for, ↓forK_nx, ↓forK_ct, ↓forK_bk, ↓forK_rt, ↓wp_ok, ↓wp_ret, ↓wp_bnd, ↓wp_Rbnd, ↓wp_calm, ↓wp_t, ↓wp_f, startC, List.map_cons, List.map_nil, List.length_cons, List.length_nil, List.replicate_succ, List.replicate_zero, List.cons_append, List.nil_append, List.append_assoc, List.getElem?_cons_zero, List.getElem?_cons_succ, List.set_cons_zero, List.set_cons_succ, Nat.reduceAdd, Nat.reduceSub, Nat.zero_add, if_true, if_false, ite_true, ite_false, reduceIte, sizeLine, Nat.reducePow, Nat.reduceLeDiff, Nat.reduceEqDiff, atI_0, atI_1, atI_2, atI_3, ↓wp_add_i, ↓wp_add_s, ↓wp_sub_i, ↓wp_mul_i, ↓wp_mod_i, ↓wp_fdiv_i, ↓wp_pow_i, ↓wp_lt_i, ↓wp_le_i, ↓wp_gt_i, ↓wp_ge_i, ↓wp_lt_s, ↓wp_le_s, ↓wp_eq_i, ↓wp_ne_i, ↓wp_eq_s, ↓wp_ne_s, ↓wp_ix_t, ↓wp_ix_l, ↓wp_ix_s, ↓wp_setIx, ↓wp_len_s, ↓wp_len_t, ↓wp_len_l, ↓wp_abs, ↓wp_int, ↓wp_int_b, ↓wp_tru_b, ↓wp_tru_i, ↓wp_tru_non, ↓wp_tru_t, ↓wp_src_l, ↓wp_cmp_i, ↓wp_cmp_s, ↓wp_cmp_b, ↓wp_cmp_t, ↓wp_cmp_non, ↓wp_cmp_r, ↓ownR_b, ↓wp_ne_r, ↓wp_eq_r, ↓wp_ne_t, ↓wp_eq_t, ite_F, Int.reduceNeg, Int.reducePow, Int.reduceLT, Int.reduceLE, Int.reduceToNat, true_and, and_true, true_or, or_true, and_self, decide_true, decide_false, Bool.not_true, Bool.not_false, not_false_eq_true, ne_eq, Bool.false_eq_true, ↓wp_isiT, ↓wp_isiC, kindB_non, kindB_b, kindB_i, kindB_s, kindB_t, kindB_r, kindO_r, kindO_non, kindO_b, kindO_i, kindO_s, kindO_t, isi_nn, isi_bs, isi_is, isi_ss, isi_ts, isi_ls, isi_ds, mem_str, ↓wp_in_t, ↓wp_in_s, ↓wp_inOwn, ↓wp_inOwn_t, ↓wp_inOwn_s, ↓wp_att, ↓wp_met, ↓wp_setF, ↓wp_str_s, ↓wp_str_i, ↓wp_str_r, ↓strR_s, ↓wp_fmt_s, ↓wp_js0, ↓wp_js1, ↓wp_joined, ↓wp_dict0, ↓wp_list_t, ↓wp_list_l, ↓wp_add_l, ↓wp_bm, ↓wp_split, ↓wp_mkK, ↓wp_appK, ↓wp_cmK, ↓wp_callV, ↓chR_t, ↓chR_f, ↓wp_chain, ↓wp_src_s, ↓wp_mul_s, ↓wp_lt_t, ↓wp_att_c, ↓wp_tuple_l, ↓wp_fmt_i, ↓wp_strInt, look_new, look_new0, set_new, set_new0, List.length_append, Nat.add_assoc, one_app, sp_app, two_len, sp_len, a_len, ch_len, show (⟨#[a]⟩ : Str).length = 1 from rfl, show (⟨#[b]⟩ : Str).length = 1 from rfl]
  refine ⟨by decide, ?_⟩
  refine names_loop (look_new (k := 2)) ?_ ?_
  · intro y hy
    simp only [List.mem_cons, List.not_mem_nil, or_false] at hy
    rcases hy with rfl | rfl | rfl | rfl | rfl | rfl | rfl | rfl | rfl | rfl | rfl | rfl | rfl | rfl
    · exact .inl ⟨_, rfl, hs1⟩
    · exact .inl ⟨_, rfl, hs2⟩
    · exact .inl ⟨_, rfl, hc2⟩
    · exact .inl ⟨_, rfl, hc3⟩
    · exact .inl ⟨_, rfl, a8⟩
    · exact .inl ⟨_, rfl, a9⟩
    · exact .inl ⟨_, rfl, pl0⟩
    · exact .inr ⟨_, fun _ _ => rfl, isi_nn⟩
    · exact .inr ⟨_, fun _ _ => rfl, isi_is⟩
    · exact .inr ⟨_, fun _ _ => rfl, isi_bs⟩
    · exact .inr ⟨_, fun S' hs => by rw [kindB_r, hs _ _ look_new0], isi_ls⟩
    · exact .inr ⟨_, fun _ _ => rfl, isi_ts⟩
    · exact .inr ⟨_, fun S' hs => by rw [kindB_r, hs _ _ (look_new (k := 1))], isi_ds⟩
    · exact .inr ⟨_, fun _ _ => rfl, isi_is⟩
  · intro r7 r8 r9 S5 hs5
    simp only [↓wp_run, ↓wp_var, ↓wp_c, ↓wp_op, ↓wp_un, ↓wp_fn, ↓wp_app, ↓wp_ap, ↓wp_nil, ↓wp_cons, ↓wp_mkTup, ↓wp_mkLst, ↓wp_tup, ↓wp_lst, ↓wp_asB, ↓wp_test, ↓wp_tru, ↓wp_and, ↓wp_or, ↓wp_not, ↓wp_if, ↓wp_andV, ↓wp_orV, ↓wp_notV, ↓wp_yes, ↓seqK_nx, ↓seqK_rt, ↓seqK_bk, ↓seqK_ct, ↓seqK_xc, ↓wp_seq, ↓wp_lft, ↓wp_next, ↓wp_brk, ↓wp_cont, ↓wp_sbad, ↓wp_expr, ↓wp_sret, ↓wp_sretN, ↓wp_sif, ↓wp_asg, ↓wp_gN, ↓wp_gT, ↓wp_par, ↓wp_gIx, ↓wp_fld, ↓finK_nx, ↓finK_rt, ↓finK_xc, ↓wp_mk, ↓wp_srcT, ↓wp_src, ↓wp_rng1, ↓wp_rng2, ↓wp_for, ↓forK_nx, ↓forK_ct, ↓forK_bk, ↓forK_rt, ↓wp_ok, ↓wp_ret, ↓wp_bnd, ↓wp_Rbnd, ↓wp_calm, ↓wp_t, ↓wp_f, startC, List.map_cons, List.map_nil, List.length_cons, List.length_nil, List.replicate_succ, List.replicate_zero, List.cons_append, List.nil_append, List.append_assoc, List.getElem?_cons_zero, List.getElem?_cons_succ, List.set_cons_zero, List.set_cons_succ, Nat.reduceAdd, Nat.reduceSub, Nat.zero_add, if_true, if_false, ite_true, ite_false, reduceIte, sizeLine, Nat.reducePow, Nat.reduceLeDiff, Nat.reduceEqDiff]
    exact ⟨trivial, (hp4.app.subs hs5).le (by omega), ((((he1.trans he2).trans he3).trans he4).trans Ext.app).trans hs5.ext⟩
end
end L02
set_option Elab.async false
set_option linter.all false
set_option maxRecDepth 100000
set_option maxHeartbeats 4000000
namespace L02
open PySem PySem.Spec PyProof.Rows L2 MW
section
variable {S : Sto} {p c n : Nat} {T : Int} {cells : List Int}
def IsK (v : CV) : Prop := ∃ a m : Nat, v = .tup [.str (ch a), .int m] ∧ Lt a ∧ N3 m
theorem abc_Lt : ∀ x ∈ abc.cps.toList, 97 ≤ x ∧ x ≤ 122 := by decide +kernel
theorem src_3 {ρ : Rho} : mRng1 (mCons (mC (.int 3)) mNil) ρ S = .ok ⟨rngItems 0 3, none⟩ S := by
  apply eq_of_wp
  rw [wp_rng1, wp_cons, wp_c, wp_nil, show (CV.int 3) = .int ((3 : Nat) : Int) from rfl, p2 (by decide)]
  exact ⟨rfl, rfl⟩
/-- told right, all of them -/
theorem tolds {QF : CF → Sto → Prop} {r0 r2 r3 r5 r6 r7 r8 r9 : Option CV} {xs : List CV} {m : Nat} (hne : m ≠ p) (hm : S[m]? = some (.lst xs)) (h : ∀ y ∈ xs, IsK y) (hp : PenAt p c cells T S) (hT : T + 3 * xs.length + 3 < 2 ^ 20)
    (hq : ∀ r5 r6 S', PenAt p c cells (T + 3 * xs.length) S' → Ext p S S' → QF (.nx [r0, some (.ref p), r2, r3, some (.ref m), r5, r6, r7, r8, r9]) S') :
    Wp (forIt (Src.chk ⟨xs, some (m, .lst xs)⟩) (gT [5, 6]) L_law_0 xs [r0, some (.ref p), r2, r3, some (.ref m), r5, r6, r7, r8, r9] S) QF NoE := by
  refine for_inv (fun l ρ S' => (∃ r5 r6, ρ = [r0, some (.ref p), r2, r3, some (.ref m), r5, r6, r7, r8, r9]) ∧ PenAt p c cells (T + 3 * xs.length - 3 * l.length) S' ∧ Ext p S S' ∧ (∀ y ∈ l, IsK y) ∧ l.length ≤ xs.length) ⟨⟨_, _, rfl⟩, hp.le (by omega), Ext.refl, h, Nat.le_refl _⟩ (fun l ρ S' h => decide_eq_true (h.2.2.1 _ _ hne hm)) ?_ ?_
  · rintro y l ρ S' ⟨⟨r5, r6, rfl⟩, hp', he, hy, hl⟩
    obtain ⟨a, k, rfl, ha, hk⟩ := hy y List.mem_cons_self
    rw [List.length_cons] at hp' hl
    unfold L_law_0
    simp only [↓wp_run, ↓wp_var, ↓wp_c, ↓wp_op, ↓wp_un, ↓wp_fn, ↓wp_app, ↓wp_ap, ↓wp_nil, ↓wp_cons, ↓wp_mkTup, ↓wp_mkLst, ↓wp_tup, ↓wp_lst, ↓wp_asB, ↓wp_test, ↓wp_tru, ↓wp_and, ↓wp_or, ↓wp_not, ↓wp_if, ↓wp_andV, ↓wp_orV, ↓wp_notV, ↓wp_yes, ↓seqK_nx, ↓seqK_rt, ↓seqK_bk, ↓seqK_ct, ↓seqK_xc, ↓wp_seq, ↓wp_lft, ↓wp_next, ↓wp_brk, ↓wp_cont, ↓wp_sbad, ↓wp_expr, ↓wp_sret, ↓wp_sretN, ↓wp_sif, ↓wp_asg, ↓wp_gN, ↓wp_gT, ↓wp_par, ↓wp_gIx, ↓wp_fld, ↓finK_nx, ↓finK_rt, ↓finK_xc, ↓wp_mk, ↓wp_srcT, ↓wp_src, ↓wp_rng1, ↓wp_rng2, ↓wp_for, ↓forK_nx, ↓forK_ct, ↓forK_bk, ↓forK_rt, ↓wp_ok, ↓wp_ret, ↓wp_bnd, ↓wp_Rbnd, ↓wp_calm, ↓wp_t, ↓wp_f, startC, List.map_cons, List.map_nil, List.length_cons, List.length_nil, List.replicate_succ, List.replicate_zero, List.cons_append, List.nil_append, List.append_assoc, List.getElem?_cons_zero, List.getElem?_cons_succ, List.set_cons_zero, List.set_cons_succ, Nat.reduceAdd, Nat.reduceSub, Nat.zero_add, if_true, if_false, ite_true, ite_false, reduceIte, sizeLine, Nat.reducePow, Nat.reduceLeDiff, Nat.reduceEqDiff, gNs]
    refine @Tr.mono _ _ _ _ _ (told hp' (by omega) ha hk) ?_
    rintro v S1 ⟨rfl, hp1, he1⟩
    simp only [↓wp_run, ↓wp_var, ↓wp_c, ↓wp_op, ↓wp_un, ↓wp_fn, ↓wp_app, ↓wp_ap, ↓wp_nil, ↓wp_cons, ↓wp_mkTup, ↓wp_mkLst, ↓wp_tup, ↓wp_lst, ↓wp_asB, ↓wp_test, ↓wp_tru, ↓wp_and, ↓wp_or, ↓wp_not, ↓wp_if, ↓wp_andV, ↓wp_orV, ↓wp_notV, ↓wp_yes, ↓seqK_nx, ↓seqK_rt, ↓seqK_bk, ↓seqK_ct, ↓seqK_xc, ↓wp_seq, ↓wp_lft, ↓wp_next, ↓wp_brk, ↓wp_cont, ↓wp_sbad, ↓wp_expr, ↓wp_sret, ↓wp_sretN, ↓wp_sif, ↓wp_asg, ↓wp_gN, ↓wp_gT, ↓wp_par, ↓wp_gIx, ↓wp_fld, ↓finK_nx, ↓finK_rt, ↓finK_xc, ↓wp_mk, ↓wp_srcT, ↓wp_src, ↓wp_rng1, ↓wp_rng2, ↓wp_for, ↓forK_nx, ↓forK_ct, ↓forK_bk, ↓forK_rt, ↓wp_ok, ↓wp_ret, ↓wp_bnd, ↓wp_Rbnd, ↓wp_calm, ↓wp_t, ↓wp_f, startC, List.map_cons, List.map_nil, List.length_cons, List.length_nil, List.replicate_succ, List.replicate_zero, List.cons_append, List.nil_append, List.append_assoc, List.getElem?_cons_zero, List.getElem?_cons_succ, List.set_cons_zero, List.set_cons_succ, Nat.reduceAdd, Nat.reduceSub, Nat.zero_add, if_true, if_false, ite_true, ite_false, reduceIte, sizeLine, Nat.reducePow, Nat.reduceLeDiff, Nat.reduceEqDiff, atI_0, atI_1, atI_2, atI_3, ↓wp_add_i, ↓wp_add_s, ↓wp_sub_i, ↓wp_mul_i, ↓wp_mod_i, ↓wp_fdiv_i, ↓wp_pow_i, ↓wp_lt_i, ↓wp_le_i, ↓wp_gt_i, ↓wp_ge_i, ↓wp_lt_s, ↓wp_le_s, ↓wp_eq_i, ↓wp_ne_i, ↓wp_eq_s, ↓wp_ne_s, ↓wp_ix_t, ↓wp_ix_l, ↓wp_ix_s, ↓wp_setIx, ↓wp_len_s, ↓wp_len_t, ↓wp_len_l, ↓wp_abs, ↓wp_int, ↓wp_int_b, ↓wp_tru_b, ↓wp_tru_i, ↓wp_tru_non, ↓wp_tru_t, ↓wp_src_l, ↓wp_cmp_i, ↓wp_cmp_s, ↓wp_cmp_b, ↓wp_cmp_t, ↓wp_cmp_non, ↓wp_cmp_r, ↓ownR_b, ↓wp_ne_r, ↓wp_eq_r, ↓wp_ne_t, ↓wp_eq_t, ite_F, Int.reduceNeg, Int.reducePow, Int.reduceLT, Int.reduceLE, Int.reduceToNat, true_and, and_true, true_or, or_true, and_self, decide_true, decide_false, Bool.not_true, Bool.not_false, not_false_eq_true, ne_eq, Bool.false_eq_true]
    exact ⟨⟨_, _, rfl⟩, hp1.le (by omega), he.trans he1, fun z hz => hy z (List.mem_cons_of_mem _ hz), by omega⟩
  · rintro ρ S' ⟨⟨r5, r6, rfl⟩, hp', he, _⟩
    exact hq _ _ _ (hp'.le (by simp)) he
/-- every right one -/
theorem rights {QF : CF → Sto → Prop} {r0 r1 r2 r3 r5 r6 r8 r9 : Option CV} {xs : List CV} {x : CV} {m : Nat} (hm : S[m]? = some (.lst xs)) (hx : IsK x) (h : ∀ y ∈ xs, IsK y)
    (hq : ∀ r8 S', Subs S S' → QF (.nx [r0, r1, r2, r3, some (.ref m), r5, r6, some x, r8, r9]) S') :
    Wp (forIt (Src.chk ⟨xs, some (m, .lst xs)⟩) (gN 8) L_law_1 xs [r0, r1, r2, r3, some (.ref m), r5, r6, some x, r8, r9] S) QF NoE := by
  refine for_inv (fun l ρ S' => (∃ r8, ρ = [r0, r1, r2, r3, some (.ref m), r5, r6, some x, r8, r9]) ∧ Subs S S' ∧ ∀ y ∈ l, IsK y) ⟨⟨_, rfl⟩, Subs.refl, h⟩ (fun l ρ S' h => decide_eq_true (h.2.1 _ _ hm)) ?_ ?_
  · rintro y l ρ S' ⟨⟨r8, rfl⟩, he, hy⟩
    obtain ⟨a, k, rfl, ha, hk⟩ := hx
    obtain ⟨a', k', rfl, ha', hk'⟩ := hy y List.mem_cons_self
    unfold L_law_1
    simp only [↓wp_run, ↓wp_var, ↓wp_c, ↓wp_op, ↓wp_un, ↓wp_fn, ↓wp_app, ↓wp_ap, ↓wp_nil, ↓wp_cons, ↓wp_mkTup, ↓wp_mkLst, ↓wp_tup, ↓wp_lst, ↓wp_asB, ↓wp_test, ↓wp_tru, ↓wp_and, ↓wp_or, ↓wp_not, ↓wp_if, ↓wp_andV, ↓wp_orV, ↓wp_notV, ↓wp_yes, ↓seqK_nx, ↓seqK_rt, ↓seqK_bk, ↓seqK_ct, ↓seqK_xc, ↓wp_seq, ↓wp_lft, ↓wp_next, ↓wp_brk, ↓wp_cont, ↓wp_sbad, ↓wp_expr, ↓wp_sret, ↓wp_sretN, ↓wp_sif, ↓wp_asg, ↓wp_gN, ↓wp_gT, ↓wp_par, ↓wp_gIx, ↓wp_fld, ↓finK_nx, ↓finK_rt, ↓finK_xc, ↓wp_mk, ↓wp_srcT, ↓wp_src, ↓wp_rng1, ↓wp_rng2, ↓wp_for, ↓forK_nx, ↓forK_ct, ↓forK_bk, ↓forK_rt, ↓wp_ok, ↓wp_ret, ↓wp_bnd, ↓wp_Rbnd, ↓wp_calm, ↓wp_t, ↓wp_f, startC, List.map_cons, List.map_nil, List.length_cons, List.length_nil, List.replicate_succ, List.replicate_zero, List.cons_append, List.nil_append, List.append_assoc, List.getElem?_cons_zero, List.getElem?_cons_succ, List.set_cons_zero, List.set_cons_succ, Nat.reduceAdd, Nat.reduceSub, Nat.zero_add, if_true, if_false, ite_true, ite_false, reduceIte, sizeLine, Nat.reducePow, Nat.reduceLeDiff, Nat.reduceEqDiff]
    refine @Tr.mono _ _ _ _ _ (pairr ha ha' hk hk') ?_
    rintro v S1 ⟨rfl, l1, rfl⟩
    simp only [↓wp_run, ↓wp_var, ↓wp_c, ↓wp_op, ↓wp_un, ↓wp_fn, ↓wp_app, ↓wp_ap, ↓wp_nil, ↓wp_cons, ↓wp_mkTup, ↓wp_mkLst, ↓wp_tup, ↓wp_lst, ↓wp_asB, ↓wp_test, ↓wp_tru, ↓wp_and, ↓wp_or, ↓wp_not, ↓wp_if, ↓wp_andV, ↓wp_orV, ↓wp_notV, ↓wp_yes, ↓seqK_nx, ↓seqK_rt, ↓seqK_bk, ↓seqK_ct, ↓seqK_xc, ↓wp_seq, ↓wp_lft, ↓wp_next, ↓wp_brk, ↓wp_cont, ↓wp_sbad, ↓wp_expr, ↓wp_sret, ↓wp_sretN, ↓wp_sif, ↓wp_asg, ↓wp_gN, ↓wp_gT, ↓wp_par, ↓wp_gIx, ↓wp_fld, ↓finK_nx, ↓finK_rt, ↓finK_xc, ↓wp_mk, ↓wp_srcT, ↓wp_src, ↓wp_rng1, ↓wp_rng2, ↓wp_for, ↓forK_nx, ↓forK_ct, ↓forK_bk, ↓forK_rt, ↓wp_ok, ↓wp_ret, ↓wp_bnd, ↓wp_Rbnd, ↓wp_calm, ↓wp_t, ↓wp_f, startC, List.map_cons, List.map_nil, List.length_cons, List.length_nil, List.replicate_succ, List.replicate_zero, List.cons_append, List.nil_append, List.append_assoc, List.getElem?_cons_zero, List.getElem?_cons_succ, List.set_cons_zero, List.set_cons_succ, Nat.reduceAdd, Nat.reduceSub, Nat.zero_add, if_true, if_false, ite_true, ite_false, reduceIte, sizeLine, Nat.reducePow, Nat.reduceLeDiff, Nat.reduceEqDiff, atI_0, atI_1, atI_2, atI_3, ↓wp_add_i, ↓wp_add_s, ↓wp_sub_i, ↓wp_mul_i, ↓wp_mod_i, ↓wp_fdiv_i, ↓wp_pow_i, ↓wp_lt_i, ↓wp_le_i, ↓wp_gt_i, ↓wp_ge_i, ↓wp_lt_s, ↓wp_le_s, ↓wp_eq_i, ↓wp_ne_i, ↓wp_eq_s, ↓wp_ne_s, ↓wp_ix_t, ↓wp_ix_l, ↓wp_ix_s, ↓wp_setIx, ↓wp_len_s, ↓wp_len_t, ↓wp_len_l, ↓wp_abs, ↓wp_int, ↓wp_int_b, ↓wp_tru_b, ↓wp_tru_i, ↓wp_tru_non, ↓wp_tru_t, ↓wp_src_l, ↓wp_cmp_i, ↓wp_cmp_s, ↓wp_cmp_b, ↓wp_cmp_t, ↓wp_cmp_non, ↓wp_cmp_r, ↓ownR_b, ↓wp_ne_r, ↓wp_eq_r, ↓wp_ne_t, ↓wp_eq_t, ite_F, Int.reduceNeg, Int.reducePow, Int.reduceLT, Int.reduceLE, Int.reduceToNat, true_and, and_true, true_or, or_true, and_self, decide_true, decide_false, Bool.not_true, Bool.not_false, not_false_eq_true, ne_eq, Bool.false_eq_true]
    exact ⟨⟨_, rfl⟩, he.trans Subs.app, fun z hz => hy z (List.mem_cons_of_mem _ hz)⟩
  · rintro ρ S' ⟨⟨r8, rfl⟩, he, _⟩
    exact hq _ _ he
theorem lefts {QF : CF → Sto → Prop} {r0 r1 r2 r3 r5 r6 r7 r8 r9 : Option CV} {xs : List CV} {m : Nat} (hm : S[m]? = some (.lst xs)) (h : ∀ y ∈ xs, IsK y)
    (hq : ∀ r7 r8 S', Subs S S' → QF (.nx [r0, r1, r2, r3, some (.ref m), r5, r6, r7, r8, r9]) S') :
    Wp (forIt (Src.chk ⟨xs, some (m, .lst xs)⟩) (gN 7) L_law_2 xs [r0, r1, r2, r3, some (.ref m), r5, r6, r7, r8, r9] S) QF NoE := by
  refine for_inv (fun l ρ S' => (∃ r7 r8, ρ = [r0, r1, r2, r3, some (.ref m), r5, r6, r7, r8, r9]) ∧ Subs S S' ∧ ∀ y ∈ l, IsK y) ⟨⟨_, _, rfl⟩, Subs.refl, h⟩ (fun l ρ S' h => decide_eq_true (h.2.1 _ _ hm)) ?_ ?_
  · rintro y l ρ S' ⟨⟨r7, r8, rfl⟩, he, hy⟩
    have hm' := he _ _ hm
    unfold L_law_2
    simp only [↓wp_run, ↓wp_var, ↓wp_c, ↓wp_op, ↓wp_un, ↓wp_fn, ↓wp_app, ↓wp_ap, ↓wp_nil, ↓wp_cons, ↓wp_mkTup, ↓wp_mkLst, ↓wp_tup, ↓wp_lst, ↓wp_asB, ↓wp_test, ↓wp_tru, ↓wp_and, ↓wp_or, ↓wp_not, ↓wp_if, ↓wp_andV, ↓wp_orV, ↓wp_notV, ↓wp_yes, ↓seqK_nx, ↓seqK_rt, ↓seqK_bk, ↓seqK_ct, ↓seqK_xc, ↓wp_seq, ↓wp_lft, ↓wp_next, ↓wp_brk, ↓wp_cont, ↓wp_sbad, ↓wp_expr, ↓wp_sret, ↓wp_sretN, ↓wp_sif, ↓wp_asg, ↓wp_gN, ↓wp_gT, ↓wp_par, ↓wp_gIx, ↓wp_fld, ↓finK_nx, ↓finK_rt, ↓finK_xc, ↓wp_mk, ↓wp_srcT, ↓wp_src, ↓wp_rng1, ↓wp_rng2, ↓wp_for, ↓forK_nx, ↓forK_ct, ↓forK_bk, ↓forK_rt, ↓wp_ok, ↓wp_ret, ↓wp_bnd, ↓wp_Rbnd, ↓wp_calm, ↓wp_t, ↓wp_f, startC, List.map_cons, List.map_nil, List.length_cons, List.length_nil, List.replicate_succ, List.replicate_zero, List.cons_append, List.nil_append, List.append_assoc, List.getElem?_cons_zero, List.getElem?_cons_succ, List.set_cons_zero, List.set_cons_succ, Nat.reduceAdd, Nat.reduceSub, Nat.zero_add, if_true, if_false, ite_true, ite_false, reduceIte, sizeLine, Nat.reducePow, Nat.reduceLeDiff, Nat.reduceEqDiff, atI_0, atI_1, atI_2, atI_3, ↓wp_add_i, ↓wp_add_s, ↓wp_sub_i, ↓wp_mul_i, ↓wp_mod_i, ↓wp_fdiv_i, ↓wp_pow_i, ↓wp_lt_i, ↓wp_le_i, ↓wp_gt_i, ↓wp_ge_i, ↓wp_lt_s, ↓wp_le_s, ↓wp_eq_i, ↓wp_ne_i, ↓wp_eq_s, ↓wp_ne_s, ↓wp_ix_t, ↓wp_ix_l, ↓wp_ix_s, ↓wp_setIx, ↓wp_len_s, ↓wp_len_t, ↓wp_len_l, ↓wp_abs, ↓wp_int, ↓wp_int_b, ↓wp_tru_b, ↓wp_tru_i, ↓wp_tru_non, ↓wp_tru_t, ↓wp_src_l, ↓wp_cmp_i, ↓wp_cmp_s, ↓wp_cmp_b, ↓wp_cmp_t, ↓wp_cmp_non, ↓wp_cmp_r, ↓ownR_b, ↓wp_ne_r, ↓wp_eq_r, ↓wp_ne_t, ↓wp_eq_t, ite_F, Int.reduceNeg, Int.reducePow, Int.reduceLT, Int.reduceLE, Int.reduceToNat, true_and, and_true, true_or, or_true, and_self, decide_true, decide_false, Bool.not_true, Bool.not_false, not_false_eq_true, ne_eq, Bool.false_eq_true, hm']
    refine rights hm' (hy y List.mem_cons_self) h ?_
    intro r8 S1 h1
    exact ⟨⟨_, _, rfl⟩, he.trans h1, fun z hz => hy z (List.mem_cons_of_mem _ hz)⟩
  · rintro ρ S' ⟨⟨r7, r8, rfl⟩, he, _⟩
    exact hq _ _ _ he
/-- one turn -/
theorem turn {QF : CF → Sto → Prop} {r0 r2 r3 r4 r5 r6 r7 r8 r9 : Option CV} (hp : PenAt p c cells T S) (hT : T + 60 < 2 ^ 20)
    (hq : ∀ r3 r4 r5 r6 r7 r8 r9 S', PenAt p c cells (T + 50) S' → QF (.nx [r0, some (.ref p), r2, r3, r4, r5, r6, r7, r8, r9]) S') : Wp (L_law_3 [r0, some (.ref p), r2, r3, r4, r5, r6, r7, r8, r9] S) QF NoE := by
  unfold L_law_3
  rw [wp_seq, wp_asg]
  refine wp_lcPen (B := 1) (fun _ v => ∃ a, Lt a ∧ v = .str (ch a)) src_3 (fun _ _ => rfl) hp (by show T + ((1 : Nat) : Int) * ((3 : Nat) : Int) < 2 ^ 20; omega) (by show 3 ≤ sizeLine; decide) ?_ ?_
  · intro x hx
    refine ⟨_, rfl, fun T S' hp hT he => ⟨?_⟩⟩
    simp only [↓wp_run, ↓wp_var, ↓wp_c, ↓wp_op, ↓wp_un, ↓wp_fn, ↓wp_app, ↓wp_ap, ↓wp_nil, ↓wp_cons, ↓wp_mkTup, ↓wp_mkLst, ↓wp_tup, ↓wp_lst, ↓wp_asB, ↓wp_test, ↓wp_tru, ↓wp_and, ↓wp_or, ↓wp_not, ↓wp_if, ↓wp_andV, ↓wp_orV, ↓wp_notV, ↓wp_yes, ↓seqK_nx, ↓seqK_rt, ↓seqK_bk, ↓seqK_ct, ↓seqK_xc, ↓wp_seq, ↓wp_lft, ↓wp_next, ↓wp_brk, ↓wp_cont, ↓wp_sbad, ↓wp_expr, ↓wp_sret, ↓wp_sretN, ↓wp_sif, ↓wp_asg, ↓wp_gN, ↓wp_gT, ↓wp_par, ↓wp_gIx, ↓wp_fld, ↓finK_nx, ↓finK_rt, ↓finK_xc, ↓wp_mk, ↓wp_srcT, ↓wp_src, ↓wp_rng1, ↓wp_rng2, ↓wp_for, ↓forK_nx, ↓forK_ct, ↓forK_bk, ↓forK_rt, ↓wp_ok, ↓wp_ret, ↓wp_bnd, ↓wp_Rbnd, ↓wp_calm, ↓wp_t, ↓wp_f, startC, List.map_cons, List.map_nil, List.length_cons, List.length_nil, List.replicate_succ, List.replicate_zero, List.cons_append, List.nil_append, List.append_assoc, List.getElem?_cons_zero, List.getElem?_cons_succ, List.set_cons_zero, List.set_cons_succ, Nat.reduceAdd, Nat.reduceSub, Nat.zero_add, if_true, if_false, ite_true, ite_false, reduceIte, sizeLine, Nat.reducePow, Nat.reduceLeDiff, Nat.reduceEqDiff, wipeC]
    refine Wp.mono (pick hp (by omega) (by rw [abc_len]; decide) (by rw [abc_len]; decide)) ?_
    rintro v S2 ⟨a, ha, rfl, hp2, he2⟩
    exact ⟨⟨a, abc_Lt a ha, rfl⟩, hp2, he2⟩
  intro sg S1 hsg hp1 he1 hl1
  have hp1 : PenAt p c cells (T + 3) S1 := hp1
  have hs1 : S.length ≠ p := by have := hp.lt; omega
  have hsgl : sg.length = 3 := hsg.length
  have hsgk : ∀ y ∈ sg, ∃ a, Lt a ∧ y = .str (ch a) := hsg.right fun x _ y h => h
  try simp only [↓wp_run, ↓wp_var, ↓wp_c, ↓wp_op, ↓wp_un, ↓wp_fn, ↓wp_app, ↓wp_ap, ↓wp_nil, ↓wp_cons, ↓wp_mkTup, ↓wp_mkLst, ↓wp_tup, ↓wp_lst, ↓wp_asB, ↓wp_test, ↓wp_tru, ↓wp_and, ↓wp_or, ↓wp_not, ↓wp_if, ↓wp_andV, ↓wp_orV, ↓wp_notV, ↓wp_yes, ↓seqK_nx, ↓seqK_rt, ↓seqK_bk, ↓seqK_ct, ↓seqK_xc, ↓wp_seq, ↓wp_lft, ↓wp_next, ↓wp_brk, ↓wp_cont, ↓wp_sbad, ↓wp_expr, ↓wp_sret, ↓wp_sretN, ↓wp_sif, ↓wp_asg, ↓wp_gN, ↓wp_gT, ↓wp_par, ↓wp_gIx, ↓wp_fld, ↓finK_nx, ↓finK_rt, ↓finK_xc, ↓wp_mk, ↓wp_srcT, ↓wp_src, ↓wp_rng1, ↓wp_rng2, ↓wp_for, ↓forK_nx, ↓forK_ct, ↓forK_bk, ↓forK_rt, ↓wp_ok, ↓wp_ret, ↓wp_bnd, ↓wp_Rbnd, ↓wp_calm, ↓wp_t, ↓wp_f, startC, List.map_cons, List.map_nil, List.length_cons, List.length_nil, List.replicate_succ, List.replicate_zero, List.cons_append, List.nil_append, List.append_assoc, List.getElem?_cons_zero, List.getElem?_cons_succ, List.set_cons_zero, List.set_cons_succ, Nat.reduceAdd, Nat.reduceSub, Nat.zero_add, if_true, if_false, ite_true, ite_false, reduceIte, sizeLine, Nat.reducePow, Nat.reduceLeDiff, Nat.reduceEqDiff]
  refine wp_lcPen (B := 1) (src := ⟨sg, some (S.length, .lst sg)⟩) (fun _ v => IsK v) (src_at rfl hl1) (fun S' he => decide_eq_true (he _ _ hs1 hl1)) hp1 (by show T + 3 + ((1 : Nat) : Int) * (sg.length : Int) < 2 ^ 20; rw [hsgl]; omega) (by show sg.length ≤ sizeLine; rw [hsgl]; decide) ?_ ?_
  · intro x hx
    obtain ⟨a, ha, rfl⟩ := hsgk x hx
    refine ⟨_, rfl, fun T S' hp hT he => ⟨?_⟩⟩
    simp only [↓wp_run, ↓wp_var, ↓wp_c, ↓wp_op, ↓wp_un, ↓wp_fn, ↓wp_app, ↓wp_ap, ↓wp_nil, ↓wp_cons, ↓wp_mkTup, ↓wp_mkLst, ↓wp_tup, ↓wp_lst, ↓wp_asB, ↓wp_test, ↓wp_tru, ↓wp_and, ↓wp_or, ↓wp_not, ↓wp_if, ↓wp_andV, ↓wp_orV, ↓wp_notV, ↓wp_yes, ↓seqK_nx, ↓seqK_rt, ↓seqK_bk, ↓seqK_ct, ↓seqK_xc, ↓wp_seq, ↓wp_lft, ↓wp_next, ↓wp_brk, ↓wp_cont, ↓wp_sbad, ↓wp_expr, ↓wp_sret, ↓wp_sretN, ↓wp_sif, ↓wp_asg, ↓wp_gN, ↓wp_gT, ↓wp_par, ↓wp_gIx, ↓wp_fld, ↓finK_nx, ↓finK_rt, ↓finK_xc, ↓wp_mk, ↓wp_srcT, ↓wp_src, ↓wp_rng1, ↓wp_rng2, ↓wp_for, ↓forK_nx, ↓forK_ct, ↓forK_bk, ↓forK_rt, ↓wp_ok, ↓wp_ret, ↓wp_bnd, ↓wp_Rbnd, ↓wp_calm, ↓wp_t, ↓wp_f, startC, List.map_cons, List.map_nil, List.length_cons, List.length_nil, List.replicate_succ, List.replicate_zero, List.cons_append, List.nil_append, List.append_assoc, List.getElem?_cons_zero, List.getElem?_cons_succ, List.set_cons_zero, List.set_cons_succ, Nat.reduceAdd, Nat.reduceSub, Nat.zero_add, if_true, if_false, ite_true, ite_false, reduceIte, sizeLine, Nat.reducePow, Nat.reduceLeDiff, Nat.reduceEqDiff, wipeC]
    refine Wp.mono (draw hp (by omega) (by decide) (by decide)) ?_
    rintro v S2 ⟨d, rfl, d0, d1, hp2, he2⟩
    simp only [↓wp_run, ↓wp_var, ↓wp_c, ↓wp_op, ↓wp_un, ↓wp_fn, ↓wp_app, ↓wp_ap, ↓wp_nil, ↓wp_cons, ↓wp_mkTup, ↓wp_mkLst, ↓wp_tup, ↓wp_lst, ↓wp_asB, ↓wp_test, ↓wp_tru, ↓wp_and, ↓wp_or, ↓wp_not, ↓wp_if, ↓wp_andV, ↓wp_orV, ↓wp_notV, ↓wp_yes, ↓seqK_nx, ↓seqK_rt, ↓seqK_bk, ↓seqK_ct, ↓seqK_xc, ↓wp_seq, ↓wp_lft, ↓wp_next, ↓wp_brk, ↓wp_cont, ↓wp_sbad, ↓wp_expr, ↓wp_sret, ↓wp_sretN, ↓wp_sif, ↓wp_asg, ↓wp_gN, ↓wp_gT, ↓wp_par, ↓wp_gIx, ↓wp_fld, ↓finK_nx, ↓finK_rt, ↓finK_xc, ↓wp_mk, ↓wp_srcT, ↓wp_src, ↓wp_rng1, ↓wp_rng2, ↓wp_for, ↓forK_nx, ↓forK_ct, ↓forK_bk, ↓forK_rt, ↓wp_ok, ↓wp_ret, ↓wp_bnd, ↓wp_Rbnd, ↓wp_calm, ↓wp_t, ↓wp_f, startC, List.map_cons, List.map_nil, List.length_cons, List.length_nil, List.replicate_succ, List.replicate_zero, List.cons_append, List.nil_append, List.append_assoc, List.getElem?_cons_zero, List.getElem?_cons_succ, List.set_cons_zero, List.set_cons_succ, Nat.reduceAdd, Nat.reduceSub, Nat.zero_add, if_true, if_false, ite_true, ite_false, reduceIte, sizeLine, Nat.reducePow, Nat.reduceLeDiff, Nat.reduceEqDiff, atI_0, atI_1, atI_2, atI_3, ↓wp_add_i, ↓wp_add_s, ↓wp_sub_i, ↓wp_mul_i, ↓wp_mod_i, ↓wp_fdiv_i, ↓wp_pow_i, ↓wp_lt_i, ↓wp_le_i, ↓wp_gt_i, ↓wp_ge_i, ↓wp_lt_s, ↓wp_le_s, ↓wp_eq_i, ↓wp_ne_i, ↓wp_eq_s, ↓wp_ne_s, ↓wp_ix_t, ↓wp_ix_l, ↓wp_ix_s, ↓wp_setIx, ↓wp_len_s, ↓wp_len_t, ↓wp_len_l, ↓wp_abs, ↓wp_int, ↓wp_int_b, ↓wp_tru_b, ↓wp_tru_i, ↓wp_tru_non, ↓wp_tru_t, ↓wp_src_l, ↓wp_cmp_i, ↓wp_cmp_s, ↓wp_cmp_b, ↓wp_cmp_t, ↓wp_cmp_non, ↓wp_cmp_r, ↓ownR_b, ↓wp_ne_r, ↓wp_eq_r, ↓wp_ne_t, ↓wp_eq_t, ite_F, Int.reduceNeg, Int.reducePow, Int.reduceLT, Int.reduceLE, Int.reduceToNat, true_and, and_true, true_or, or_true, and_self, decide_true, decide_false, Bool.not_true, Bool.not_false, not_false_eq_true, ne_eq, Bool.false_eq_true]
    refine ⟨⟨a, (1 + d).toNat, ?_, ha, ?_⟩, hp2, he2⟩
    · rw [Int.toNat_of_nonneg (by omega)]
    · unfold N3; omega
  intro dr S2 hdr hp2 he2 hl2
  have hs2 : S1.length ≠ p := by have := hp1.lt; omega
  have hdrl : dr.length = 3 := hdr.length.trans hsgl
  have hdrk : ∀ y ∈ dr, IsK y := hdr.right fun x _ y h => h
  have hp2 : PenAt p c cells (T + 6) S2 := hp2.le (by show T + 3 + ((1 : Nat) : Int) * (sg.length : Int) ≤ T + 6; rw [hsgl]; omega)
  try simp only [↓wp_run, ↓wp_var, ↓wp_c, ↓wp_op, ↓wp_un, ↓wp_fn, ↓wp_app, ↓wp_ap, ↓wp_nil, ↓wp_cons, ↓wp_mkTup, ↓wp_mkLst, ↓wp_tup, ↓wp_lst, ↓wp_asB, ↓wp_test, ↓wp_tru, ↓wp_and, ↓wp_or, ↓wp_not, ↓wp_if, ↓wp_andV, ↓wp_orV, ↓wp_notV, ↓wp_yes, ↓seqK_nx, ↓seqK_rt, ↓seqK_bk, ↓seqK_ct, ↓seqK_xc, ↓wp_seq, ↓wp_lft, ↓wp_next, ↓wp_brk, ↓wp_cont, ↓wp_sbad, ↓wp_expr, ↓wp_sret, ↓wp_sretN, ↓wp_sif, ↓wp_asg, ↓wp_gN, ↓wp_gT, ↓wp_par, ↓wp_gIx, ↓wp_fld, ↓finK_nx, ↓finK_rt, ↓finK_xc, ↓wp_mk, ↓wp_srcT, ↓wp_src, ↓wp_rng1, ↓wp_rng2, ↓wp_for, ↓forK_nx, ↓forK_ct, ↓forK_bk, ↓forK_rt, ↓wp_ok, ↓wp_ret, ↓wp_bnd, ↓wp_Rbnd, ↓wp_calm, ↓wp_t, ↓wp_f, startC, List.map_cons, List.map_nil, List.length_cons, List.length_nil, List.replicate_succ, List.replicate_zero, List.cons_append, List.nil_append, List.append_assoc, List.getElem?_cons_zero, List.getElem?_cons_succ, List.set_cons_zero, List.set_cons_succ, Nat.reduceAdd, Nat.reduceSub, Nat.zero_add, if_true, if_false, ite_true, ite_false, reduceIte, sizeLine, Nat.reducePow, Nat.reduceLeDiff, Nat.reduceEqDiff]
  refine wp_lcPen (B := 0) (src := ⟨dr, some (S1.length, .lst dr)⟩) (fun _ v => IsK v) (src_at rfl hl2) (fun S' he => decide_eq_true (he _ _ hs2 hl2)) hp2 (by show T + 6 + ((0 : Nat) : Int) * (dr.length : Int) < 2 ^ 20; omega) (by show dr.length ≤ sizeLine; rw [hdrl]; decide) ?_ ?_
  · intro x hx
    obtain ⟨a, m, rfl, ha, hm⟩ := hdrk x hx
    refine ⟨_, rfl, fun T S' hp hT he => ⟨?_⟩⟩
    simp only [↓wp_run, ↓wp_var, ↓wp_c, ↓wp_op, ↓wp_un, ↓wp_fn, ↓wp_app, ↓wp_ap, ↓wp_nil, ↓wp_cons, ↓wp_mkTup, ↓wp_mkLst, ↓wp_tup, ↓wp_lst, ↓wp_asB, ↓wp_test, ↓wp_tru, ↓wp_and, ↓wp_or, ↓wp_not, ↓wp_if, ↓wp_andV, ↓wp_orV, ↓wp_notV, ↓wp_yes, ↓seqK_nx, ↓seqK_rt, ↓seqK_bk, ↓seqK_ct, ↓seqK_xc, ↓wp_seq, ↓wp_lft, ↓wp_next, ↓wp_brk, ↓wp_cont, ↓wp_sbad, ↓wp_expr, ↓wp_sret, ↓wp_sretN, ↓wp_sif, ↓wp_asg, ↓wp_gN, ↓wp_gT, ↓wp_par, ↓wp_gIx, ↓wp_fld, ↓finK_nx, ↓finK_rt, ↓finK_xc, ↓wp_mk, ↓wp_srcT, ↓wp_src, ↓wp_rng1, ↓wp_rng2, ↓wp_for, ↓forK_nx, ↓forK_ct, ↓forK_bk, ↓forK_rt, ↓wp_ok, ↓wp_ret, ↓wp_bnd, ↓wp_Rbnd, ↓wp_calm, ↓wp_t, ↓wp_f, startC, List.map_cons, List.map_nil, List.length_cons, List.length_nil, List.replicate_succ, List.replicate_zero, List.cons_append, List.nil_append, List.append_assoc, List.getElem?_cons_zero, List.getElem?_cons_succ, List.set_cons_zero, List.set_cons_succ, Nat.reduceAdd, Nat.reduceSub, Nat.zero_add, if_true, if_false, ite_true, ite_false, reduceIte, sizeLine, Nat.reducePow, Nat.reduceLeDiff, Nat.reduceEqDiff, atI_0, atI_1, atI_2, atI_3, ↓wp_add_i, ↓wp_add_s, ↓wp_sub_i, ↓wp_mul_i, ↓wp_mod_i, ↓wp_fdiv_i, ↓wp_pow_i, ↓wp_lt_i, ↓wp_le_i, ↓wp_gt_i, ↓wp_ge_i, ↓wp_lt_s, ↓wp_le_s, ↓wp_eq_i, ↓wp_ne_i, ↓wp_eq_s, ↓wp_ne_s, ↓wp_ix_t, ↓wp_ix_l, ↓wp_ix_s, ↓wp_setIx, ↓wp_len_s, ↓wp_len_t, ↓wp_len_l, ↓wp_abs, ↓wp_int, ↓wp_int_b, ↓wp_tru_b, ↓wp_tru_i, ↓wp_tru_non, ↓wp_tru_t, ↓wp_src_l, ↓wp_cmp_i, ↓wp_cmp_s, ↓wp_cmp_b, ↓wp_cmp_t, ↓wp_cmp_non, ↓wp_cmp_r, ↓ownR_b, ↓wp_ne_r, ↓wp_eq_r, ↓wp_ne_t, ↓wp_eq_t, ite_F, Int.reduceNeg, Int.reducePow, Int.reduceLT, Int.reduceLE, Int.reduceToNat, true_and, and_true, true_or, or_true, and_self, decide_true, decide_false, Bool.not_true, Bool.not_false, not_false_eq_true, ne_eq, Bool.false_eq_true, wipeC, gNs]
    refine ⟨by decide, ⟨a, if m = 3 then 1 else m + 1, ?_, ha, ?_⟩, hp.le (by simp), Ext.refl⟩
    · rcases hm with rfl | rfl | rfl <;> rfl
    · rcases hm with rfl | rfl | rfl <;> decide
  intro er S3 her hp3 he3 hl3
  have herl : er.length = 3 := her.length.trans hdrl
  have herk : ∀ y ∈ er, IsK y := her.right fun x _ y h => h
  have hp3 : PenAt p c cells (T + 6) S3 := hp3.le (by show T + 6 + ((0 : Nat) : Int) * (dr.length : Int) ≤ T + 6; omega)
  have hl2' := he3 _ _ hs2 hl2
  have hal : ∀ y ∈ dr ++ er, IsK y := fun y hy => (List.mem_append.mp hy).elim (hdrk y) (herk y)
  have hall : (dr ++ er).length = 6 := by rw [List.length_append, hdrl, herl]
  have h3p : S3.length ≠ p := by have := hp3.lt; omega
  simp only [↓wp_run, ↓wp_var, ↓wp_c, ↓wp_op, ↓wp_un, ↓wp_fn, ↓wp_app, ↓wp_ap, ↓wp_nil, ↓wp_cons, ↓wp_mkTup, ↓wp_mkLst, ↓wp_tup, ↓wp_lst, ↓wp_asB, ↓wp_test, ↓wp_tru, ↓wp_and, ↓wp_or, ↓wp_not, ↓wp_if, ↓wp_andV, ↓wp_orV, ↓wp_notV, ↓wp_yes, ↓seqK_nx, ↓seqK_rt, ↓seqK_bk, ↓seqK_ct, ↓seqK_xc, ↓wp_seq, ↓wp_lft, ↓wp_next, ↓wp_brk, ↓wp_cont, ↓wp_sbad, ↓wp_expr, ↓wp_sret, ↓wp_sretN, ↓wp_sif, ↓wp_asg, ↓wp_gN, ↓wp_gT, ↓wp_par, ↓wp_gIx, ↓wp_fld, ↓finK_nx, ↓finK_rt, ↓finK_xc, ↓wp_mk, ↓wp_srcT, ↓wp_src, ↓wp_rng1, ↓wp_rng2, ↓wp_for, ↓forK_nx, ↓forK_ct, ↓forK_bk, ↓forK_rt, ↓wp_ok, ↓wp_ret, ↓wp_bnd, ↓wp_Rbnd, ↓wp_calm, ↓wp_t, ↓wp_f, startC, List.map_cons, List.map_nil, List.length_cons, List.length_nil, List.replicate_succ, List.replicate_zero, List.cons_append, List.nil_append, List.append_assoc, List.getElem?_cons_zero, List.getElem?_cons_succ, List.set_cons_zero, List.set_cons_succ, Nat.reduceAdd, Nat.reduceSub, Nat.zero_add, if_true, if_false, ite_true, ite_false, reduceIte, sizeLine, Nat.reducePow, Nat.reduceLeDiff, Nat.reduceEqDiff, atI_0, atI_1, atI_2, atI_3, ↓wp_add_i, ↓wp_add_s, ↓wp_sub_i, ↓wp_mul_i, ↓wp_mod_i, ↓wp_fdiv_i, ↓wp_pow_i, ↓wp_lt_i, ↓wp_le_i, ↓wp_gt_i, ↓wp_ge_i, ↓wp_lt_s, ↓wp_le_s, ↓wp_eq_i, ↓wp_ne_i, ↓wp_eq_s, ↓wp_ne_s, ↓wp_ix_t, ↓wp_ix_l, ↓wp_ix_s, ↓wp_setIx, ↓wp_len_s, ↓wp_len_t, ↓wp_len_l, ↓wp_abs, ↓wp_int, ↓wp_int_b, ↓wp_tru_b, ↓wp_tru_i, ↓wp_tru_non, ↓wp_tru_t, ↓wp_src_l, ↓wp_cmp_i, ↓wp_cmp_s, ↓wp_cmp_b, ↓wp_cmp_t, ↓wp_cmp_non, ↓wp_cmp_r, ↓ownR_b, ↓wp_ne_r, ↓wp_eq_r, ↓wp_ne_t, ↓wp_eq_t, ite_F, Int.reduceNeg, Int.reducePow, Int.reduceLT, Int.reduceLE, Int.reduceToNat, true_and, and_true, true_or, or_true, and_self, decide_true, decide_false, Bool.not_true, Bool.not_false, not_false_eq_true, ne_eq, Bool.false_eq_true, ↓wp_isiT, ↓wp_isiC, kindB_non, kindB_b, kindB_i, kindB_s, kindB_t, kindB_r, kindO_r, kindO_non, kindO_b, kindO_i, kindO_s, kindO_t, isi_nn, isi_bs, isi_is, isi_ss, isi_ts, isi_ls, isi_ds, mem_str, ↓wp_in_t, ↓wp_in_s, ↓wp_inOwn, ↓wp_inOwn_t, ↓wp_inOwn_s, ↓wp_att, ↓wp_met, ↓wp_setF, ↓wp_str_s, ↓wp_str_i, ↓wp_str_r, ↓strR_s, ↓wp_fmt_s, ↓wp_js0, ↓wp_js1, ↓wp_joined, ↓wp_dict0, ↓wp_list_t, ↓wp_list_l, ↓wp_add_l, ↓wp_bm, ↓wp_split, ↓wp_mkK, ↓wp_appK, ↓wp_cmK, ↓wp_callV, hl2', hl3, hdrl, herl, look_new0]
  first | refine ⟨by decide, ?_⟩ | skip
  refine tolds h3p look_new0 hal hp3.app (by rw [hall]; show T + 6 + 3 * ((6 : Nat) : Int) + 3 < 2 ^ 20; omega) ?_
  intro r5 r6 S4 hp4 he4
  have hp4 : PenAt p c cells (T + 24) S4 := hp4.le (by rw [hall]; show T + 6 + 3 * ((6 : Nat) : Int) ≤ T + 24; omega)
  have hl4 := he4 _ _ h3p look_new0
  simp only [↓wp_run, ↓wp_var, ↓wp_c, ↓wp_op, ↓wp_un, ↓wp_fn, ↓wp_app, ↓wp_ap, ↓wp_nil, ↓wp_cons, ↓wp_mkTup, ↓wp_mkLst, ↓wp_tup, ↓wp_lst, ↓wp_asB, ↓wp_test, ↓wp_tru, ↓wp_and, ↓wp_or, ↓wp_not, ↓wp_if, ↓wp_andV, ↓wp_orV, ↓wp_notV, ↓wp_yes, ↓seqK_nx, ↓seqK_rt, ↓seqK_bk, ↓seqK_ct, ↓seqK_xc, ↓wp_seq, ↓wp_lft, ↓wp_next, ↓wp_brk, ↓wp_cont, ↓wp_sbad, ↓wp_expr, ↓wp_sret, ↓wp_sretN, ↓wp_sif, ↓wp_asg, ↓wp_gN, ↓wp_gT, ↓wp_par, ↓wp_gIx, ↓wp_fld, ↓finK_nx, ↓finK_rt, ↓finK_xc, ↓wp_mk, ↓wp_srcT, ↓wp_src, ↓wp_rng1, ↓wp_rng2, ↓wp_for, ↓forK_nx, ↓forK_ct, ↓forK_bk, ↓forK_rt, ↓wp_ok, ↓wp_ret, ↓wp_bnd, ↓wp_Rbnd, ↓wp_calm, ↓wp_t, ↓wp_f, startC, List.map_cons, List.map_nil, List.length_cons, List.length_nil, List.replicate_succ, List.replicate_zero, List.cons_append, List.nil_append, List.append_assoc, List.getElem?_cons_zero, List.getElem?_cons_succ, List.set_cons_zero, List.set_cons_succ, Nat.reduceAdd, Nat.reduceSub, Nat.zero_add, if_true, if_false, ite_true, ite_false, reduceIte, sizeLine, Nat.reducePow, Nat.reduceLeDiff, Nat.reduceEqDiff, atI_0, atI_1, atI_2, atI_3, ↓wp_add_i, ↓wp_add_s, ↓wp_sub_i, ↓wp_mul_i, ↓wp_mod_i, ↓wp_fdiv_i, ↓wp_pow_i, ↓wp_lt_i, ↓wp_le_i, ↓wp_gt_i, ↓wp_ge_i, ↓wp_lt_s, ↓wp_le_s, ↓wp_eq_i, ↓wp_ne_i, ↓wp_eq_s, ↓wp_ne_s, ↓wp_ix_t, ↓wp_ix_l, ↓wp_ix_s, ↓wp_setIx, ↓wp_len_s, ↓wp_len_t, ↓wp_len_l, ↓wp_abs, ↓wp_int, ↓wp_int_b, ↓wp_tru_b, ↓wp_tru_i, ↓wp_tru_non, ↓wp_tru_t, ↓wp_src_l, ↓wp_cmp_i, ↓wp_cmp_s, ↓wp_cmp_b, ↓wp_cmp_t, ↓wp_cmp_non, ↓wp_cmp_r, ↓ownR_b, ↓wp_ne_r, ↓wp_eq_r, ↓wp_ne_t, ↓wp_eq_t, ite_F, Int.reduceNeg, Int.reducePow, Int.reduceLT, Int.reduceLE, Int.reduceToNat, true_and, and_true, true_or, or_true, and_self, decide_true, decide_false, Bool.not_true, Bool.not_false, not_false_eq_true, ne_eq, Bool.false_eq_true, hl4, List.getElem?_cons_zero]
  refine lefts hl4 hal ?_
  intro r7 r8 S5 hs5
  simp only [↓wp_run, ↓wp_var, ↓wp_c, ↓wp_op, ↓wp_un, ↓wp_fn, ↓wp_app, ↓wp_ap, ↓wp_nil, ↓wp_cons, ↓wp_mkTup, ↓wp_mkLst, ↓wp_tup, ↓wp_lst, ↓wp_asB, ↓wp_test, ↓wp_tru, ↓wp_and, ↓wp_or, ↓wp_not, ↓wp_if, ↓wp_andV, ↓wp_orV, ↓wp_notV, ↓wp_yes, ↓seqK_nx, ↓seqK_rt, ↓seqK_bk, ↓seqK_ct, ↓seqK_xc, ↓wp_seq, ↓wp_lft, ↓wp_next, ↓wp_brk, ↓wp_cont, ↓wp_sbad, ↓wp_expr, ↓wp_sret, ↓wp_sretN, ↓wp_sif, ↓wp_asg, ↓wp_gN, ↓wp_gT, ↓wp_par, ↓wp_gIx, ↓wp_fld, ↓finK_nx, ↓finK_rt, ↓finK_xc, ↓wp_mk, ↓wp_srcT, ↓wp_src, ↓wp_rng1, ↓wp_rng2, ↓wp_for, ↓forK_nx, ↓forK_ct, ↓forK_bk, ↓forK_rt, ↓wp_ok, ↓wp_ret, ↓wp_bnd, ↓wp_Rbnd, ↓wp_calm, ↓wp_t, ↓wp_f, startC, List.map_cons, List.map_nil, List.length_cons, List.length_nil, List.replicate_succ, List.replicate_zero, List.cons_append, List.nil_append, List.append_assoc, List.getElem?_cons_zero, List.getElem?_cons_succ, List.set_cons_zero, List.set_cons_succ, Nat.reduceAdd, Nat.reduceSub, Nat.zero_add, if_true, if_false, ite_true, ite_false, reduceIte, sizeLine, Nat.reducePow, Nat.reduceLeDiff, Nat.reduceEqDiff]
  refine @Tr.mono _ _ _ _ _ (namesR (hp4.subs hs5) (by omega)) ?_
  rintro v S6 ⟨rfl, hp6, he6⟩
  simp only [↓wp_run, ↓wp_var, ↓wp_c, ↓wp_op, ↓wp_un, ↓wp_fn, ↓wp_app, ↓wp_ap, ↓wp_nil, ↓wp_cons, ↓wp_mkTup, ↓wp_mkLst, ↓wp_tup, ↓wp_lst, ↓wp_asB, ↓wp_test, ↓wp_tru, ↓wp_and, ↓wp_or, ↓wp_not, ↓wp_if, ↓wp_andV, ↓wp_orV, ↓wp_notV, ↓wp_yes, ↓seqK_nx, ↓seqK_rt, ↓seqK_bk, ↓seqK_ct, ↓seqK_xc, ↓wp_seq, ↓wp_lft, ↓wp_next, ↓wp_brk, ↓wp_cont, ↓wp_sbad, ↓wp_expr, ↓wp_sret, ↓wp_sretN, ↓wp_sif, ↓wp_asg, ↓wp_gN, ↓wp_gT, ↓wp_par, ↓wp_gIx, ↓wp_fld, ↓finK_nx, ↓finK_rt, ↓finK_xc, ↓wp_mk, ↓wp_srcT, ↓wp_src, ↓wp_rng1, ↓wp_rng2, ↓wp_for, ↓forK_nx, ↓forK_ct, ↓forK_bk, ↓forK_rt, ↓wp_ok, ↓wp_ret, ↓wp_bnd, ↓wp_Rbnd, ↓wp_calm, ↓wp_t, ↓wp_f, startC, List.map_cons, List.map_nil, List.length_cons, List.length_nil, List.replicate_succ, List.replicate_zero, List.cons_append, List.nil_append, List.append_assoc, List.getElem?_cons_zero, List.getElem?_cons_succ, List.set_cons_zero, List.set_cons_succ, Nat.reduceAdd, Nat.reduceSub, Nat.zero_add, if_true, if_false, ite_true, ite_false, reduceIte, sizeLine, Nat.reducePow, Nat.reduceLeDiff, Nat.reduceEqDiff, atI_0, atI_1, atI_2, atI_3, ↓wp_add_i, ↓wp_add_s, ↓wp_sub_i, ↓wp_mul_i, ↓wp_mod_i, ↓wp_fdiv_i, ↓wp_pow_i, ↓wp_lt_i, ↓wp_le_i, ↓wp_gt_i, ↓wp_ge_i, ↓wp_lt_s, ↓wp_le_s, ↓wp_eq_i, ↓wp_ne_i, ↓wp_eq_s, ↓wp_ne_s, ↓wp_ix_t, ↓wp_ix_l, ↓wp_ix_s, ↓wp_setIx, ↓wp_len_s, ↓wp_len_t, ↓wp_len_l, ↓wp_abs, ↓wp_int, ↓wp_int_b, ↓wp_tru_b, ↓wp_tru_i, ↓wp_tru_non, ↓wp_tru_t, ↓wp_src_l, ↓wp_cmp_i, ↓wp_cmp_s, ↓wp_cmp_b, ↓wp_cmp_t, ↓wp_cmp_non, ↓wp_cmp_r, ↓ownR_b, ↓wp_ne_r, ↓wp_eq_r, ↓wp_ne_t, ↓wp_eq_t, ite_F, Int.reduceNeg, Int.reducePow, Int.reduceLT, Int.reduceLE, Int.reduceToNat, true_and, and_true, true_or, or_true, and_self, decide_true, decide_false, Bool.not_true, Bool.not_false, not_false_eq_true, ne_eq, Bool.false_eq_true]
  exact hq _ _ _ _ _ _ _ _ (hp6.le (by omega))
theorem pen (ns : List Int) : ∃ cells : List Int, cells.length ≤ 63 ∧ m__law_pen [.scr ns] [] = .ok (.ref 2) [.lst (cells.map .int), .lst (cells.map .int), .lst [.ref 1, .int 0, .int 0]] := by
  refine ⟨ns.take (min 63 ns.length), by rw [List.length_take]; omega, ?_⟩
  have e : cutL (ns.map CV.int) none (some 63) = (ns.take (min 63 ns.length)).map CV.int := by
    unfold cutL
    rw [List.length_map, HT.sIx_none, List.drop_zero, show (some (63 : Int)) = some ((63 : Nat) : Int) from rfl, HT.sIx_nat, Nat.sub_zero, ← List.map_take]
  rw [← e]
  rfl
theorem e_D : att_ENDS_0.lookup ("DeadEnd" : Str) = some (AK.con (.int 1)) := rfl
theorem e_B : att_ENDS_0.lookup ("Bend" : Str) = some (AK.con (.int 2)) := rfl
theorem e_F : att_ENDS_0.lookup ("Fork" : Str) = some (AK.con (.int 3)) := rfl
theorem eqD_123 {k j : Nat} (h : S[k]? = some (.lst [.int 1, .int 2, .int 3])) (h' : S[j]? = some (.lst [.int 1, .int 2, .int 3])) : eqD S (.ref k) (.ref j) = some true := by
  unfold eqD
  rw [td_ref, td_ref, h, h']
  rfl
theorem good : ∀ ns : List Int, ns.length ≤ 63 → (∀ z ∈ ns, Builtin.Int.intBits z ≤ 1048576) → ∃ S', m_law [.scr ns] [] = .ok (.bl true) S' := by
  intro ns _ _
  obtain ⟨cells, hl, he⟩ := pen ns
  have main : Wp (m_law [.scr ns] []) (fun x _ => x = .bl true) NoE := by
    unfold m_law b_law
    simp only [↓wp_run, ↓wp_var, ↓wp_c, ↓wp_op, ↓wp_un, ↓wp_fn, ↓wp_app, ↓wp_ap, ↓wp_nil, ↓wp_cons, ↓wp_mkTup, ↓wp_mkLst, ↓wp_tup, ↓wp_lst, ↓wp_asB, ↓wp_test, ↓wp_tru, ↓wp_and, ↓wp_or, ↓wp_not, ↓wp_if, ↓wp_andV, ↓wp_orV, ↓wp_notV, ↓wp_yes, ↓seqK_nx, ↓seqK_rt, ↓seqK_bk, ↓seqK_ct, ↓seqK_xc, ↓wp_seq, ↓wp_lft, ↓wp_next, ↓wp_brk, ↓wp_cont, ↓wp_sbad, ↓wp_expr, ↓wp_sret, ↓wp_sretN, ↓wp_sif, ↓wp_asg, ↓wp_gN, ↓wp_gT, ↓wp_par, ↓wp_gIx, ↓wp_fld, ↓finK_nx, ↓finK_rt, ↓finK_xc, ↓wp_mk, ↓wp_srcT, ↓wp_src, ↓wp_rng1, ↓wp_rng2, ↓wp_for, ↓forK_nx, ↓forK_ct, ↓forK_bk, ↓forK_rt, ↓wp_ok, ↓wp_ret, ↓wp_bnd, ↓wp_Rbnd, ↓wp_calm, ↓wp_t, ↓wp_f, startC, List.map_cons, List.map_nil, List.length_cons, List.length_nil, List.replicate_succ, List.replicate_zero, List.cons_append, List.nil_append, List.append_assoc, List.getElem?_cons_zero, List.getElem?_cons_succ, List.set_cons_zero, List.set_cons_succ, Nat.reduceAdd, Nat.reduceSub, Nat.zero_add, if_true, if_false, ite_true, ite_false, reduceIte, sizeLine, Nat.reducePow, Nat.reduceLeDiff, Nat.reduceEqDiff]
    rw [wp_eq he]
    try simp only [↓wp_run, ↓wp_var, ↓wp_c, ↓wp_op, ↓wp_un, ↓wp_fn, ↓wp_app, ↓wp_ap, ↓wp_nil, ↓wp_cons, ↓wp_mkTup, ↓wp_mkLst, ↓wp_tup, ↓wp_lst, ↓wp_asB, ↓wp_test, ↓wp_tru, ↓wp_and, ↓wp_or, ↓wp_not, ↓wp_if, ↓wp_andV, ↓wp_orV, ↓wp_notV, ↓wp_yes, ↓seqK_nx, ↓seqK_rt, ↓seqK_bk, ↓seqK_ct, ↓seqK_xc, ↓wp_seq, ↓wp_lft, ↓wp_next, ↓wp_brk, ↓wp_cont, ↓wp_sbad, ↓wp_expr, ↓wp_sret, ↓wp_sretN, ↓wp_sif, ↓wp_asg, ↓wp_gN, ↓wp_gT, ↓wp_par, ↓wp_gIx, ↓wp_fld, ↓finK_nx, ↓finK_rt, ↓finK_xc, ↓wp_mk, ↓wp_srcT, ↓wp_src, ↓wp_rng1, ↓wp_rng2, ↓wp_for, ↓forK_nx, ↓forK_ct, ↓forK_bk, ↓forK_rt, ↓wp_ok, ↓wp_ret, ↓wp_bnd, ↓wp_Rbnd, ↓wp_calm, ↓wp_t, ↓wp_f, startC, List.map_cons, List.map_nil, List.length_cons, List.length_nil, List.replicate_succ, List.replicate_zero, List.cons_append, List.nil_append, List.append_assoc, List.getElem?_cons_zero, List.getElem?_cons_succ, List.set_cons_zero, List.set_cons_succ, Nat.reduceAdd, Nat.reduceSub, Nat.zero_add, if_true, if_false, ite_true, ite_false, reduceIte, sizeLine, Nat.reducePow, Nat.reduceLeDiff, Nat.reduceEqDiff]
    rw [show (CV.int 6) = .int ((6 : Nat) : Int) from rfl, wp_rng1_n (by decide)]
    refine for_inv (fun l ρ S' => (∃ r2 r3 r4 r5 r6 r7 r8 r9, ρ = [some (.scr ns), some (.ref 2), r2, r3, r4, r5, r6, r7, r8, r9]) ∧ PenAt 2 1 cells (300 - 50 * l.length) S' ∧ l.length ≤ 6) ⟨⟨_, _, _, _, _, _, _, _, rfl⟩, ⟨0, 0, rfl, rfl, by omega, by show (0 : Int) ≤ 300 - 50 * ((6 : Nat) : Int); omega, by omega, by decide, hl⟩, by decide⟩ (fun _ _ _ _ => rfl) ?_ ?_
    · rintro x l ρ S ⟨⟨r2, r3, r4, r5, r6, r7, r8, r9, rfl⟩, hp, hk⟩
      rw [List.length_cons] at hp hk
      simp only [↓wp_run, ↓wp_var, ↓wp_c, ↓wp_op, ↓wp_un, ↓wp_fn, ↓wp_app, ↓wp_ap, ↓wp_nil, ↓wp_cons, ↓wp_mkTup, ↓wp_mkLst, ↓wp_tup, ↓wp_lst, ↓wp_asB, ↓wp_test, ↓wp_tru, ↓wp_and, ↓wp_or, ↓wp_not, ↓wp_if, ↓wp_andV, ↓wp_orV, ↓wp_notV, ↓wp_yes, ↓seqK_nx, ↓seqK_rt, ↓seqK_bk, ↓seqK_ct, ↓seqK_xc, ↓wp_seq, ↓wp_lft, ↓wp_next, ↓wp_brk, ↓wp_cont, ↓wp_sbad, ↓wp_expr, ↓wp_sret, ↓wp_sretN, ↓wp_sif, ↓wp_asg, ↓wp_gN, ↓wp_gT, ↓wp_par, ↓wp_gIx, ↓wp_fld, ↓finK_nx, ↓finK_rt, ↓finK_xc, ↓wp_mk, ↓wp_srcT, ↓wp_src, ↓wp_rng1, ↓wp_rng2, ↓wp_for, ↓forK_nx, ↓forK_ct, ↓forK_bk, ↓forK_rt, ↓wp_ok, ↓wp_ret, ↓wp_bnd, ↓wp_Rbnd, ↓wp_calm, ↓wp_t, ↓wp_f, startC, List.map_cons, List.map_nil, List.length_cons, List.length_nil, List.replicate_succ, List.replicate_zero, List.cons_append, List.nil_append, List.append_assoc, List.getElem?_cons_zero, List.getElem?_cons_succ, List.set_cons_zero, List.set_cons_succ, Nat.reduceAdd, Nat.reduceSub, Nat.zero_add, if_true, if_false, ite_true, ite_false, reduceIte, sizeLine, Nat.reducePow, Nat.reduceLeDiff, Nat.reduceEqDiff]
      refine turn hp (by omega) ?_
      intro r3 r4 r5 r6 r7 r8 r9 S' hp'
      exact ⟨⟨_, _, _, _, _, _, _, _, rfl⟩, hp'.le (by omega), by omega⟩
    · rintro ρ S ⟨⟨r2, r3, r4, r5, r6, r7, r8, r9, rfl⟩, hp, hk⟩
      simp only [↓wp_run, ↓wp_var, ↓wp_c, ↓wp_op, ↓wp_un, ↓wp_fn, ↓wp_app, ↓wp_ap, ↓wp_nil, ↓wp_cons, ↓wp_mkTup, ↓wp_mkLst, ↓wp_tup, ↓wp_lst, ↓wp_asB, ↓wp_test, ↓wp_tru, ↓wp_and, ↓wp_or, ↓wp_not, ↓wp_if, ↓wp_andV, ↓wp_orV, ↓wp_notV, ↓wp_yes, ↓seqK_nx, ↓seqK_rt, ↓seqK_bk, ↓seqK_ct, ↓seqK_xc, ↓wp_seq, ↓wp_lft, ↓wp_next, ↓wp_brk, ↓wp_cont, ↓wp_sbad, ↓wp_expr, ↓wp_sret, ↓wp_sretN, ↓wp_sif, ↓wp_asg, ↓wp_gN, ↓wp_gT, ↓wp_par, ↓wp_gIx, ↓wp_fld, ↓finK_nx, ↓finK_rt, ↓finK_xc, ↓wp_mk, ↓wp_srcT, ↓wp_src, ↓wp_rng1, ↓wp_rng2, ↓wp_for, ↓forK_nx, ↓forK_ct, ↓forK_bk, ↓forK_rt, ↓wp_ok, ↓wp_ret, ↓wp_bnd, ↓wp_Rbnd, ↓wp_calm, ↓wp_t, ↓wp_f, startC, List.map_cons, List.map_nil, List.length_cons, List.length_nil, List.replicate_succ, List.replicate_zero, List.cons_append, List.nil_append, List.append_assoc, List.getElem?_cons_zero, List.getElem?_cons_succ, List.set_cons_zero, List.set_cons_succ, Nat.reduceAdd, Nat.reduceSub, Nat.zero_add, if_true, if_false, ite_true, ite_false, reduceIte, sizeLine, Nat.reducePow, Nat.reduceLeDiff, Nat.reduceEqDiff, atI_0, atI_1, atI_2, atI_3, ↓wp_add_i, ↓wp_add_s, ↓wp_sub_i, ↓wp_mul_i, ↓wp_mod_i, ↓wp_fdiv_i, ↓wp_pow_i, ↓wp_lt_i, ↓wp_le_i, ↓wp_gt_i, ↓wp_ge_i, ↓wp_lt_s, ↓wp_le_s, ↓wp_eq_i, ↓wp_ne_i, ↓wp_eq_s, ↓wp_ne_s, ↓wp_ix_t, ↓wp_ix_l, ↓wp_ix_s, ↓wp_setIx, ↓wp_len_s, ↓wp_len_t, ↓wp_len_l, ↓wp_abs, ↓wp_int, ↓wp_int_b, ↓wp_tru_b, ↓wp_tru_i, ↓wp_tru_non, ↓wp_tru_t, ↓wp_src_l, ↓wp_cmp_i, ↓wp_cmp_s, ↓wp_cmp_b, ↓wp_cmp_t, ↓wp_cmp_non, ↓wp_cmp_r, ↓ownR_b, ↓wp_ne_r, ↓wp_eq_r, ↓wp_ne_t, ↓wp_eq_t, ite_F, Int.reduceNeg, Int.reducePow, Int.reduceLT, Int.reduceLE, Int.reduceToNat, true_and, and_true, true_or, or_true, and_self, decide_true, decide_false, Bool.not_true, Bool.not_false, not_false_eq_true, ne_eq, Bool.false_eq_true, ↓wp_isiT, ↓wp_isiC, kindB_non, kindB_b, kindB_i, kindB_s, kindB_t, kindB_r, kindO_r, kindO_non, kindO_b, kindO_i, kindO_s, kindO_t, isi_nn, isi_bs, isi_is, isi_ss, isi_ts, isi_ls, isi_ds, mem_str, ↓wp_in_t, ↓wp_in_s, ↓wp_inOwn, ↓wp_inOwn_t, ↓wp_inOwn_s, ↓wp_att, ↓wp_met, ↓wp_setF, ↓wp_str_s, ↓wp_str_i, ↓wp_str_r, ↓strR_s, ↓wp_fmt_s, ↓wp_js0, ↓wp_js1, ↓wp_joined, ↓wp_dict0, ↓wp_list_t, ↓wp_list_l, ↓wp_add_l, ↓wp_bm, ↓wp_split, ↓wp_mkK, ↓wp_appK, ↓wp_cmK, ↓wp_callV, ↓chR_t, ↓chR_f, ↓wp_chain, ↓wp_src_s, ↓wp_mul_s, ↓wp_lt_t, ↓wp_att_c, ↓wp_tuple_l, ↓wp_fmt_i, ↓wp_strInt, look_new, look_new0, set_new, set_new0, List.length_append, Nat.add_assoc, e_D, e_B, e_F]
      rw [eqD_123 (k := S.length) look_new0 (look_new (k := 1))]
  obtain ⟨v, S', e, rfl⟩ := main.ex
  exact ⟨S', e⟩
end
end L02
set_option Elab.async false
set_option linter.all false
set_option maxRecDepth 100000
set_option maxHeartbeats 4000000
namespace L02
open PySem PySem.Spec PyProof.Rows L2 MW

def top (i : Nat) : Stmt := PySem.Challenge.pw_marklessways_k02_kinds_and_names.main.body.getD i (.Pass ⟨0, 0, 0, 0⟩)
abbrev s_is_whole : Stmt := top 3
abbrev s_is_between : Stmt := top 4
abbrev s_is_letter : Stmt := top 5
abbrev s_is_word : Stmt := top 6
abbrev s_is_port : Stmt := top 7
abbrev s_Kind___init__ : Stmt := inClass (top 15) 2
abbrev s_Kind___eq__ : Stmt := inClass (top 15) 7
abbrev s_Kind___str__ : Stmt := inClass (top 15) 9
abbrev s_Kind___lt__ : Stmt := inClass (top 15) 8
abbrev s_Kind_of : Stmt := inClass (top 15) 3
abbrev s_Kind_read : Stmt := inClass (top 15) 4
abbrev s_Kind_ports : Stmt := inClass (top 15) 5
abbrev s_Kind___contains__ : Stmt := inClass (top 15) 6
abbrev s__law_pen : Stmt := top 20
abbrev s__law_draw : Stmt := top 21
abbrev s__law_pick : Stmt := top 22
abbrev s__law_made : Stmt := top 23
abbrev s__law_read : Stmt := top 24
abbrev s__law_told_right : Stmt := top 25
abbrev s__law_pair_right : Stmt := top 26
abbrev s__law_is_letter : Stmt := top 27
abbrev s__law_is_word : Stmt := top 28
abbrev s__law_names_right : Stmt := top 29
abbrev s_law : Stmt := top 30
structure Ad where
  C_Kind : Addr
  C_DeadEnd : Addr
  C_Bend : Addr
  C_Fork : Addr
  f_is_whole : Addr
  f_is_between : Addr
  f_is_letter : Addr
  f_is_word : Addr
  f_is_port : Addr
  f_Kind___init__ : Addr
  f_Kind___eq__ : Addr
  f_Kind___str__ : Addr
  f_Kind___lt__ : Addr
  f_Kind_of : Addr
  p_Kind_of : Addr
  f_Kind_read : Addr
  f_Kind_ports : Addr
  p_Kind_ports : Addr
  f_Kind___contains__ : Addr
  f__law_pen : Addr
  f__law_draw : Addr
  f__law_pick : Addr
  f__law_made : Addr
  p_Kind_read : Addr
  f__law_read : Addr
  f__law_told_right : Addr
  f__law_pair_right : Addr
  f__law_is_letter : Addr
  f__law_is_word : Addr
  f__law_names_right : Addr
  f_law : Addr
structure Txt (K : PySem.W.Frag) (mg : Str → Option Value) (a : Ad) : Prop where
  is_Kind : IsC K mg "Kind" a.C_Kind
  is_DeadEnd : IsC K mg "DeadEnd" a.C_DeadEnd
  is_Bend : IsC K mg "Bend" a.C_Bend
  is_Fork : IsC K mg "Fork" a.C_Fork
  g_Kind : mg "Kind" = some (.ref a.C_Kind)
  io_Kind_Kind : PySem.W.kitOne K (.ref a.C_Kind) (.ref a.C_Kind) = some true
  g_DeadEnd : mg "DeadEnd" = some (.ref a.C_DeadEnd)
  io_Kind_DeadEnd : PySem.W.kitOne K (.ref a.C_Kind) (.ref a.C_DeadEnd) = some false
  g_Bend : mg "Bend" = some (.ref a.C_Bend)
  io_Kind_Bend : PySem.W.kitOne K (.ref a.C_Kind) (.ref a.C_Bend) = some false
  g_Fork : mg "Fork" = some (.ref a.C_Fork)
  io_Kind_Fork : PySem.W.kitOne K (.ref a.C_Kind) (.ref a.C_Fork) = some false
  io_DeadEnd_Kind : PySem.W.kitOne K (.ref a.C_DeadEnd) (.ref a.C_Kind) = some true
  io_DeadEnd_DeadEnd : PySem.W.kitOne K (.ref a.C_DeadEnd) (.ref a.C_DeadEnd) = some true
  io_DeadEnd_Bend : PySem.W.kitOne K (.ref a.C_DeadEnd) (.ref a.C_Bend) = some false
  io_DeadEnd_Fork : PySem.W.kitOne K (.ref a.C_DeadEnd) (.ref a.C_Fork) = some false
  io_Bend_Kind : PySem.W.kitOne K (.ref a.C_Bend) (.ref a.C_Kind) = some true
  io_Bend_DeadEnd : PySem.W.kitOne K (.ref a.C_Bend) (.ref a.C_DeadEnd) = some false
  io_Bend_Bend : PySem.W.kitOne K (.ref a.C_Bend) (.ref a.C_Bend) = some true
  io_Bend_Fork : PySem.W.kitOne K (.ref a.C_Bend) (.ref a.C_Fork) = some false
  io_Fork_Kind : PySem.W.kitOne K (.ref a.C_Fork) (.ref a.C_Kind) = some true
  io_Fork_DeadEnd : PySem.W.kitOne K (.ref a.C_Fork) (.ref a.C_DeadEnd) = some false
  io_Fork_Bend : PySem.W.kitOne K (.ref a.C_Fork) (.ref a.C_Bend) = some false
  io_Fork_Fork : PySem.W.kitOne K (.ref a.C_Fork) (.ref a.C_Fork) = some true
  ib_Kind_str : PySem.W.kitOne K (.ref a.C_Kind) (.type "str") = some false
  ib_Kind_int : PySem.W.kitOne K (.ref a.C_Kind) (.type "int") = some false
  ib_Kind_bool : PySem.W.kitOne K (.ref a.C_Kind) (.type "bool") = some false
  ib_Kind_tuple : PySem.W.kitOne K (.ref a.C_Kind) (.type "tuple") = some false
  ib_Kind_list : PySem.W.kitOne K (.ref a.C_Kind) (.type "list") = some false
  ib_Kind_dict : PySem.W.kitOne K (.ref a.C_Kind) (.type "dict") = some false
  ib_DeadEnd_str : PySem.W.kitOne K (.ref a.C_DeadEnd) (.type "str") = some false
  ib_DeadEnd_int : PySem.W.kitOne K (.ref a.C_DeadEnd) (.type "int") = some false
  ib_DeadEnd_bool : PySem.W.kitOne K (.ref a.C_DeadEnd) (.type "bool") = some false
  ib_DeadEnd_tuple : PySem.W.kitOne K (.ref a.C_DeadEnd) (.type "tuple") = some false
  ib_DeadEnd_list : PySem.W.kitOne K (.ref a.C_DeadEnd) (.type "list") = some false
  ib_DeadEnd_dict : PySem.W.kitOne K (.ref a.C_DeadEnd) (.type "dict") = some false
  ib_Bend_str : PySem.W.kitOne K (.ref a.C_Bend) (.type "str") = some false
  ib_Bend_int : PySem.W.kitOne K (.ref a.C_Bend) (.type "int") = some false
  ib_Bend_bool : PySem.W.kitOne K (.ref a.C_Bend) (.type "bool") = some false
  ib_Bend_tuple : PySem.W.kitOne K (.ref a.C_Bend) (.type "tuple") = some false
  ib_Bend_list : PySem.W.kitOne K (.ref a.C_Bend) (.type "list") = some false
  ib_Bend_dict : PySem.W.kitOne K (.ref a.C_Bend) (.type "dict") = some false
  ib_Fork_str : PySem.W.kitOne K (.ref a.C_Fork) (.type "str") = some false
  ib_Fork_int : PySem.W.kitOne K (.ref a.C_Fork) (.type "int") = some false
  ib_Fork_bool : PySem.W.kitOne K (.ref a.C_Fork) (.type "bool") = some false
  ib_Fork_tuple : PySem.W.kitOne K (.ref a.C_Fork) (.type "tuple") = some false
  ib_Fork_list : PySem.W.kitOne K (.ref a.C_Fork) (.type "list") = some false
  ib_Fork_dict : PySem.W.kitOne K (.ref a.C_Fork) (.type "dict") = some false
  nb_Kind : NoB K a.C_Kind
  nb_DeadEnd : NoB K a.C_DeadEnd
  nb_Bend : NoB K a.C_Bend
  nb_Fork : NoB K a.C_Fork
  n_int : mg "int" = none
  n_isinstance : mg "isinstance" = none
  n_bool : mg "bool" = none
  d_is_whole : DefAt K "is_whole" "is_whole" s_is_whole a.f_is_whole
  g_is_whole : mg "is_whole" = some (.ref a.f_is_whole)
  d_is_between : DefAt K "is_between" "is_between" s_is_between a.f_is_between
  n_str : mg "str" = none
  n_len : mg "len" = none
  v_LETTERS : ∃ t, mg "LETTERS" = some (.str "abcdefghijklmnopqrstuvwxyz" t)
  d_is_letter : DefAt K "is_letter" "is_letter" s_is_letter a.f_is_letter
  v_WORD_SIZE : ∃ t, mg "WORD_SIZE" = some (.int 8 t)
  n_all : mg "all" = none
  d_is_word : DefAt K "is_word" "is_word" s_is_word a.f_is_word
  d_is_port : DefAt K "is_port" "is_port" s_is_port a.f_is_port
  g_is_letter : mg "is_letter" = some (.ref a.f_is_letter)
  cl_Kind : Cls K a.C_Kind
  na_Kind_letter : NoAttr K a.C_Kind "letter"
  cl_DeadEnd : Cls K a.C_DeadEnd
  na_DeadEnd_letter : NoAttr K a.C_DeadEnd "letter"
  cl_Bend : Cls K a.C_Bend
  na_Bend_letter : NoAttr K a.C_Bend "letter"
  cl_Fork : Cls K a.C_Fork
  na_Fork_letter : NoAttr K a.C_Fork "letter"
  d_Kind___init__ : DefAt K "__init__" "Kind.__init__" s_Kind___init__ a.f_Kind___init__
  k_Kind_ENDS : ∃ t, Con K a.C_Kind "ENDS" (.int 0) (.int 0 t) ∧ ∃ mc, ClX.CRead K a.C_Kind mc ∧ ClX.CVal K a.C_Kind mc "ENDS" (.int 0) (.int 0 t)
  k_DeadEnd_ENDS : ∃ t, Con K a.C_DeadEnd "ENDS" (.int 1) (.int 1 t) ∧ ∃ mc, ClX.CRead K a.C_DeadEnd mc ∧ ClX.CVal K a.C_DeadEnd mc "ENDS" (.int 1) (.int 1 t)
  k_Bend_ENDS : ∃ t, Con K a.C_Bend "ENDS" (.int 2) (.int 2 t) ∧ ∃ mc, ClX.CRead K a.C_Bend mc ∧ ClX.CVal K a.C_Bend mc "ENDS" (.int 2) (.int 2 t)
  k_Fork_ENDS : ∃ t, Con K a.C_Fork "ENDS" (.int 3) (.int 3 t) ∧ ∃ mc, ClX.CRead K a.C_Fork mc ∧ ClX.CVal K a.C_Fork mc "ENDS" (.int 3) (.int 3 t)
  d_Kind___eq__ : DefAt K "__eq__" "Kind.__eq__" s_Kind___eq__ a.f_Kind___eq__
  d_Kind___str__ : DefAt K "__str__" "Kind.__str__" s_Kind___str__ a.f_Kind___str__
  m_Kind___str__ : Meth K a.C_Kind "__str__" a.f_Kind___str__
  m_DeadEnd___str__ : Meth K a.C_DeadEnd "__str__" a.f_Kind___str__
  m_Bend___str__ : Meth K a.C_Bend "__str__" a.f_Kind___str__
  m_Fork___str__ : Meth K a.C_Fork "__str__" a.f_Kind___str__
  d_Kind___lt__ : DefAt K "__lt__" "Kind.__lt__" s_Kind___lt__ a.f_Kind___lt__
  v_MOST_ENDS : ∃ t, mg "MOST_ENDS" = some (.int 3 t)
  g_is_between : mg "is_between" = some (.ref a.f_is_between)
  m_Kind___eq__ : Meth K a.C_Kind "__eq__" a.f_Kind___eq__
  m_DeadEnd___eq__ : Meth K a.C_DeadEnd "__eq__" a.f_Kind___eq__
  m_Bend___eq__ : Meth K a.C_Bend "__eq__" a.f_Kind___eq__
  m_Fork___eq__ : Meth K a.C_Fork "__eq__" a.f_Kind___eq__
  nf_Kind_Kind : PySem.W.notFirst K a.C_Kind (.ref a.C_Kind) = true
  nf_DeadEnd_Kind : PySem.W.notFirst K a.C_DeadEnd (.ref a.C_Kind) = true
  nf_DeadEnd_DeadEnd : PySem.W.notFirst K a.C_DeadEnd (.ref a.C_DeadEnd) = true
  nf_DeadEnd_Bend : PySem.W.notFirst K a.C_DeadEnd (.ref a.C_Bend) = true
  nf_DeadEnd_Fork : PySem.W.notFirst K a.C_DeadEnd (.ref a.C_Fork) = true
  nf_Bend_Kind : PySem.W.notFirst K a.C_Bend (.ref a.C_Kind) = true
  nf_Bend_DeadEnd : PySem.W.notFirst K a.C_Bend (.ref a.C_DeadEnd) = true
  nf_Bend_Bend : PySem.W.notFirst K a.C_Bend (.ref a.C_Bend) = true
  nf_Bend_Fork : PySem.W.notFirst K a.C_Bend (.ref a.C_Fork) = true
  nf_Fork_Kind : PySem.W.notFirst K a.C_Fork (.ref a.C_Kind) = true
  nf_Fork_DeadEnd : PySem.W.notFirst K a.C_Fork (.ref a.C_DeadEnd) = true
  nf_Fork_Bend : PySem.W.notFirst K a.C_Fork (.ref a.C_Bend) = true
  nf_Fork_Fork : PySem.W.notFirst K a.C_Fork (.ref a.C_Fork) = true
  nfb_Kind : ∀ t ∈ bTypes, PySem.W.notFirst K a.C_Kind (.type t) = true
  nfb_DeadEnd : ∀ t ∈ bTypes, PySem.W.notFirst K a.C_DeadEnd (.type t) = true
  nfb_Bend : ∀ t ∈ bTypes, PySem.W.notFirst K a.C_Bend (.type t) = true
  nfb_Fork : ∀ t ∈ bTypes, PySem.W.notFirst K a.C_Fork (.type t) = true
  mk_DeadEnd : MkC K mg "DeadEnd" a.C_DeadEnd a.f_Kind___init__
  mk_Bend : MkC K mg "Bend" a.C_Bend a.f_Kind___init__
  mk_Fork : MkC K mg "Fork" a.C_Fork a.f_Kind___init__
  d_Kind_of : DefAt K "of" "Kind.of" s_Kind_of a.f_Kind_of
  ne_Kind : PySem.W.findIn K (.ref a.C_Kind) "__ne__" = some (some (.builtin "object.__ne__"))
  mo_Kind : PySem.W.mroIn K a.C_Kind (.type "object") = some true
  ne_DeadEnd : PySem.W.findIn K (.ref a.C_DeadEnd) "__ne__" = some (some (.builtin "object.__ne__"))
  mo_DeadEnd : PySem.W.mroIn K a.C_DeadEnd (.type "object") = some true
  ne_Bend : PySem.W.findIn K (.ref a.C_Bend) "__ne__" = some (some (.builtin "object.__ne__"))
  mo_Bend : PySem.W.mroIn K a.C_Bend (.type "object") = some true
  ne_Fork : PySem.W.findIn K (.ref a.C_Fork) "__ne__" = some (some (.builtin "object.__ne__"))
  mo_Fork : PySem.W.mroIn K a.C_Fork (.type "object") = some true
  sm_Kind_of : ∃ mc, ClX.CRead K a.C_Kind mc ∧ PySem.W.findCls K (.ref a.C_Kind) mc "of" = some (.get (.builtin "staticmethod.__get__") (.ref a.p_Kind_of) .none (.ref a.C_Kind)) ∧ ∃ rest, PySem.W.recIn K a.p_Kind_of "staticmethod" = some (.ref a.f_Kind_of :: rest)
  sm_DeadEnd_of : ∃ mc, ClX.CRead K a.C_DeadEnd mc ∧ PySem.W.findCls K (.ref a.C_DeadEnd) mc "of" = some (.get (.builtin "staticmethod.__get__") (.ref a.p_Kind_of) .none (.ref a.C_DeadEnd)) ∧ ∃ rest, PySem.W.recIn K a.p_Kind_of "staticmethod" = some (.ref a.f_Kind_of :: rest)
  sm_Bend_of : ∃ mc, ClX.CRead K a.C_Bend mc ∧ PySem.W.findCls K (.ref a.C_Bend) mc "of" = some (.get (.builtin "staticmethod.__get__") (.ref a.p_Kind_of) .none (.ref a.C_Bend)) ∧ ∃ rest, PySem.W.recIn K a.p_Kind_of "staticmethod" = some (.ref a.f_Kind_of :: rest)
  sm_Fork_of : ∃ mc, ClX.CRead K a.C_Fork mc ∧ PySem.W.findCls K (.ref a.C_Fork) mc "of" = some (.get (.builtin "staticmethod.__get__") (.ref a.p_Kind_of) .none (.ref a.C_Fork)) ∧ ∃ rest, PySem.W.recIn K a.p_Kind_of "staticmethod" = some (.ref a.f_Kind_of :: rest)
  d_Kind_read : DefAt K "read" "Kind.read" s_Kind_read a.f_Kind_read
  n_range : mg "range" = none
  n_tuple : mg "tuple" = none
  d_Kind_ports : DefAt K "ports" "Kind.ports" s_Kind_ports a.f_Kind_ports
  p_Kind_ports : PropOf K a.C_Kind "ports" a.p_Kind_ports a.f_Kind_ports
  p_DeadEnd_ports : PropOf K a.C_DeadEnd "ports" a.p_Kind_ports a.f_Kind_ports
  p_Bend_ports : PropOf K a.C_Bend "ports" a.p_Kind_ports a.f_Kind_ports
  p_Fork_ports : PropOf K a.C_Fork "ports" a.p_Kind_ports a.f_Kind_ports
  d_Kind___contains__ : DefAt K "__contains__" "Kind.__contains__" s_Kind___contains__ a.f_Kind___contains__
  n_list : mg "list" = none
  d__law_pen : DefAt K "_law_pen" "_law_pen" s__law_pen a.f__law_pen
  m_Kind___lt__ : Meth K a.C_Kind "__lt__" a.f_Kind___lt__
  m_DeadEnd___lt__ : Meth K a.C_DeadEnd "__lt__" a.f_Kind___lt__
  m_Bend___lt__ : Meth K a.C_Bend "__lt__" a.f_Kind___lt__
  m_Fork___lt__ : Meth K a.C_Fork "__lt__" a.f_Kind___lt__
  n_abs : mg "abs" = none
  d__law_draw : DefAt K "_law_draw" "_law_draw" s__law_draw a.f__law_draw
  g__law_draw : mg "_law_draw" = some (.ref a.f__law_draw)
  d__law_pick : DefAt K "_law_pick" "_law_pick" s__law_pick a.f__law_pick
  d__law_made : DefAt K "_law_made" "_law_made" s__law_made a.f__law_made
  cm_Kind_read : ∃ mc, ClX.CRead K a.C_Kind mc ∧ ClX.CMet K a.C_Kind mc "read" a.p_Kind_read a.f_Kind_read
  cm_DeadEnd_read : ∃ mc, ClX.CRead K a.C_DeadEnd mc ∧ ClX.CMet K a.C_DeadEnd mc "read" a.p_Kind_read a.f_Kind_read
  cm_Bend_read : ∃ mc, ClX.CRead K a.C_Bend mc ∧ ClX.CMet K a.C_Bend mc "read" a.p_Kind_read a.f_Kind_read
  cm_Fork_read : ∃ mc, ClX.CRead K a.C_Fork mc ∧ ClX.CMet K a.C_Fork mc "read" a.p_Kind_read a.f_Kind_read
  d__law_read : DefAt K "_law_read" "_law_read" s__law_read a.f__law_read
  g__law_made : mg "_law_made" = some (.ref a.f__law_made)
  n_repr : mg "repr" = none
  m_Kind___contains__ : Meth K a.C_Kind "__contains__" a.f_Kind___contains__
  m_DeadEnd___contains__ : Meth K a.C_DeadEnd "__contains__" a.f_Kind___contains__
  m_Bend___contains__ : Meth K a.C_Bend "__contains__" a.f_Kind___contains__
  m_Fork___contains__ : Meth K a.C_Fork "__contains__" a.f_Kind___contains__
  g__law_read : mg "_law_read" = some (.ref a.f__law_read)
  d__law_told_right : DefAt K "_law_told_right" "_law_told_right" s__law_told_right a.f__law_told_right
  d__law_pair_right : DefAt K "_law_pair_right" "_law_pair_right" s__law_pair_right a.f__law_pair_right
  d__law_is_letter : DefAt K "_law_is_letter" "_law_is_letter" s__law_is_letter a.f__law_is_letter
  d__law_is_word : DefAt K "_law_is_word" "_law_is_word" s__law_is_word a.f__law_is_word
  g__law_pick : mg "_law_pick" = some (.ref a.f__law_pick)
  g_is_port : mg "is_port" = some (.ref a.f_is_port)
  g_is_word : mg "is_word" = some (.ref a.f_is_word)
  g__law_is_word : mg "_law_is_word" = some (.ref a.f__law_is_word)
  g__law_is_letter : mg "_law_is_letter" = some (.ref a.f__law_is_letter)
  d__law_names_right : DefAt K "_law_names_right" "_law_names_right" s__law_names_right a.f__law_names_right
  g__law_pen : mg "_law_pen" = some (.ref a.f__law_pen)
  g__law_told_right : mg "_law_told_right" = some (.ref a.f__law_told_right)
  g__law_pair_right : mg "_law_pair_right" = some (.ref a.f__law_pair_right)
  g__law_names_right : mg "_law_names_right" = some (.ref a.f__law_names_right)
  d_law : DefAt K "law" "law" s_law a.f_law
section
variable {P : Program} {w : World} {K : PySem.W.Frag} {mg : Str → Option Value} {base : Heap} {a : Ad}
theorem isi_o_ok (T : Txt K mg a) : ∀ p ∈ isi_o, ∃ C D, IsC K mg p.1.1 C ∧ mg p.1.2 = some (.ref D) ∧ PySem.W.kitOne K (.ref C) (.ref D) = some p.2 := by
  intro p hp
  unfold isi_o at hp
  simp only [List.mem_cons, List.not_mem_nil, or_false] at hp
  rcases hp with rfl | rfl | rfl | rfl | rfl | rfl | rfl | rfl | rfl | rfl | rfl | rfl | rfl | rfl | rfl | rfl
  · exact ⟨_, _, T.is_Kind, T.g_Kind, T.io_Kind_Kind⟩
  · exact ⟨_, _, T.is_Kind, T.g_DeadEnd, T.io_Kind_DeadEnd⟩
  · exact ⟨_, _, T.is_Kind, T.g_Bend, T.io_Kind_Bend⟩
  · exact ⟨_, _, T.is_Kind, T.g_Fork, T.io_Kind_Fork⟩
  · exact ⟨_, _, T.is_DeadEnd, T.g_Kind, T.io_DeadEnd_Kind⟩
  · exact ⟨_, _, T.is_DeadEnd, T.g_DeadEnd, T.io_DeadEnd_DeadEnd⟩
  · exact ⟨_, _, T.is_DeadEnd, T.g_Bend, T.io_DeadEnd_Bend⟩
  · exact ⟨_, _, T.is_DeadEnd, T.g_Fork, T.io_DeadEnd_Fork⟩
  · exact ⟨_, _, T.is_Bend, T.g_Kind, T.io_Bend_Kind⟩
  · exact ⟨_, _, T.is_Bend, T.g_DeadEnd, T.io_Bend_DeadEnd⟩
  · exact ⟨_, _, T.is_Bend, T.g_Bend, T.io_Bend_Bend⟩
  · exact ⟨_, _, T.is_Bend, T.g_Fork, T.io_Bend_Fork⟩
  · exact ⟨_, _, T.is_Fork, T.g_Kind, T.io_Fork_Kind⟩
  · exact ⟨_, _, T.is_Fork, T.g_DeadEnd, T.io_Fork_DeadEnd⟩
  · exact ⟨_, _, T.is_Fork, T.g_Bend, T.io_Fork_Bend⟩
  · exact ⟨_, _, T.is_Fork, T.g_Fork, T.io_Fork_Fork⟩

theorem isi_b_ok (T : Txt K mg a) : ∀ p ∈ isi_b, ∃ C, IsC K mg p.1.1 C ∧ PySem.W.kitOne K (.ref C) (.type p.1.2) = some p.2 := by
  intro p hp
  unfold isi_b at hp
  simp only [List.mem_cons, List.not_mem_nil, or_false] at hp
  rcases hp with rfl | rfl | rfl | rfl | rfl | rfl | rfl | rfl | rfl | rfl | rfl | rfl | rfl | rfl | rfl | rfl | rfl | rfl | rfl | rfl | rfl | rfl | rfl | rfl
  · exact ⟨_, T.is_Kind, T.ib_Kind_str⟩
  · exact ⟨_, T.is_Kind, T.ib_Kind_int⟩
  · exact ⟨_, T.is_Kind, T.ib_Kind_bool⟩
  · exact ⟨_, T.is_Kind, T.ib_Kind_tuple⟩
  · exact ⟨_, T.is_Kind, T.ib_Kind_list⟩
  · exact ⟨_, T.is_Kind, T.ib_Kind_dict⟩
  · exact ⟨_, T.is_DeadEnd, T.ib_DeadEnd_str⟩
  · exact ⟨_, T.is_DeadEnd, T.ib_DeadEnd_int⟩
  · exact ⟨_, T.is_DeadEnd, T.ib_DeadEnd_bool⟩
  · exact ⟨_, T.is_DeadEnd, T.ib_DeadEnd_tuple⟩
  · exact ⟨_, T.is_DeadEnd, T.ib_DeadEnd_list⟩
  · exact ⟨_, T.is_DeadEnd, T.ib_DeadEnd_dict⟩
  · exact ⟨_, T.is_Bend, T.ib_Bend_str⟩
  · exact ⟨_, T.is_Bend, T.ib_Bend_int⟩
  · exact ⟨_, T.is_Bend, T.ib_Bend_bool⟩
  · exact ⟨_, T.is_Bend, T.ib_Bend_tuple⟩
  · exact ⟨_, T.is_Bend, T.ib_Bend_list⟩
  · exact ⟨_, T.is_Bend, T.ib_Bend_dict⟩
  · exact ⟨_, T.is_Fork, T.ib_Fork_str⟩
  · exact ⟨_, T.is_Fork, T.ib_Fork_int⟩
  · exact ⟨_, T.is_Fork, T.ib_Fork_bool⟩
  · exact ⟨_, T.is_Fork, T.ib_Fork_tuple⟩
  · exact ⟨_, T.is_Fork, T.ib_Fork_list⟩
  · exact ⟨_, T.is_Fork, T.ib_Fork_dict⟩

theorem isi_n_ok (T : Txt K mg a) : ∀ p ∈ isi_n, ∃ D, mg p = some (.ref D) ∧ NoB K D := by
  intro p hp
  unfold isi_n at hp
  simp only [List.mem_cons, List.not_mem_nil, or_false] at hp
  rcases hp with rfl | rfl | rfl | rfl
  · exact ⟨_, T.g_Kind, T.nb_Kind⟩
  · exact ⟨_, T.g_DeadEnd, T.nb_DeadEnd⟩
  · exact ⟨_, T.g_Bend, T.nb_Bend⟩
  · exact ⟨_, T.g_Fork, T.nb_Fork⟩

theorem sc_is_whole : FnScope ["value"] ["value"] (defScope s_is_whole) := ⟨rfl, rfl, rfl, by decide +kernel, rfl, by decide +kernel, by decide +kernel⟩
theorem fn_is_whole (T : Txt K mg a) (fd : FuncData) (F : Fun K "is_whole" "is_whole" s_is_whole a.f_is_whole fd) : FnD P w K mg base 1 a.f_is_whole fd ["value"] m_is_whole := by
  have sc := sc_is_whole
  exact fn_Dn F sc rfl (k := 0) (m := b_is_whole) (fun _ _ _ _ _ _ hr tk po => (gss_one (gs_ret (ge_and tru_c (ge_callB (call_isiC (isi_o_ok T) (isi_b_ok T) (isi_n_ok T)) T.n_isinstance bt_isinstance (ga_cons (gv 0) (ga_cons (ge_ty rfl T.n_int bt_int) ga_nil))) (ge_one (ge_not tru_c (ge_callB (call_isiC (isi_o_ok T) (isi_b_ok T) (isi_n_ok T)) T.n_isinstance bt_isinstance (ga_cons (gv 0) (ga_cons (ge_ty rfl T.n_bool bt_bool) ga_nil)))))))))

theorem ok_is_whole (T : Txt K mg a) : Callee P w K mg base 1 a.f_is_whole 1 m_is_whole := by
  obtain ⟨fd, F⟩ := T.d_is_whole.ex
  exact ⟨⟨fd, ["value"], rfl, fn_is_whole T fd F, F.binds fun _ _ _ _ _ _ us hl => match us, hl with | [_], _ => rfl⟩, F.kp⟩

theorem sc_is_between : FnScope ["value", "low", "high"] ["value", "low", "high"] (defScope s_is_between) := ⟨rfl, rfl, rfl, by decide +kernel, rfl, by decide +kernel, by decide +kernel⟩
theorem fn_is_between (T : Txt K mg a) (fd : FuncData) (F : Fun K "is_between" "is_between" s_is_between a.f_is_between fd) : FnD P w K mg base 2 a.f_is_between fd ["value", "low", "high"] m_is_between := by
  have sc := sc_is_between
  exact fn_Dn F sc rfl (k := 1) (m := b_is_between) (fun _ _ _ _ _ _ hr tk po => (gss_one (gs_ret (ge_and tru_c (ge_callF (ok_is_whole T) (hr.mono (by decide)) T.g_is_whole tk (ga_cons (gv 0) ga_nil)) (ge_one (ge_chain op_leC op_leC (gv 1) (gv 0) (gv 2)))))))

theorem ok_is_between (T : Txt K mg a) : Callee P w K mg base 2 a.f_is_between 3 m_is_between := by
  obtain ⟨fd, F⟩ := T.d_is_between.ex
  exact ⟨⟨fd, ["value", "low", "high"], rfl, fn_is_between T fd F, F.binds fun _ _ _ _ _ _ us hl => match us, hl with | [_, _, _], _ => rfl⟩, F.kp⟩

theorem sc_is_letter : FnScope ["value"] ["value"] (defScope s_is_letter) := ⟨rfl, rfl, rfl, by decide +kernel, rfl, by decide +kernel, by decide +kernel⟩
theorem fn_is_letter (T : Txt K mg a) (fd : FuncData) (F : Fun K "is_letter" "is_letter" s_is_letter a.f_is_letter fd) : FnD P w K mg base 1 a.f_is_letter fd ["value"] m_is_letter := by
  have sc := sc_is_letter
  exact fn_Dn F sc rfl (k := 0) (m := b_is_letter) (fun _ _ _ _ _ _ hr tk po => (gss_one (gs_ret (ge_and tru_c (ge_callB (call_isiC (isi_o_ok T) (isi_b_ok T) (isi_n_ok T)) T.n_isinstance bt_isinstance (ga_cons (gv 0) (ga_cons (ge_ty rfl T.n_str bt_str) ga_nil))) (ge_and tru_c (ge_cmp (op_eqC hr.rm.units) (ge_callB call_lenC T.n_len bt_len (ga_cons (gv 0) ga_nil)) ge_int) (ge_one (ge_cmp (op_inC false hr.rm.units rfl) (gv 0) (ge_gstr (t := T.v_LETTERS.choose) rfl T.v_LETTERS.choose_spec))))))))

theorem ok_is_letter (T : Txt K mg a) : Callee P w K mg base 1 a.f_is_letter 1 m_is_letter := by
  obtain ⟨fd, F⟩ := T.d_is_letter.ex
  exact ⟨⟨fd, ["value"], rfl, fn_is_letter T fd F, F.binds fun _ _ _ _ _ _ us hl => match us, hl with | [_], _ => rfl⟩, F.kp⟩

theorem sc_is_word : FnScope ["value", "sign"] ["value"] (defScope s_is_word) := ⟨rfl, rfl, rfl, by decide +kernel, rfl, by decide +kernel, by decide +kernel⟩
theorem fn_is_word (T : Txt K mg a) (fd : FuncData) (F : Fun K "is_word" "is_word" s_is_word a.f_is_word fd) : FnD P w K mg base 1 a.f_is_word fd ["value"] m_is_word := by
  have sc := sc_is_word
  exact fn_Dn F sc rfl (k := 0) (m := b_is_word) (fun _ _ _ _ _ _ hr tk po => (gss_one (gs_ret (ge_and tru_c (ge_callB (call_isiC (isi_o_ok T) (isi_b_ok T) (isi_n_ok T)) T.n_isinstance bt_isinstance (ga_cons (gv 0) (ga_cons (ge_ty rfl T.n_str bt_str) ga_nil))) (ge_and tru_c (ge_chain op_leC op_leC ge_int (ge_callB call_lenC T.n_len bt_len (ga_cons (gv 0) ga_nil)) (ge_gint (t := T.v_WORD_SIZE.choose) rfl T.v_WORD_SIZE.choose_spec)) (ge_one (ge_callB call_allC T.n_all bt_all (ga_cons (ge_lc (own := [("sign", 1)]) sc.nd (gi_seq (gv 0)) (blkOk_by (by rfl)) (ctg_name (by decide)) (fun _ _ _ _ _ => pg_name (i := 1) sc.nd rfl (Or.inl rfl)) (fun _ _ _ _ _ => gts_nil) (fun _ _ _ _ _ => (ge_cmp (op_inC false hr.rm.units rfl) (gv 1) (ge_gstr (t := T.v_LETTERS.choose) rfl T.v_LETTERS.choose_spec)))) ga_nil))))))))

theorem ok_is_word (T : Txt K mg a) : Callee P w K mg base 1 a.f_is_word 1 m_is_word := by
  obtain ⟨fd, F⟩ := T.d_is_word.ex
  exact ⟨⟨fd, ["value"], rfl, fn_is_word T fd F, F.binds fun _ _ _ _ _ _ us hl => match us, hl with | [_], _ => rfl⟩, F.kp⟩

theorem sc_is_port : FnScope ["value"] ["value"] (defScope s_is_port) := ⟨rfl, rfl, rfl, by decide +kernel, rfl, by decide +kernel, by decide +kernel⟩
theorem fn_is_port (T : Txt K mg a) (fd : FuncData) (F : Fun K "is_port" "is_port" s_is_port a.f_is_port fd) : FnD P w K mg base 1 a.f_is_port fd ["value"] m_is_port := by
  have sc := sc_is_port
  exact fn_Dn F sc rfl (k := 0) (m := b_is_port) (fun _ _ _ _ _ _ hr tk po => (gss_one (gs_ret (ge_and tru_c (ge_callB (call_isiC (isi_o_ok T) (isi_b_ok T) (isi_n_ok T)) T.n_isinstance bt_isinstance (ga_cons (gv 0) (ga_cons (ge_ty rfl T.n_str bt_str) ga_nil))) (ge_and tru_c (ge_cmp (op_eqC hr.rm.units) (ge_callB call_lenC T.n_len bt_len (ga_cons (gv 0) ga_nil)) ge_int) (ge_and tru_c (ge_cmp (op_inC false hr.rm.units rfl) (ge_ix ix_C (gv 0) ge_int) (ge_gstr (t := T.v_LETTERS.choose) rfl T.v_LETTERS.choose_spec)) (ge_one (ge_cmp (op_inC false hr.rm.units rfl) (ge_ix ix_C (gv 0) ge_int) ge_str))))))))

theorem ok_is_port (T : Txt K mg a) : Callee P w K mg base 1 a.f_is_port 1 m_is_port := by
  obtain ⟨fd, F⟩ := T.d_is_port.ex
  exact ⟨⟨fd, ["value"], rfl, fn_is_port T fd F, F.binds fun _ _ _ _ _ _ us hl => match us, hl with | [_], _ => rfl⟩, F.kp⟩

theorem fld_letter_0_ok (T : Txt K mg a) : ∀ p ∈ fld_letter_0, FldOk K mg p "letter" := by
  intro p hp
  unfold fld_letter_0 at hp
  simp only [List.mem_cons, List.not_mem_nil, or_false] at hp
  rcases hp with rfl | rfl | rfl | rfl
  · exact ⟨_, T.g_Kind, T.cl_Kind, T.na_Kind_letter⟩
  · exact ⟨_, T.g_DeadEnd, T.cl_DeadEnd, T.na_DeadEnd_letter⟩
  · exact ⟨_, T.g_Bend, T.cl_Bend, T.na_Bend_letter⟩
  · exact ⟨_, T.g_Fork, T.cl_Fork, T.na_Fork_letter⟩

theorem sc_Kind___init__ : FnScope ["self", "letter"] ["self", "letter"] (defScope s_Kind___init__) := ⟨rfl, rfl, rfl, by decide +kernel, rfl, by decide +kernel, by decide +kernel⟩
theorem fn_Kind___init__ (T : Txt K mg a) (fd : FuncData) (F : Fun K "__init__" "Kind.__init__" s_Kind___init__ a.f_Kind___init__ fd) : FnD P w K mg base 2 a.f_Kind___init__ fd ["self", "letter"] m_Kind___init__ := by
  have sc := sc_Kind___init__
  exact fn_Dn F sc rfl (k := 1) (m := b_Kind___init__) (fun _ _ _ _ _ _ hr tk po => (gss_cons (gs_if (gt_not (gt_val tru_c (ge_callF (ok_is_letter T) (hr.mono (by decide)) T.g_is_letter tk (ga_cons (gv 1) ga_nil)))) (gss_one gs_never) gss_nil) (gss_one (gs_fld (fld_letter_0_ok T) (gv 0) (gv 1)))))

theorem ok_Kind___init__ (T : Txt K mg a) : Callee P w K mg base 2 a.f_Kind___init__ 2 m_Kind___init__ := by
  obtain ⟨fd, F⟩ := T.d_Kind___init__.ex
  exact ⟨⟨fd, ["self", "letter"], rfl, fn_Kind___init__ T fd F, F.binds fun _ _ _ _ _ _ us hl => match us, hl with | [_, _], _ => rfl⟩, F.kp⟩

theorem att_letter_0_ok (T : Txt K mg a) : ∀ p ∈ att_letter_0, AKOk P w K mg base 0 p.1 "letter" p.2 := by
  intro p hp
  unfold att_letter_0 at hp
  simp only [List.mem_cons, List.not_mem_nil, or_false] at hp
  rcases hp with rfl | rfl | rfl | rfl
  · exact .fld ⟨_, T.g_Kind, T.cl_Kind, T.na_Kind_letter⟩
  · exact .fld ⟨_, T.g_DeadEnd, T.cl_DeadEnd, T.na_DeadEnd_letter⟩
  · exact .fld ⟨_, T.g_Bend, T.cl_Bend, T.na_Bend_letter⟩
  · exact .fld ⟨_, T.g_Fork, T.cl_Fork, T.na_Fork_letter⟩

theorem att_ENDS_0_ok (T : Txt K mg a) : ∀ p ∈ att_ENDS_0, AKOk P w K mg base 0 p.1 "ENDS" p.2 := by
  intro p hp
  unfold att_ENDS_0 at hp
  simp only [List.mem_cons, List.not_mem_nil, or_false] at hp
  rcases hp with rfl | rfl | rfl | rfl
  · exact (let ⟨_, h, _, h1, h2⟩ := T.k_Kind_ENDS; .con T.g_Kind T.cl_Kind h ⟨_, _, h1, h2⟩ fun _ _ => .int _)
  · exact (let ⟨_, h, _, h1, h2⟩ := T.k_DeadEnd_ENDS; .con T.g_DeadEnd T.cl_DeadEnd h ⟨_, _, h1, h2⟩ fun _ _ => .int _)
  · exact (let ⟨_, h, _, h1, h2⟩ := T.k_Bend_ENDS; .con T.g_Bend T.cl_Bend h ⟨_, _, h1, h2⟩ fun _ _ => .int _)
  · exact (let ⟨_, h, _, h1, h2⟩ := T.k_Fork_ENDS; .con T.g_Fork T.cl_Fork h ⟨_, _, h1, h2⟩ fun _ _ => .int _)

theorem sc_Kind___eq__ : FnScope ["self", "other"] ["self", "other"] (defScope s_Kind___eq__) := ⟨rfl, rfl, rfl, by decide +kernel, rfl, by decide +kernel, by decide +kernel⟩
theorem fn_Kind___eq__ (T : Txt K mg a) (fd : FuncData) (F : Fun K "__eq__" "Kind.__eq__" s_Kind___eq__ a.f_Kind___eq__ fd) : FnD P w K mg base 1 a.f_Kind___eq__ fd ["self", "other"] m_Kind___eq__ := by
  have sc := sc_Kind___eq__
  exact fn_Dn F sc rfl (k := 0) (m := b_Kind___eq__) (fun _ _ _ _ _ _ hr tk po => (gss_one (gs_ret (ge_and tru_c (ge_callB (call_isiC (isi_o_ok T) (isi_b_ok T) (isi_n_ok T)) T.n_isinstance bt_isinstance (ga_cons (gv 1) (ga_cons (ge_gcls rfl T.g_Kind) ga_nil))) (ge_and tru_c (ge_cmp (op_eqC hr.rm.units) (ge_att (att_c (att_letter_0_ok T) (hr.mono (by decide))) (gv 0)) (ge_att (att_c (att_letter_0_ok T) (hr.mono (by decide))) (gv 1))) (ge_one (ge_cmp (op_eqC hr.rm.units) (ge_att (att_c (att_ENDS_0_ok T) (hr.mono (by decide))) (gv 0)) (ge_att (att_c (att_ENDS_0_ok T) (hr.mono (by decide))) (gv 1)))))))))

theorem ok_Kind___eq__ (T : Txt K mg a) : Callee P w K mg base 1 a.f_Kind___eq__ 2 m_Kind___eq__ := by
  obtain ⟨fd, F⟩ := T.d_Kind___eq__.ex
  exact ⟨⟨fd, ["self", "other"], rfl, fn_Kind___eq__ T fd F, F.binds fun _ _ _ _ _ _ us hl => match us, hl with | [_, _], _ => rfl⟩, F.kp⟩

theorem sc_Kind___str__ : FnScope ["self"] ["self"] (defScope s_Kind___str__) := ⟨rfl, rfl, rfl, by decide +kernel, rfl, by decide +kernel, by decide +kernel⟩
theorem fn_Kind___str__ (T : Txt K mg a) (fd : FuncData) (F : Fun K "__str__" "Kind.__str__" s_Kind___str__ a.f_Kind___str__ fd) : FnD P w K mg base 1 a.f_Kind___str__ fd ["self"] m_Kind___str__ := by
  have sc := sc_Kind___str__
  exact fn_Dn F sc rfl (k := 0) (m := b_Kind___str__) (fun _ _ _ _ _ _ hr tk po => (gss_one (gs_ret (ge_joined (GJ.cons (ge_fmt (ge_att (att_c (att_letter_0_ok T) (hr.mono (by decide))) (gv 0))) (GJ.cons (ge_fmt (ge_att (att_c (att_ENDS_0_ok T) (hr.mono (by decide))) (gv 0))) GJ.nil))))))

theorem ok_Kind___str__ (T : Txt K mg a) : Callee P w K mg base 1 a.f_Kind___str__ 1 m_Kind___str__ := by
  obtain ⟨fd, F⟩ := T.d_Kind___str__.ex
  exact ⟨⟨fd, ["self"], rfl, fn_Kind___str__ T fd F, F.binds fun _ _ _ _ _ _ us hl => match us, hl with | [_], _ => rfl⟩, F.kp⟩

theorem own_str_0_ok (T : Txt K mg a) : ∀ p ∈ own_str_0, Own P w K mg base 3 p.1 "__str__" 1 p.2 := by
  intro p hp
  unfold own_str_0 at hp
  simp only [List.mem_cons, List.not_mem_nil, or_false] at hp
  rcases hp with rfl | rfl | rfl | rfl
  · exact ⟨⟨_, _, _, T.g_Kind, T.m_Kind___str__.at_, T.m_Kind___str__.fn, ok_Kind___str__ T, by decide⟩⟩
  · exact ⟨⟨_, _, _, T.g_DeadEnd, T.m_DeadEnd___str__.at_, T.m_DeadEnd___str__.fn, ok_Kind___str__ T, by decide⟩⟩
  · exact ⟨⟨_, _, _, T.g_Bend, T.m_Bend___str__.at_, T.m_Bend___str__.fn, ok_Kind___str__ T, by decide⟩⟩
  · exact ⟨⟨_, _, _, T.g_Fork, T.m_Fork___str__.at_, T.m_Fork___str__.fn, ok_Kind___str__ T, by decide⟩⟩

theorem sc_Kind___lt__ : FnScope ["self", "other"] ["self", "other"] (defScope s_Kind___lt__) := ⟨rfl, rfl, rfl, by decide +kernel, rfl, by decide +kernel, by decide +kernel⟩
theorem fn_Kind___lt__ (T : Txt K mg a) (fd : FuncData) (F : Fun K "__lt__" "Kind.__lt__" s_Kind___lt__ a.f_Kind___lt__ fd) : FnD P w K mg base 4 a.f_Kind___lt__ fd ["self", "other"] m_Kind___lt__ := by
  have sc := sc_Kind___lt__
  exact fn_Dn F sc rfl (k := 3) (m := b_Kind___lt__) (fun _ _ _ _ _ _ hr tk po => (gss_one (gs_ret (ge_cmp (op_ltC hr.rm.units) (ge_callTy (call_strC (own_str_0_ok T) (hr.mono (by decide)) tk) T.n_str bt_str (ga_cons (gv 0) ga_nil)) (ge_callTy (call_strC (own_str_0_ok T) (hr.mono (by decide)) tk) T.n_str bt_str (ga_cons (gv 1) ga_nil))))))

theorem ok_Kind___lt__ (T : Txt K mg a) : Callee P w K mg base 4 a.f_Kind___lt__ 2 m_Kind___lt__ := by
  obtain ⟨fd, F⟩ := T.d_Kind___lt__.ex
  exact ⟨⟨fd, ["self", "other"], rfl, fn_Kind___lt__ T fd F, F.binds fun _ _ _ _ _ _ us hl => match us, hl with | [_, _], _ => rfl⟩, F.kp⟩

theorem own_eq_0_ok (T : Txt K mg a) : ∀ p ∈ own_eq_0, Own P w K mg base 3 p.1 "__eq__" 2 p.2 := by
  intro p hp
  unfold own_eq_0 at hp
  simp only [List.mem_cons, List.not_mem_nil, or_false] at hp
  rcases hp with rfl | rfl | rfl | rfl
  · exact ⟨⟨_, _, _, T.g_Kind, T.m_Kind___eq__.at_, T.m_Kind___eq__.fn, ok_Kind___eq__ T, by decide⟩⟩
  · exact ⟨⟨_, _, _, T.g_DeadEnd, T.m_DeadEnd___eq__.at_, T.m_DeadEnd___eq__.fn, ok_Kind___eq__ T, by decide⟩⟩
  · exact ⟨⟨_, _, _, T.g_Bend, T.m_Bend___eq__.at_, T.m_Bend___eq__.fn, ok_Kind___eq__ T, by decide⟩⟩
  · exact ⟨⟨_, _, _, T.g_Fork, T.m_Fork___eq__.at_, T.m_Fork___eq__.fn, ok_Kind___eq__ T, by decide⟩⟩

theorem nf_x_0_ok (T : Txt K mg a) : NotFirst K mg nf_x_0_c nf_x_0_b := by
  constructor
  · intro p hp
    unfold nf_x_0_c at hp
    simp only [List.mem_cons, List.not_mem_nil, or_false] at hp
    rcases hp with rfl | rfl | rfl | rfl | rfl | rfl | rfl | rfl | rfl | rfl | rfl | rfl | rfl
    · exact ⟨_, _, T.g_Kind, T.g_Kind, T.nf_Kind_Kind⟩
    · exact ⟨_, _, T.g_DeadEnd, T.g_Kind, T.nf_DeadEnd_Kind⟩
    · exact ⟨_, _, T.g_DeadEnd, T.g_DeadEnd, T.nf_DeadEnd_DeadEnd⟩
    · exact ⟨_, _, T.g_DeadEnd, T.g_Bend, T.nf_DeadEnd_Bend⟩
    · exact ⟨_, _, T.g_DeadEnd, T.g_Fork, T.nf_DeadEnd_Fork⟩
    · exact ⟨_, _, T.g_Bend, T.g_Kind, T.nf_Bend_Kind⟩
    · exact ⟨_, _, T.g_Bend, T.g_DeadEnd, T.nf_Bend_DeadEnd⟩
    · exact ⟨_, _, T.g_Bend, T.g_Bend, T.nf_Bend_Bend⟩
    · exact ⟨_, _, T.g_Bend, T.g_Fork, T.nf_Bend_Fork⟩
    · exact ⟨_, _, T.g_Fork, T.g_Kind, T.nf_Fork_Kind⟩
    · exact ⟨_, _, T.g_Fork, T.g_DeadEnd, T.nf_Fork_DeadEnd⟩
    · exact ⟨_, _, T.g_Fork, T.g_Bend, T.nf_Fork_Bend⟩
    · exact ⟨_, _, T.g_Fork, T.g_Fork, T.nf_Fork_Fork⟩
  · intro p hp
    unfold nf_x_0_b at hp
    simp only [List.mem_cons, List.not_mem_nil, or_false] at hp
    rcases hp with rfl | rfl | rfl | rfl
    · exact ⟨_, T.g_Kind, T.nfb_Kind⟩
    · exact ⟨_, T.g_DeadEnd, T.nfb_DeadEnd⟩
    · exact ⟨_, T.g_Bend, T.nfb_Bend⟩
    · exact ⟨_, T.g_Fork, T.nfb_Fork⟩

theorem sc_Kind_of : FnScope ["letter", "ends"] ["letter", "ends"] (defScope s_Kind_of) := ⟨rfl, rfl, rfl, by decide +kernel, rfl, by decide +kernel, by decide +kernel⟩
theorem fn_Kind_of (T : Txt K mg a) (fd : FuncData) (F : Fun K "of" "Kind.of" s_Kind_of a.f_Kind_of fd) : FnD P w K mg base 4 a.f_Kind_of fd ["letter", "ends"] m_Kind_of := by
  have sc := sc_Kind_of
  exact fn_Dn F sc rfl (k := 3) (m := b_Kind_of) (fun _ _ _ _ _ _ hr tk po => (gss_cons (gs_if (gt_not (gt_val tru_c (ge_callF (ok_is_letter T) (hr.mono (by decide)) T.g_is_letter tk (ga_cons (gv 0) ga_nil)))) (gss_one gs_never) gss_nil) (gss_cons (gs_if (gt_not (gt_val tru_c (ge_callF (ok_is_between T) (hr.mono (by decide)) T.g_is_between tk (ga_cons (gv 1) (ga_cons ge_int (ga_cons (ge_gint (t := T.v_MOST_ENDS.choose) rfl T.v_MOST_ENDS.choose_spec) ga_nil)))))) (gss_one gs_never) gss_nil) (gss_cons (gs_if (gt_cmp (op_cmpOwn rfl (fun _ _ => rfl) (own_eq_0_ok T) (nf_x_0_ok T) (hr.mono (by decide)) tk (op_eqC hr.rm.units)) (gv 1) ge_int) (gss_one (gs_ret (ge_make T.mk_DeadEnd (ok_Kind___init__ T) (hr.mono (by decide)) tk (ga_cons (gv 0) ga_nil)))) gss_nil) (gss_one (gs_ret (ge_if (gt_cmp (op_cmpOwn rfl (fun _ _ => rfl) (own_eq_0_ok T) (nf_x_0_ok T) (hr.mono (by decide)) tk (op_eqC hr.rm.units)) (gv 1) ge_int) (ge_make T.mk_Bend (ok_Kind___init__ T) (hr.mono (by decide)) tk (ga_cons (gv 0) ga_nil)) (ge_make T.mk_Fork (ok_Kind___init__ T) (hr.mono (by decide)) tk (ga_cons (gv 0) ga_nil)))))))))

theorem ok_Kind_of (T : Txt K mg a) : Callee P w K mg base 4 a.f_Kind_of 2 m_Kind_of := by
  obtain ⟨fd, F⟩ := T.d_Kind_of.ex
  exact ⟨⟨fd, ["letter", "ends"], rfl, fn_Kind_of T fd F, F.binds fun _ _ _ _ _ _ us hl => match us, hl with | [_, _], _ => rfl⟩, F.kp⟩

theorem ne_own_eq_0 (T : Txt K mg a) : ∀ p ∈ own_eq_0, ∃ C, mg p.1 = some (.ref C) ∧ PySem.W.findIn K (.ref C) "__ne__" = some (some (.builtin "object.__ne__")) ∧ PySem.W.mroIn K C (.type "object") = some true := by
  intro p hp
  unfold own_eq_0 at hp
  simp only [List.mem_cons, List.not_mem_nil, or_false] at hp
  rcases hp with rfl | rfl | rfl | rfl
  · exact ⟨_, T.g_Kind, T.ne_Kind, T.mo_Kind⟩
  · exact ⟨_, T.g_DeadEnd, T.ne_DeadEnd, T.mo_DeadEnd⟩
  · exact ⟨_, T.g_Bend, T.ne_Bend, T.mo_Bend⟩
  · exact ⟨_, T.g_Fork, T.ne_Fork, T.mo_Fork⟩

theorem met_of_0_ok (T : Txt K mg a) : ∀ p ∈ met_of_0, MKOk P w K mg base 4 p.1 "of" p.2 := by
  intro p hp
  unfold met_of_0 at hp
  simp only [List.mem_cons, List.not_mem_nil, or_false] at hp
  rcases hp with rfl | rfl | rfl | rfl
  · exact (let ⟨_, hr, h, hp⟩ := T.sm_Kind_of; .smeth T.g_Kind hr h hp (ok_Kind_of T) (by decide))
  · exact (let ⟨_, hr, h, hp⟩ := T.sm_DeadEnd_of; .smeth T.g_DeadEnd hr h hp (ok_Kind_of T) (by decide))
  · exact (let ⟨_, hr, h, hp⟩ := T.sm_Bend_of; .smeth T.g_Bend hr h hp (ok_Kind_of T) (by decide))
  · exact (let ⟨_, hr, h, hp⟩ := T.sm_Fork_of; .smeth T.g_Fork hr h hp (ok_Kind_of T) (by decide))

theorem sc_Kind_read : FnScope ["cls", "text"] ["cls", "text"] (defScope s_Kind_read) := ⟨rfl, rfl, rfl, by decide +kernel, rfl, by decide +kernel, by decide +kernel⟩
theorem fn_Kind_read (T : Txt K mg a) (fd : FuncData) (F : Fun K "read" "Kind.read" s_Kind_read a.f_Kind_read fd) : FnD P w K mg base 5 a.f_Kind_read fd ["cls", "text"] m_Kind_read := by
  have sc := sc_Kind_read
  exact fn_Dn F sc rfl (k := 4) (m := b_Kind_read) (fun _ _ _ _ _ _ hr tk po => (gss_cons (gs_if (gt_w (gw_or (gt_not (gt_val tru_c (ge_callB (call_isiC (isi_o_ok T) (isi_b_ok T) (isi_n_ok T)) T.n_isinstance bt_isinstance (ga_cons (gv 1) (ga_cons (ge_ty rfl T.n_str bt_str) ga_nil))))) (gw_or (gt_cmp (op_neOwn (own_eq_0_ok T) (ne_own_eq_0 T) (nf_x_0_ok T) (hr.mono (by decide)) tk (op_neC hr.rm.units)) (ge_callB call_lenC T.n_len bt_len (ga_cons (gv 1) ga_nil)) ge_int) (gw_or (gt_not (gt_val tru_c (ge_callF (ok_is_letter T) (hr.mono (by decide)) T.g_is_letter tk (ga_cons (ge_ix ix_C (gv 1) ge_int) ga_nil)))) (gw_or1 (gt_cmp (op_inC true hr.rm.units rfl) (ge_ix ix_C (gv 1) ge_int) ge_str)))))) (gss_one gs_never) gss_nil) (gss_one (gs_ret (ge_met (met_of_0_ok T) (hr.mono (by decide)) tk (ge_gcls rfl T.g_Kind) (ga_cons (ge_ix ix_C (gv 1) ge_int) (ga_cons (ge_callTy call_intC T.n_int bt_int (ga_cons (ge_ix ix_C (gv 1) ge_int) ga_nil)) ga_nil)))))))

theorem ok_Kind_read (T : Txt K mg a) : Callee P w K mg base 5 a.f_Kind_read 2 m_Kind_read := by
  obtain ⟨fd, F⟩ := T.d_Kind_read.ex
  exact ⟨⟨fd, ["cls", "text"], rfl, fn_Kind_read T fd F, F.binds fun _ _ _ _ _ _ us hl => match us, hl with | [_, _], _ => rfl⟩, F.kp⟩

theorem sc_Kind_ports : FnScope ["self", "end"] ["self"] (defScope s_Kind_ports) := ⟨rfl, rfl, rfl, by decide +kernel, rfl, by decide +kernel, by decide +kernel⟩
theorem fn_Kind_ports (T : Txt K mg a) (fd : FuncData) (F : Fun K "ports" "Kind.ports" s_Kind_ports a.f_Kind_ports fd) : FnD P w K mg base 1 a.f_Kind_ports fd ["self"] m_Kind_ports := by
  have sc := sc_Kind_ports
  exact fn_Dn F sc rfl (k := 0) (m := b_Kind_ports) (fun _ _ _ _ _ _ hr tk po => (gss_one (gs_ret (ge_callTy call_tupleC T.n_tuple bt_tuple (ga_cons (ge_lc (own := [("end", 1)]) sc.nd (gi_range1 T.n_range (ga_cons (ge_att (att_c (att_ENDS_0_ok T) (hr.mono (by decide))) (gv 0)) ga_nil)) (blkOk_by (by rfl)) (ctg_name (by decide)) (fun _ _ _ _ _ => pg_name (i := 1) sc.nd rfl (Or.inl rfl)) (fun _ _ _ _ _ => gts_nil) (fun _ _ _ _ _ => (ge_joined (GJ.cons (ge_fmt (ge_att (att_c (att_letter_0_ok T) (hr.mono (by decide))) (gv 0))) (GJ.cons (ge_fmt (gv 1)) GJ.nil))))) ga_nil)))))

theorem ok_Kind_ports (T : Txt K mg a) : Callee P w K mg base 1 a.f_Kind_ports 1 m_Kind_ports := by
  obtain ⟨fd, F⟩ := T.d_Kind_ports.ex
  exact ⟨⟨fd, ["self"], rfl, fn_Kind_ports T fd F, F.binds fun _ _ _ _ _ _ us hl => match us, hl with | [_], _ => rfl⟩, F.kp⟩

theorem att_ports_0_ok (T : Txt K mg a) : ∀ p ∈ att_ports_0, AKOk P w K mg base 2 p.1 "ports" p.2 := by
  intro p hp
  unfold att_ports_0 at hp
  simp only [List.mem_cons, List.not_mem_nil, or_false] at hp
  rcases hp with rfl | rfl | rfl | rfl
  · exact .prop T.g_Kind T.cl_Kind T.p_Kind_ports (ok_Kind_ports T) (by decide)
  · exact .prop T.g_DeadEnd T.cl_DeadEnd T.p_DeadEnd_ports (ok_Kind_ports T) (by decide)
  · exact .prop T.g_Bend T.cl_Bend T.p_Bend_ports (ok_Kind_ports T) (by decide)
  · exact .prop T.g_Fork T.cl_Fork T.p_Fork_ports (ok_Kind_ports T) (by decide)

theorem sc_Kind___contains__ : FnScope ["self", "port"] ["self", "port"] (defScope s_Kind___contains__) := ⟨rfl, rfl, rfl, by decide +kernel, rfl, by decide +kernel, by decide +kernel⟩
theorem fn_Kind___contains__ (T : Txt K mg a) (fd : FuncData) (F : Fun K "__contains__" "Kind.__contains__" s_Kind___contains__ a.f_Kind___contains__ fd) : FnD P w K mg base 3 a.f_Kind___contains__ fd ["self", "port"] m_Kind___contains__ := by
  have sc := sc_Kind___contains__
  exact fn_Dn F sc rfl (k := 2) (m := b_Kind___contains__) (fun _ _ _ _ _ _ hr tk po => (gss_one (gs_ret (ge_and tru_c (ge_callB (call_isiC (isi_o_ok T) (isi_b_ok T) (isi_n_ok T)) T.n_isinstance bt_isinstance (ga_cons (gv 1) (ga_cons (ge_ty rfl T.n_str bt_str) ga_nil))) (ge_one (ge_cmp (op_inC false hr.rm.units rfl) (gv 1) (ge_att (att_c (att_ports_0_ok T) (hr.mono (by decide))) (gv 0))))))))

theorem ok_Kind___contains__ (T : Txt K mg a) : Callee P w K mg base 3 a.f_Kind___contains__ 2 m_Kind___contains__ := by
  obtain ⟨fd, F⟩ := T.d_Kind___contains__.ex
  exact ⟨⟨fd, ["self", "port"], rfl, fn_Kind___contains__ T fd F, F.binds fun _ _ _ _ _ _ us hl => match us, hl with | [_, _], _ => rfl⟩, F.kp⟩

theorem sc__law_pen : FnScope ["_law_script"] ["_law_script"] (defScope s__law_pen) := ⟨rfl, rfl, rfl, by decide +kernel, rfl, by decide +kernel, by decide +kernel⟩
theorem fn__law_pen (T : Txt K mg a) (fd : FuncData) (F : Fun K "_law_pen" "_law_pen" s__law_pen a.f__law_pen fd) : FnD P w K mg base 1 a.f__law_pen fd ["_law_script"] m__law_pen := by
  have sc := sc__law_pen
  exact fn_Dn F sc rfl (k := 0) (m := b__law_pen) (fun _ _ _ _ _ _ hr tk po => (gss_one (gs_ret (ge_lst (ga_cons (ge_callTy call_listC T.n_list bt_list (ga_cons (ge_slice (gv 0) gp_none (gp_some ge_int)) ga_nil)) (ga_cons ge_int (ga_cons ge_int ga_nil)))))))

theorem ok__law_pen (T : Txt K mg a) : Callee P w K mg base 1 a.f__law_pen 1 m__law_pen := by
  obtain ⟨fd, F⟩ := T.d__law_pen.ex
  exact ⟨⟨fd, ["_law_script"], rfl, fn__law_pen T fd F, F.binds fun _ _ _ _ _ _ us hl => match us, hl with | [_], _ => rfl⟩, F.kp⟩

theorem own_lt_0_ok (T : Txt K mg a) : ∀ p ∈ own_lt_0, Own P w K mg base 6 p.1 "__lt__" 2 p.2 := by
  intro p hp
  unfold own_lt_0 at hp
  simp only [List.mem_cons, List.not_mem_nil, or_false] at hp
  rcases hp with rfl | rfl | rfl | rfl
  · exact ⟨⟨_, _, _, T.g_Kind, T.m_Kind___lt__.at_, T.m_Kind___lt__.fn, ok_Kind___lt__ T, by decide⟩⟩
  · exact ⟨⟨_, _, _, T.g_DeadEnd, T.m_DeadEnd___lt__.at_, T.m_DeadEnd___lt__.fn, ok_Kind___lt__ T, by decide⟩⟩
  · exact ⟨⟨_, _, _, T.g_Bend, T.m_Bend___lt__.at_, T.m_Bend___lt__.fn, ok_Kind___lt__ T, by decide⟩⟩
  · exact ⟨⟨_, _, _, T.g_Fork, T.m_Fork___lt__.at_, T.m_Fork___lt__.fn, ok_Kind___lt__ T, by decide⟩⟩

theorem sc__law_draw : FnScope ["_law_pen_here", "_law_many", "_law_digit", "_law_turn", "_law_cell", "_law_great", "_law_mixed", "_law_late"] ["_law_pen_here", "_law_many"] (defScope s__law_draw) := ⟨rfl, rfl, rfl, by decide +kernel, rfl, by decide +kernel, by decide +kernel⟩
theorem fn__law_draw (T : Txt K mg a) (fd : FuncData) (F : Fun K "_law_draw" "_law_draw" s__law_draw a.f__law_draw fd) : FnD P w K mg base 7 a.f__law_draw fd ["_law_pen_here", "_law_many"] m__law_draw := by
  have sc := sc__law_draw
  exact fn_Dn F sc rfl (k := 6) (m := b__law_draw) (fun _ _ _ _ _ _ hr tk po => (gss_cons (gs_if (gt_cmp op_gtC (ge_ix ix_C (gv 0) ge_int) ge_int) (gss_cons (gs_set (i := 2) sc.nd (ge_op op_modC (ge_callTy call_intC T.n_int bt_int (ga_cons (ge_ix ix_C (gv 0) ge_int) ga_nil)) (gv 1))) (gss_cons (gs_asg (ge_op op_fdivC (ge_callTy call_intC T.n_int bt_int (ga_cons (ge_ix ix_C (gv 0) ge_int) ga_nil)) (gv 1)) (gg_ix (gv 0) ge_int)) (gss_one (gs_ret (gv 2))))) gss_nil) (gss_cons (gs_set (i := 3) sc.nd (ge_ix ix_C (gv 0) ge_int)) (gss_cons (gs_asg (ge_op op_addC (gv 3) ge_int) (gg_ix (gv 0) ge_int)) (gss_cons (gs_set (i := 4) sc.nd (ge_op op_addC (ge_op op_mulC ge_int (gv 3)) ge_int)) (gss_cons (gs_if (gt_cmp (op_neOwn (own_eq_0_ok T) (ne_own_eq_0 T) (nf_x_0_ok T) (hr.mono (by decide)) tk (op_neC hr.rm.units)) (ge_ix ix_C (gv 0) ge_int) (ge_lst ga_nil)) (gss_one (gs_set (i := 4) sc.nd (ge_ix ix_C (ge_ix ix_C (gv 0) ge_int) (ge_op op_modC (ge_callTy call_intC T.n_int bt_int (ga_cons (gv 3) ga_nil)) (ge_callB call_lenC T.n_len bt_len (ga_cons (ge_ix ix_C (gv 0) ge_int) ga_nil)))))) gss_nil) (gss_cons (gs_if (gt_w (gw_and (gt_cmp (op_cmpOwn rfl (fun _ _ => rfl) (own_lt_0_ok T) (nf_x_0_ok T) (hr.mono (by decide)) tk (op_ltC hr.rm.units)) (gv 3) (ge_callB call_lenC T.n_len bt_len (ga_cons (ge_ix ix_C (gv 0) ge_int) ga_nil))) (gw_and1 (gt_cmp op_geC (ge_callB call_absC T.n_abs bt_abs (ga_cons (gv 4) ga_nil)) (ge_op op_powC ge_int ge_int))))) (gss_cons (gs_set (i := 5) sc.nd (ge_op op_addC (ge_op op_mulC ge_int (ge_op op_subC (ge_callB call_absC T.n_abs bt_abs (ga_cons (gv 4) ga_nil)) (ge_op op_powC ge_int ge_int))) (ge_callTy call_intC T.n_int bt_int (ga_cons (ge_cmp (op_cmpOwn rfl (fun _ _ => rfl) (own_lt_0_ok T) (nf_x_0_ok T) (hr.mono (by decide)) tk (op_ltC hr.rm.units)) (gv 4) ge_int) ga_nil)))) (gss_cons (gs_asg (ge_op op_fdivC (ge_callTy call_intC T.n_int bt_int (ga_cons (gv 5) ga_nil)) (gv 1)) (gg_ix (gv 0) ge_int)) (gss_one (gs_ret (ge_op op_modC (ge_callTy call_intC T.n_int bt_int (ga_cons (gv 5) ga_nil)) (gv 1)))))) gss_nil) (gss_cons (gs_set (i := 6) sc.nd (ge_op op_modC (ge_callTy call_intC T.n_int bt_int (ga_cons (ge_op op_powC (ge_op op_addC (ge_op op_addC (ge_op op_modC (ge_callTy call_intC T.n_int bt_int (ga_cons (gv 4) ga_nil)) ge_int) (ge_op op_mulC ge_int (gv 3))) ge_int) ge_int) ga_nil)) ge_int)) (gss_cons (gs_set (i := 7) sc.nd (ge_op op_addC (ge_op op_mulC (gv 6) (ge_op op_addC (ge_op op_mulC ge_int (gv 3)) ge_int)) (ge_op op_mulC (ge_op op_mulC ge_int (gv 3)) (gv 3)))) (gss_cons (gs_set (i := 6) sc.nd (ge_op op_modC (ge_callTy call_intC T.n_int bt_int (ga_cons (ge_op op_powC (ge_op op_addC (gv 7) ge_int) ge_int) ga_nil)) ge_int)) (gss_one (gs_ret (ge_op op_modC (ge_callTy call_intC T.n_int bt_int (ga_cons (ge_op op_fdivC (gv 6) ge_int) ga_nil)) (gv 1))))))))))))))

theorem ok__law_draw (T : Txt K mg a) : Callee P w K mg base 7 a.f__law_draw 2 m__law_draw := by
  obtain ⟨fd, F⟩ := T.d__law_draw.ex
  exact ⟨⟨fd, ["_law_pen_here", "_law_many"], rfl, fn__law_draw T fd F, F.binds fun _ _ _ _ _ _ us hl => match us, hl with | [_, _], _ => rfl⟩, F.kp⟩

theorem sc__law_pick : FnScope ["_law_pen_here", "_law_some"] ["_law_pen_here", "_law_some"] (defScope s__law_pick) := ⟨rfl, rfl, rfl, by decide +kernel, rfl, by decide +kernel, by decide +kernel⟩
theorem fn__law_pick (T : Txt K mg a) (fd : FuncData) (F : Fun K "_law_pick" "_law_pick" s__law_pick a.f__law_pick fd) : FnD P w K mg base 8 a.f__law_pick fd ["_law_pen_here", "_law_some"] m__law_pick := by
  have sc := sc__law_pick
  exact fn_Dn F sc rfl (k := 7) (m := b__law_pick) (fun _ _ _ _ _ _ hr tk po => (gss_one (gs_ret (ge_ix ix_C (gv 1) (ge_callF (ok__law_draw T) (hr.mono (by decide)) T.g__law_draw tk (ga_cons (gv 0) (ga_cons (ge_callB call_lenC T.n_len bt_len (ga_cons (gv 1) ga_nil)) ga_nil)))))))

theorem ok__law_pick (T : Txt K mg a) : Callee P w K mg base 8 a.f__law_pick 2 m__law_pick := by
  obtain ⟨fd, F⟩ := T.d__law_pick.ex
  exact ⟨⟨fd, ["_law_pen_here", "_law_some"], rfl, fn__law_pick T fd F, F.binds fun _ _ _ _ _ _ us hl => match us, hl with | [_, _], _ => rfl⟩, F.kp⟩

theorem sc__law_made : FnScope ["_law_sign", "_law_many"] ["_law_sign", "_law_many"] (defScope s__law_made) := ⟨rfl, rfl, rfl, by decide +kernel, rfl, by decide +kernel, by decide +kernel⟩
theorem fn__law_made (T : Txt K mg a) (fd : FuncData) (F : Fun K "_law_made" "_law_made" s__law_made a.f__law_made fd) : FnD P w K mg base 4 a.f__law_made fd ["_law_sign", "_law_many"] m__law_made := by
  have sc := sc__law_made
  exact fn_Dn F sc rfl (k := 3) (m := b__law_made) (fun _ _ _ _ _ _ hr tk po => (gss_cons (gs_if (gt_cmp (op_cmpOwn rfl (fun _ _ => rfl) (own_eq_0_ok T) (nf_x_0_ok T) (hr.mono (by decide)) tk (op_eqC hr.rm.units)) (gv 1) ge_int) (gss_one (gs_ret (ge_make T.mk_DeadEnd (ok_Kind___init__ T) (hr.mono (by decide)) tk (ga_cons (gv 0) ga_nil)))) gss_nil) (gss_one (gs_ret (ge_if (gt_cmp (op_cmpOwn rfl (fun _ _ => rfl) (own_eq_0_ok T) (nf_x_0_ok T) (hr.mono (by decide)) tk (op_eqC hr.rm.units)) (gv 1) ge_int) (ge_make T.mk_Bend (ok_Kind___init__ T) (hr.mono (by decide)) tk (ga_cons (gv 0) ga_nil)) (ge_make T.mk_Fork (ok_Kind___init__ T) (hr.mono (by decide)) tk (ga_cons (gv 0) ga_nil)))))))

theorem ok__law_made (T : Txt K mg a) : Callee P w K mg base 4 a.f__law_made 2 m__law_made := by
  obtain ⟨fd, F⟩ := T.d__law_made.ex
  exact ⟨⟨fd, ["_law_sign", "_law_many"], rfl, fn__law_made T fd F, F.binds fun _ _ _ _ _ _ us hl => match us, hl with | [_, _], _ => rfl⟩, F.kp⟩

theorem met_read_0_ok (T : Txt K mg a) : ∀ p ∈ met_read_0, MKOk P w K mg base 5 p.1 "read" p.2 := by
  intro p hp
  unfold met_read_0 at hp
  simp only [List.mem_cons, List.not_mem_nil, or_false] at hp
  rcases hp with rfl | rfl | rfl | rfl
  · exact (let ⟨_, hr, h⟩ := T.cm_Kind_read; .cmeth T.g_Kind hr h (ok_Kind_read T) (by decide))
  · exact (let ⟨_, hr, h⟩ := T.cm_DeadEnd_read; .cmeth T.g_DeadEnd hr h (ok_Kind_read T) (by decide))
  · exact (let ⟨_, hr, h⟩ := T.cm_Bend_read; .cmeth T.g_Bend hr h (ok_Kind_read T) (by decide))
  · exact (let ⟨_, hr, h⟩ := T.cm_Fork_read; .cmeth T.g_Fork hr h (ok_Kind_read T) (by decide))

theorem sc__law_read : FnScope ["_law_way", "_law_text_so"] ["_law_way", "_law_text_so"] (defScope s__law_read) := ⟨rfl, rfl, rfl, by decide +kernel, rfl, by decide +kernel, by decide +kernel⟩
theorem fn__law_read (T : Txt K mg a) (fd : FuncData) (F : Fun K "_law_read" "_law_read" s__law_read a.f__law_read fd) : FnD P w K mg base 6 a.f__law_read fd ["_law_way", "_law_text_so"] m__law_read := by
  have sc := sc__law_read
  exact fn_Dn F sc rfl (k := 5) (m := b__law_read) (fun _ _ _ _ _ _ hr tk po => (gss_cons (gs_if (gt_cmp (op_cmpOwn rfl (fun _ _ => rfl) (own_eq_0_ok T) (nf_x_0_ok T) (hr.mono (by decide)) tk (op_eqC hr.rm.units)) (gv 0) ge_int) (gss_one (gs_ret (ge_met (met_read_0_ok T) (hr.mono (by decide)) tk (ge_gcls rfl T.g_Kind) (ga_cons (gv 1) ga_nil)))) gss_nil) (gss_cons (gs_if (gt_cmp (op_cmpOwn rfl (fun _ _ => rfl) (own_eq_0_ok T) (nf_x_0_ok T) (hr.mono (by decide)) tk (op_eqC hr.rm.units)) (gv 0) ge_int) (gss_one (gs_ret (ge_met (met_read_0_ok T) (hr.mono (by decide)) tk (ge_gcls rfl T.g_DeadEnd) (ga_cons (gv 1) ga_nil)))) gss_nil) (gss_one (gs_ret (ge_if (gt_cmp (op_cmpOwn rfl (fun _ _ => rfl) (own_eq_0_ok T) (nf_x_0_ok T) (hr.mono (by decide)) tk (op_eqC hr.rm.units)) (gv 0) ge_int) (ge_met (met_read_0_ok T) (hr.mono (by decide)) tk (ge_gcls rfl T.g_Bend) (ga_cons (gv 1) ga_nil)) (ge_met (met_read_0_ok T) (hr.mono (by decide)) tk (ge_gcls rfl T.g_Fork) (ga_cons (gv 1) ga_nil))))))))

theorem ok__law_read (T : Txt K mg a) : Callee P w K mg base 6 a.f__law_read 2 m__law_read := by
  obtain ⟨fd, F⟩ := T.d__law_read.ex
  exact ⟨⟨fd, ["_law_way", "_law_text_so"], rfl, fn__law_read T fd F, F.binds fun _ _ _ _ _ _ us hl => match us, hl with | [_, _], _ => rfl⟩, F.kp⟩

theorem kw_Kind_of_0_ends_letter (T : Txt K mg a) : CalleeK P w K mg base 4 a.f_Kind_of 2 0 ["ends", "letter"] [1, 0] m_Kind_of :=
  Callee.kw (ps := ["letter", "ends"]) T.d_Kind_of (fn_Kind_of T) rfl fun _ _ _ _ _ _ us ws hu hw => match us, ws, hu, hw with | [], [_, _], _, _ => rfl

theorem own_contains_0_ok (T : Txt K mg a) : ∀ p ∈ own_contains_0, Own P w K mg base 5 p.1 "__contains__" 2 p.2 := by
  intro p hp
  unfold own_contains_0 at hp
  simp only [List.mem_cons, List.not_mem_nil, or_false] at hp
  rcases hp with rfl | rfl | rfl | rfl
  · exact ⟨⟨_, _, _, T.g_Kind, T.m_Kind___contains__.at_, T.m_Kind___contains__.fn, ok_Kind___contains__ T, by decide⟩⟩
  · exact ⟨⟨_, _, _, T.g_DeadEnd, T.m_DeadEnd___contains__.at_, T.m_DeadEnd___contains__.fn, ok_Kind___contains__ T, by decide⟩⟩
  · exact ⟨⟨_, _, _, T.g_Bend, T.m_Bend___contains__.at_, T.m_Bend___contains__.fn, ok_Kind___contains__ T, by decide⟩⟩
  · exact ⟨⟨_, _, _, T.g_Fork, T.m_Fork___contains__.at_, T.m_Fork___contains__.fn, ok_Kind___contains__ T, by decide⟩⟩

theorem sc__law_told_right : FnScope ["_law_pen_here", "_law_sign", "_law_many", "_law_thing", "_law_known", "_law_classes", "_law_some", "_law_again", "_law_spot", "_law_one"] ["_law_pen_here", "_law_sign", "_law_many"] (defScope s__law_told_right) := ⟨rfl, rfl, rfl, by decide +kernel, rfl, by decide +kernel, by decide +kernel⟩
theorem fn__law_told_right (T : Txt K mg a) (fd : FuncData) (F : Fun K "_law_told_right" "_law_told_right" s__law_told_right a.f__law_told_right fd) : FnD P w K mg base 8 a.f__law_told_right fd ["_law_pen_here", "_law_sign", "_law_many"] m__law_told_right := by
  have sc := sc__law_told_right
  exact fn_Dn F sc rfl (k := 7) (m := b__law_told_right) (fun _ _ _ _ _ _ hr tk po => (gss_cons (gs_for po (gi_seq (ge_lst (ga_cons (ge_callF (ok__law_made T) (hr.mono (by decide)) T.g__law_made tk (ga_cons (gv 1) (ga_cons (gv 2) ga_nil))) (ga_cons (ge_met (met_of_0_ok T) (hr.mono (by decide)) tk (ge_gcls rfl T.g_Kind) (ga_cons (gv 1) (ga_cons (gv 2) ga_nil))) (ga_cons (ge_smKw0 T.g_Kind T.sm_Kind_of.choose_spec.1 T.sm_Kind_of.choose_spec.2.1 T.sm_Kind_of.choose_spec.2.2 (kw_Kind_of_0_ends_letter T) (hr.mono (by decide)) tk (ge_gcls rfl T.g_Kind) (gk_cons (gv 2) (gk_cons (gv 1) gk_nil))) ga_nil))))) (gg_name (i := 3) sc.nd) (gss_cons (gs_set (i := 4) sc.nd (ge_callTy call_tupleC T.n_tuple bt_tuple (ga_cons (ge_lc (own := [("_law_spot", 8)]) sc.nd (gi_range1 T.n_range (ga_cons (gv 2) ga_nil)) (blkOk_by (by rfl)) (ctg_name (by decide)) (fun _ _ _ _ _ => pg_name (i := 8) sc.nd rfl (Or.inl rfl)) (fun _ _ _ _ _ => gts_nil) (fun _ _ _ _ _ => (ge_op op_addC (gv 1) (ge_callTy (call_strC (own_str_0_ok T) (hr.mono (by decide)) takes0) T.n_str bt_str (ga_cons (gv 8) ga_nil))))) ga_nil))) (gss_cons (gs_if (gt_cmp (op_neOwn (own_eq_0_ok T) (ne_own_eq_0 T) (nf_x_0_ok T) (hr.mono (by decide)) tk (op_neC hr.rm.units)) (ge_callB (call_reprC hr) T.n_repr bt_repr (ga_cons (ge_lst (ga_cons (ge_att (att_c (att_letter_0_ok T) (hr.mono (by decide))) (gv 3)) (ga_cons (ge_att (att_c (att_ports_0_ok T) (hr.mono (by decide))) (gv 3)) (ga_cons (ge_att (att_c (att_ENDS_0_ok T) (hr.mono (by decide))) (gv 3)) (ga_cons (ge_callTy (call_strC (own_str_0_ok T) (hr.mono (by decide)) tk) T.n_str bt_str (ga_cons (gv 3) ga_nil)) ga_nil))))) ga_nil)) (ge_callB (call_reprC hr) T.n_repr bt_repr (ga_cons (ge_lst (ga_cons (gv 1) (ga_cons (gv 4) (ga_cons (gv 2) (ga_cons (ge_op op_addC (gv 1) (ge_callTy (call_strC (own_str_0_ok T) (hr.mono (by decide)) tk) T.n_str bt_str (ga_cons (gv 2) ga_nil))) ga_nil))))) ga_nil))) (gss_one (gs_ret ge_bl)) gss_nil) (gss_cons (gs_set (i := 5) sc.nd (ge_lst (ga_cons (ge_callB (call_isiC (isi_o_ok T) (isi_b_ok T) (isi_n_ok T)) T.n_isinstance bt_isinstance (ga_cons (gv 3) (ga_cons (ge_gcls rfl T.g_DeadEnd) ga_nil))) (ga_cons (ge_callB (call_isiC (isi_o_ok T) (isi_b_ok T) (isi_n_ok T)) T.n_isinstance bt_isinstance (ga_cons (gv 3) (ga_cons (ge_gcls rfl T.g_Bend) ga_nil))) (ga_cons (ge_callB (call_isiC (isi_o_ok T) (isi_b_ok T) (isi_n_ok T)) T.n_isinstance bt_isinstance (ga_cons (gv 3) (ga_cons (ge_gcls rfl T.g_Fork) ga_nil))) ga_nil))))) (gss_cons (gs_if (gt_w (gw_or (gt_cmp (op_neOwn (own_eq_0_ok T) (ne_own_eq_0 T) (nf_x_0_ok T) (hr.mono (by decide)) tk (op_neC hr.rm.units)) (gv 5) (ge_lst (ga_cons (ge_cmp (op_cmpOwn rfl (fun _ _ => rfl) (own_eq_0_ok T) (nf_x_0_ok T) (hr.mono (by decide)) tk (op_eqC hr.rm.units)) (gv 2) ge_int) (ga_cons (ge_cmp (op_cmpOwn rfl (fun _ _ => rfl) (own_eq_0_ok T) (nf_x_0_ok T) (hr.mono (by decide)) tk (op_eqC hr.rm.units)) (gv 2) ge_int) (ga_cons (ge_cmp (op_cmpOwn rfl (fun _ _ => rfl) (own_eq_0_ok T) (nf_x_0_ok T) (hr.mono (by decide)) tk (op_eqC hr.rm.units)) (gv 2) ge_int) ga_nil))))) (gw_or1 (gt_not (gt_val tru_c (ge_callB (call_isiC (isi_o_ok T) (isi_b_ok T) (isi_n_ok T)) T.n_isinstance bt_isinstance (ga_cons (gv 3) (ga_cons (ge_gcls rfl T.g_Kind) ga_nil)))))))) (gss_one (gs_ret ge_bl)) gss_nil) (gss_cons (gs_set (i := 6) sc.nd (ge_op op_addC (ge_lc (own := [("_law_spot", 8)]) sc.nd (gi_range1 T.n_range (ga_cons ge_int ga_nil)) (blkOk_by (by rfl)) (ctg_name (by decide)) (fun _ _ _ _ _ => pg_name (i := 8) sc.nd rfl (Or.inl rfl)) (fun _ _ _ _ _ => gts_nil) (fun _ _ _ _ _ => (ge_op op_addC (gv 1) (ge_callTy (call_strC (own_str_0_ok T) (hr.mono (by decide)) takes0) T.n_str bt_str (ga_cons (gv 8) ga_nil))))) (ge_lst (ga_cons (gv 1) (ga_cons ge_str (ga_cons ge_non (ga_cons ge_int (ga_cons ge_bl (ga_cons (ge_tup (ga_cons (gv 1) (ga_cons ge_int ga_nil))) (ga_cons (ge_lst (ga_cons (ge_op op_addC (gv 1) ge_str) ga_nil)) (ga_cons ge_dict0 ga_nil))))))))))) (gss_cons (gs_if (gt_cmp (op_neOwn (own_eq_0_ok T) (ne_own_eq_0 T) (nf_x_0_ok T) (hr.mono (by decide)) tk (op_neC hr.rm.units)) (ge_callB (call_reprC hr) T.n_repr bt_repr (ga_cons (ge_lc (own := [("_law_one", 9)]) sc.nd (gi_seq (gv 6)) (blkOk_by (by rfl)) (ctg_name (by decide)) (fun _ _ _ _ _ => pg_name (i := 9) sc.nd rfl (Or.inl rfl)) (fun _ _ _ _ _ => gts_nil) (fun _ _ _ _ _ => (ge_cmp (op_inOwn false (own_contains_0_ok T) (hr.mono (by decide)) takes0 rfl) (gv 9) (gv 3)))) ga_nil)) (ge_callB (call_reprC hr) T.n_repr bt_repr (ga_cons (ge_lc (own := [("_law_one", 9)]) sc.nd (gi_seq (gv 6)) (blkOk_by (by rfl)) (ctg_name (by decide)) (fun _ _ _ _ _ => pg_name (i := 9) sc.nd rfl (Or.inl rfl)) (fun _ _ _ _ _ => gts_nil) (fun _ _ _ _ _ => (ge_cmp (op_inOwn false (own_contains_0_ok T) (hr.mono (by decide)) takes0 rfl) (gv 9) (gv 4)))) ga_nil))) (gss_one (gs_ret ge_bl)) gss_nil) (gss_cons (gs_set (i := 7) sc.nd (ge_callF (ok__law_read T) (hr.mono (by decide)) T.g__law_read tk (ga_cons (ge_callF (ok__law_draw T) (hr.mono (by decide)) T.g__law_draw tk (ga_cons (gv 0) (ga_cons ge_int ga_nil))) (ga_cons (ge_op op_addC (gv 1) (ge_callTy (call_strC (own_str_0_ok T) (hr.mono (by decide)) tk) T.n_str bt_str (ga_cons (gv 2) ga_nil))) ga_nil)))) (gss_one (gs_if (gt_w (gw_or (gt_not (gt_cmp (op_cmpOwn rfl (fun _ _ => rfl) (own_eq_0_ok T) (nf_x_0_ok T) (hr.mono (by decide)) tk (op_eqC hr.rm.units)) (gv 7) (gv 3))) (gw_or (gt_cmp (op_neOwn (own_eq_0_ok T) (ne_own_eq_0 T) (nf_x_0_ok T) (hr.mono (by decide)) tk (op_neC hr.rm.units)) (gv 7) (gv 3)) (gw_or1 (gt_cmp (op_neOwn (own_eq_0_ok T) (ne_own_eq_0 T) (nf_x_0_ok T) (hr.mono (by decide)) tk (op_neC hr.rm.units)) (ge_att (att_c (att_ENDS_0_ok T) (hr.mono (by decide))) (gv 7)) (gv 2)))))) (gss_one (gs_ret ge_bl)) gss_nil)))))))))) (gss_one (gs_ret ge_bl))))

theorem ok__law_told_right (T : Txt K mg a) : Callee P w K mg base 8 a.f__law_told_right 3 m__law_told_right := by
  obtain ⟨fd, F⟩ := T.d__law_told_right.ex
  exact ⟨⟨fd, ["_law_pen_here", "_law_sign", "_law_many"], rfl, fn__law_told_right T fd F, F.binds fun _ _ _ _ _ _ us hl => match us, hl with | [_, _, _], _ => rfl⟩, F.kp⟩

theorem sc__law_pair_right : FnScope ["_law_one", "_law_other", "_law_first", "_law_second", "_law_odd", "_law_thing"] ["_law_one", "_law_other"] (defScope s__law_pair_right) := ⟨rfl, rfl, rfl, by decide +kernel, rfl, by decide +kernel, by decide +kernel⟩
theorem fn__law_pair_right (T : Txt K mg a) (fd : FuncData) (F : Fun K "_law_pair_right" "_law_pair_right" s__law_pair_right a.f__law_pair_right fd) : FnD P w K mg base 7 a.f__law_pair_right fd ["_law_one", "_law_other"] m__law_pair_right := by
  have sc := sc__law_pair_right
  exact fn_Dn F sc rfl (k := 6) (m := b__law_pair_right) (fun _ _ _ _ _ _ hr tk po => (gss_cons (gs_asg (ge_tup (ga_cons (ge_callF (ok__law_made T) (hr.mono (by decide)) T.g__law_made tk (ga_cons (ge_ix ix_C (gv 0) ge_int) (ga_cons (ge_ix ix_C (gv 0) ge_int) ga_nil))) (ga_cons (ge_callF (ok__law_made T) (hr.mono (by decide)) T.g__law_made tk (ga_cons (ge_ix ix_C (gv 1) ge_int) (ga_cons (ge_ix ix_C (gv 1) ge_int) ga_nil))) ga_nil))) (gg_tup rfl (ggs_cons (i := 2) sc.nd (ggs_cons (i := 3) sc.nd ggs_nil)))) (gss_cons (gs_if (gt_cmp (op_neOwn (own_eq_0_ok T) (ne_own_eq_0 T) (nf_x_0_ok T) (hr.mono (by decide)) tk (op_neC hr.rm.units)) (ge_callB (call_reprC hr) T.n_repr bt_repr (ga_cons (ge_lst (ga_cons (ge_cmp (op_cmpOwn rfl (fun _ _ => rfl) (own_eq_0_ok T) (nf_x_0_ok T) (hr.mono (by decide)) tk (op_eqC hr.rm.units)) (gv 2) (gv 3)) (ga_cons (ge_cmp (op_neOwn (own_eq_0_ok T) (ne_own_eq_0 T) (nf_x_0_ok T) (hr.mono (by decide)) tk (op_neC hr.rm.units)) (gv 2) (gv 3)) (ga_cons (ge_cmp (op_cmpOwn rfl (fun _ _ => rfl) (own_lt_0_ok T) (nf_x_0_ok T) (hr.mono (by decide)) tk (op_ltC hr.rm.units)) (gv 2) (gv 3)) ga_nil)))) ga_nil)) (ge_callB (call_reprC hr) T.n_repr bt_repr (ga_cons (ge_lst (ga_cons (ge_cmp (op_cmpOwn rfl (fun _ _ => rfl) (own_eq_0_ok T) (nf_x_0_ok T) (hr.mono (by decide)) tk (op_eqC hr.rm.units)) (gv 0) (gv 1)) (ga_cons (ge_cmp (op_neOwn (own_eq_0_ok T) (ne_own_eq_0 T) (nf_x_0_ok T) (hr.mono (by decide)) tk (op_neC hr.rm.units)) (gv 0) (gv 1)) (ga_cons (ge_cmp (op_cmpOwn rfl (fun _ _ => rfl) (own_lt_0_ok T) (nf_x_0_ok T) (hr.mono (by decide)) tk (op_ltC hr.rm.units)) (gv 0) (gv 1)) ga_nil)))) ga_nil))) (gss_one (gs_ret ge_bl)) gss_nil) (gss_cons (gs_set (i := 4) sc.nd (ge_lst (ga_cons ge_non (ga_cons ge_int (ga_cons (ge_callTy (call_strC (own_str_0_ok T) (hr.mono (by decide)) tk) T.n_str bt_str (ga_cons (gv 2) ga_nil)) (ga_cons (ge_att (att_c (att_letter_0_ok T) (hr.mono (by decide))) (gv 2)) (ga_cons (ge_att (att_c (att_ports_0_ok T) (hr.mono (by decide))) (gv 2)) (ga_cons (ge_tup (ga_cons (ge_ix ix_C (gv 0) ge_int) (ga_cons (ge_ix ix_C (gv 0) ge_int) ga_nil))) (ga_cons (ge_lst (ga_cons (gv 2) ga_nil)) (ga_cons ge_dict0 ga_nil)))))))))) (gss_one (gs_ret (ge_cmp (op_cmpOwn rfl (fun _ _ => rfl) (own_eq_0_ok T) (nf_x_0_ok T) (hr.mono (by decide)) tk (op_eqC hr.rm.units)) (ge_lc (own := [("_law_thing", 5)]) sc.nd (gi_seq (gv 4)) (blkOk_by (by rfl)) (ctg_name (by decide)) (fun _ _ _ _ _ => pg_name (i := 5) sc.nd rfl (Or.inl rfl)) (fun _ _ _ _ _ => gts_one (gt_w (gw_or (gt_cmp (op_cmpOwn rfl (fun _ _ => rfl) (own_eq_0_ok T) (nf_x_0_ok T) (hr.mono (by decide)) takes0 (op_eqC hr.rm.units)) (gv 2) (gv 5)) (gw_or1 (gt_not (gt_cmp (op_neOwn (own_eq_0_ok T) (ne_own_eq_0 T) (nf_x_0_ok T) (hr.mono (by decide)) takes0 (op_neC hr.rm.units)) (gv 2) (gv 5))))))) (fun _ _ _ _ _ => (gv 5))) (ge_lst ga_nil))))))))

theorem ok__law_pair_right (T : Txt K mg a) : Callee P w K mg base 7 a.f__law_pair_right 2 m__law_pair_right := by
  obtain ⟨fd, F⟩ := T.d__law_pair_right.ex
  exact ⟨⟨fd, ["_law_one", "_law_other"], rfl, fn__law_pair_right T fd F, F.binds fun _ _ _ _ _ _ us hl => match us, hl with | [_, _], _ => rfl⟩, F.kp⟩

theorem sc__law_is_letter : FnScope ["_law_thing"] ["_law_thing"] (defScope s__law_is_letter) := ⟨rfl, rfl, rfl, by decide +kernel, rfl, by decide +kernel, by decide +kernel⟩
theorem fn__law_is_letter (T : Txt K mg a) (fd : FuncData) (F : Fun K "_law_is_letter" "_law_is_letter" s__law_is_letter a.f__law_is_letter fd) : FnD P w K mg base 4 a.f__law_is_letter fd ["_law_thing"] m__law_is_letter := by
  have sc := sc__law_is_letter
  exact fn_Dn F sc rfl (k := 3) (m := b__law_is_letter) (fun _ _ _ _ _ _ hr tk po => (gss_one (gs_ret (ge_and tru_c (ge_callB (call_isiC (isi_o_ok T) (isi_b_ok T) (isi_n_ok T)) T.n_isinstance bt_isinstance (ga_cons (gv 0) (ga_cons (ge_ty rfl T.n_str bt_str) ga_nil))) (ge_and tru_c (ge_cmp (op_cmpOwn rfl (fun _ _ => rfl) (own_eq_0_ok T) (nf_x_0_ok T) (hr.mono (by decide)) tk (op_eqC hr.rm.units)) (ge_callB call_lenC T.n_len bt_len (ga_cons (gv 0) ga_nil)) ge_int) (ge_one (ge_chain op_leC op_leC ge_str (gv 0) ge_str)))))))

theorem ok__law_is_letter (T : Txt K mg a) : Callee P w K mg base 4 a.f__law_is_letter 1 m__law_is_letter := by
  obtain ⟨fd, F⟩ := T.d__law_is_letter.ex
  exact ⟨⟨fd, ["_law_thing"], rfl, fn__law_is_letter T fd F, F.binds fun _ _ _ _ _ _ us hl => match us, hl with | [_], _ => rfl⟩, F.kp⟩

theorem sc__law_is_word : FnScope ["_law_thing", "_law_sign"] ["_law_thing"] (defScope s__law_is_word) := ⟨rfl, rfl, rfl, by decide +kernel, rfl, by decide +kernel, by decide +kernel⟩
theorem fn__law_is_word (T : Txt K mg a) (fd : FuncData) (F : Fun K "_law_is_word" "_law_is_word" s__law_is_word a.f__law_is_word fd) : FnD P w K mg base 7 a.f__law_is_word fd ["_law_thing"] m__law_is_word := by
  have sc := sc__law_is_word
  exact fn_Dn F sc rfl (k := 6) (m := b__law_is_word) (fun _ _ _ _ _ _ hr tk po => (gss_cons (gs_if (gt_w (gw_or (gt_not (gt_val tru_c (ge_callB (call_isiC (isi_o_ok T) (isi_b_ok T) (isi_n_ok T)) T.n_isinstance bt_isinstance (ga_cons (gv 0) (ga_cons (ge_ty rfl T.n_str bt_str) ga_nil))))) (gw_or (gt_cmp (op_cmpOwn rfl (fun _ _ => rfl) (own_lt_0_ok T) (nf_x_0_ok T) (hr.mono (by decide)) tk (op_ltC hr.rm.units)) (ge_callB call_lenC T.n_len bt_len (ga_cons (gv 0) ga_nil)) ge_int) (gw_or1 (gt_cmp op_gtC (ge_callB call_lenC T.n_len bt_len (ga_cons (gv 0) ga_nil)) ge_int))))) (gss_one (gs_ret ge_bl)) gss_nil) (gss_one (gs_ret (ge_cmp (op_cmpOwn rfl (fun _ _ => rfl) (own_eq_0_ok T) (nf_x_0_ok T) (hr.mono (by decide)) tk (op_eqC hr.rm.units)) (ge_lc (own := [("_law_sign", 1)]) sc.nd (gi_seq (gv 0)) (blkOk_by (by rfl)) (ctg_name (by decide)) (fun _ _ _ _ _ => pg_name (i := 1) sc.nd rfl (Or.inl rfl)) (fun _ _ _ _ _ => gts_one (gt_not (gt_chain op_leC op_leC ge_str (gv 1) ge_str))) (fun _ _ _ _ _ => (gv 1))) (ge_lst ga_nil))))))

theorem ok__law_is_word (T : Txt K mg a) : Callee P w K mg base 7 a.f__law_is_word 1 m__law_is_word := by
  obtain ⟨fd, F⟩ := T.d__law_is_word.ex
  exact ⟨⟨fd, ["_law_thing"], rfl, fn__law_is_word T fd F, F.binds fun _ _ _ _ _ _ us hl => match us, hl with | [_], _ => rfl⟩, F.kp⟩

theorem kw_is_word_0_value (T : Txt K mg a) : CalleeK P w K mg base 1 a.f_is_word 1 0 ["value"] [0] m_is_word :=
  Callee.kw (ps := ["value"]) T.d_is_word (fn_is_word T) rfl fun _ _ _ _ _ _ us ws hu hw => match us, ws, hu, hw with | [], [_], _, _ => rfl

theorem sc__law_names_right : FnScope ["_law_pen_here", "_law_signs", "_law_mixed_so", "_law_rows", "_law_soft", "_law_gate", "_law_some", "_law_thing", "_law_is_gate", "_law_told", "_law_k"] ["_law_pen_here"] (defScope s__law_names_right) := ⟨rfl, rfl, rfl, by decide +kernel, rfl, by decide +kernel, by decide +kernel⟩
theorem fn__law_names_right (T : Txt K mg a) (fd : FuncData) (F : Fun K "_law_names_right" "_law_names_right" s__law_names_right a.f__law_names_right fd) : FnD P w K mg base 9 a.f__law_names_right fd ["_law_pen_here"] m__law_names_right := by
  have sc := sc__law_names_right
  exact fn_Dn F sc rfl (k := 8) (m := b__law_names_right) (fun _ _ _ _ _ _ hr tk po => (gss_cons (gs_set (i := 1) sc.nd ge_str) (gss_cons (gs_set (i := 2) sc.nd (ge_bm PySem.F.plainAttrs_str PySem.F.slot_str_join PySem.F.type_str_join mt_joinC ge_str (ga_cons (ge_lc (own := [("_law_k", 10)]) sc.nd (gi_range1 T.n_range (ga_cons (ge_callF (ok__law_draw T) (hr.mono (by decide)) T.g__law_draw tk (ga_cons (gv 0) (ga_cons ge_int ga_nil))) ga_nil)) (blkOk_by (by rfl)) (ctg_name (by decide)) (fun _ _ _ _ _ => pg_name (i := 10) sc.nd rfl (Or.inl rfl)) (fun _ _ _ _ _ => gts_nil) (fun _ _ _ _ _ => (ge_callF (ok__law_pick T) (hr.mono (by decide)) T.g__law_pick takes0 (ga_cons (gv 0) (ga_cons (gv 1) ga_nil))))) ga_nil))) (gss_cons (gs_set (i := 3) sc.nd ge_str) (gss_cons (gs_set (i := 4) sc.nd (ge_bm PySem.F.plainAttrs_str PySem.F.slot_str_join PySem.F.type_str_join mt_joinC ge_str (ga_cons (ge_lc (own := [("_law_k", 10)]) sc.nd (gi_range1 T.n_range (ga_cons (ge_callF (ok__law_draw T) (hr.mono (by decide)) T.g__law_draw tk (ga_cons (gv 0) (ga_cons ge_int ga_nil))) ga_nil)) (blkOk_by (by rfl)) (ctg_name (by decide)) (fun _ _ _ _ _ => pg_name (i := 10) sc.nd rfl (Or.inl rfl)) (fun _ _ _ _ _ => gts_nil) (fun _ _ _ _ _ => (ge_callF (ok__law_pick T) (hr.mono (by decide)) T.g__law_pick takes0 (ga_cons (gv 0) (ga_cons (gv 3) ga_nil))))) ga_nil))) (gss_cons (gs_set (i := 5) sc.nd (ge_op op_addC (ge_callF (ok__law_pick T) (hr.mono (by decide)) T.g__law_pick tk (ga_cons (gv 0) (ga_cons ge_str ga_nil))) (ge_callF (ok__law_pick T) (hr.mono (by decide)) T.g__law_pick tk (ga_cons (gv 0) (ga_cons ge_str ga_nil))))) (gss_cons (gs_set (i := 6) sc.nd (ge_lst (ga_cons (gv 2) (ga_cons (gv 4) (ga_cons (gv 5) (ga_cons (ge_op op_addC (gv 5) ge_str) (ga_cons (ge_op op_mulC ge_str ge_int) (ga_cons (ge_op op_mulC ge_str ge_int) (ga_cons ge_str (ga_cons ge_non (ga_cons ge_int (ga_cons ge_bl (ga_cons (ge_lst (ga_cons ge_str ga_nil)) (ga_cons (ge_tup (ga_cons ge_str (ga_cons ge_int ga_nil))) (ga_cons ge_dict0 (ga_cons (ge_op op_powC ge_int ge_int) ga_nil)))))))))))))))) (gss_cons (gs_for po (gi_seq (gv 6)) (gg_name (i := 7) sc.nd) (gss_cons (gs_set (i := 8) sc.nd (ge_and tru_c (ge_callB (call_isiC (isi_o_ok T) (isi_b_ok T) (isi_n_ok T)) T.n_isinstance bt_isinstance (ga_cons (gv 7) (ga_cons (ge_ty rfl T.n_str bt_str) ga_nil))) (ge_and tru_c (ge_cmp (op_cmpOwn rfl (fun _ _ => rfl) (own_eq_0_ok T) (nf_x_0_ok T) (hr.mono (by decide)) tk (op_eqC hr.rm.units)) (ge_callB call_lenC T.n_len bt_len (ga_cons (gv 7) ga_nil)) ge_int) (ge_and tru_c (ge_chain op_leC op_leC ge_str (ge_ix ix_C (gv 7) ge_int) ge_str) (ge_one (ge_cmp (op_inOwn false (own_contains_0_ok T) (hr.mono (by decide)) tk rfl) (ge_ix ix_C (gv 7) ge_int) ge_str)))))) (gss_cons (gs_set (i := 9) sc.nd (ge_lst (ga_cons (ge_callF (ok_is_letter T) (hr.mono (by decide)) T.g_is_letter tk (ga_cons (gv 7) ga_nil)) (ga_cons (ge_callKw0 (kw_is_word_0_value T) (hr.mono (by decide)) T.g_is_word tk (gk_cons (gv 7) gk_nil)) (ga_cons (ge_callF (ok_is_port T) (hr.mono (by decide)) T.g_is_port tk (ga_cons (gv 7) ga_nil)) ga_nil))))) (gss_one (gs_if (gt_cmp (op_neOwn (own_eq_0_ok T) (ne_own_eq_0 T) (nf_x_0_ok T) (hr.mono (by decide)) tk (op_neC hr.rm.units)) (ge_callB (call_reprC hr) T.n_repr bt_repr (ga_cons (gv 9) ga_nil)) (ge_callB (call_reprC hr) T.n_repr bt_repr (ga_cons (ge_lst (ga_cons (ge_callF (ok__law_is_letter T) (hr.mono (by decide)) T.g__law_is_letter tk (ga_cons (gv 7) ga_nil)) (ga_cons (ge_callF (ok__law_is_word T) (hr.mono (by decide)) T.g__law_is_word tk (ga_cons (gv 7) ga_nil)) (ga_cons (gv 8) ga_nil)))) ga_nil))) (gss_one (gs_ret ge_bl)) gss_nil))))) (gss_one (gs_ret ge_bl))))))))))

theorem ok__law_names_right (T : Txt K mg a) : Callee P w K mg base 9 a.f__law_names_right 1 m__law_names_right := by
  obtain ⟨fd, F⟩ := T.d__law_names_right.ex
  exact ⟨⟨fd, ["_law_pen_here"], rfl, fn__law_names_right T fd F, F.binds fun _ _ _ _ _ _ us hl => match us, hl with | [_], _ => rfl⟩, F.kp⟩

theorem sc_law : FnScope ["_law_script", "_law_pen_here", "_law_turn", "_law_signs", "_law_drawn", "_law_sign", "_law_many", "_law_one", "_law_other", "_law_k"] ["_law_script"] (defScope s_law) := ⟨rfl, rfl, rfl, by decide +kernel, rfl, by decide +kernel, by decide +kernel⟩
theorem ok_law (T : Txt K mg a) : ∃ fd : FuncData, (∀ (s : Shared) (u : Value), BindsTo s fd ⟨[u], []⟩ [("_law_script", u)]) ∧ ∀ base : Heap, K.In base → base.Ns mainGlobals mg → FnD P w K mg base 10 a.f_law fd ["_law_script"] m_law := by
  have sc := sc_law
  exact T.d_law.law sc (fun _ _ _ _ _ _ _ => rfl) (fun base => fun _ _ _ _ _ _ hr tk po => (gss_cons (gs_set (i := 1) sc.nd (ge_callF (ok__law_pen T) (hr.mono (by decide)) T.g__law_pen tk (ga_cons (gv 0) ga_nil))) (gss_cons (gs_for po (gi_range1 T.n_range (ga_cons ge_int ga_nil)) (gg_name (i := 2) sc.nd) (gss_cons (gs_setLc (i := 3) (own := [("_law_k", 9)]) sc.nd (gi_range1 T.n_range (ga_cons ge_int ga_nil)) (blkOk_by (by rfl)) (ctg_name (by decide)) (fun _ _ _ _ _ => pg_name (i := 9) sc.nd rfl (Or.inl rfl)) (fun _ _ _ _ _ => gts_nil) (fun _ _ _ _ _ => (ge_callF (ok__law_pick T) (hr.mono (by decide)) T.g__law_pick takes0 (ga_cons (gv 1) (ga_cons ge_str ga_nil)))) (sw_true rfl rfl rfl (by decide +kernel))) (gss_cons (gs_setLc (i := 4) (own := [("_law_sign", 5)]) sc.nd (gi_seq (gv 3)) (blkOk_by (by rfl)) (ctg_name (by decide)) (fun _ _ _ _ _ => pg_name (i := 5) sc.nd rfl (Or.inl rfl)) (fun _ _ _ _ _ => gts_nil) (fun _ _ _ _ _ => (ge_tup (ga_cons (gv 5) (ga_cons (ge_op op_addC ge_int (ge_callF (ok__law_draw T) (hr.mono (by decide)) T.g__law_draw takes0 (ga_cons (gv 1) (ga_cons ge_int ga_nil)))) ga_nil)))) (sw_true rfl rfl rfl (by decide +kernel))) (gss_cons (gs_set (i := 4) sc.nd (ge_op op_addC (gv 4) (ge_lc (own := [("_law_sign", 5), ("_law_many", 6)]) sc.nd (gi_seq (gv 4)) (blkOk_by (by rfl)) (ctg_tup (by decide)) (fun _ _ _ _ _ => pg_tup rfl (ggs_cons (i := 5) sc.nd (ggs_cons (i := 6) sc.nd ggs_nil))) (fun _ _ _ _ _ => gts_nil) (fun _ _ _ _ _ => (ge_tup (ga_cons (gv 5) (ga_cons (ge_op op_addC ge_int (ge_op op_modC (ge_callTy call_intC T.n_int bt_int (ga_cons (gv 6) ga_nil)) ge_int)) ga_nil))))))) (gss_cons (gs_for po (gi_seq (gv 4)) (gg_tup rfl (ggs_cons (i := 5) sc.nd (ggs_cons (i := 6) sc.nd ggs_nil))) (gss_one (gs_if (gt_not (gt_val tru_c (ge_callF (ok__law_told_right T) (hr.mono (by decide)) T.g__law_told_right tk (ga_cons (gv 1) (ga_cons (gv 5) (ga_cons (gv 6) ga_nil)))))) (gss_one (gs_ret ge_bl)) gss_nil))) (gss_cons (gs_for po (gi_seq (gv 4)) (gg_name (i := 7) sc.nd) (gss_one (gs_for po (gi_seq (gv 4)) (gg_name (i := 8) sc.nd) (gss_one (gs_if (gt_not (gt_val tru_c (ge_callF (ok__law_pair_right T) (hr.mono (by decide)) T.g__law_pair_right tk (ga_cons (gv 7) (ga_cons (gv 8) ga_nil))))) (gss_one (gs_ret ge_bl)) gss_nil))))) (gss_one (gs_if (gt_not (gt_val tru_c (ge_callF (ok__law_names_right T) (hr.mono (by decide)) T.g__law_names_right tk (ga_cons (gv 1) ga_nil)))) (gss_one (gs_ret ge_bl)) gss_nil)))))))) (gss_one (gs_ret (ge_cmp (op_cmpOwn rfl (fun _ _ => rfl) (own_eq_0_ok T) (nf_x_0_ok T) (hr.mono (by decide)) tk (op_eqC hr.rm.units)) (ge_lst (ga_cons (ge_att (att_c (att_ENDS_0_ok T) (hr.mono (by decide))) (ge_gcls rfl T.g_DeadEnd)) (ga_cons (ge_att (att_c (att_ENDS_0_ok T) (hr.mono (by decide))) (ge_gcls rfl T.g_Bend)) (ga_cons (ge_att (att_c (att_ENDS_0_ok T) (hr.mono (by decide))) (ge_gcls rfl T.g_Fork)) ga_nil)))) (ge_lst (ga_cons ge_int (ga_cons ge_int (ga_cons ge_int ga_nil))))))))))

end
end L02
set_option Elab.async false
set_option linter.all false
set_option maxRecDepth 100000
set_option maxHeartbeats 4000000
namespace L02
open PySem PySem.Spec PyProof.Rows L2 MW
theorem all_mk {P : Program} {w : World} {K : PySem.W.Frag} {h : Heap} {mg : Str → Option Value} {fa : Addr} {C_Kind C_DeadEnd C_Bend C_Fork f_is_whole f_is_between f_is_letter f_is_word f_is_port f_Kind___init__ f_Kind___eq__ f_Kind___str__ f_Kind___lt__ f_Kind_of p_Kind_of f_Kind_read f_Kind_ports p_Kind_ports f_Kind___contains__ f__law_pen f__law_draw f__law_pick f__law_made p_Kind_read f__law_read f__law_told_right f__law_pair_right f__law_is_letter f__law_is_word f__law_names_right f_law : Addr} {oc_f_is_whole kV_f_is_whole dc_f_is_whole pm_f_is_whole cd_f_is_whole ct_f_is_whole oc_f_is_between kV_f_is_between dc_f_is_between pm_f_is_between cd_f_is_between ct_f_is_between oc_f_is_letter kV_f_is_letter dc_f_is_letter pm_f_is_letter cd_f_is_letter ct_f_is_letter oc_f_is_word kV_f_is_word dc_f_is_word pm_f_is_word cd_f_is_word ct_f_is_word oc_f_is_port kV_f_is_port dc_f_is_port pm_f_is_port cd_f_is_port ct_f_is_port oc_f_Kind___init__ kV_f_Kind___init__ dc_f_Kind___init__ pm_f_Kind___init__ cd_f_Kind___init__ ct_f_Kind___init__ oc_f_Kind___eq__ kV_f_Kind___eq__ dc_f_Kind___eq__ pm_f_Kind___eq__ cd_f_Kind___eq__ ct_f_Kind___eq__ oc_f_Kind___str__ kV_f_Kind___str__ dc_f_Kind___str__ pm_f_Kind___str__ cd_f_Kind___str__ ct_f_Kind___str__ oc_f_Kind___lt__ kV_f_Kind___lt__ dc_f_Kind___lt__ pm_f_Kind___lt__ cd_f_Kind___lt__ ct_f_Kind___lt__ oc_f_Kind_of kV_f_Kind_of dc_f_Kind_of pm_f_Kind_of cd_f_Kind_of ct_f_Kind_of oc_f_Kind_read kV_f_Kind_read dc_f_Kind_read pm_f_Kind_read cd_f_Kind_read ct_f_Kind_read oc_f_Kind_ports kV_f_Kind_ports dc_f_Kind_ports pm_f_Kind_ports cd_f_Kind_ports ct_f_Kind_ports oc_f_Kind___contains__ kV_f_Kind___contains__ dc_f_Kind___contains__ pm_f_Kind___contains__ cd_f_Kind___contains__ ct_f_Kind___contains__ oc_f__law_pen kV_f__law_pen dc_f__law_pen pm_f__law_pen cd_f__law_pen ct_f__law_pen oc_f__law_draw kV_f__law_draw dc_f__law_draw pm_f__law_draw cd_f__law_draw ct_f__law_draw oc_f__law_pick kV_f__law_pick dc_f__law_pick pm_f__law_pick cd_f__law_pick ct_f__law_pick oc_f__law_made kV_f__law_made dc_f__law_made pm_f__law_made cd_f__law_made ct_f__law_made oc_f__law_read kV_f__law_read dc_f__law_read pm_f__law_read cd_f__law_read ct_f__law_read oc_f__law_told_right kV_f__law_told_right dc_f__law_told_right pm_f__law_told_right cd_f__law_told_right ct_f__law_told_right oc_f__law_pair_right kV_f__law_pair_right dc_f__law_pair_right pm_f__law_pair_right cd_f__law_pair_right ct_f__law_pair_right oc_f__law_is_letter kV_f__law_is_letter dc_f__law_is_letter pm_f__law_is_letter cd_f__law_is_letter ct_f__law_is_letter oc_f__law_is_word kV_f__law_is_word dc_f__law_is_word pm_f__law_is_word cd_f__law_is_word ct_f__law_is_word oc_f__law_names_right kV_f__law_names_right dc_f__law_names_right pm_f__law_names_right cd_f__law_names_right ct_f__law_names_right oc_f_law kV_f_law dc_f_law pm_f_law cd_f_law ct_f_law : Value} {od_f_is_whole an_f_is_whole od_f_is_between an_f_is_between od_f_is_letter an_f_is_letter od_f_is_word an_f_is_word od_f_is_port an_f_is_port od_f_Kind___init__ an_f_Kind___init__ od_f_Kind___eq__ an_f_Kind___eq__ od_f_Kind___str__ an_f_Kind___str__ od_f_Kind___lt__ an_f_Kind___lt__ od_f_Kind_of an_f_Kind_of od_f_Kind_read an_f_Kind_read od_f_Kind_ports an_f_Kind_ports od_f_Kind___contains__ an_f_Kind___contains__ od_f__law_pen an_f__law_pen od_f__law_draw an_f__law_draw od_f__law_pick an_f__law_pick od_f__law_made an_f__law_made od_f__law_read an_f__law_read od_f__law_told_right an_f__law_told_right od_f__law_pair_right an_f__law_pair_right od_f__law_is_letter an_f__law_is_letter od_f__law_is_word an_f__law_is_word od_f__law_names_right an_f__law_names_right od_f_law an_f_law : Option Addr} {sl_f_is_whole sl_f_is_between sl_f_is_letter sl_f_is_word sl_f_is_port sl_f_Kind___init__ sl_f_Kind___eq__ sl_f_Kind___str__ sl_f_Kind___lt__ sl_f_Kind_of sl_f_Kind_read sl_f_Kind_ports sl_f_Kind___contains__ sl_f__law_pen sl_f__law_draw sl_f__law_pick sl_f__law_made sl_f__law_read sl_f__law_told_right sl_f__law_pair_right sl_f__law_is_letter sl_f__law_is_word sl_f__law_names_right sl_f_law : Array (Option Value)} {t_LETTERS t_WORD_SIZE tc_C_Kind_ENDS tc_C_DeadEnd_ENDS tc_C_Bend_ENDS tc_C_Fork_ENDS t_MOST_ENDS : _} {mc_C_Kind : Value} {mc_C_DeadEnd : Value} {mc_C_Bend : Value} {mc_C_Fork : Value} {rest_p_Kind_of : List Value} {rest_p_Kind_ports : List Value} {rest_p_Kind_read : List Value} (X : K.In h) (G : h.Ns mainGlobals mg) (hfa : mg "law" = some (.ref fa))
    (ns_Kind : PySem.W.nsIn K mainGlobals "Kind" = some (some (.ref C_Kind)))
    (ns_DeadEnd : PySem.W.nsIn K mainGlobals "DeadEnd" = some (some (.ref C_DeadEnd)))
    (ns_Bend : PySem.W.nsIn K mainGlobals "Bend" = some (some (.ref C_Bend)))
    (ns_Fork : PySem.W.nsIn K mainGlobals "Fork" = some (some (.ref C_Fork)))
    (ns_is_whole : PySem.W.nsIn K mainGlobals "is_whole" = some (some (.ref f_is_whole)))
    (ns_LETTERS : PySem.W.nsIn K mainGlobals "LETTERS" = some (some (.str "abcdefghijklmnopqrstuvwxyz" t_LETTERS)))
    (ns_WORD_SIZE : PySem.W.nsIn K mainGlobals "WORD_SIZE" = some (some (.int 8 t_WORD_SIZE)))
    (ns_is_letter : PySem.W.nsIn K mainGlobals "is_letter" = some (some (.ref f_is_letter)))
    (ns_MOST_ENDS : PySem.W.nsIn K mainGlobals "MOST_ENDS" = some (some (.int 3 t_MOST_ENDS)))
    (ns_is_between : PySem.W.nsIn K mainGlobals "is_between" = some (some (.ref f_is_between)))
    (ns__law_draw : PySem.W.nsIn K mainGlobals "_law_draw" = some (some (.ref f__law_draw)))
    (ns__law_made : PySem.W.nsIn K mainGlobals "_law_made" = some (some (.ref f__law_made)))
    (ns__law_read : PySem.W.nsIn K mainGlobals "_law_read" = some (some (.ref f__law_read)))
    (ns__law_pick : PySem.W.nsIn K mainGlobals "_law_pick" = some (some (.ref f__law_pick)))
    (ns_is_port : PySem.W.nsIn K mainGlobals "is_port" = some (some (.ref f_is_port)))
    (ns_is_word : PySem.W.nsIn K mainGlobals "is_word" = some (some (.ref f_is_word)))
    (ns__law_is_word : PySem.W.nsIn K mainGlobals "_law_is_word" = some (some (.ref f__law_is_word)))
    (ns__law_is_letter : PySem.W.nsIn K mainGlobals "_law_is_letter" = some (some (.ref f__law_is_letter)))
    (ns__law_pen : PySem.W.nsIn K mainGlobals "_law_pen" = some (some (.ref f__law_pen)))
    (ns__law_told_right : PySem.W.nsIn K mainGlobals "_law_told_right" = some (some (.ref f__law_told_right)))
    (ns__law_pair_right : PySem.W.nsIn K mainGlobals "_law_pair_right" = some (some (.ref f__law_pair_right)))
    (ns__law_names_right : PySem.W.nsIn K mainGlobals "_law_names_right" = some (some (.ref f__law_names_right)))
    (ns_law : PySem.W.nsIn K mainGlobals "law" = some (some (.ref f_law)))
    (ty_C_Kind : PySem.W.typeIn K (.ref C_Kind) = some mc_C_Kind)
    (ty_C_DeadEnd : PySem.W.typeIn K (.ref C_DeadEnd) = some mc_C_DeadEnd)
    (ty_C_Bend : PySem.W.typeIn K (.ref C_Bend) = some mc_C_Bend)
    (ty_C_Fork : PySem.W.typeIn K (.ref C_Fork) = some mc_C_Fork)
    (fc_C_Kind : PySem.W.findIn K (.ref C_Kind) "__class__" = some (some (.builtin "object.__class__")))
    (fc_C_DeadEnd : PySem.W.findIn K (.ref C_DeadEnd) "__class__" = some (some (.builtin "object.__class__")))
    (fc_C_Bend : PySem.W.findIn K (.ref C_Bend) "__class__" = some (some (.builtin "object.__class__")))
    (fc_C_Fork : PySem.W.findIn K (.ref C_Fork) "__class__" = some (some (.builtin "object.__class__")))
    (cn_C_Kind_ENDS : PySem.W.findIn K (.ref C_Kind) "ENDS" = some (some (.int 0 tc_C_Kind_ENDS)))
    (cn_C_DeadEnd_ENDS : PySem.W.findIn K (.ref C_DeadEnd) "ENDS" = some (some (.int 1 tc_C_DeadEnd_ENDS)))
    (cn_C_Bend_ENDS : PySem.W.findIn K (.ref C_Bend) "ENDS" = some (some (.int 2 tc_C_Bend_ENDS)))
    (cn_C_Fork_ENDS : PySem.W.findIn K (.ref C_Fork) "ENDS" = some (some (.int 3 tc_C_Fork_ENDS)))
    (fi_C_Kind___str__ : PySem.W.findIn K (.ref C_Kind) "__str__" = some (some (.ref f_Kind___str__)))
    (fi_C_DeadEnd___str__ : PySem.W.findIn K (.ref C_DeadEnd) "__str__" = some (some (.ref f_Kind___str__)))
    (fi_C_Bend___str__ : PySem.W.findIn K (.ref C_Bend) "__str__" = some (some (.ref f_Kind___str__)))
    (fi_C_Fork___str__ : PySem.W.findIn K (.ref C_Fork) "__str__" = some (some (.ref f_Kind___str__)))
    (fi_C_Kind___eq__ : PySem.W.findIn K (.ref C_Kind) "__eq__" = some (some (.ref f_Kind___eq__)))
    (fi_C_DeadEnd___eq__ : PySem.W.findIn K (.ref C_DeadEnd) "__eq__" = some (some (.ref f_Kind___eq__)))
    (fi_C_Bend___eq__ : PySem.W.findIn K (.ref C_Bend) "__eq__" = some (some (.ref f_Kind___eq__)))
    (fi_C_Fork___eq__ : PySem.W.findIn K (.ref C_Fork) "__eq__" = some (some (.ref f_Kind___eq__)))
    (fi_C_DeadEnd___init__ : PySem.W.findIn K (.ref C_DeadEnd) "__init__" = some (some (.ref f_Kind___init__)))
    (fi_C_Bend___init__ : PySem.W.findIn K (.ref C_Bend) "__init__" = some (some (.ref f_Kind___init__)))
    (fi_C_Fork___init__ : PySem.W.findIn K (.ref C_Fork) "__init__" = some (some (.ref f_Kind___init__)))
    (fcl_C_Kind_of : PySem.W.findCls K (.ref C_Kind) mc_C_Kind "of" = some (.get (.builtin "staticmethod.__get__") (.ref p_Kind_of) .none (.ref C_Kind)))
    (fcl_C_DeadEnd_of : PySem.W.findCls K (.ref C_DeadEnd) mc_C_DeadEnd "of" = some (.get (.builtin "staticmethod.__get__") (.ref p_Kind_of) .none (.ref C_DeadEnd)))
    (fcl_C_Bend_of : PySem.W.findCls K (.ref C_Bend) mc_C_Bend "of" = some (.get (.builtin "staticmethod.__get__") (.ref p_Kind_of) .none (.ref C_Bend)))
    (fcl_C_Fork_of : PySem.W.findCls K (.ref C_Fork) mc_C_Fork "of" = some (.get (.builtin "staticmethod.__get__") (.ref p_Kind_of) .none (.ref C_Fork)))
    (fi_C_Kind_ports : PySem.W.findIn K (.ref C_Kind) "ports" = some (some (.ref p_Kind_ports)))
    (fi_C_DeadEnd_ports : PySem.W.findIn K (.ref C_DeadEnd) "ports" = some (some (.ref p_Kind_ports)))
    (fi_C_Bend_ports : PySem.W.findIn K (.ref C_Bend) "ports" = some (some (.ref p_Kind_ports)))
    (fi_C_Fork_ports : PySem.W.findIn K (.ref C_Fork) "ports" = some (some (.ref p_Kind_ports)))
    (fi_C_Kind___lt__ : PySem.W.findIn K (.ref C_Kind) "__lt__" = some (some (.ref f_Kind___lt__)))
    (fi_C_DeadEnd___lt__ : PySem.W.findIn K (.ref C_DeadEnd) "__lt__" = some (some (.ref f_Kind___lt__)))
    (fi_C_Bend___lt__ : PySem.W.findIn K (.ref C_Bend) "__lt__" = some (some (.ref f_Kind___lt__)))
    (fi_C_Fork___lt__ : PySem.W.findIn K (.ref C_Fork) "__lt__" = some (some (.ref f_Kind___lt__)))
    (fcl_C_Kind_read : PySem.W.findCls K (.ref C_Kind) mc_C_Kind "read" = some (.get (.builtin "classmethod.__get__") (.ref p_Kind_read) .none (.ref C_Kind)))
    (fcl_C_DeadEnd_read : PySem.W.findCls K (.ref C_DeadEnd) mc_C_DeadEnd "read" = some (.get (.builtin "classmethod.__get__") (.ref p_Kind_read) .none (.ref C_DeadEnd)))
    (fcl_C_Bend_read : PySem.W.findCls K (.ref C_Bend) mc_C_Bend "read" = some (.get (.builtin "classmethod.__get__") (.ref p_Kind_read) .none (.ref C_Bend)))
    (fcl_C_Fork_read : PySem.W.findCls K (.ref C_Fork) mc_C_Fork "read" = some (.get (.builtin "classmethod.__get__") (.ref p_Kind_read) .none (.ref C_Fork)))
    (fi_C_Kind___contains__ : PySem.W.findIn K (.ref C_Kind) "__contains__" = some (some (.ref f_Kind___contains__)))
    (fi_C_DeadEnd___contains__ : PySem.W.findIn K (.ref C_DeadEnd) "__contains__" = some (some (.ref f_Kind___contains__)))
    (fi_C_Bend___contains__ : PySem.W.findIn K (.ref C_Bend) "__contains__" = some (some (.ref f_Kind___contains__)))
    (fi_C_Fork___contains__ : PySem.W.findIn K (.ref C_Fork) "__contains__" = some (some (.ref f_Kind___contains__)))
    (rc_p_Kind_of : PySem.W.recIn K p_Kind_of "staticmethod" = some (.ref f_Kind_of :: rest_p_Kind_of))
    (rc_p_Kind_ports : PySem.W.recIn K p_Kind_ports "property" = some (.ref f_Kind_ports :: rest_p_Kind_ports))
    (rc_p_Kind_read : PySem.W.recIn K p_Kind_read "classmethod" = some (.ref f_Kind_read :: rest_p_Kind_read))
    (l_f_is_whole : K.lookup f_is_whole = some ⟨oc_f_is_whole, od_f_is_whole, .func (PySem.W.fnOf "is_whole" "is_whole" (defArgs s_is_whole) (defBody s_is_whole) (defScope s_is_whole) .none kV_f_is_whole dc_f_is_whole pm_f_is_whole an_f_is_whole cd_f_is_whole ct_f_is_whole), sl_f_is_whole⟩)
    (l_f_is_between : K.lookup f_is_between = some ⟨oc_f_is_between, od_f_is_between, .func (PySem.W.fnOf "is_between" "is_between" (defArgs s_is_between) (defBody s_is_between) (defScope s_is_between) .none kV_f_is_between dc_f_is_between pm_f_is_between an_f_is_between cd_f_is_between ct_f_is_between), sl_f_is_between⟩)
    (l_f_is_letter : K.lookup f_is_letter = some ⟨oc_f_is_letter, od_f_is_letter, .func (PySem.W.fnOf "is_letter" "is_letter" (defArgs s_is_letter) (defBody s_is_letter) (defScope s_is_letter) .none kV_f_is_letter dc_f_is_letter pm_f_is_letter an_f_is_letter cd_f_is_letter ct_f_is_letter), sl_f_is_letter⟩)
    (l_f_is_word : K.lookup f_is_word = some ⟨oc_f_is_word, od_f_is_word, .func (PySem.W.fnOf "is_word" "is_word" (defArgs s_is_word) (defBody s_is_word) (defScope s_is_word) .none kV_f_is_word dc_f_is_word pm_f_is_word an_f_is_word cd_f_is_word ct_f_is_word), sl_f_is_word⟩)
    (l_f_is_port : K.lookup f_is_port = some ⟨oc_f_is_port, od_f_is_port, .func (PySem.W.fnOf "is_port" "is_port" (defArgs s_is_port) (defBody s_is_port) (defScope s_is_port) .none kV_f_is_port dc_f_is_port pm_f_is_port an_f_is_port cd_f_is_port ct_f_is_port), sl_f_is_port⟩)
    (l_f_Kind___init__ : K.lookup f_Kind___init__ = some ⟨oc_f_Kind___init__, od_f_Kind___init__, .func (PySem.W.fnOf "__init__" "Kind.__init__" (defArgs s_Kind___init__) (defBody s_Kind___init__) (defScope s_Kind___init__) .none kV_f_Kind___init__ dc_f_Kind___init__ pm_f_Kind___init__ an_f_Kind___init__ cd_f_Kind___init__ ct_f_Kind___init__), sl_f_Kind___init__⟩)
    (l_f_Kind___eq__ : K.lookup f_Kind___eq__ = some ⟨oc_f_Kind___eq__, od_f_Kind___eq__, .func (PySem.W.fnOf "__eq__" "Kind.__eq__" (defArgs s_Kind___eq__) (defBody s_Kind___eq__) (defScope s_Kind___eq__) .none kV_f_Kind___eq__ dc_f_Kind___eq__ pm_f_Kind___eq__ an_f_Kind___eq__ cd_f_Kind___eq__ ct_f_Kind___eq__), sl_f_Kind___eq__⟩)
    (l_f_Kind___str__ : K.lookup f_Kind___str__ = some ⟨oc_f_Kind___str__, od_f_Kind___str__, .func (PySem.W.fnOf "__str__" "Kind.__str__" (defArgs s_Kind___str__) (defBody s_Kind___str__) (defScope s_Kind___str__) .none kV_f_Kind___str__ dc_f_Kind___str__ pm_f_Kind___str__ an_f_Kind___str__ cd_f_Kind___str__ ct_f_Kind___str__), sl_f_Kind___str__⟩)
    (l_f_Kind___lt__ : K.lookup f_Kind___lt__ = some ⟨oc_f_Kind___lt__, od_f_Kind___lt__, .func (PySem.W.fnOf "__lt__" "Kind.__lt__" (defArgs s_Kind___lt__) (defBody s_Kind___lt__) (defScope s_Kind___lt__) .none kV_f_Kind___lt__ dc_f_Kind___lt__ pm_f_Kind___lt__ an_f_Kind___lt__ cd_f_Kind___lt__ ct_f_Kind___lt__), sl_f_Kind___lt__⟩)
    (l_f_Kind_of : K.lookup f_Kind_of = some ⟨oc_f_Kind_of, od_f_Kind_of, .func (PySem.W.fnOf "of" "Kind.of" (defArgs s_Kind_of) (defBody s_Kind_of) (defScope s_Kind_of) .none kV_f_Kind_of dc_f_Kind_of pm_f_Kind_of an_f_Kind_of cd_f_Kind_of ct_f_Kind_of), sl_f_Kind_of⟩)
    (l_f_Kind_read : K.lookup f_Kind_read = some ⟨oc_f_Kind_read, od_f_Kind_read, .func (PySem.W.fnOf "read" "Kind.read" (defArgs s_Kind_read) (defBody s_Kind_read) (defScope s_Kind_read) .none kV_f_Kind_read dc_f_Kind_read pm_f_Kind_read an_f_Kind_read cd_f_Kind_read ct_f_Kind_read), sl_f_Kind_read⟩)
    (l_f_Kind_ports : K.lookup f_Kind_ports = some ⟨oc_f_Kind_ports, od_f_Kind_ports, .func (PySem.W.fnOf "ports" "Kind.ports" (defArgs s_Kind_ports) (defBody s_Kind_ports) (defScope s_Kind_ports) .none kV_f_Kind_ports dc_f_Kind_ports pm_f_Kind_ports an_f_Kind_ports cd_f_Kind_ports ct_f_Kind_ports), sl_f_Kind_ports⟩)
    (l_f_Kind___contains__ : K.lookup f_Kind___contains__ = some ⟨oc_f_Kind___contains__, od_f_Kind___contains__, .func (PySem.W.fnOf "__contains__" "Kind.__contains__" (defArgs s_Kind___contains__) (defBody s_Kind___contains__) (defScope s_Kind___contains__) .none kV_f_Kind___contains__ dc_f_Kind___contains__ pm_f_Kind___contains__ an_f_Kind___contains__ cd_f_Kind___contains__ ct_f_Kind___contains__), sl_f_Kind___contains__⟩)
    (l_f__law_pen : K.lookup f__law_pen = some ⟨oc_f__law_pen, od_f__law_pen, .func (PySem.W.fnOf "_law_pen" "_law_pen" (defArgs s__law_pen) (defBody s__law_pen) (defScope s__law_pen) .none kV_f__law_pen dc_f__law_pen pm_f__law_pen an_f__law_pen cd_f__law_pen ct_f__law_pen), sl_f__law_pen⟩)
    (l_f__law_draw : K.lookup f__law_draw = some ⟨oc_f__law_draw, od_f__law_draw, .func (PySem.W.fnOf "_law_draw" "_law_draw" (defArgs s__law_draw) (defBody s__law_draw) (defScope s__law_draw) .none kV_f__law_draw dc_f__law_draw pm_f__law_draw an_f__law_draw cd_f__law_draw ct_f__law_draw), sl_f__law_draw⟩)
    (l_f__law_pick : K.lookup f__law_pick = some ⟨oc_f__law_pick, od_f__law_pick, .func (PySem.W.fnOf "_law_pick" "_law_pick" (defArgs s__law_pick) (defBody s__law_pick) (defScope s__law_pick) .none kV_f__law_pick dc_f__law_pick pm_f__law_pick an_f__law_pick cd_f__law_pick ct_f__law_pick), sl_f__law_pick⟩)
    (l_f__law_made : K.lookup f__law_made = some ⟨oc_f__law_made, od_f__law_made, .func (PySem.W.fnOf "_law_made" "_law_made" (defArgs s__law_made) (defBody s__law_made) (defScope s__law_made) .none kV_f__law_made dc_f__law_made pm_f__law_made an_f__law_made cd_f__law_made ct_f__law_made), sl_f__law_made⟩)
    (l_f__law_read : K.lookup f__law_read = some ⟨oc_f__law_read, od_f__law_read, .func (PySem.W.fnOf "_law_read" "_law_read" (defArgs s__law_read) (defBody s__law_read) (defScope s__law_read) .none kV_f__law_read dc_f__law_read pm_f__law_read an_f__law_read cd_f__law_read ct_f__law_read), sl_f__law_read⟩)
    (l_f__law_told_right : K.lookup f__law_told_right = some ⟨oc_f__law_told_right, od_f__law_told_right, .func (PySem.W.fnOf "_law_told_right" "_law_told_right" (defArgs s__law_told_right) (defBody s__law_told_right) (defScope s__law_told_right) .none kV_f__law_told_right dc_f__law_told_right pm_f__law_told_right an_f__law_told_right cd_f__law_told_right ct_f__law_told_right), sl_f__law_told_right⟩)
    (l_f__law_pair_right : K.lookup f__law_pair_right = some ⟨oc_f__law_pair_right, od_f__law_pair_right, .func (PySem.W.fnOf "_law_pair_right" "_law_pair_right" (defArgs s__law_pair_right) (defBody s__law_pair_right) (defScope s__law_pair_right) .none kV_f__law_pair_right dc_f__law_pair_right pm_f__law_pair_right an_f__law_pair_right cd_f__law_pair_right ct_f__law_pair_right), sl_f__law_pair_right⟩)
    (l_f__law_is_letter : K.lookup f__law_is_letter = some ⟨oc_f__law_is_letter, od_f__law_is_letter, .func (PySem.W.fnOf "_law_is_letter" "_law_is_letter" (defArgs s__law_is_letter) (defBody s__law_is_letter) (defScope s__law_is_letter) .none kV_f__law_is_letter dc_f__law_is_letter pm_f__law_is_letter an_f__law_is_letter cd_f__law_is_letter ct_f__law_is_letter), sl_f__law_is_letter⟩)
    (l_f__law_is_word : K.lookup f__law_is_word = some ⟨oc_f__law_is_word, od_f__law_is_word, .func (PySem.W.fnOf "_law_is_word" "_law_is_word" (defArgs s__law_is_word) (defBody s__law_is_word) (defScope s__law_is_word) .none kV_f__law_is_word dc_f__law_is_word pm_f__law_is_word an_f__law_is_word cd_f__law_is_word ct_f__law_is_word), sl_f__law_is_word⟩)
    (l_f__law_names_right : K.lookup f__law_names_right = some ⟨oc_f__law_names_right, od_f__law_names_right, .func (PySem.W.fnOf "_law_names_right" "_law_names_right" (defArgs s__law_names_right) (defBody s__law_names_right) (defScope s__law_names_right) .none kV_f__law_names_right dc_f__law_names_right pm_f__law_names_right an_f__law_names_right cd_f__law_names_right ct_f__law_names_right), sl_f__law_names_right⟩)
    (l_f_law : K.lookup f_law = some ⟨oc_f_law, od_f_law, .func (PySem.W.fnOf "law" "law" (defArgs s_law) (defBody s_law) (defScope s_law) .none kV_f_law dc_f_law pm_f_law an_f_law cd_f_law ct_f_law), sl_f_law⟩)
    (x_io_Kind_Kind : PySem.W.kitOne K (.ref C_Kind) (.ref C_Kind) = some true)
    (x_io_Kind_DeadEnd : PySem.W.kitOne K (.ref C_Kind) (.ref C_DeadEnd) = some false)
    (x_io_Kind_Bend : PySem.W.kitOne K (.ref C_Kind) (.ref C_Bend) = some false)
    (x_io_Kind_Fork : PySem.W.kitOne K (.ref C_Kind) (.ref C_Fork) = some false)
    (x_io_DeadEnd_Kind : PySem.W.kitOne K (.ref C_DeadEnd) (.ref C_Kind) = some true)
    (x_io_DeadEnd_DeadEnd : PySem.W.kitOne K (.ref C_DeadEnd) (.ref C_DeadEnd) = some true)
    (x_io_DeadEnd_Bend : PySem.W.kitOne K (.ref C_DeadEnd) (.ref C_Bend) = some false)
    (x_io_DeadEnd_Fork : PySem.W.kitOne K (.ref C_DeadEnd) (.ref C_Fork) = some false)
    (x_io_Bend_Kind : PySem.W.kitOne K (.ref C_Bend) (.ref C_Kind) = some true)
    (x_io_Bend_DeadEnd : PySem.W.kitOne K (.ref C_Bend) (.ref C_DeadEnd) = some false)
    (x_io_Bend_Bend : PySem.W.kitOne K (.ref C_Bend) (.ref C_Bend) = some true)
    (x_io_Bend_Fork : PySem.W.kitOne K (.ref C_Bend) (.ref C_Fork) = some false)
    (x_io_Fork_Kind : PySem.W.kitOne K (.ref C_Fork) (.ref C_Kind) = some true)
    (x_io_Fork_DeadEnd : PySem.W.kitOne K (.ref C_Fork) (.ref C_DeadEnd) = some false)
    (x_io_Fork_Bend : PySem.W.kitOne K (.ref C_Fork) (.ref C_Bend) = some false)
    (x_io_Fork_Fork : PySem.W.kitOne K (.ref C_Fork) (.ref C_Fork) = some true)
    (x_ib_Kind_str : PySem.W.kitOne K (.ref C_Kind) (.type "str") = some false)
    (x_ib_Kind_int : PySem.W.kitOne K (.ref C_Kind) (.type "int") = some false)
    (x_ib_Kind_bool : PySem.W.kitOne K (.ref C_Kind) (.type "bool") = some false)
    (x_ib_Kind_tuple : PySem.W.kitOne K (.ref C_Kind) (.type "tuple") = some false)
    (x_ib_Kind_list : PySem.W.kitOne K (.ref C_Kind) (.type "list") = some false)
    (x_ib_Kind_dict : PySem.W.kitOne K (.ref C_Kind) (.type "dict") = some false)
    (x_ib_DeadEnd_str : PySem.W.kitOne K (.ref C_DeadEnd) (.type "str") = some false)
    (x_ib_DeadEnd_int : PySem.W.kitOne K (.ref C_DeadEnd) (.type "int") = some false)
    (x_ib_DeadEnd_bool : PySem.W.kitOne K (.ref C_DeadEnd) (.type "bool") = some false)
    (x_ib_DeadEnd_tuple : PySem.W.kitOne K (.ref C_DeadEnd) (.type "tuple") = some false)
    (x_ib_DeadEnd_list : PySem.W.kitOne K (.ref C_DeadEnd) (.type "list") = some false)
    (x_ib_DeadEnd_dict : PySem.W.kitOne K (.ref C_DeadEnd) (.type "dict") = some false)
    (x_ib_Bend_str : PySem.W.kitOne K (.ref C_Bend) (.type "str") = some false)
    (x_ib_Bend_int : PySem.W.kitOne K (.ref C_Bend) (.type "int") = some false)
    (x_ib_Bend_bool : PySem.W.kitOne K (.ref C_Bend) (.type "bool") = some false)
    (x_ib_Bend_tuple : PySem.W.kitOne K (.ref C_Bend) (.type "tuple") = some false)
    (x_ib_Bend_list : PySem.W.kitOne K (.ref C_Bend) (.type "list") = some false)
    (x_ib_Bend_dict : PySem.W.kitOne K (.ref C_Bend) (.type "dict") = some false)
    (x_ib_Fork_str : PySem.W.kitOne K (.ref C_Fork) (.type "str") = some false)
    (x_ib_Fork_int : PySem.W.kitOne K (.ref C_Fork) (.type "int") = some false)
    (x_ib_Fork_bool : PySem.W.kitOne K (.ref C_Fork) (.type "bool") = some false)
    (x_ib_Fork_tuple : PySem.W.kitOne K (.ref C_Fork) (.type "tuple") = some false)
    (x_ib_Fork_list : PySem.W.kitOne K (.ref C_Fork) (.type "list") = some false)
    (x_ib_Fork_dict : PySem.W.kitOne K (.ref C_Fork) (.type "dict") = some false)
    (nb_C_Kind_NoneType : PySem.W.kitOne K (.type "NoneType") (.ref C_Kind) = some false)
    (nb_C_Kind_bool : PySem.W.kitOne K (.type "bool") (.ref C_Kind) = some false)
    (nb_C_Kind_int : PySem.W.kitOne K (.type "int") (.ref C_Kind) = some false)
    (nb_C_Kind_str : PySem.W.kitOne K (.type "str") (.ref C_Kind) = some false)
    (nb_C_Kind_tuple : PySem.W.kitOne K (.type "tuple") (.ref C_Kind) = some false)
    (nb_C_Kind_list : PySem.W.kitOne K (.type "list") (.ref C_Kind) = some false)
    (nb_C_Kind_dict : PySem.W.kitOne K (.type "dict") (.ref C_Kind) = some false)
    (nb_C_DeadEnd_NoneType : PySem.W.kitOne K (.type "NoneType") (.ref C_DeadEnd) = some false)
    (nb_C_DeadEnd_bool : PySem.W.kitOne K (.type "bool") (.ref C_DeadEnd) = some false)
    (nb_C_DeadEnd_int : PySem.W.kitOne K (.type "int") (.ref C_DeadEnd) = some false)
    (nb_C_DeadEnd_str : PySem.W.kitOne K (.type "str") (.ref C_DeadEnd) = some false)
    (nb_C_DeadEnd_tuple : PySem.W.kitOne K (.type "tuple") (.ref C_DeadEnd) = some false)
    (nb_C_DeadEnd_list : PySem.W.kitOne K (.type "list") (.ref C_DeadEnd) = some false)
    (nb_C_DeadEnd_dict : PySem.W.kitOne K (.type "dict") (.ref C_DeadEnd) = some false)
    (nb_C_Bend_NoneType : PySem.W.kitOne K (.type "NoneType") (.ref C_Bend) = some false)
    (nb_C_Bend_bool : PySem.W.kitOne K (.type "bool") (.ref C_Bend) = some false)
    (nb_C_Bend_int : PySem.W.kitOne K (.type "int") (.ref C_Bend) = some false)
    (nb_C_Bend_str : PySem.W.kitOne K (.type "str") (.ref C_Bend) = some false)
    (nb_C_Bend_tuple : PySem.W.kitOne K (.type "tuple") (.ref C_Bend) = some false)
    (nb_C_Bend_list : PySem.W.kitOne K (.type "list") (.ref C_Bend) = some false)
    (nb_C_Bend_dict : PySem.W.kitOne K (.type "dict") (.ref C_Bend) = some false)
    (nb_C_Fork_NoneType : PySem.W.kitOne K (.type "NoneType") (.ref C_Fork) = some false)
    (nb_C_Fork_bool : PySem.W.kitOne K (.type "bool") (.ref C_Fork) = some false)
    (nb_C_Fork_int : PySem.W.kitOne K (.type "int") (.ref C_Fork) = some false)
    (nb_C_Fork_str : PySem.W.kitOne K (.type "str") (.ref C_Fork) = some false)
    (nb_C_Fork_tuple : PySem.W.kitOne K (.type "tuple") (.ref C_Fork) = some false)
    (nb_C_Fork_list : PySem.W.kitOne K (.type "list") (.ref C_Fork) = some false)
    (nb_C_Fork_dict : PySem.W.kitOne K (.type "dict") (.ref C_Fork) = some false)
    (oc_get : PySem.W.specialIn K (.builtin "object.__class__") "__get__" = some (some (.builtin "getset_descriptor.__get__")))
    (oc_tk : PySem.W.takesIn K (.builtin "object.__class__") = some true)
    (mro_C_Kind : PySem.W.mroIn K C_Kind (.type "object") = some true)
    (pg_C_Kind : PySem.W.plainGet K C_Kind Str.empty = true)
    (hd_C_Kind : PySem.W.hasDictIn K C_Kind = true)
    (po_C_Kind : PySem.W.plainOver K C_Kind = true)
    (sa_C_Kind : PySem.W.findIn K (.ref C_Kind) "__setattr__" = some (some (.builtin "object.__setattr__")))
    (mro_C_DeadEnd : PySem.W.mroIn K C_DeadEnd (.type "object") = some true)
    (pg_C_DeadEnd : PySem.W.plainGet K C_DeadEnd Str.empty = true)
    (hd_C_DeadEnd : PySem.W.hasDictIn K C_DeadEnd = true)
    (po_C_DeadEnd : PySem.W.plainOver K C_DeadEnd = true)
    (sa_C_DeadEnd : PySem.W.findIn K (.ref C_DeadEnd) "__setattr__" = some (some (.builtin "object.__setattr__")))
    (mro_C_Bend : PySem.W.mroIn K C_Bend (.type "object") = some true)
    (pg_C_Bend : PySem.W.plainGet K C_Bend Str.empty = true)
    (hd_C_Bend : PySem.W.hasDictIn K C_Bend = true)
    (po_C_Bend : PySem.W.plainOver K C_Bend = true)
    (sa_C_Bend : PySem.W.findIn K (.ref C_Bend) "__setattr__" = some (some (.builtin "object.__setattr__")))
    (mro_C_Fork : PySem.W.mroIn K C_Fork (.type "object") = some true)
    (pg_C_Fork : PySem.W.plainGet K C_Fork Str.empty = true)
    (hd_C_Fork : PySem.W.hasDictIn K C_Fork = true)
    (po_C_Fork : PySem.W.plainOver K C_Fork = true)
    (sa_C_Fork : PySem.W.findIn K (.ref C_Fork) "__setattr__" = some (some (.builtin "object.__setattr__")))
    (nn_int : PySem.W.nsIn K mainGlobals "int" = some none)
    (nn_isinstance : PySem.W.nsIn K mainGlobals "isinstance" = some none)
    (nn_bool : PySem.W.nsIn K mainGlobals "bool" = some none)
    (c_f_is_whole : PySem.W.codeIn K cd_f_is_whole "is_whole" = true)
    (k_f_is_whole : PySem.W.keepIn K (.ref f_is_whole) = true)
    (c_f_is_between : PySem.W.codeIn K cd_f_is_between "is_between" = true)
    (k_f_is_between : PySem.W.keepIn K (.ref f_is_between) = true)
    (nn_str : PySem.W.nsIn K mainGlobals "str" = some none)
    (nn_len : PySem.W.nsIn K mainGlobals "len" = some none)
    (c_f_is_letter : PySem.W.codeIn K cd_f_is_letter "is_letter" = true)
    (k_f_is_letter : PySem.W.keepIn K (.ref f_is_letter) = true)
    (nn_all : PySem.W.nsIn K mainGlobals "all" = some none)
    (c_f_is_word : PySem.W.codeIn K cd_f_is_word "is_word" = true)
    (k_f_is_word : PySem.W.keepIn K (.ref f_is_word) = true)
    (c_f_is_port : PySem.W.codeIn K cd_f_is_port "is_port" = true)
    (k_f_is_port : PySem.W.keepIn K (.ref f_is_port) = true)
    (na_C_Kind_letter : PySem.W.findIn K (.ref C_Kind) "letter" = some none)
    (na_C_DeadEnd_letter : PySem.W.findIn K (.ref C_DeadEnd) "letter" = some none)
    (na_C_Bend_letter : PySem.W.findIn K (.ref C_Bend) "letter" = some none)
    (na_C_Fork_letter : PySem.W.findIn K (.ref C_Fork) "letter" = some none)
    (c_f_Kind___init__ : PySem.W.codeIn K cd_f_Kind___init__ "Kind.__init__" = true)
    (k_f_Kind___init__ : PySem.W.keepIn K (.ref f_Kind___init__) = true)
    (rd_C_Kind : PySem.W.readsIn K C_Kind mc_C_Kind = true)
    (ga_C_Kind : PySem.W.specialIn K (.ref C_Kind) "__getattribute__" = some (some (.builtin "type.__getattribute__")))
    (cg_C_Kind_ENDS : PySem.W.specialIn K (.int 0 tc_C_Kind_ENDS) "__get__" = some none)
    (cv_C_Kind_ENDS : PySem.W.findCls K (.ref C_Kind) mc_C_Kind "ENDS" = some (.val (.int 0 tc_C_Kind_ENDS)))
    (rd_C_DeadEnd : PySem.W.readsIn K C_DeadEnd mc_C_DeadEnd = true)
    (ga_C_DeadEnd : PySem.W.specialIn K (.ref C_DeadEnd) "__getattribute__" = some (some (.builtin "type.__getattribute__")))
    (cg_C_DeadEnd_ENDS : PySem.W.specialIn K (.int 1 tc_C_DeadEnd_ENDS) "__get__" = some none)
    (cv_C_DeadEnd_ENDS : PySem.W.findCls K (.ref C_DeadEnd) mc_C_DeadEnd "ENDS" = some (.val (.int 1 tc_C_DeadEnd_ENDS)))
    (rd_C_Bend : PySem.W.readsIn K C_Bend mc_C_Bend = true)
    (ga_C_Bend : PySem.W.specialIn K (.ref C_Bend) "__getattribute__" = some (some (.builtin "type.__getattribute__")))
    (cg_C_Bend_ENDS : PySem.W.specialIn K (.int 2 tc_C_Bend_ENDS) "__get__" = some none)
    (cv_C_Bend_ENDS : PySem.W.findCls K (.ref C_Bend) mc_C_Bend "ENDS" = some (.val (.int 2 tc_C_Bend_ENDS)))
    (rd_C_Fork : PySem.W.readsIn K C_Fork mc_C_Fork = true)
    (ga_C_Fork : PySem.W.specialIn K (.ref C_Fork) "__getattribute__" = some (some (.builtin "type.__getattribute__")))
    (cg_C_Fork_ENDS : PySem.W.specialIn K (.int 3 tc_C_Fork_ENDS) "__get__" = some none)
    (cv_C_Fork_ENDS : PySem.W.findCls K (.ref C_Fork) mc_C_Fork "ENDS" = some (.val (.int 3 tc_C_Fork_ENDS)))
    (c_f_Kind___eq__ : PySem.W.codeIn K cd_f_Kind___eq__ "Kind.__eq__" = true)
    (k_f_Kind___eq__ : PySem.W.keepIn K (.ref f_Kind___eq__) = true)
    (c_f_Kind___str__ : PySem.W.codeIn K cd_f_Kind___str__ "Kind.__str__" = true)
    (k_f_Kind___str__ : PySem.W.keepIn K (.ref f_Kind___str__) = true)
    (fn_f_Kind___str__ : PySem.W.isFn K (.ref f_Kind___str__) = true)
    (c_f_Kind___lt__ : PySem.W.codeIn K cd_f_Kind___lt__ "Kind.__lt__" = true)
    (k_f_Kind___lt__ : PySem.W.keepIn K (.ref f_Kind___lt__) = true)
    (fn_f_Kind___eq__ : PySem.W.isFn K (.ref f_Kind___eq__) = true)
    (x_nf_Kind_Kind : PySem.W.notFirst K C_Kind (.ref C_Kind) = true)
    (x_nf_DeadEnd_Kind : PySem.W.notFirst K C_DeadEnd (.ref C_Kind) = true)
    (x_nf_DeadEnd_DeadEnd : PySem.W.notFirst K C_DeadEnd (.ref C_DeadEnd) = true)
    (x_nf_DeadEnd_Bend : PySem.W.notFirst K C_DeadEnd (.ref C_Bend) = true)
    (x_nf_DeadEnd_Fork : PySem.W.notFirst K C_DeadEnd (.ref C_Fork) = true)
    (x_nf_Bend_Kind : PySem.W.notFirst K C_Bend (.ref C_Kind) = true)
    (x_nf_Bend_DeadEnd : PySem.W.notFirst K C_Bend (.ref C_DeadEnd) = true)
    (x_nf_Bend_Bend : PySem.W.notFirst K C_Bend (.ref C_Bend) = true)
    (x_nf_Bend_Fork : PySem.W.notFirst K C_Bend (.ref C_Fork) = true)
    (x_nf_Fork_Kind : PySem.W.notFirst K C_Fork (.ref C_Kind) = true)
    (x_nf_Fork_DeadEnd : PySem.W.notFirst K C_Fork (.ref C_DeadEnd) = true)
    (x_nf_Fork_Bend : PySem.W.notFirst K C_Fork (.ref C_Bend) = true)
    (x_nf_Fork_Fork : PySem.W.notFirst K C_Fork (.ref C_Fork) = true)
    (nf_C_Kind_NoneType : PySem.W.notFirst K C_Kind (.type "NoneType") = true)
    (nf_C_Kind_bool : PySem.W.notFirst K C_Kind (.type "bool") = true)
    (nf_C_Kind_int : PySem.W.notFirst K C_Kind (.type "int") = true)
    (nf_C_Kind_str : PySem.W.notFirst K C_Kind (.type "str") = true)
    (nf_C_Kind_tuple : PySem.W.notFirst K C_Kind (.type "tuple") = true)
    (nf_C_Kind_list : PySem.W.notFirst K C_Kind (.type "list") = true)
    (nf_C_Kind_dict : PySem.W.notFirst K C_Kind (.type "dict") = true)
    (nf_C_DeadEnd_NoneType : PySem.W.notFirst K C_DeadEnd (.type "NoneType") = true)
    (nf_C_DeadEnd_bool : PySem.W.notFirst K C_DeadEnd (.type "bool") = true)
    (nf_C_DeadEnd_int : PySem.W.notFirst K C_DeadEnd (.type "int") = true)
    (nf_C_DeadEnd_str : PySem.W.notFirst K C_DeadEnd (.type "str") = true)
    (nf_C_DeadEnd_tuple : PySem.W.notFirst K C_DeadEnd (.type "tuple") = true)
    (nf_C_DeadEnd_list : PySem.W.notFirst K C_DeadEnd (.type "list") = true)
    (nf_C_DeadEnd_dict : PySem.W.notFirst K C_DeadEnd (.type "dict") = true)
    (nf_C_Bend_NoneType : PySem.W.notFirst K C_Bend (.type "NoneType") = true)
    (nf_C_Bend_bool : PySem.W.notFirst K C_Bend (.type "bool") = true)
    (nf_C_Bend_int : PySem.W.notFirst K C_Bend (.type "int") = true)
    (nf_C_Bend_str : PySem.W.notFirst K C_Bend (.type "str") = true)
    (nf_C_Bend_tuple : PySem.W.notFirst K C_Bend (.type "tuple") = true)
    (nf_C_Bend_list : PySem.W.notFirst K C_Bend (.type "list") = true)
    (nf_C_Bend_dict : PySem.W.notFirst K C_Bend (.type "dict") = true)
    (nf_C_Fork_NoneType : PySem.W.notFirst K C_Fork (.type "NoneType") = true)
    (nf_C_Fork_bool : PySem.W.notFirst K C_Fork (.type "bool") = true)
    (nf_C_Fork_int : PySem.W.notFirst K C_Fork (.type "int") = true)
    (nf_C_Fork_str : PySem.W.notFirst K C_Fork (.type "str") = true)
    (nf_C_Fork_tuple : PySem.W.notFirst K C_Fork (.type "tuple") = true)
    (nf_C_Fork_list : PySem.W.notFirst K C_Fork (.type "list") = true)
    (nf_C_Fork_dict : PySem.W.notFirst K C_Fork (.type "dict") = true)
    (mk_C_DeadEnd : PySem.W.makesIn K C_DeadEnd = true)
    (fn_f_Kind___init__ : PySem.W.isFn K (.ref f_Kind___init__) = true)
    (k_C_DeadEnd : PySem.W.keepIn K (.ref C_DeadEnd) = true)
    (mk_C_Bend : PySem.W.makesIn K C_Bend = true)
    (k_C_Bend : PySem.W.keepIn K (.ref C_Bend) = true)
    (mk_C_Fork : PySem.W.makesIn K C_Fork = true)
    (k_C_Fork : PySem.W.keepIn K (.ref C_Fork) = true)
    (c_f_Kind_of : PySem.W.codeIn K cd_f_Kind_of "Kind.of" = true)
    (k_f_Kind_of : PySem.W.keepIn K (.ref f_Kind_of) = true)
    (x_ne_Kind : PySem.W.findIn K (.ref C_Kind) "__ne__" = some (some (.builtin "object.__ne__")))
    (x_ne_DeadEnd : PySem.W.findIn K (.ref C_DeadEnd) "__ne__" = some (some (.builtin "object.__ne__")))
    (x_ne_Bend : PySem.W.findIn K (.ref C_Bend) "__ne__" = some (some (.builtin "object.__ne__")))
    (x_ne_Fork : PySem.W.findIn K (.ref C_Fork) "__ne__" = some (some (.builtin "object.__ne__")))
    (c_f_Kind_read : PySem.W.codeIn K cd_f_Kind_read "Kind.read" = true)
    (k_f_Kind_read : PySem.W.keepIn K (.ref f_Kind_read) = true)
    (nn_range : PySem.W.nsIn K mainGlobals "range" = some none)
    (nn_tuple : PySem.W.nsIn K mainGlobals "tuple" = some none)
    (c_f_Kind_ports : PySem.W.codeIn K cd_f_Kind_ports "Kind.ports" = true)
    (k_f_Kind_ports : PySem.W.keepIn K (.ref f_Kind_ports) = true)
    (sg_p_Kind_ports : PySem.W.specialIn K (.ref p_Kind_ports) "__get__" = some (some (.builtin "property.__get__")))
    (tk_p_Kind_ports : PySem.W.takesIn K (.ref p_Kind_ports) = some true)
    (c_f_Kind___contains__ : PySem.W.codeIn K cd_f_Kind___contains__ "Kind.__contains__" = true)
    (k_f_Kind___contains__ : PySem.W.keepIn K (.ref f_Kind___contains__) = true)
    (nn_list : PySem.W.nsIn K mainGlobals "list" = some none)
    (c_f__law_pen : PySem.W.codeIn K cd_f__law_pen "_law_pen" = true)
    (k_f__law_pen : PySem.W.keepIn K (.ref f__law_pen) = true)
    (fn_f_Kind___lt__ : PySem.W.isFn K (.ref f_Kind___lt__) = true)
    (nn_abs : PySem.W.nsIn K mainGlobals "abs" = some none)
    (c_f__law_draw : PySem.W.codeIn K cd_f__law_draw "_law_draw" = true)
    (k_f__law_draw : PySem.W.keepIn K (.ref f__law_draw) = true)
    (c_f__law_pick : PySem.W.codeIn K cd_f__law_pick "_law_pick" = true)
    (k_f__law_pick : PySem.W.keepIn K (.ref f__law_pick) = true)
    (c_f__law_made : PySem.W.codeIn K cd_f__law_made "_law_made" = true)
    (k_f__law_made : PySem.W.keepIn K (.ref f__law_made) = true)
    (fi_f_Kind_read : PySem.W.fnIn K f_Kind_read = true)
    (c_f__law_read : PySem.W.codeIn K cd_f__law_read "_law_read" = true)
    (k_f__law_read : PySem.W.keepIn K (.ref f__law_read) = true)
    (nn_repr : PySem.W.nsIn K mainGlobals "repr" = some none)
    (fn_f_Kind___contains__ : PySem.W.isFn K (.ref f_Kind___contains__) = true)
    (c_f__law_told_right : PySem.W.codeIn K cd_f__law_told_right "_law_told_right" = true)
    (k_f__law_told_right : PySem.W.keepIn K (.ref f__law_told_right) = true)
    (c_f__law_pair_right : PySem.W.codeIn K cd_f__law_pair_right "_law_pair_right" = true)
    (k_f__law_pair_right : PySem.W.keepIn K (.ref f__law_pair_right) = true)
    (c_f__law_is_letter : PySem.W.codeIn K cd_f__law_is_letter "_law_is_letter" = true)
    (k_f__law_is_letter : PySem.W.keepIn K (.ref f__law_is_letter) = true)
    (c_f__law_is_word : PySem.W.codeIn K cd_f__law_is_word "_law_is_word" = true)
    (k_f__law_is_word : PySem.W.keepIn K (.ref f__law_is_word) = true)
    (c_f__law_names_right : PySem.W.codeIn K cd_f__law_names_right "_law_names_right" = true)
    (k_f__law_names_right : PySem.W.keepIn K (.ref f__law_names_right) = true)
    (c_f_law : PySem.W.codeIn K cd_f_law "law" = true)
    (k_f_law : PySem.W.keepIn K (.ref f_law) = true)
    : ∃ fd : FuncData, (∀ (s : Shared) (u : Value), BindsTo s fd ⟨[u], []⟩ [("_law_script", u)]) ∧ ∀ base : Heap, K.In base → base.Ns mainGlobals mg → FnD P w K mg base 10 fa fd ["_law_script"] m_law := by
  have e := hfa.symm.trans (PySem.W.mg_of X G ns_law)
  cases e
  have T : Txt K mg ⟨C_Kind, C_DeadEnd, C_Bend, C_Fork, f_is_whole, f_is_between, f_is_letter, f_is_word, f_is_port, f_Kind___init__, f_Kind___eq__, f_Kind___str__, f_Kind___lt__, f_Kind_of, p_Kind_of, f_Kind_read, f_Kind_ports, p_Kind_ports, f_Kind___contains__, f__law_pen, f__law_draw, f__law_pick, f__law_made, p_Kind_read, f__law_read, f__law_told_right, f__law_pair_right, f__law_is_letter, f__law_is_word, f__law_names_right, fa⟩ := ⟨⟨PySem.W.mg_of X G ns_Kind, ⟨pg_C_Kind, hd_C_Kind, po_C_Kind, sa_C_Kind⟩, fc_C_Kind, oc_get, oc_tk, mro_C_Kind⟩,
    ⟨PySem.W.mg_of X G ns_DeadEnd, ⟨pg_C_DeadEnd, hd_C_DeadEnd, po_C_DeadEnd, sa_C_DeadEnd⟩, fc_C_DeadEnd, oc_get, oc_tk, mro_C_DeadEnd⟩,
    ⟨PySem.W.mg_of X G ns_Bend, ⟨pg_C_Bend, hd_C_Bend, po_C_Bend, sa_C_Bend⟩, fc_C_Bend, oc_get, oc_tk, mro_C_Bend⟩,
    ⟨PySem.W.mg_of X G ns_Fork, ⟨pg_C_Fork, hd_C_Fork, po_C_Fork, sa_C_Fork⟩, fc_C_Fork, oc_get, oc_tk, mro_C_Fork⟩,
    PySem.W.mg_of X G ns_Kind,
    x_io_Kind_Kind,
    PySem.W.mg_of X G ns_DeadEnd,
    x_io_Kind_DeadEnd,
    PySem.W.mg_of X G ns_Bend,
    x_io_Kind_Bend,
    PySem.W.mg_of X G ns_Fork,
    x_io_Kind_Fork,
    x_io_DeadEnd_Kind,
    x_io_DeadEnd_DeadEnd,
    x_io_DeadEnd_Bend,
    x_io_DeadEnd_Fork,
    x_io_Bend_Kind,
    x_io_Bend_DeadEnd,
    x_io_Bend_Bend,
    x_io_Bend_Fork,
    x_io_Fork_Kind,
    x_io_Fork_DeadEnd,
    x_io_Fork_Bend,
    x_io_Fork_Fork,
    x_ib_Kind_str,
    x_ib_Kind_int,
    x_ib_Kind_bool,
    x_ib_Kind_tuple,
    x_ib_Kind_list,
    x_ib_Kind_dict,
    x_ib_DeadEnd_str,
    x_ib_DeadEnd_int,
    x_ib_DeadEnd_bool,
    x_ib_DeadEnd_tuple,
    x_ib_DeadEnd_list,
    x_ib_DeadEnd_dict,
    x_ib_Bend_str,
    x_ib_Bend_int,
    x_ib_Bend_bool,
    x_ib_Bend_tuple,
    x_ib_Bend_list,
    x_ib_Bend_dict,
    x_ib_Fork_str,
    x_ib_Fork_int,
    x_ib_Fork_bool,
    x_ib_Fork_tuple,
    x_ib_Fork_list,
    x_ib_Fork_dict,
    noB_mk nb_C_Kind_NoneType nb_C_Kind_bool nb_C_Kind_int nb_C_Kind_str nb_C_Kind_tuple nb_C_Kind_list nb_C_Kind_dict,
    noB_mk nb_C_DeadEnd_NoneType nb_C_DeadEnd_bool nb_C_DeadEnd_int nb_C_DeadEnd_str nb_C_DeadEnd_tuple nb_C_DeadEnd_list nb_C_DeadEnd_dict,
    noB_mk nb_C_Bend_NoneType nb_C_Bend_bool nb_C_Bend_int nb_C_Bend_str nb_C_Bend_tuple nb_C_Bend_list nb_C_Bend_dict,
    noB_mk nb_C_Fork_NoneType nb_C_Fork_bool nb_C_Fork_int nb_C_Fork_str nb_C_Fork_tuple nb_C_Fork_list nb_C_Fork_dict,
    PySem.W.mg_none_of X G nn_int,
    PySem.W.mg_none_of X G nn_isinstance,
    PySem.W.mg_none_of X G nn_bool,
    def_at l_f_is_whole c_f_is_whole k_f_is_whole,
    PySem.W.mg_of X G ns_is_whole,
    def_at l_f_is_between c_f_is_between k_f_is_between,
    PySem.W.mg_none_of X G nn_str,
    PySem.W.mg_none_of X G nn_len,
    ⟨_, PySem.W.mg_of X G ns_LETTERS⟩,
    def_at l_f_is_letter c_f_is_letter k_f_is_letter,
    ⟨_, PySem.W.mg_of X G ns_WORD_SIZE⟩,
    PySem.W.mg_none_of X G nn_all,
    def_at l_f_is_word c_f_is_word k_f_is_word,
    def_at l_f_is_port c_f_is_port k_f_is_port,
    PySem.W.mg_of X G ns_is_letter,
    ⟨pg_C_Kind, hd_C_Kind, po_C_Kind, sa_C_Kind⟩,
    na_C_Kind_letter,
    ⟨pg_C_DeadEnd, hd_C_DeadEnd, po_C_DeadEnd, sa_C_DeadEnd⟩,
    na_C_DeadEnd_letter,
    ⟨pg_C_Bend, hd_C_Bend, po_C_Bend, sa_C_Bend⟩,
    na_C_Bend_letter,
    ⟨pg_C_Fork, hd_C_Fork, po_C_Fork, sa_C_Fork⟩,
    na_C_Fork_letter,
    def_at l_f_Kind___init__ c_f_Kind___init__ k_f_Kind___init__,
    ⟨_, ⟨cn_C_Kind_ENDS, ⟨_, rfl⟩, cg_C_Kind_ENDS, by decide +kernel⟩, _, ⟨rd_C_Kind, ga_C_Kind⟩, ⟨cv_C_Kind_ENDS, ⟨_, rfl⟩⟩⟩,
    ⟨_, ⟨cn_C_DeadEnd_ENDS, ⟨_, rfl⟩, cg_C_DeadEnd_ENDS, by decide +kernel⟩, _, ⟨rd_C_DeadEnd, ga_C_DeadEnd⟩, ⟨cv_C_DeadEnd_ENDS, ⟨_, rfl⟩⟩⟩,
    ⟨_, ⟨cn_C_Bend_ENDS, ⟨_, rfl⟩, cg_C_Bend_ENDS, by decide +kernel⟩, _, ⟨rd_C_Bend, ga_C_Bend⟩, ⟨cv_C_Bend_ENDS, ⟨_, rfl⟩⟩⟩,
    ⟨_, ⟨cn_C_Fork_ENDS, ⟨_, rfl⟩, cg_C_Fork_ENDS, by decide +kernel⟩, _, ⟨rd_C_Fork, ga_C_Fork⟩, ⟨cv_C_Fork_ENDS, ⟨_, rfl⟩⟩⟩,
    def_at l_f_Kind___eq__ c_f_Kind___eq__ k_f_Kind___eq__,
    def_at l_f_Kind___str__ c_f_Kind___str__ k_f_Kind___str__,
    ⟨fi_C_Kind___str__, fn_f_Kind___str__, k_f_Kind___str__⟩,
    ⟨fi_C_DeadEnd___str__, fn_f_Kind___str__, k_f_Kind___str__⟩,
    ⟨fi_C_Bend___str__, fn_f_Kind___str__, k_f_Kind___str__⟩,
    ⟨fi_C_Fork___str__, fn_f_Kind___str__, k_f_Kind___str__⟩,
    def_at l_f_Kind___lt__ c_f_Kind___lt__ k_f_Kind___lt__,
    ⟨_, PySem.W.mg_of X G ns_MOST_ENDS⟩,
    PySem.W.mg_of X G ns_is_between,
    ⟨fi_C_Kind___eq__, fn_f_Kind___eq__, k_f_Kind___eq__⟩,
    ⟨fi_C_DeadEnd___eq__, fn_f_Kind___eq__, k_f_Kind___eq__⟩,
    ⟨fi_C_Bend___eq__, fn_f_Kind___eq__, k_f_Kind___eq__⟩,
    ⟨fi_C_Fork___eq__, fn_f_Kind___eq__, k_f_Kind___eq__⟩,
    x_nf_Kind_Kind,
    x_nf_DeadEnd_Kind,
    x_nf_DeadEnd_DeadEnd,
    x_nf_DeadEnd_Bend,
    x_nf_DeadEnd_Fork,
    x_nf_Bend_Kind,
    x_nf_Bend_DeadEnd,
    x_nf_Bend_Bend,
    x_nf_Bend_Fork,
    x_nf_Fork_Kind,
    x_nf_Fork_DeadEnd,
    x_nf_Fork_Bend,
    x_nf_Fork_Fork,
    nfB_mk nf_C_Kind_NoneType nf_C_Kind_bool nf_C_Kind_int nf_C_Kind_str nf_C_Kind_tuple nf_C_Kind_list nf_C_Kind_dict,
    nfB_mk nf_C_DeadEnd_NoneType nf_C_DeadEnd_bool nf_C_DeadEnd_int nf_C_DeadEnd_str nf_C_DeadEnd_tuple nf_C_DeadEnd_list nf_C_DeadEnd_dict,
    nfB_mk nf_C_Bend_NoneType nf_C_Bend_bool nf_C_Bend_int nf_C_Bend_str nf_C_Bend_tuple nf_C_Bend_list nf_C_Bend_dict,
    nfB_mk nf_C_Fork_NoneType nf_C_Fork_bool nf_C_Fork_int nf_C_Fork_str nf_C_Fork_tuple nf_C_Fork_list nf_C_Fork_dict,
    ⟨⟨mk_C_DeadEnd, fi_C_DeadEnd___init__, fn_f_Kind___init__, k_C_DeadEnd⟩, PySem.W.mg_of X G ns_DeadEnd⟩,
    ⟨⟨mk_C_Bend, fi_C_Bend___init__, fn_f_Kind___init__, k_C_Bend⟩, PySem.W.mg_of X G ns_Bend⟩,
    ⟨⟨mk_C_Fork, fi_C_Fork___init__, fn_f_Kind___init__, k_C_Fork⟩, PySem.W.mg_of X G ns_Fork⟩,
    def_at l_f_Kind_of c_f_Kind_of k_f_Kind_of,
    x_ne_Kind,
    mro_C_Kind,
    x_ne_DeadEnd,
    mro_C_DeadEnd,
    x_ne_Bend,
    mro_C_Bend,
    x_ne_Fork,
    mro_C_Fork,
    ⟨_, ⟨rd_C_Kind, ga_C_Kind⟩, fcl_C_Kind_of, _, rc_p_Kind_of⟩,
    ⟨_, ⟨rd_C_DeadEnd, ga_C_DeadEnd⟩, fcl_C_DeadEnd_of, _, rc_p_Kind_of⟩,
    ⟨_, ⟨rd_C_Bend, ga_C_Bend⟩, fcl_C_Bend_of, _, rc_p_Kind_of⟩,
    ⟨_, ⟨rd_C_Fork, ga_C_Fork⟩, fcl_C_Fork_of, _, rc_p_Kind_of⟩,
    def_at l_f_Kind_read c_f_Kind_read k_f_Kind_read,
    PySem.W.mg_none_of X G nn_range,
    PySem.W.mg_none_of X G nn_tuple,
    def_at l_f_Kind_ports c_f_Kind_ports k_f_Kind_ports,
    ⟨fi_C_Kind_ports, sg_p_Kind_ports, tk_p_Kind_ports, _, rc_p_Kind_ports⟩,
    ⟨fi_C_DeadEnd_ports, sg_p_Kind_ports, tk_p_Kind_ports, _, rc_p_Kind_ports⟩,
    ⟨fi_C_Bend_ports, sg_p_Kind_ports, tk_p_Kind_ports, _, rc_p_Kind_ports⟩,
    ⟨fi_C_Fork_ports, sg_p_Kind_ports, tk_p_Kind_ports, _, rc_p_Kind_ports⟩,
    def_at l_f_Kind___contains__ c_f_Kind___contains__ k_f_Kind___contains__,
    PySem.W.mg_none_of X G nn_list,
    def_at l_f__law_pen c_f__law_pen k_f__law_pen,
    ⟨fi_C_Kind___lt__, fn_f_Kind___lt__, k_f_Kind___lt__⟩,
    ⟨fi_C_DeadEnd___lt__, fn_f_Kind___lt__, k_f_Kind___lt__⟩,
    ⟨fi_C_Bend___lt__, fn_f_Kind___lt__, k_f_Kind___lt__⟩,
    ⟨fi_C_Fork___lt__, fn_f_Kind___lt__, k_f_Kind___lt__⟩,
    PySem.W.mg_none_of X G nn_abs,
    def_at l_f__law_draw c_f__law_draw k_f__law_draw,
    PySem.W.mg_of X G ns__law_draw,
    def_at l_f__law_pick c_f__law_pick k_f__law_pick,
    def_at l_f__law_made c_f__law_made k_f__law_made,
    ⟨_, ⟨rd_C_Kind, ga_C_Kind⟩, ⟨fcl_C_Kind_read, ⟨_, rc_p_Kind_read⟩, fi_f_Kind_read⟩⟩,
    ⟨_, ⟨rd_C_DeadEnd, ga_C_DeadEnd⟩, ⟨fcl_C_DeadEnd_read, ⟨_, rc_p_Kind_read⟩, fi_f_Kind_read⟩⟩,
    ⟨_, ⟨rd_C_Bend, ga_C_Bend⟩, ⟨fcl_C_Bend_read, ⟨_, rc_p_Kind_read⟩, fi_f_Kind_read⟩⟩,
    ⟨_, ⟨rd_C_Fork, ga_C_Fork⟩, ⟨fcl_C_Fork_read, ⟨_, rc_p_Kind_read⟩, fi_f_Kind_read⟩⟩,
    def_at l_f__law_read c_f__law_read k_f__law_read,
    PySem.W.mg_of X G ns__law_made,
    PySem.W.mg_none_of X G nn_repr,
    ⟨fi_C_Kind___contains__, fn_f_Kind___contains__, k_f_Kind___contains__⟩,
    ⟨fi_C_DeadEnd___contains__, fn_f_Kind___contains__, k_f_Kind___contains__⟩,
    ⟨fi_C_Bend___contains__, fn_f_Kind___contains__, k_f_Kind___contains__⟩,
    ⟨fi_C_Fork___contains__, fn_f_Kind___contains__, k_f_Kind___contains__⟩,
    PySem.W.mg_of X G ns__law_read,
    def_at l_f__law_told_right c_f__law_told_right k_f__law_told_right,
    def_at l_f__law_pair_right c_f__law_pair_right k_f__law_pair_right,
    def_at l_f__law_is_letter c_f__law_is_letter k_f__law_is_letter,
    def_at l_f__law_is_word c_f__law_is_word k_f__law_is_word,
    PySem.W.mg_of X G ns__law_pick,
    PySem.W.mg_of X G ns_is_port,
    PySem.W.mg_of X G ns_is_word,
    PySem.W.mg_of X G ns__law_is_word,
    PySem.W.mg_of X G ns__law_is_letter,
    def_at l_f__law_names_right c_f__law_names_right k_f__law_names_right,
    PySem.W.mg_of X G ns__law_pen,
    PySem.W.mg_of X G ns__law_told_right,
    PySem.W.mg_of X G ns__law_pair_right,
    PySem.W.mg_of X G ns__law_names_right,
    def_at l_f_law c_f_law k_f_law⟩
  exact ok_law T
end L02
open PySem PySem.W PyProof.Rows
set_option maxRecDepth 100000 in
set_option maxHeartbeats 0 in
theorem PySem.Challenge.cw_marklessways_k02_kinds_and_names_holds : PySem.Challenge.rw_marklessways_k02_kinds_and_names.Holds := by
  w_on; o_law; k_head; (case hw => w_witness2)
  k_fill
  refine MW.law_end (l := PySem.Challenge.rw_marklessways_k02_kinds_and_names) (k := 10) (x := "_law_script") (m := L02.m_law) rfl (by decide) rfl ⟨rfl, by decide, by decide⟩ (fun w h Y => PySem.W.kIn_of Y) ?F L02.good
  case F =>
    intro w mg fa h KX G hmg
    refine' L02.all_mk KX G hmg ?ns_Kind ?ns_DeadEnd ?ns_Bend ?ns_Fork ?ns_is_whole ?ns_LETTERS ?ns_WORD_SIZE ?ns_is_letter ?ns_MOST_ENDS ?ns_is_between ?ns__law_draw ?ns__law_made ?ns__law_read ?ns__law_pick ?ns_is_port ?ns_is_word ?ns__law_is_word ?ns__law_is_letter ?ns__law_pen ?ns__law_told_right ?ns__law_pair_right ?ns__law_names_right ?ns_law ?ty_C_Kind ?ty_C_DeadEnd ?ty_C_Bend ?ty_C_Fork ?fc_C_Kind ?fc_C_DeadEnd ?fc_C_Bend ?fc_C_Fork ?cn_C_Kind_ENDS ?cn_C_DeadEnd_ENDS ?cn_C_Bend_ENDS ?cn_C_Fork_ENDS ?fi_C_Kind___str__ ?fi_C_DeadEnd___str__ ?fi_C_Bend___str__ ?fi_C_Fork___str__ ?fi_C_Kind___eq__ ?fi_C_DeadEnd___eq__ ?fi_C_Bend___eq__ ?fi_C_Fork___eq__ ?fi_C_DeadEnd___init__ ?fi_C_Bend___init__ ?fi_C_Fork___init__ ?fcl_C_Kind_of ?fcl_C_DeadEnd_of ?fcl_C_Bend_of ?fcl_C_Fork_of ?fi_C_Kind_ports ?fi_C_DeadEnd_ports ?fi_C_Bend_ports ?fi_C_Fork_ports ?fi_C_Kind___lt__ ?fi_C_DeadEnd___lt__ ?fi_C_Bend___lt__ ?fi_C_Fork___lt__ ?fcl_C_Kind_read ?fcl_C_DeadEnd_read ?fcl_C_Bend_read ?fcl_C_Fork_read ?fi_C_Kind___contains__ ?fi_C_DeadEnd___contains__ ?fi_C_Bend___contains__ ?fi_C_Fork___contains__ ?rc_p_Kind_of ?rc_p_Kind_ports ?rc_p_Kind_read ?l_f_is_whole ?l_f_is_between ?l_f_is_letter ?l_f_is_word ?l_f_is_port ?l_f_Kind___init__ ?l_f_Kind___eq__ ?l_f_Kind___str__ ?l_f_Kind___lt__ ?l_f_Kind_of ?l_f_Kind_read ?l_f_Kind_ports ?l_f_Kind___contains__ ?l_f__law_pen ?l_f__law_draw ?l_f__law_pick ?l_f__law_made ?l_f__law_read ?l_f__law_told_right ?l_f__law_pair_right ?l_f__law_is_letter ?l_f__law_is_word ?l_f__law_names_right ?l_f_law ?x_io_Kind_Kind ?x_io_Kind_DeadEnd ?x_io_Kind_Bend ?x_io_Kind_Fork ?x_io_DeadEnd_Kind ?x_io_DeadEnd_DeadEnd ?x_io_DeadEnd_Bend ?x_io_DeadEnd_Fork ?x_io_Bend_Kind ?x_io_Bend_DeadEnd ?x_io_Bend_Bend ?x_io_Bend_Fork ?x_io_Fork_Kind ?x_io_Fork_DeadEnd ?x_io_Fork_Bend ?x_io_Fork_Fork ?x_ib_Kind_str ?x_ib_Kind_int ?x_ib_Kind_bool ?x_ib_Kind_tuple ?x_ib_Kind_list ?x_ib_Kind_dict ?x_ib_DeadEnd_str ?x_ib_DeadEnd_int ?x_ib_DeadEnd_bool ?x_ib_DeadEnd_tuple ?x_ib_DeadEnd_list ?x_ib_DeadEnd_dict ?x_ib_Bend_str ?x_ib_Bend_int ?x_ib_Bend_bool ?x_ib_Bend_tuple ?x_ib_Bend_list ?x_ib_Bend_dict ?x_ib_Fork_str ?x_ib_Fork_int ?x_ib_Fork_bool ?x_ib_Fork_tuple ?x_ib_Fork_list ?x_ib_Fork_dict ?nb_C_Kind_NoneType ?nb_C_Kind_bool ?nb_C_Kind_int ?nb_C_Kind_str ?nb_C_Kind_tuple ?nb_C_Kind_list ?nb_C_Kind_dict ?nb_C_DeadEnd_NoneType ?nb_C_DeadEnd_bool ?nb_C_DeadEnd_int ?nb_C_DeadEnd_str ?nb_C_DeadEnd_tuple ?nb_C_DeadEnd_list ?nb_C_DeadEnd_dict ?nb_C_Bend_NoneType ?nb_C_Bend_bool ?nb_C_Bend_int ?nb_C_Bend_str ?nb_C_Bend_tuple ?nb_C_Bend_list ?nb_C_Bend_dict ?nb_C_Fork_NoneType ?nb_C_Fork_bool ?nb_C_Fork_int ?nb_C_Fork_str ?nb_C_Fork_tuple ?nb_C_Fork_list ?nb_C_Fork_dict ?oc_get ?oc_tk ?mro_C_Kind ?pg_C_Kind ?hd_C_Kind ?po_C_Kind ?sa_C_Kind ?mro_C_DeadEnd ?pg_C_DeadEnd ?hd_C_DeadEnd ?po_C_DeadEnd ?sa_C_DeadEnd ?mro_C_Bend ?pg_C_Bend ?hd_C_Bend ?po_C_Bend ?sa_C_Bend ?mro_C_Fork ?pg_C_Fork ?hd_C_Fork ?po_C_Fork ?sa_C_Fork ?nn_int ?nn_isinstance ?nn_bool ?c_f_is_whole ?k_f_is_whole ?c_f_is_between ?k_f_is_between ?nn_str ?nn_len ?c_f_is_letter ?k_f_is_letter ?nn_all ?c_f_is_word ?k_f_is_word ?c_f_is_port ?k_f_is_port ?na_C_Kind_letter ?na_C_DeadEnd_letter ?na_C_Bend_letter ?na_C_Fork_letter ?c_f_Kind___init__ ?k_f_Kind___init__ ?rd_C_Kind ?ga_C_Kind ?cg_C_Kind_ENDS ?cv_C_Kind_ENDS ?rd_C_DeadEnd ?ga_C_DeadEnd ?cg_C_DeadEnd_ENDS ?cv_C_DeadEnd_ENDS ?rd_C_Bend ?ga_C_Bend ?cg_C_Bend_ENDS ?cv_C_Bend_ENDS ?rd_C_Fork ?ga_C_Fork ?cg_C_Fork_ENDS ?cv_C_Fork_ENDS ?c_f_Kind___eq__ ?k_f_Kind___eq__ ?c_f_Kind___str__ ?k_f_Kind___str__ ?fn_f_Kind___str__ ?c_f_Kind___lt__ ?k_f_Kind___lt__ ?fn_f_Kind___eq__ ?x_nf_Kind_Kind ?x_nf_DeadEnd_Kind ?x_nf_DeadEnd_DeadEnd ?x_nf_DeadEnd_Bend ?x_nf_DeadEnd_Fork ?x_nf_Bend_Kind ?x_nf_Bend_DeadEnd ?x_nf_Bend_Bend ?x_nf_Bend_Fork ?x_nf_Fork_Kind ?x_nf_Fork_DeadEnd ?x_nf_Fork_Bend ?x_nf_Fork_Fork ?nf_C_Kind_NoneType ?nf_C_Kind_bool ?nf_C_Kind_int ?nf_C_Kind_str ?nf_C_Kind_tuple ?nf_C_Kind_list ?nf_C_Kind_dict ?nf_C_DeadEnd_NoneType ?nf_C_DeadEnd_bool ?nf_C_DeadEnd_int ?nf_C_DeadEnd_str ?nf_C_DeadEnd_tuple ?nf_C_DeadEnd_list ?nf_C_DeadEnd_dict ?nf_C_Bend_NoneType ?nf_C_Bend_bool ?nf_C_Bend_int ?nf_C_Bend_str ?nf_C_Bend_tuple ?nf_C_Bend_list ?nf_C_Bend_dict ?nf_C_Fork_NoneType ?nf_C_Fork_bool ?nf_C_Fork_int ?nf_C_Fork_str ?nf_C_Fork_tuple ?nf_C_Fork_list ?nf_C_Fork_dict ?mk_C_DeadEnd ?fn_f_Kind___init__ ?k_C_DeadEnd ?mk_C_Bend ?k_C_Bend ?mk_C_Fork ?k_C_Fork ?c_f_Kind_of ?k_f_Kind_of ?x_ne_Kind ?x_ne_DeadEnd ?x_ne_Bend ?x_ne_Fork ?c_f_Kind_read ?k_f_Kind_read ?nn_range ?nn_tuple ?c_f_Kind_ports ?k_f_Kind_ports ?sg_p_Kind_ports ?tk_p_Kind_ports ?c_f_Kind___contains__ ?k_f_Kind___contains__ ?nn_list ?c_f__law_pen ?k_f__law_pen ?fn_f_Kind___lt__ ?nn_abs ?c_f__law_draw ?k_f__law_draw ?c_f__law_pick ?k_f__law_pick ?c_f__law_made ?k_f__law_made ?fi_f_Kind_read ?c_f__law_read ?k_f__law_read ?nn_repr ?fn_f_Kind___contains__ ?c_f__law_told_right ?k_f__law_told_right ?c_f__law_pair_right ?k_f__law_pair_right ?c_f__law_is_letter ?k_f__law_is_letter ?c_f__law_is_word ?k_f__law_is_word ?c_f__law_names_right ?k_f__law_names_right ?c_f_law ?k_f_law
    (case ns_Kind => k_is)
    (case ns_DeadEnd => k_is)
    (case ns_Bend => k_is)
    (case ns_Fork => k_is)
    (case ns_is_whole => k_is)
    (case ns_LETTERS => k_is)
    (case ns_WORD_SIZE => k_is)
    (case ns_is_letter => k_is)
    (case ns_MOST_ENDS => k_is)
    (case ns_is_between => k_is)
    (case ns__law_draw => k_is)
    (case ns__law_made => k_is)
    (case ns__law_read => k_is)
    (case ns__law_pick => k_is)
    (case ns_is_port => k_is)
    (case ns_is_word => k_is)
    (case ns__law_is_word => k_is)
    (case ns__law_is_letter => k_is)
    (case ns__law_pen => k_is)
    (case ns__law_told_right => k_is)
    (case ns__law_pair_right => k_is)
    (case ns__law_names_right => k_is)
    (case ns_law => k_is)
    (case ty_C_Kind => k_is)
    (case ty_C_DeadEnd => k_is)
    (case ty_C_Bend => k_is)
    (case ty_C_Fork => k_is)
    (case fc_C_Kind => k_is)
    (case fc_C_DeadEnd => k_is)
    (case fc_C_Bend => k_is)
    (case fc_C_Fork => k_is)
    (case cn_C_Kind_ENDS => k_is)
    (case cn_C_DeadEnd_ENDS => k_is)
    (case cn_C_Bend_ENDS => k_is)
    (case cn_C_Fork_ENDS => k_is)
    (case fi_C_Kind___str__ => k_is)
    (case fi_C_DeadEnd___str__ => k_is)
    (case fi_C_Bend___str__ => k_is)
    (case fi_C_Fork___str__ => k_is)
    (case fi_C_Kind___eq__ => k_is)
    (case fi_C_DeadEnd___eq__ => k_is)
    (case fi_C_Bend___eq__ => k_is)
    (case fi_C_Fork___eq__ => k_is)
    (case fi_C_DeadEnd___init__ => k_is)
    (case fi_C_Bend___init__ => k_is)
    (case fi_C_Fork___init__ => k_is)
    (case fcl_C_Kind_of => k_is)
    (case fcl_C_DeadEnd_of => k_is)
    (case fcl_C_Bend_of => k_is)
    (case fcl_C_Fork_of => k_is)
    (case fi_C_Kind_ports => k_is)
    (case fi_C_DeadEnd_ports => k_is)
    (case fi_C_Bend_ports => k_is)
    (case fi_C_Fork_ports => k_is)
    (case fi_C_Kind___lt__ => k_is)
    (case fi_C_DeadEnd___lt__ => k_is)
    (case fi_C_Bend___lt__ => k_is)
    (case fi_C_Fork___lt__ => k_is)
    (case fcl_C_Kind_read => k_is)
    (case fcl_C_DeadEnd_read => k_is)
    (case fcl_C_Bend_read => k_is)
    (case fcl_C_Fork_read => k_is)
    (case fi_C_Kind___contains__ => k_is)
    (case fi_C_DeadEnd___contains__ => k_is)
    (case fi_C_Bend___contains__ => k_is)
    (case fi_C_Fork___contains__ => k_is)
    (case rc_p_Kind_of => k_is)
    (case rc_p_Kind_ports => k_is)
    (case rc_p_Kind_read => k_is)
    (case l_f_is_whole => k_is)
    (case l_f_is_between => k_is)
    (case l_f_is_letter => k_is)
    (case l_f_is_word => k_is)
    (case l_f_is_port => k_is)
    (case l_f_Kind___init__ => k_is)
    (case l_f_Kind___eq__ => k_is)
    (case l_f_Kind___str__ => k_is)
    (case l_f_Kind___lt__ => k_is)
    (case l_f_Kind_of => k_is)
    (case l_f_Kind_read => k_is)
    (case l_f_Kind_ports => k_is)
    (case l_f_Kind___contains__ => k_is)
    (case l_f__law_pen => k_is)
    (case l_f__law_draw => k_is)
    (case l_f__law_pick => k_is)
    (case l_f__law_made => k_is)
    (case l_f__law_read => k_is)
    (case l_f__law_told_right => k_is)
    (case l_f__law_pair_right => k_is)
    (case l_f__law_is_letter => k_is)
    (case l_f__law_is_word => k_is)
    (case l_f__law_names_right => k_is)
    (case l_f_law => k_is)
    (case x_io_Kind_Kind => kit_is)
    (case x_io_Kind_DeadEnd => kit_is)
    (case x_io_Kind_Bend => kit_is)
    (case x_io_Kind_Fork => kit_is)
    (case x_io_DeadEnd_Kind => kit_is)
    (case x_io_DeadEnd_DeadEnd => kit_is)
    (case x_io_DeadEnd_Bend => kit_is)
    (case x_io_DeadEnd_Fork => kit_is)
    (case x_io_Bend_Kind => kit_is)
    (case x_io_Bend_DeadEnd => kit_is)
    (case x_io_Bend_Bend => kit_is)
    (case x_io_Bend_Fork => kit_is)
    (case x_io_Fork_Kind => kit_is)
    (case x_io_Fork_DeadEnd => kit_is)
    (case x_io_Fork_Bend => kit_is)
    (case x_io_Fork_Fork => kit_is)
    (case x_ib_Kind_str => kit_is)
    (case x_ib_Kind_int => kit_is)
    (case x_ib_Kind_bool => kit_is)
    (case x_ib_Kind_tuple => kit_is)
    (case x_ib_Kind_list => kit_is)
    (case x_ib_Kind_dict => kit_is)
    (case x_ib_DeadEnd_str => kit_is)
    (case x_ib_DeadEnd_int => kit_is)
    (case x_ib_DeadEnd_bool => kit_is)
    (case x_ib_DeadEnd_tuple => kit_is)
    (case x_ib_DeadEnd_list => kit_is)
    (case x_ib_DeadEnd_dict => kit_is)
    (case x_ib_Bend_str => kit_is)
    (case x_ib_Bend_int => kit_is)
    (case x_ib_Bend_bool => kit_is)
    (case x_ib_Bend_tuple => kit_is)
    (case x_ib_Bend_list => kit_is)
    (case x_ib_Bend_dict => kit_is)
    (case x_ib_Fork_str => kit_is)
    (case x_ib_Fork_int => kit_is)
    (case x_ib_Fork_bool => kit_is)
    (case x_ib_Fork_tuple => kit_is)
    (case x_ib_Fork_list => kit_is)
    (case x_ib_Fork_dict => kit_is)
    (case nb_C_Kind_NoneType => kit_is)
    (case nb_C_Kind_bool => kit_is)
    (case nb_C_Kind_int => kit_is)
    (case nb_C_Kind_str => kit_is)
    (case nb_C_Kind_tuple => kit_is)
    (case nb_C_Kind_list => kit_is)
    (case nb_C_Kind_dict => kit_is)
    (case nb_C_DeadEnd_NoneType => kit_is)
    (case nb_C_DeadEnd_bool => kit_is)
    (case nb_C_DeadEnd_int => kit_is)
    (case nb_C_DeadEnd_str => kit_is)
    (case nb_C_DeadEnd_tuple => kit_is)
    (case nb_C_DeadEnd_list => kit_is)
    (case nb_C_DeadEnd_dict => kit_is)
    (case nb_C_Bend_NoneType => kit_is)
    (case nb_C_Bend_bool => kit_is)
    (case nb_C_Bend_int => kit_is)
    (case nb_C_Bend_str => kit_is)
    (case nb_C_Bend_tuple => kit_is)
    (case nb_C_Bend_list => kit_is)
    (case nb_C_Bend_dict => kit_is)
    (case nb_C_Fork_NoneType => kit_is)
    (case nb_C_Fork_bool => kit_is)
    (case nb_C_Fork_int => kit_is)
    (case nb_C_Fork_str => kit_is)
    (case nb_C_Fork_tuple => kit_is)
    (case nb_C_Fork_list => kit_is)
    (case nb_C_Fork_dict => kit_is)
    (case oc_get => k_is)
    (case oc_tk => k_is)
    (case mro_C_Kind => k_is)
    (case pg_C_Kind => k_is)
    (case hd_C_Kind => k_is)
    (case po_C_Kind => k_is)
    (case sa_C_Kind => k_is)
    (case mro_C_DeadEnd => k_is)
    (case pg_C_DeadEnd => k_is)
    (case hd_C_DeadEnd => k_is)
    (case po_C_DeadEnd => k_is)
    (case sa_C_DeadEnd => k_is)
    (case mro_C_Bend => k_is)
    (case pg_C_Bend => k_is)
    (case hd_C_Bend => k_is)
    (case po_C_Bend => k_is)
    (case sa_C_Bend => k_is)
    (case mro_C_Fork => k_is)
    (case pg_C_Fork => k_is)
    (case hd_C_Fork => k_is)
    (case po_C_Fork => k_is)
    (case sa_C_Fork => k_is)
    (case nn_int => k_is)
    (case nn_isinstance => k_is)
    (case nn_bool => k_is)
    (case c_f_is_whole => k_is)
    (case k_f_is_whole => k_is)
    (case c_f_is_between => k_is)
    (case k_f_is_between => k_is)
    (case nn_str => k_is)
    (case nn_len => k_is)
    (case c_f_is_letter => k_is)
    (case k_f_is_letter => k_is)
    (case nn_all => k_is)
    (case c_f_is_word => k_is)
    (case k_f_is_word => k_is)
    (case c_f_is_port => k_is)
    (case k_f_is_port => k_is)
    (case na_C_Kind_letter => k_is)
    (case na_C_DeadEnd_letter => k_is)
    (case na_C_Bend_letter => k_is)
    (case na_C_Fork_letter => k_is)
    (case c_f_Kind___init__ => k_is)
    (case k_f_Kind___init__ => k_is)
    (case rd_C_Kind => k_is)
    (case ga_C_Kind => k_is)
    (case cg_C_Kind_ENDS => k_is)
    (case cv_C_Kind_ENDS => k_is)
    (case rd_C_DeadEnd => k_is)
    (case ga_C_DeadEnd => k_is)
    (case cg_C_DeadEnd_ENDS => k_is)
    (case cv_C_DeadEnd_ENDS => k_is)
    (case rd_C_Bend => k_is)
    (case ga_C_Bend => k_is)
    (case cg_C_Bend_ENDS => k_is)
    (case cv_C_Bend_ENDS => k_is)
    (case rd_C_Fork => k_is)
    (case ga_C_Fork => k_is)
    (case cg_C_Fork_ENDS => k_is)
    (case cv_C_Fork_ENDS => k_is)
    (case c_f_Kind___eq__ => k_is)
    (case k_f_Kind___eq__ => k_is)
    (case c_f_Kind___str__ => k_is)
    (case k_f_Kind___str__ => k_is)
    (case fn_f_Kind___str__ => k_is)
    (case c_f_Kind___lt__ => k_is)
    (case k_f_Kind___lt__ => k_is)
    (case fn_f_Kind___eq__ => k_is)
    (case x_nf_Kind_Kind => k_is)
    (case x_nf_DeadEnd_Kind => k_is)
    (case x_nf_DeadEnd_DeadEnd => k_is)
    (case x_nf_DeadEnd_Bend => k_is)
    (case x_nf_DeadEnd_Fork => k_is)
    (case x_nf_Bend_Kind => k_is)
    (case x_nf_Bend_DeadEnd => k_is)
    (case x_nf_Bend_Bend => k_is)
    (case x_nf_Bend_Fork => k_is)
    (case x_nf_Fork_Kind => k_is)
    (case x_nf_Fork_DeadEnd => k_is)
    (case x_nf_Fork_Bend => k_is)
    (case x_nf_Fork_Fork => k_is)
    (case nf_C_Kind_NoneType => k_is)
    (case nf_C_Kind_bool => k_is)
    (case nf_C_Kind_int => k_is)
    (case nf_C_Kind_str => k_is)
    (case nf_C_Kind_tuple => k_is)
    (case nf_C_Kind_list => k_is)
    (case nf_C_Kind_dict => k_is)
    (case nf_C_DeadEnd_NoneType => k_is)
    (case nf_C_DeadEnd_bool => k_is)
    (case nf_C_DeadEnd_int => k_is)
    (case nf_C_DeadEnd_str => k_is)
    (case nf_C_DeadEnd_tuple => k_is)
    (case nf_C_DeadEnd_list => k_is)
    (case nf_C_DeadEnd_dict => k_is)
    (case nf_C_Bend_NoneType => k_is)
    (case nf_C_Bend_bool => k_is)
    (case nf_C_Bend_int => k_is)
    (case nf_C_Bend_str => k_is)
    (case nf_C_Bend_tuple => k_is)
    (case nf_C_Bend_list => k_is)
    (case nf_C_Bend_dict => k_is)
    (case nf_C_Fork_NoneType => k_is)
    (case nf_C_Fork_bool => k_is)
    (case nf_C_Fork_int => k_is)
    (case nf_C_Fork_str => k_is)
    (case nf_C_Fork_tuple => k_is)
    (case nf_C_Fork_list => k_is)
    (case nf_C_Fork_dict => k_is)
    (case mk_C_DeadEnd => k_is)
    (case fn_f_Kind___init__ => k_is)
    (case k_C_DeadEnd => k_is)
    (case mk_C_Bend => k_is)
    (case k_C_Bend => k_is)
    (case mk_C_Fork => k_is)
    (case k_C_Fork => k_is)
    (case c_f_Kind_of => k_is)
    (case k_f_Kind_of => k_is)
    (case x_ne_Kind => k_is)
    (case x_ne_DeadEnd => k_is)
    (case x_ne_Bend => k_is)
    (case x_ne_Fork => k_is)
    (case c_f_Kind_read => k_is)
    (case k_f_Kind_read => k_is)
    (case nn_range => k_is)
    (case nn_tuple => k_is)
    (case c_f_Kind_ports => k_is)
    (case k_f_Kind_ports => k_is)
    (case sg_p_Kind_ports => k_is)
    (case tk_p_Kind_ports => k_is)
    (case c_f_Kind___contains__ => k_is)
    (case k_f_Kind___contains__ => k_is)
    (case nn_list => k_is)
    (case c_f__law_pen => k_is)
    (case k_f__law_pen => k_is)
    (case fn_f_Kind___lt__ => k_is)
    (case nn_abs => k_is)
    (case c_f__law_draw => k_is)
    (case k_f__law_draw => k_is)
    (case c_f__law_pick => k_is)
    (case k_f__law_pick => k_is)
    (case c_f__law_made => k_is)
    (case k_f__law_made => k_is)
    (case fi_f_Kind_read => k_is)
    (case c_f__law_read => k_is)
    (case k_f__law_read => k_is)
    (case nn_repr => k_is)
    (case fn_f_Kind___contains__ => k_is)
    (case c_f__law_told_right => k_is)
    (case k_f__law_told_right => k_is)
    (case c_f__law_pair_right => k_is)
    (case k_f__law_pair_right => k_is)
    (case c_f__law_is_letter => k_is)
    (case k_f__law_is_letter => k_is)
    (case c_f__law_is_word => k_is)
    (case k_f__law_is_word => k_is)
    (case c_f__law_names_right => k_is)
    (case k_f__law_names_right => k_is)
    (case c_f_law => k_is)
    (case k_f_law => k_is)
