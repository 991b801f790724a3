import PyProof.Rows.All
import Wide.All
import OpenK.AllK
import Wide.FinOn
import HandS.ForMost
import HandS.ForExc
import HandS.Deep
import HandS.TupAny
import HandS.TupMul
import HandS.Conv
import HandS.Zip
import HandS.IsInst
import HandS.Flow
import HandS.Style
import HandS.TupSets
import HandS.DictComp
import HandS.ExcInit
import KE.GoesMore
import KE.GoesEnum
import HandS.NoneIn
import HandS.Small
import HandS.TupLen
import PySem.Challenge.RW_placehues_k11_whole_histories_played
set_option Elab.async false
set_option linter.all false
set_option maxRecDepth 100000
/-! VL1: a layer of values over HandS: data trees D, what stands for them in the abstract heap (Rep), the state of a body (Ok), judgements. -/
namespace VL
open PySem PySem.Spec PyProof.Rows L2

/-- a value as a tree -/
inductive D where
  | non | bl (b : Bool) | int (i : Int) | str (x : Str)
  | tup (xs : List D) | lst (xs : List D)
  | dicK (kvs : List (Key × D)) | dicT (kvs : List (List Key × D))
  | rng (lo hi : Int) | set (xs : List Int)
  | urn | scr (K : PySem.W.Frag) (ns : List Int)

/-- a list of ints that is an object of the module -/
def KL (K : PySem.W.Frag) (a : Addr) (ns : List Int) : Prop :=
  ∃ (o : Obj) (its : Array Value) (n : Nat), K.lookup a = some o ∧ o.cls = .type "list" ∧ o.dict = none ∧ o.data = .seq its n ∧ its.size ≤ sizeLine ∧ Vals (ns.map V.int) its.toList

mutual
inductive Rep (u : Option Addr) (F : Addr → Prop) (H : Hp) : D → V → Prop
  | non : Rep u F H .non .non
  | bl (b : Bool) : Rep u F H (.bl b) (.bl b)
  | int (i : Int) : Rep u F H (.int i) (.int i)
  | str (x : Str) : Rep u F H (.str x) (.str x)
  | tup {a : Addr} {vs : List V} {ds : List D} : H a = some (.tup vs) → RepAll u F H ds vs → Rep u F H (.tup ds) (.ref a)
  | lst {a : Addr} {vs : List V} {ds : List D} : F a → H a = some (.lst vs) → RepAll u F H ds vs → Rep u F H (.lst ds) (.ref a)
  | dicK {a : Addr} {kvs : List (Key × V)} {ds : List (Key × D)} : F a → Rd H a (.dK kvs) → RepK u F H ds kvs → Rep u F H (.dicK ds) (.ref a)
  | dicT {a : Addr} {kvs : List (List Key × V)} {ds : List (List Key × D)} : F a → Rd H a (.dT kvs) → RepT u F H ds kvs → Rep u F H (.dicT ds) (.ref a)
  | rng {a : Addr} {lo hi : Int} : H a = some (.rng lo hi) → Rep u F H (.rng lo hi) (.ref a)
  | set {a : Addr} {S : Int → Bool} {n : Nat} {xs : List Int} : F a → H a = some (.set S n) → (∀ i, S i = decide (i ∈ xs)) → Rep u F H (.set xs) (.ref a)
  | urn {a : Addr} : u = some a → Rep u F H .urn (.ref a)
  | scr {K : PySem.W.Frag} {a : Addr} {ns : List Int} : (F a ∧ Rd H a (.lst (ns.map V.int))) ∨ KL K a ns → Rep u F H (.scr K ns) (.ref a)
inductive RepAll (u : Option Addr) (F : Addr → Prop) (H : Hp) : List D → List V → Prop
  | nil : RepAll u F H [] []
  | cons {d : D} {ds : List D} {v : V} {vs : List V} : Rep u F H d v → RepAll u F H ds vs → RepAll u F H (d :: ds) (v :: vs)
inductive RepK (u : Option Addr) (F : Addr → Prop) (H : Hp) : List (Key × D) → List (Key × V) → Prop
  | nil : RepK u F H [] []
  | cons {k : Key} {d : D} {ds : List (Key × D)} {v : V} {vs : List (Key × V)} : Rep u F H d v → RepK u F H ds vs → RepK u F H ((k, d) :: ds) ((k, v) :: vs)
inductive RepT (u : Option Addr) (F : Addr → Prop) (H : Hp) : List (List Key × D) → List (List Key × V) → Prop
  | nil : RepT u F H [] []
  | cons {k : List Key} {d : D} {ds : List (List Key × D)} {v : V} {vs : List (List Key × V)} : Rep u F H d v → RepT u F H ds vs → RepT u F H ((k, d) :: ds) ((k, v) :: vs)
end

/-- tuples and ranges never change -/
def Imm : HO → Prop
  | .tup _ => True
  | .rng _ _ => True
  | _ => False
/-- the state grows: what is frozen stays, what can't change stays -/
structure Grow (F : Addr → Prop) (H : Hp) (F' : Addr → Prop) (H' : Hp) : Prop where
  mono : ∀ a, F a → F' a
  same : ∀ a, F a → H' a = H a
  imm : ∀ a o, Imm o → H a = some o → H' a = some o
theorem Grow.refl {F : Addr → Prop} {H : Hp} : Grow F H F H := ⟨fun _ h => h, fun _ _ => rfl, fun _ _ _ h => h⟩
theorem Grow.trans {F F1 F2 : Addr → Prop} {H H1 H2 : Hp} (a : Grow F H F1 H1) (b : Grow F1 H1 F2 H2) : Grow F H F2 H2 :=
  ⟨fun x h => b.mono x (a.mono x h), fun x h => (b.same x (a.mono x h)).trans (a.same x h), fun x o i h => b.imm x o i (a.imm x o i h)⟩

section
variable {u : Option Addr} {F F' : Addr → Prop} {H H' : Hp}
theorem Rd.same {a : Addr} {o : HO} (e : H' a = H a) (h : Rd H a o) : Rd H' a o := by
  rcases h with h | ⟨ob, h⟩
  · exact .inl (e.trans h)
  · exact .inr ⟨ob, e.trans h⟩
mutual
theorem Rep.grow (g : Grow F H F' H') : ∀ {d : D} {v : V}, Rep u F H d v → Rep u F' H' d v
  | _, _, .non => .non
  | _, _, .bl b => .bl b
  | _, _, .int b => .int b
  | _, _, .str b => .str b
  | _, _, .tup h r => .tup (g.imm _ _ trivial h) (RepAll.grow g r)
  | _, _, .lst f h r => .lst (g.mono _ f) ((g.same _ f).trans h) (RepAll.grow g r)
  | _, _, .dicK f h r => .dicK (g.mono _ f) (Rd.same (g.same _ f) h) (RepK.grow g r)
  | _, _, .dicT f h r => .dicT (g.mono _ f) (Rd.same (g.same _ f) h) (RepT.grow g r)
  | _, _, .rng h => .rng (g.imm _ _ trivial h)
  | _, _, .set f h s => .set (g.mono _ f) ((g.same _ f).trans h) s
  | _, _, .urn e => .urn e
  | _, _, .scr h => .scr (h.imp (fun h => ⟨g.mono _ h.1, Rd.same (g.same _ h.1) h.2⟩) id)
theorem RepAll.grow (g : Grow F H F' H') : ∀ {d : List D} {v : List V}, RepAll u F H d v → RepAll u F' H' d v
  | _, _, .nil => .nil
  | _, _, .cons h r => .cons (Rep.grow g h) (RepAll.grow g r)
theorem RepK.grow (g : Grow F H F' H') : ∀ {d : List (Key × D)} {v : List (Key × V)}, RepK u F H d v → RepK u F' H' d v
  | _, _, .nil => .nil
  | _, _, .cons h r => .cons (Rep.grow g h) (RepK.grow g r)
theorem RepT.grow (g : Grow F H F' H') : ∀ {d : List (List Key × D)} {v : List (List Key × V)}, RepT u F H d v → RepT u F' H' d v
  | _, _, .nil => .nil
  | _, _, .cons h r => .cons (Rep.grow g h) (RepT.grow g r)
end
theorem RepAll.len : ∀ {d : List D} {v : List V}, RepAll u F H d v → d.length = v.length
  | _, _, .nil => rfl
  | _, _, .cons _ r => by rw [List.length_cons, List.length_cons, r.len]
theorem RepAll.get : ∀ {ds : List D} {vs : List V} {i : Nat} {v : V}, RepAll u F H ds vs → vs[i]? = some v → ∃ d, ds[i]? = some d ∧ Rep u F H d v
  | _, _, _, _, .nil, e => by simp at e
  | _, _, 0, _, .cons h _, e => by simp at e; subst e; exact ⟨_, rfl, h⟩
  | _, _, i + 1, v, .cons _ r, e => by
    obtain ⟨d, h1, h2⟩ := RepAll.get (i := i) (v := v) r (by simpa using e)
    exact ⟨d, by simpa using h1, h2⟩
theorem RepAll.getD : ∀ {ds : List D} {vs : List V} {i : Nat} {d : D}, RepAll u F H ds vs → ds[i]? = some d → ∃ v, vs[i]? = some v ∧ Rep u F H d v
  | _, _, _, _, .nil, e => by simp at e
  | _, _, 0, _, .cons h _, e => by simp at e; subst e; exact ⟨_, rfl, h⟩
  | _, _, i + 1, v, .cons _ r, e => by
    obtain ⟨d, h1, h2⟩ := RepAll.getD (i := i) (d := v) r (by simpa using e)
    exact ⟨d, by simpa using h1, h2⟩
theorem RepAll.append : ∀ {ds es : List D} {vs ws : List V}, RepAll u F H ds vs → RepAll u F H es ws → RepAll u F H (ds ++ es) (vs ++ ws)
  | _, _, _, _, .nil, s => s
  | _, _, _, _, .cons h r, s => .cons h (RepAll.append r s)
theorem RepAll.take : ∀ {ds : List D} {vs : List V} (n : Nat), RepAll u F H ds vs → RepAll u F H (ds.take n) (vs.take n)
  | _, _, 0, _ => .nil
  | _, _, _ + 1, .nil => .nil
  | _, _, n + 1, .cons r t => .cons r (RepAll.take n t)
theorem RepAll.drop : ∀ {ds : List D} {vs : List V} (n : Nat), RepAll u F H ds vs → RepAll u F H (ds.drop n) (vs.drop n)
  | _, _, 0, r => r
  | _, _, _ + 1, .nil => .nil
  | _, _, n + 1, .cons _ t => RepAll.drop n t
theorem RepAll.set {d : D} {v : V} (r : Rep u F H d v) : ∀ {ds : List D} {vs : List V} (i : Nat), RepAll u F H ds vs → RepAll u F H (ds.set i d) (vs.set i v)
  | _, _, _, .nil => .nil
  | _, _, 0, .cons _ t => .cons r t
  | _, _, i + 1, .cons q t => .cons q (RepAll.set r i t)
theorem RepAll.eraseIdx : ∀ {ds : List D} {vs : List V} (i : Nat), RepAll u F H ds vs → RepAll u F H (ds.eraseIdx i) (vs.eraseIdx i)
  | _, _, _, .nil => .nil
  | _, _, 0, .cons _ t => t
  | _, _, i + 1, .cons q t => .cons q (RepAll.eraseIdx i t)
theorem RepAll.flat {ds : List D} {vs : List V} (r : RepAll u F H ds vs) : ∀ n : Nat, RepAll u F H (List.replicate n ds).flatten (List.replicate n vs).flatten
  | 0 => .nil
  | n + 1 => by
    rw [List.replicate_succ, List.replicate_succ, List.flatten_cons, List.flatten_cons]
    exact r.append (RepAll.flat r n)
theorem RepAll.ints : ∀ (ns : List Int), RepAll u F H (ns.map D.int) (ns.map V.int)
  | [] => .nil
  | _ :: r => .cons (.int _) (RepAll.ints r)
end

/-! ### the machine's words -/
structure Urn where
  a : Int
  b : Int
  c : Int
inductive Sl where
  | un | val (d : D) | own (d : D)
abbrev Rho := List Sl
structure Exn where
  name : Str
  arg : Option Int
inductive R (α : Type) where
  | ok (a : α) (ρ : Rho) (U : Urn)
  | exc (x : Exn) (ρ : Rho) (U : Urn)
  | stk
abbrev M (α : Type) := Rho → Urn → R α
def R.bind {α β : Type} : R α → (α → M β) → R β
  | .ok a ρ U, f => f a ρ U
  | .exc x ρ U, _ => .exc x ρ U
  | .stk, _ => .stk
def M.bind {α β : Type} (m : M α) (f : α → M β) : M β := fun ρ U => (m ρ U).bind f
def M.ret {α : Type} (a : α) : M α := fun ρ U => .ok a ρ U
def M.stk {α : Type} : M α := fun _ _ => .stk
def M.opt {α : Type} : Option α → M α
  | some a => M.ret a
  | none => M.stk
/-- what a statement ends in -/
inductive Fl where
  | nx | bk | ct | ret (d : D)
abbrev S := M Fl
inductive FR where
  | ok (d : D) (U : Urn)
  | exc (x : Exn) (U : Urn)
  | stk
abbrev Fn := List D → Urn → FR
def fin : R Fl → FR
  | .ok (.ret d) _ U => .ok d U
  | .ok .nx _ U => .ok .non U
  | .ok _ _ _ => .stk
  | .exc x _ U => .exc x U
  | .stk => .stk
/-- a def of n names from its body -/
def mkFn (n : Nat) (body : S) : Fn := fun ds U => fin (body (ds.map Sl.val ++ List.replicate (n - ds.length) Sl.un) U)

/-! ### the state of a body -/
structure Cf where
  H0 : Hp
  F0 : Addr → Prop
  u : Option Addr

/-- what stands in an own slot -/
def Own (C : Cf) (F : Addr → Prop) (H : Hp) (a : Addr) : D → Prop
  | .lst ds => ∃ vs, H a = some (.lst vs) ∧ RepAll C.u F H ds vs
  | .dicK ds => ∃ vs, H a = some (.dK vs) ∧ RepK C.u F H ds vs
  | .dicT ds => ∃ vs, H a = some (.dT vs) ∧ RepT C.u F H ds vs
  | _ => False
theorem Own.mut {C : Cf} {F : Addr → Prop} {H : Hp} {a : Addr} {d : D} (h : Own C F H a d) : ∃ o, H a = some o ∧ Mut (some o) ∧ ¬ Imm o := by
  cases d with
  | lst ds => obtain ⟨vs, e, _⟩ := h; exact ⟨_, e, trivial, fun z => z⟩
  | dicK ds => obtain ⟨vs, e, _⟩ := h; exact ⟨_, e, trivial, fun z => z⟩
  | dicT ds => obtain ⟨vs, e, _⟩ := h; exact ⟨_, e, trivial, fun z => z⟩
  | _ => exact h.elim
theorem Own.grow {C : Cf} {F F' : Addr → Prop} {H H' : Hp} {a : Addr} {d : D} (g : Grow F H F' H') (e : H' a = H a) (h : Own C F H a d) : Own C F' H' a d := by
  cases d with
  | lst ds => obtain ⟨vs, q, r⟩ := h; exact ⟨vs, e.trans q, r.grow g⟩
  | dicK ds => obtain ⟨vs, q, r⟩ := h; exact ⟨vs, e.trans q, r.grow g⟩
  | dicT ds => obtain ⟨vs, q, r⟩ := h; exact ⟨vs, e.trans q, r.grow g⟩
  | _ => exact h.elim
/-- a slot is as it is told -/
def SlOk (C : Cf) (F : Addr → Prop) (H : Hp) : Sl → Option V → Prop
  | .un, _ => True
  | .val d, x => ∃ v, x = some v ∧ Rep C.u F H d v
  | .own d, x => ∃ a, x = some (.ref a) ∧ ¬ F a ∧ C.H0 a = none ∧ Own C F H a d
abbrev Ent := Sl × Option V
def ownA : Ent → Option Addr
  | (.own _, some (.ref a)) => some a
  | _ => none
/-- the state: the slots and what is held besides -/
structure Ok (C : Cf) (H : Hp) (F : Addr → Prop) (U : Urn) (L : List Ent) : Prop where
  all : ∀ p ∈ L, SlOk C F H p.1 p.2
  nod : (L.filterMap ownA).Nodup
  keep : ∀ a o, C.H0 a = some o → C.u ≠ some a → H a = some o
  fmono : ∀ a, C.F0 a → F a
  fnew : ∀ a, F a → C.F0 a ∨ C.H0 a = none
  fdom : ∀ a, F a → ∃ o, H a = some o
  fu : ∀ a, C.u = some a → ¬ F a
  urn : ∀ a, C.u = some a → H a = some (.lst [.int U.a, .int U.b, .int U.c])
  udom : ∀ a, C.u = some a → ∃ o, C.H0 a = some o

section
variable {C : Cf} {H H' : Hp} {F F' : Addr → Prop} {U : Urn} {L L' : List Ent}
theorem Ok.perm (h : Ok C H F U L) (p : L.Perm L') : Ok C H F U L' :=
  ⟨fun x hx => h.all x (p.mem_iff.mpr hx), (p.filterMap ownA).nodup_iff.mp h.nod, h.keep, h.fmono, h.fnew, h.fdom, h.fu, h.urn, h.udom⟩
theorem Ok.tail {e : Ent} (h : Ok C H F U (e :: L)) : Ok C H F U L := by
  refine ⟨fun x hx => h.all x (List.mem_cons_of_mem _ hx), ?_, h.keep, h.fmono, h.fnew, h.fdom, h.fu, h.urn, h.udom⟩
  have := h.nod
  rw [List.filterMap_cons] at this
  cases q : ownA e with
  | none => rw [q] at this; exact this
  | some a => rw [q] at this; exact (List.nodup_cons.mp this).2
theorem Ok.head {e : Ent} (h : Ok C H F U (e :: L)) : SlOk C F H e.1 e.2 := h.all e List.mem_cons_self
theorem Ok.none0 (h : Ok C H F U L) {p : Addr} (hp : H p = none) : C.H0 p = none ∧ C.u ≠ some p := by
  have hu : C.u ≠ some p := fun e => by rw [h.urn p e] at hp; cases hp
  refine ⟨?_, hu⟩
  cases q : C.H0 p with
  | none => rfl
  | some o => rw [h.keep p o q hu] at hp; cases hp
/-- a value's slot is put ahead -/
theorem Ok.val {d : D} {v : V} (h : Ok C H F U L) (r : Rep C.u F H d v) : Ok C H F U ((.val d, some v) :: L) :=
  ⟨fun x hx => by
    rcases List.mem_cons.mp hx with rfl | hx
    · exact ⟨v, rfl, r⟩
    · exact h.all x hx, h.nod, h.keep, h.fmono, h.fnew, h.fdom, h.fu, h.urn, h.udom⟩
theorem Ok.un {x : Option V} (h : Ok C H F U L) : Ok C H F U ((.un, x) :: L) :=
  ⟨fun y hx => by
    rcases List.mem_cons.mp hx with rfl | hx
    · trivial
    · exact h.all y hx, h.nod, h.keep, h.fmono, h.fnew, h.fdom, h.fu, h.urn, h.udom⟩
theorem ownA_val {d : D} {x : Option V} : ownA (.val d, x) = none := rfl
theorem ownA_un {x : Option V} : ownA (.un, x) = none := rfl
theorem mem_own {a : Addr} : a ∈ L.filterMap ownA ↔ ∃ d, (Sl.own d, some (V.ref a)) ∈ L := by
  rw [List.mem_filterMap]
  constructor
  · rintro ⟨⟨s, x⟩, h1, h2⟩
    cases s with
    | un => cases h2
    | val d => cases h2
    | own d =>
      cases x with
      | none => cases h2
      | some v =>
        cases v with
        | ref b =>
          have e : b = a := Option.some.inj h2
          exact ⟨d, by rw [← e]; exact h1⟩
        | _ => cases h2
  · rintro ⟨d, h⟩
    exact ⟨_, h, rfl⟩
/-- an own slot is put ahead -/
theorem Ok.own {d : D} {a : Addr} (h : Ok C H F U L) (f : ¬ F a) (h0 : C.H0 a = none) (o : Own C F H a d) (n : ∀ d', (Sl.own d', some (V.ref a)) ∉ L) : Ok C H F U ((.own d, some (.ref a)) :: L) :=
  ⟨fun x hx => by
    rcases List.mem_cons.mp hx with rfl | hx
    · exact ⟨a, rfl, f, h0, o⟩
    · exact h.all x hx, by
    rw [List.filterMap_cons]
    exact List.nodup_cons.mpr ⟨fun z => by obtain ⟨d', q⟩ := mem_own.mp z; exact n d' q, h.nod⟩, h.keep, h.fmono, h.fnew, h.fdom, h.fu, h.urn, h.udom⟩
/-- a new object is laid -/
theorem grow_new {p : Addr} {o : HO} (fd : ∀ a, F a → ∃ o, H a = some o) (hp : H p = none) : Grow F H F (upd H p o) :=
  ⟨fun _ h => h, fun a h => upd_ne (fun e => by subst e; obtain ⟨o, q⟩ := fd a h; rw [hp] at q; cases q), fun a o' _ h => by rw [upd_ne (ne_of_none h hp)]; exact h⟩
theorem Ok.new {p : Addr} {o : HO} (h : Ok C H F U L) (hp : H p = none) : Ok C (upd H p o) F U L := by
  have g : Grow F H F (upd H p o) := grow_new h.fdom hp
  refine ⟨fun x hx => ?_, h.nod, fun a o' e1 e2 => ?_, h.fmono, h.fnew, fun a f => ?_, h.fu, fun a e => ?_, h.udom⟩
  · have q := h.all x hx
    obtain ⟨s, y⟩ := x
    cases s with
    | un => trivial
    | val d => obtain ⟨v, e, r⟩ := q; exact ⟨v, e, r.grow g⟩
    | own d =>
      obtain ⟨a, e, f, h0, w⟩ := q
      obtain ⟨ob, e2, _⟩ := w.mut
      exact ⟨a, e, f, h0, w.grow g (upd_ne (ne_of_none e2 hp))⟩
  · have q := h.keep a o' e1 e2
    rw [upd_ne (ne_of_none q hp)]; exact q
  · obtain ⟨o', q⟩ := h.fdom a f
    exact ⟨o', by rw [upd_ne (ne_of_none q hp)]; exact q⟩
  · have q := h.urn a e
    rw [upd_ne (ne_of_none q hp)]; exact q
/-- the first own slot is frozen -/
theorem Ok.freeze {d : D} {a : Addr} (h : Ok C H F U ((.own d, some (.ref a)) :: L)) : Ok C H (fun b => F b ∨ b = a) U ((.val d, some (.ref a)) :: L) := by
  obtain ⟨a', e, f, h0, w⟩ := h.head
  have e' : a = a' := by simpa using e
  subst e'
  obtain ⟨ob, e2, mu, im⟩ := w.mut
  have g : Grow F H (fun b => F b ∨ b = a) H := ⟨fun _ h => .inl h, fun _ _ => rfl, fun _ _ _ h => h⟩
  have hn := h.nod
  rw [List.filterMap_cons] at hn
  have hn2 := List.nodup_cons.mp (show (a :: L.filterMap ownA).Nodup from hn)
  refine ⟨fun x hx => ?_, ?_, h.keep, fun b q => .inl (h.fmono b q), fun b q => ?_, fun b q => ?_, fun b q z => ?_, h.urn, h.udom⟩
  · rcases List.mem_cons.mp hx with rfl | hx2
    · refine ⟨.ref a, rfl, ?_⟩
      cases d with
      | lst ds => obtain ⟨vs, q, r⟩ := w; exact .lst (.inr rfl) q (r.grow g)
      | dicK ds => obtain ⟨vs, q, r⟩ := w; exact .dicK (.inr rfl) (.inl q) (r.grow g)
      | dicT ds => obtain ⟨vs, q, r⟩ := w; exact .dicT (.inr rfl) (.inl q) (r.grow g)
      | _ => exact w.elim
    · have q := h.all x (List.mem_cons_of_mem _ hx2)
      obtain ⟨s, y⟩ := x
      cases s with
      | un => trivial
      | val d => obtain ⟨v, e, r⟩ := q; exact ⟨v, e, r.grow g⟩
      | own d =>
        obtain ⟨b, ey, f, h0, w⟩ := q
        refine ⟨b, ey, fun z => ?_, h0, w.grow g rfl⟩
        rcases z with z | z
        · exact f z
        · have ey2 : y = some (.ref b) := ey
          rw [ey2, z] at hx2
          exact hn2.1 (mem_own.mpr ⟨d, hx2⟩)
  · rw [List.filterMap_cons]; exact hn2.2
  · rcases q with q | q
    · exact h.fnew b q
    · subst q; exact .inr h0
  · rcases q with q | q
    · exact h.fdom b q
    · subst q; exact ⟨_, e2⟩
  · rcases z with z | z
    · exact h.fu b q z
    · subst z
      obtain ⟨o, z⟩ := h.udom b q
      rw [h0] at z; cases z
/-- the first own slot's object is written -/
theorem Ok.write {d d' : D} {a : Addr} {o : HO} (h : Ok C H F U ((.own d, some (.ref a)) :: L)) (w' : (∀ d v, Rep C.u F H d v → Rep C.u F (upd H a o) d v) → Own C F (upd H a o) a d') :
    Ok C (upd H a o) F U ((.own d', some (.ref a)) :: L) := by
  obtain ⟨a', e, f, h0, w⟩ := h.head
  have e' : a = a' := by simpa using e
  subst e'
  obtain ⟨ob, e2, mu, im⟩ := w.mut
  have g : Grow F H F (upd H a o) := ⟨fun _ h => h, fun b q => upd_ne fun z => f (z ▸ q), fun b o' i q => by
    rw [upd_ne]
    · exact q
    · intro z; subst z; rw [e2] at q; cases q; exact im i⟩
  have hn := h.nod
  rw [List.filterMap_cons] at hn
  have hn2 := List.nodup_cons.mp (show (a :: L.filterMap ownA).Nodup from hn)
  refine ⟨fun x hx => ?_, ?_, fun b o' e1 e3 => ?_, h.fmono, h.fnew, fun b q => ?_, h.fu, fun b q => ?_, h.udom⟩
  · rcases List.mem_cons.mp hx with rfl | hx2
    · exact ⟨a, rfl, f, h0, w' fun d v r => r.grow g⟩
    · have q := h.all x (List.mem_cons_of_mem _ hx2)
      obtain ⟨s, y⟩ := x
      cases s with
      | un => trivial
      | val d => obtain ⟨v, e, r⟩ := q; exact ⟨v, e, r.grow g⟩
      | own d =>
        obtain ⟨b, ey, f, h0, w⟩ := q
        refine ⟨b, ey, f, h0, w.grow g (upd_ne fun z => ?_)⟩
        have ey2 : y = some (.ref b) := ey
        rw [ey2, z] at hx2
        exact hn2.1 (mem_own.mpr ⟨d, hx2⟩)
  · rw [List.filterMap_cons]; exact hn
  · rw [upd_ne]
    · exact h.keep b o' e1 e3
    · intro z; subst z; rw [h0] at e1; cases e1
  · obtain ⟨o', q⟩ := h.fdom b q
    by_cases z : b = a
    · subst z; exact ⟨o, upd_same⟩
    · exact ⟨o', by rw [upd_ne z]; exact q⟩
  · rw [upd_ne]
    · exact h.urn b q
    · intro z; subst z
      obtain ⟨o, z⟩ := h.udom b q
      rw [h0] at z; cases z
/-- the urn is written -/
theorem Ok.urnw {a : Addr} {U' : Urn} (h : Ok C H F U L) (hu : C.u = some a) : Ok C (upd H a (.lst [.int U'.a, .int U'.b, .int U'.c])) F U' L := by
  have e2 := h.urn a hu
  have g : Grow F H F (upd H a (.lst [.int U'.a, .int U'.b, .int U'.c])) := ⟨fun _ h => h, fun b q => upd_ne fun z => h.fu a hu (z ▸ q), fun b o' i q => by
    rw [upd_ne]
    · exact q
    · intro z; subst z; rw [e2] at q; cases q; exact i.elim⟩
  refine ⟨fun x hx => ?_, h.nod, fun b o' e1 e3 => ?_, h.fmono, h.fnew, fun b q => ?_, h.fu, fun b q => ?_, h.udom⟩
  · have q := h.all x hx
    obtain ⟨s, y⟩ := x
    cases s with
    | un => trivial
    | val d => obtain ⟨v, e, r⟩ := q; exact ⟨v, e, r.grow g⟩
    | own d =>
      obtain ⟨b, e, f, h0, w⟩ := q
      refine ⟨b, e, f, h0, w.grow g (upd_ne fun z => ?_)⟩
      subst z
      obtain ⟨o, z⟩ := h.udom b hu
      rw [h0] at z; cases z
  · rw [upd_ne fun z => e3 (by rw [z]; exact hu)]; exact h.keep b o' e1 e3
  · obtain ⟨o', q⟩ := h.fdom b q
    by_cases z : b = a
    · subst z; exact ⟨_, upd_same⟩
    · exact ⟨o', by rw [upd_ne z]; exact q⟩
  · have e : b = a := by rw [hu] at q; exact (Option.some.inj q).symm
    subst e; exact upd_same
end

/-! ### σ, ρ and what is held besides -/
structure Wf (C : Cf) (H : Hp) (F : Addr → Prop) (U : Urn) (σ : L2.St) (ρ : Rho) (E : List Ent) : Prop where
  len : ρ.length = σ.length
  ok : Ok C H F U (ρ.zip σ ++ E)
section
variable {C : Cf} {H H' : Hp} {F F' : Addr → Prop} {U : Urn} {σ : L2.St} {ρ : Rho} {E : List Ent}
theorem Wf.push {d : D} {v : V} (h : Wf C H F U σ ρ E) (r : Rep C.u F H d v) : Wf C H F U σ ρ ((.val d, some v) :: E) :=
  ⟨h.len, (h.ok.val r).perm (List.perm_middle.symm)⟩
theorem Wf.pushO {d : D} {a : Addr} (h : Wf C H F U σ ρ E) (f : ¬ F a) (h0 : C.H0 a = none) (o : Own C F H a d) (n : ∀ d', (Sl.own d', some (V.ref a)) ∉ ρ.zip σ ++ E) : Wf C H F U σ ρ ((.own d, some (.ref a)) :: E) :=
  ⟨h.len, (h.ok.own f h0 o n).perm (List.perm_middle.symm)⟩
theorem Wf.pop {e : Ent} (h : Wf C H F U σ ρ (e :: E)) : Wf C H F U σ ρ E := ⟨h.len, (h.ok.perm List.perm_middle).tail⟩
theorem Wf.top {e : Ent} (h : Wf C H F U σ ρ (e :: E)) : SlOk C F H e.1 e.2 := (h.ok.perm List.perm_middle).head
theorem Wf.topV {d : D} {x : Option V} (h : Wf C H F U σ ρ ((.val d, x) :: E)) : ∃ v, x = some v ∧ Rep C.u F H d v := h.top
theorem Wf.topR {d : D} {v : V} (h : Wf C H F U σ ρ ((.val d, some v) :: E)) : Rep C.u F H d v := by
  obtain ⟨v', e, r⟩ := h.top
  have e : v = v' := by simpa using e
  subst e; exact r
theorem Wf.new {p : Addr} {o : HO} (h : Wf C H F U σ ρ E) (hp : H p = none) : Wf C (upd H p o) F U σ ρ E := ⟨h.len, h.ok.new hp⟩
theorem Wf.freezeTop {d : D} {a : Addr} (h : Wf C H F U σ ρ ((.own d, some (.ref a)) :: E)) : Wf C H (fun b => F b ∨ b = a) U σ ρ ((.val d, some (.ref a)) :: E) :=
  ⟨h.len, ((h.ok.perm List.perm_middle).freeze).perm List.perm_middle.symm⟩
theorem Wf.writeTop {d d' : D} {a : Addr} {o : HO} (h : Wf C H F U σ ρ ((.own d, some (.ref a)) :: E)) (w' : (∀ d v, Rep C.u F H d v → Rep C.u F (upd H a o) d v) → Own C F (upd H a o) a d') :
    Wf C (upd H a o) F U σ ρ ((.own d', some (.ref a)) :: E) := ⟨h.len, ((h.ok.perm List.perm_middle).write w').perm List.perm_middle.symm⟩
theorem zip_get {ρ : Rho} {σ : L2.St} {i : Nat} {s : Sl} (l : ρ.length = σ.length) (e : ρ[i]? = some s) : ∃ x, σ[i]? = some x ∧ (ρ.zip σ)[i]? = some (s, x) := by
  have hi : i < ρ.length := (List.getElem?_eq_some_iff.mp e).1
  refine ⟨σ[i]'(l ▸ hi), List.getElem?_eq_getElem _, ?_⟩
  rw [List.getElem?_zip_eq_some]
  exact ⟨e, List.getElem?_eq_getElem _⟩
/-- the slot i is taken out, put ahead of what is held -/
theorem perm_out {ρ : Rho} {σ : L2.St} {i : Nat} {s : Sl} {x : Option V} {E : List Ent} (l : ρ.length = σ.length) (e : ρ[i]? = some s) (ex : σ[i]? = some x) (s' : Sl) (x' : Option V) :
    ((ρ.set i s').zip (σ.set i x') ++ (s, x) :: E).Perm ((s', x') :: (ρ.zip σ ++ E)) := by
  induction ρ generalizing σ i with
  | nil => simp at e
  | cons r ρ ih =>
    cases σ with
    | nil => simp at l
    | cons y σ =>
      cases i with
      | zero =>
        have e1 : r = s := by simpa using e
        have e2 : y = x := by simpa using ex
        subst e1 e2
        show ((s', x') :: (ρ.zip σ ++ (r, y) :: E)).Perm ((s', x') :: (r, y) :: (ρ.zip σ ++ E))
        exact List.Perm.cons _ List.perm_middle
      | succ i =>
        have := ih (σ := σ) (i := i) (by simpa using l) (by simpa using e) (by simpa using ex)
        show ((r, y) :: ((ρ.set i s').zip (σ.set i x') ++ (s, x) :: E)).Perm ((s', x') :: (r, y) :: (ρ.zip σ ++ E))
        exact (List.Perm.cons _ this).trans (List.Perm.swap _ _ _)
/-- the slot i is put out of ρ, held besides -/
theorem Wf.out {i : Nat} {s : Sl} (h : Wf C H F U σ ρ E) (e : ρ[i]? = some s) : ∃ x, σ[i]? = some x ∧ Wf C H F U σ (ρ.set i .un) ((s, x) :: E) := by
  obtain ⟨x, ex, _⟩ := zip_get h.len e
  refine ⟨x, ex, by rw [List.length_set]; exact h.len, ?_⟩
  have hs : σ.set i x = σ := by
    apply List.ext_getElem?
    intro j
    by_cases hj : i = j
    · subst hj
      have hi : i < σ.length := (List.getElem?_eq_some_iff.mp ex).1
      rw [List.getElem?_set_self hi, ex]
    · rw [List.getElem?_set_ne hj]
  have p := perm_out (E := E) h.len e ex .un x
  rw [hs] at p
  exact (h.ok.un (x := x)).perm p.symm
/-- .. and back, as another one -/
theorem Wf.back {i : Nat} {s : Sl} {x : Option V} (h : Wf C H F U σ ρ ((s, x) :: E)) (e : ρ[i]? = some .un) (ex : σ[i]? = some x) : Wf C H F U σ (ρ.set i s) E := by
  refine ⟨by rw [List.length_set]; exact h.len, ?_⟩
  have hs : σ.set i x = σ := by
    apply List.ext_getElem?
    intro j
    by_cases hj : i = j
    · subst hj
      have hi : i < σ.length := (List.getElem?_eq_some_iff.mp ex).1
      rw [List.getElem?_set_self hi, ex]
    · rw [List.getElem?_set_ne hj]
  have p := perm_out (E := E) h.len e ex s x
  rw [hs] at p
  have q : Ok C H F U ((s, x) :: (ρ.zip σ ++ E)) := h.ok.perm List.perm_middle
  exact (q.perm p.symm |>.perm List.perm_middle).tail
/-- a slot is stored -/
theorem Wf.store {i : Nat} {s : Sl} {x : Option V} (h : Wf C H F U σ ρ ((s, x) :: E)) (hi : i < ρ.length) : Wf C H F U (σ.set i x) (ρ.set i s) E := by
  have hi2 : i < σ.length := h.len ▸ hi
  refine ⟨by rw [List.length_set, List.length_set]; exact h.len, ?_⟩
  have p := perm_out (E := E) h.len (List.getElem?_eq_getElem hi) (List.getElem?_eq_getElem hi2) s x
  have q : Ok C H F U ((s, x) :: (ρ.zip σ ++ E)) := h.ok.perm List.perm_middle
  exact (q.perm p.symm |>.perm List.perm_middle).tail
theorem set_set_self {α : Type} {l : List α} {i : Nat} {x y : α} (e : l[i]? = some y) : (l.set i x).set i y = l := by
  apply List.ext_getElem?
  intro j
  by_cases hj : i = j
  · subst hj
    have hi : i < l.length := (List.getElem?_eq_some_iff.mp e).1
    rw [List.getElem?_set_self (by simpa using hi), e]
  · rw [List.getElem?_set_ne hj, List.getElem?_set_ne hj]
theorem Wf.get {i : Nat} {s : Sl} (h : Wf C H F U σ ρ E) (e : ρ[i]? = some s) : ∃ x, σ[i]? = some x ∧ SlOk C F H s x := by
  obtain ⟨x, ex, w⟩ := h.out e
  exact ⟨x, ex, w.top⟩
theorem Wf.getV {i : Nat} {d : D} (h : Wf C H F U σ ρ E) (e : ρ[i]? = some (.val d)) : ∃ v, σ[i]? = some (some v) ∧ Rep C.u F H d v := by
  obtain ⟨x, ex, v, rfl, r⟩ := h.get e
  exact ⟨v, ex, r⟩
/-- an own slot is frozen where it stands -/
theorem Wf.freeze {i : Nat} {d : D} (h : Wf C H F U σ ρ E) (e : ρ[i]? = some (.own d)) : ∃ a, σ[i]? = some (some (.ref a)) ∧ ∃ F', Wf C H F' U σ (ρ.set i (.val d)) E ∧ Rep C.u F' H d (.ref a) := by
  obtain ⟨x, ex, w⟩ := h.out e
  obtain ⟨a, rfl, _⟩ := w.top
  refine ⟨a, ex, _, ?_, w.freezeTop.topR⟩
  have hi : i < ρ.length := (List.getElem?_eq_some_iff.mp e).1
  have b := w.freezeTop.back (i := i) (by rw [List.getElem?_set_self hi]) ex
  rw [List.set_set] at b
  exact b
theorem getElem?_set_self' {α : Type} {l : List α} {i : Nat} {x y : α} (e : l[i]? = some y) : (l.set i x)[i]? = some x := by
  rw [List.getElem?_set_self (List.getElem?_eq_some_iff.mp e).1]
end

/-! ### judgements -/
/-- how an exception lies -/
def XR (mg : Str → Option Value) (x : Exn) (c : Value) (d : Option Addr) (H : Hp) : Prop :=
  ∃ C, mg x.name = some (.ref C) ∧ c = .ref C ∧ match x.arg with
    | none => d = none
    | some i => ∃ dd, d = some dd ∧ H dd = some (.xd [("place", .int i)])
def XPost (C : Cf) (σ : L2.St) (E : List Ent) (mg : Str → Option Value) (W : XK) (x : Exn) (ρ' : Rho) (U' : Urn) : Prop :=
  ∀ c dd H' F', Wf C H' F' U' σ ρ' E → XR mg x c dd H' → W c dd H'
def EPost (C : Cf) (σ : L2.St) (E : List Ent) (mg : Str → Option Value) (W : XK) (Q : VK) : R D → Prop
  | .ok d ρ' U' => ∀ v H' F', Wf C H' F' U' σ ρ' E → Rep C.u F' H' d v → Q v H'
  | .exc x ρ' U' => XPost C σ E mg W x ρ' U'
  | .stk => False
/-- an expression whose value is frozen -/
def CE (X : Cx) (W : XK) (e : Expr) (m : M D) : Prop :=
  ∃ t, PE X e t ∧ ∀ C σ ρ E H F U Q, Wf C H F U σ ρ E → EPost C σ E X.mg W Q (m ρ U) → t σ H Q
def OPost (C : Cf) (σ : L2.St) (E : List Ent) (mg : Str → Option Value) (W : XK) (Q : VK) : R D → Prop
  | .ok d ρ' U' => ∀ a H' F', Wf C H' F' U' σ ρ' ((.own d, some (.ref a)) :: E) → Q (.ref a) H'
  | .exc x ρ' U' => XPost C σ E mg W x ρ' U'
  | .stk => False
/-- an expression that makes a new list, a new dict -/
def CO (X : Cx) (W : XK) (e : Expr) (m : M D) : Prop :=
  ∃ t, PE X e t ∧ ∀ C σ ρ E H F U Q, Wf C H F U σ ρ E → OPost C σ E X.mg W Q (m ρ U) → t σ H Q
def TPost (C : Cf) (σ : L2.St) (E : List Ent) (mg : Str → Option Value) (W : XK) (Q : Bool → Hp → Prop) : R Bool → Prop
  | .ok b ρ' U' => ∀ H' F', Wf C H' F' U' σ ρ' E → Q b H'
  | .exc x ρ' U' => XPost C σ E mg W x ρ' U'
  | .stk => False
def CT (X : Cx) (W : XK) (e : Expr) (m : M Bool) : Prop :=
  ∃ t, PT X e t ∧ ∀ C σ ρ E H F U Q, Wf C H F U σ ρ E → TPost C σ E X.mg W Q (m ρ U) → t σ H Q
/-- arguments -/
def APost (C : Cf) (σ : L2.St) (E : List Ent) (mg : Str → Option Value) (W : XK) (Q : List V → Hp → Prop) : R (List D) → Prop
  | .ok ds ρ' U' => ∀ vs H' F', Wf C H' F' U' σ ρ' E → RepAll C.u F' H' ds vs → Q vs H'
  | .exc x ρ' U' => XPost C σ E mg W x ρ' U'
  | .stk => False
def CA (X : Cx) (W : XK) (es : List Expr) (m : M (List D)) : Prop :=
  ∃ t, PA X es t ∧ ∀ C σ ρ E H F U Q, Wf C H F U σ ρ E → APost C σ E X.mg W Q (m ρ U) → t σ H Q
/-- arguments, some of them new lists -/
def MPost (C : Cf) (σ : L2.St) (E : List Ent) (mg : Str → Option Value) (W : XK) (Q : List V → Hp → Prop) : R (List Sl) → Prop
  | .ok ss ρ' U' => ∀ vs H' F', vs.length = ss.length → Wf C H' F' U' σ ρ' (ss.zip (vs.map some) ++ E) → Q vs H'
  | .exc x ρ' U' => XPost C σ E mg W x ρ' U'
  | .stk => False
def CM (X : Cx) (W : XK) (es : List Expr) (m : M (List Sl)) : Prop :=
  ∃ t, PA X es t ∧ ∀ C σ ρ E H F U Q, Wf C H F U σ ρ E → MPost C σ E X.mg W Q (m ρ U) → t σ H Q
def SPost (C : Cf) (E : List Ent) (mg : Str → Option Value) (W : XK) (D : Ends) : R Fl → Prop
  | .ok .nx ρ' U' => ∀ σ' H' F', Wf C H' F' U' σ' ρ' E → D.nx σ' H'
  | .ok .bk ρ' U' => ∀ σ' H' F', Wf C H' F' U' σ' ρ' E → D.bk σ' H'
  | .ok .ct ρ' U' => ∀ σ' H' F', Wf C H' F' U' σ' ρ' E → D.ct σ' H'
  | .ok (.ret d) ρ' U' => ∀ v σ' H' F', Wf C H' F' U' σ' ρ' E → Rep C.u F' H' d v → D.rt v H'
  | .exc x ρ' U' => ∀ c dd σ' H' F', Wf C H' F' U' σ' ρ' E → XR mg x c dd H' → W c dd H'
  | .stk => False
def CS (X : Cx) (W : XK) (st : Stmt) (m : S) : Prop :=
  ∃ t, PS X st t ∧ ∀ C σ ρ E H F U D, Wf C H F U σ ρ E → SPost C E X.mg W D (m ρ U) → t D σ H
def CSs (X : Cx) (W : XK) (st : List Stmt) (m : S) : Prop :=
  ∃ t, PSs X st t ∧ ∀ C σ ρ E H F U D, Wf C H F U σ ρ E → SPost C E X.mg W D (m ρ U) → t D σ H
/-- a target -/
def GPost (C : Cf) (E : List Ent) (mg : Str → Option Value) (W : XK) (Q : L2.St → Hp → Prop) : R Unit → Prop
  | .ok _ ρ' U' => ∀ σ' H' F', Wf C H' F' U' σ' ρ' E → Q σ' H'
  | .exc x ρ' U' => ∀ c dd σ' H' F', Wf C H' F' U' σ' ρ' E → XR mg x c dd H' → W c dd H'
  | .stk => False
def CG (X : Cx) (W : XK) (tg : Expr) (m : Sl → M Unit) : Prop :=
  ∃ t, PG X tg t ∧ ∀ C σ ρ E H F U Q s v, Wf C H F U σ ρ ((s, some v) :: E) → GPost C E X.mg W Q (m s ρ U) → t v σ H Q
def CGs (X : Cx) (W : XK) (tg : List Expr) (m : List Sl → M Unit) : Prop :=
  ∃ t, PGs X tg t ∧ ∀ C σ ρ E H F U Q ss vs, vs.length = ss.length → Wf C H F U σ ρ (ss.zip (vs.map some) ++ E) → GPost C E X.mg W Q (m ss ρ U) → t vs σ H Q
/-- what stands around a body -/
structure Good (X : Cx) : Prop where
  calm : X.calm = true
  nd : X.N.Nodup
  hu : X.A.units + 65 < cLine
theorem CO.ce {X : Cx} {W : XK} {e : Expr} {m : M D} (h : CO X W e m) : CE X W e m := by
  obtain ⟨t, p, q⟩ := h
  refine ⟨t, p, fun C σ ρ E H F U Q w z => q C σ ρ E H F U Q w ?_⟩
  cases r : m ρ U with
  | ok d ρ' U' =>
    rw [r] at z
    intro a H' F' w'
    have z : ∀ v H' F', Wf C H' F' U' σ ρ' E → Rep C.u F' H' d v → Q v H' := z
    exact z _ _ _ w'.freezeTop.pop w'.freezeTop.topR
  | exc x ρ' U' => rw [r] at z; exact z
  | stk => rw [r] at z; exact z
end VL

set_option maxRecDepth 100000
/-! VL2: expressions. -/
namespace VL
open PySem PySem.Spec PyProof.Rows L2

section
variable {C : Cf} {H : Hp} {F : Addr → Prop} {U : Urn} {σ : L2.St} {ρ : Rho} {E : List Ent} {mg : Str → Option Value} {W : XK} {x : Exn}
theorem XPost.pop {e : Ent} (h : XPost C σ E mg W x ρ U) : XPost C σ (e :: E) mg W x ρ U := fun c dd H' F' w r => h c dd H' F' w.pop r
theorem Wf.popN {L : List Ent} (h : Wf C H F U σ ρ (L ++ E)) : Wf C H F U σ ρ E := by
  induction L with
  | nil => exact h
  | cons e L ih => exact ih h.pop
theorem XPost.popN {L : List Ent} (h : XPost C σ E mg W x ρ U) : XPost C σ (L ++ E) mg W x ρ U := fun c dd H' F' w r => h c dd H' F' w.popN r
end

/-! ### running a part -/
section
variable {X : Cx} {W : XK} {C : Cf} {H : Hp} {F : Addr → Prop} {U : Urn} {σ : L2.St} {ρ : Rho} {E : List Ent} {α : Type}
def Rc {β : Type} (C : Cf) (σ : L2.St) (E : List Ent) (mg : Str → Option Value) (W : XK) (P : R β → Prop) : Prop := (∀ x ρ' U', P (.exc x ρ' U') → XPost C σ E mg W x ρ' U') ∧ (P .stk → False)
theorem Rc.e {mg : Str → Option Value} {Q : VK} : Rc C σ E mg W (EPost C σ E mg W Q) := ⟨fun _ _ _ h => h, fun h => h⟩
theorem Rc.o {mg : Str → Option Value} {Q : VK} : Rc C σ E mg W (OPost C σ E mg W Q) := ⟨fun _ _ _ h => h, fun h => h⟩
theorem Rc.t {mg : Str → Option Value} {Q : Bool → Hp → Prop} : Rc C σ E mg W (TPost C σ E mg W Q) := ⟨fun _ _ _ h => h, fun h => h⟩
theorem Rc.a {mg : Str → Option Value} {Q : List V → Hp → Prop} : Rc C σ E mg W (APost C σ E mg W Q) := ⟨fun _ _ _ h => h, fun h => h⟩
theorem Rc.m {mg : Str → Option Value} {Q : List V → Hp → Prop} : Rc C σ E mg W (MPost C σ E mg W Q) := ⟨fun _ _ _ h => h, fun h => h⟩
theorem Rc.pop {β : Type} {mg : Str → Option Value} {P : R β → Prop} {e : Ent} (h : Rc C σ E mg W P) : Rc C σ (e :: E) mg W P := ⟨fun x ρ U q => (h.1 x ρ U q).pop, h.2⟩
theorem Rc.popN {β : Type} {mg : Str → Option Value} {P : R β → Prop} {L : List Ent} (h : Rc C σ E mg W P) : Rc C σ (L ++ E) mg W P := ⟨fun x ρ U q => (h.1 x ρ U q).popN, h.2⟩

theorem runE {β : Type} {m : M D} {k : D → M β} {P : R β → Prop} {t : TE} {Q : VK} (q : ∀ C σ ρ E H F U Q, Wf C H F U σ ρ E → EPost C σ E X.mg W Q (m ρ U) → t σ H Q) (w : Wf C H F U σ ρ E) (rc : Rc C σ E X.mg W P)
    (z : P ((m ρ U).bind k)) (h : ∀ d ρ' U' v H' F', Wf C H' F' U' σ ρ' E → Rep C.u F' H' d v → P (k d ρ' U') → Q v H') : t σ H Q := by
  refine q C σ ρ E H F U Q w ?_
  cases r : m ρ U with
  | ok d ρ' U' => rw [r] at z; exact fun v H' F' w' r' => h d ρ' U' v H' F' w' r' z
  | exc x ρ' U' => rw [r] at z; exact rc.1 x ρ' U' z
  | stk => rw [r] at z; exact rc.2 z
theorem runO {β : Type} {m : M D} {k : D → M β} {P : R β → Prop} {t : TE} {Q : VK} (q : ∀ C σ ρ E H F U Q, Wf C H F U σ ρ E → OPost C σ E X.mg W Q (m ρ U) → t σ H Q) (w : Wf C H F U σ ρ E) (rc : Rc C σ E X.mg W P)
    (z : P ((m ρ U).bind k)) (h : ∀ d ρ' U' a H' F', Wf C H' F' U' σ ρ' ((.own d, some (.ref a)) :: E) → P (k d ρ' U') → Q (.ref a) H') : t σ H Q := by
  refine q C σ ρ E H F U Q w ?_
  cases r : m ρ U with
  | ok d ρ' U' => rw [r] at z; exact fun a H' F' w' => h d ρ' U' a H' F' w' z
  | exc x ρ' U' => rw [r] at z; exact rc.1 x ρ' U' z
  | stk => rw [r] at z; exact rc.2 z
theorem runT {β : Type} {m : M Bool} {k : Bool → M β} {P : R β → Prop} {t : TT} {Q : Bool → Hp → Prop} (q : ∀ C σ ρ E H F U Q, Wf C H F U σ ρ E → TPost C σ E X.mg W Q (m ρ U) → t σ H Q) (w : Wf C H F U σ ρ E) (rc : Rc C σ E X.mg W P)
    (z : P ((m ρ U).bind k)) (h : ∀ b ρ' U' H' F', Wf C H' F' U' σ ρ' E → P (k b ρ' U') → Q b H') : t σ H Q := by
  refine q C σ ρ E H F U Q w ?_
  cases r : m ρ U with
  | ok d ρ' U' => rw [r] at z; exact fun H' F' w' => h d ρ' U' H' F' w' z
  | exc x ρ' U' => rw [r] at z; exact rc.1 x ρ' U' z
  | stk => rw [r] at z; exact rc.2 z
theorem runA {β : Type} {m : M (List D)} {k : List D → M β} {P : R β → Prop} {t : TA} {Q : List V → Hp → Prop} (q : ∀ C σ ρ E H F U Q, Wf C H F U σ ρ E → APost C σ E X.mg W Q (m ρ U) → t σ H Q) (w : Wf C H F U σ ρ E) (rc : Rc C σ E X.mg W P)
    (z : P ((m ρ U).bind k)) (h : ∀ ds ρ' U' vs H' F', m ρ U = .ok ds ρ' U' → Wf C H' F' U' σ ρ' E → RepAll C.u F' H' ds vs → P (k ds ρ' U') → Q vs H') : t σ H Q := by
  refine q C σ ρ E H F U Q w ?_
  cases r : m ρ U with
  | ok d ρ' U' => rw [r] at z; exact fun v H' F' w' r' => h d ρ' U' v H' F' r w' r' z
  | exc x ρ' U' => rw [r] at z; exact rc.1 x ρ' U' z
  | stk => rw [r] at z; exact rc.2 z
theorem runM {β : Type} {m : M (List Sl)} {k : List Sl → M β} {P : R β → Prop} {t : TA} {Q : List V → Hp → Prop} (q : ∀ C σ ρ E H F U Q, Wf C H F U σ ρ E → MPost C σ E X.mg W Q (m ρ U) → t σ H Q) (w : Wf C H F U σ ρ E) (rc : Rc C σ E X.mg W P)
    (z : P ((m ρ U).bind k)) (h : ∀ ss ρ' U' vs H' F', m ρ U = .ok ss ρ' U' → vs.length = ss.length → Wf C H' F' U' σ ρ' (ss.zip (vs.map some) ++ E) → P (k ss ρ' U') → Q vs H') : t σ H Q := by
  refine q C σ ρ E H F U Q w ?_
  cases r : m ρ U with
  | ok d ρ' U' => rw [r] at z; exact fun v H' F' l' w' => h d ρ' U' v H' F' r l' w' z
  | exc x ρ' U' => rw [r] at z; exact rc.1 x ρ' U' z
  | stk => rw [r] at z; exact rc.2 z
end

/-! ### either of two rules -/
theorem PE.or {X : Cx} {e : Expr} {t u : TE} (h : PE X e t) (h' : PE X e u) : PE X e (fun σ H Q => t σ H Q ∨ u σ H Q) :=
  ⟨fun pins s σ H Q I q => q.elim (h.run pins s σ H Q I) (h'.run pins s σ H Q I)⟩
theorem CallR.or {X : Cx} {f : Value} {r r' : List V → Hp → VK → Prop} (h : CallR X f r) (h' : CallR X f r') : CallR X f (fun x H Q => r x H Q ∨ r' x H Q) :=
  fun pins s σ H xs us Q I rx q => q.elim (h pins s σ H xs us Q I rx) (h' pins s σ H xs us Q I rx)

/-! ### names, constants -/
def eVar (i : Nat) : M D := fun ρ U => match ρ[i]? with
  | some (.val d) => .ok d ρ U
  | some (.own d) => .ok d (ρ.set i (.val d)) U
  | _ => .stk
/-- what a slot holds -/
def look (ρ : Rho) (i : Nat) : Option D := match ρ[i]? with
  | some (.val d) => some d
  | some (.own d) => some d
  | _ => none
/-- a value that is read: frozen, or an own object as it stands -/
def BRep (C : Cf) (F : Addr → Prop) (H : Hp) (d : D) (v : V) : Prop := Rep C.u F H d v ∨ ∃ a, v = .ref a ∧ Own C F H a d
theorem Wf.look {C : Cf} {H : Hp} {F : Addr → Prop} {U : Urn} {σ : L2.St} {ρ : Rho} {E : List Ent} {i : Nat} {d : D} (w : Wf C H F U σ ρ E) (e : VL.look ρ i = some d) : ∃ v, σ[i]? = some (some v) ∧ BRep C F H d v := by
  unfold VL.look at e
  cases q : ρ[i]? with
  | none => rw [q] at e; cases e
  | some s =>
    rw [q] at e
    cases s with
    | un => cases e
    | val d' =>
      cases e
      obtain ⟨v, h1, h2⟩ := w.getV q
      exact ⟨v, h1, .inl h2⟩
    | own d' =>
      cases e
      obtain ⟨x, h1, a, rfl, _, _, o⟩ := w.get q
      exact ⟨_, h1, .inr ⟨a, rfl, o⟩⟩
section
variable {X : Cx} {W : XK}
theorem c_var {i : Nat} {x : Str} {pos : Pos} (hN : X.N[i]? = some x) (hv : Vis X.env.scope x) (hd : (x == ("__debug__" : Str)) = false := by decide) (hcd : (x == ("__classdict__" : Str)) = false := by decide) : CE X W (.Name x pos) (eVar i) := by
  refine ⟨_, pe_var hN hv hd hcd, fun C σ ρ E H F U Q w z => ?_⟩
  unfold eVar at z
  cases e : ρ[i]? with
  | none => rw [e] at z; exact z.elim
  | some s =>
    rw [e] at z
    cases s with
    | un => exact z.elim
    | val d =>
      obtain ⟨v, h1, h2⟩ := w.getV e
      exact ⟨v, h1, z v H F w h2⟩
    | own d =>
      obtain ⟨a, h1, F', w', r⟩ := w.freeze e
      exact ⟨.ref a, h1, z _ H F' w' r⟩
def eC (d : D) : M D := fun ρ U => .ok d ρ U
theorem c_int {i : Int} {j : Nat} {pos : Pos} : CE X W (.Constant (.int i) j pos) (eC (.int i)) := ⟨_, pe_int, fun C σ ρ E H F U Q w z => z _ H F w (.int i)⟩
theorem c_bl {i : Bool} {j : Nat} {pos : Pos} : CE X W (.Constant (.bool i) j pos) (eC (.bl i)) := ⟨_, pe_bl, fun C σ ρ E H F U Q w z => z _ H F w (.bl i)⟩
theorem c_non {j : Nat} {pos : Pos} : CE X W (.Constant .none j pos) (eC .non) := ⟨_, pe_non, fun C σ ρ E H F U Q w z => z _ H F w .non⟩
theorem c_str {i : Str} {j : Nat} {pos : Pos} : CE X W (.Constant (.str i) j pos) (eC (.str i)) := ⟨_, pe_str, fun C σ ρ E H F U Q w z => z _ H F w (.str i)⟩
/-- a module's number -/
theorem c_globI {x : Str} {i : Int} {tk : Tok} {pos : Pos} (hg : Gl X x) (hm : X.mg x = some (.int i tk)) (hd : (x == ("__debug__" : Str)) = false := by decide) : CE X W (.Name x pos) (eC (.int i)) :=
  ⟨_, pe_glob hg hm (show L2.RelV (.int i) (.int i tk) from ⟨tk, rfl⟩) hd, fun C σ ρ E H F U Q w z => z _ H F w (.int i)⟩

/-! ### arguments -/
def evs : List (M D) → M (List D)
  | [] => fun ρ U => .ok [] ρ U
  | m :: ms => fun ρ U => (m ρ U).bind fun d ρ U => (evs ms ρ U).bind fun ds ρ U => .ok (d :: ds) ρ U
theorem evs_len : ∀ {ms : List (M D)} {ρ : Rho} {U : Urn} {ds : List D} {ρ' : Rho} {U' : Urn}, evs ms ρ U = .ok ds ρ' U' → ds.length = ms.length
  | [], _, _, _, _, _, h => by cases h; rfl
  | m :: ms, ρ, U, ds, ρ', U', h => by
    unfold evs at h
    cases e : m ρ U with
    | ok d ρ1 U1 =>
      rw [e] at h
      simp only [R.bind] at h
      cases e2 : evs ms ρ1 U1 with
      | ok ds2 ρ2 U2 =>
        rw [e2] at h
        cases h
        rw [List.length_cons, List.length_cons, evs_len e2]
      | exc x ρ2 U2 => rw [e2] at h; cases h
      | stk => rw [e2] at h; cases h
    | exc x ρ2 U2 => rw [e] at h; cases h
    | stk => rw [e] at h; cases h
theorem ca_nil : CA X W [] (evs []) := ⟨_, pa_nil, fun C σ ρ E H F U Q w z => z [] H F w .nil⟩
theorem ca_cons {e : Expr} {es : List Expr} {m : M D} {ms : List (M D)} (h : CE X W e m) (hs : CA X W es (evs ms)) (hst : starEach (e :: es) X.env = (false, eval e X.env) :: starEach es X.env := by rfl) : CA X W (e :: es) (evs (m :: ms)) := by
  obtain ⟨t, p, q⟩ := h
  obtain ⟨t2, p2, q2⟩ := hs
  refine ⟨_, pa_cons p p2 hst, fun C σ ρ E H F U Q w z => ?_⟩
  refine runE q w Rc.a z fun d ρ1 U1 v H1 F1 w1 r1 z1 => ?_
  refine runA q2 (w1.push r1) Rc.a.pop z1 fun ds ρ2 U2 vs H2 F2 _ w2 r2 z2 => ?_
  exact z2 (v :: vs) H2 F2 w2.pop (.cons w2.topR r2)
/-- mixed -/
def mvs : List (M D × Bool) → M (List Sl)
  | [] => fun ρ U => .ok [] ρ U
  | (m, o) :: ms => fun ρ U => (m ρ U).bind fun d ρ U => (mvs ms ρ U).bind fun ds ρ U => .ok ((if o then Sl.own d else Sl.val d) :: ds) ρ U
theorem cm_nil : CM X W [] (mvs []) := ⟨_, pa_nil, fun C σ ρ E H F U Q w z => z [] H F rfl w⟩
theorem Wf.rot {C : Cf} {H : Hp} {F : Addr → Prop} {U : Urn} {σ : L2.St} {ρ : Rho} {E L : List Ent} {e : Ent} (w : Wf C H F U σ ρ (L ++ e :: E)) : Wf C H F U σ ρ (e :: L ++ E) :=
  ⟨w.len, w.ok.perm (List.Perm.append_left _ List.perm_middle)⟩
theorem Wf.rot' {C : Cf} {H : Hp} {F : Addr → Prop} {U : Urn} {σ : L2.St} {ρ : Rho} {E L : List Ent} {e : Ent} (w : Wf C H F U σ ρ (e :: L ++ E)) : Wf C H F U σ ρ (L ++ e :: E) :=
  ⟨w.len, w.ok.perm (List.Perm.append_left _ List.perm_middle.symm)⟩
theorem cm_val {e : Expr} {es : List Expr} {m : M D} {ms : List (M D × Bool)} (h : CE X W e m) (hs : CM X W es (mvs ms)) (hst : starEach (e :: es) X.env = (false, eval e X.env) :: starEach es X.env := by rfl) : CM X W (e :: es) (mvs ((m, false) :: ms)) := by
  obtain ⟨t, p, q⟩ := h
  obtain ⟨t2, p2, q2⟩ := hs
  refine ⟨_, pa_cons p p2 hst, fun C σ ρ E H F U Q w z => ?_⟩
  refine runE q w Rc.m z fun d ρ1 U1 v H1 F1 w1 r1 z1 => ?_
  refine runM q2 (w1.push r1) Rc.m.pop z1 fun ss ρ2 U2 vs H2 F2 _ l2 w2 z2 => ?_
  exact z2 (v :: vs) H2 F2 (by rw [List.length_cons, List.length_cons, l2]) w2.rot
theorem cm_own {e : Expr} {es : List Expr} {m : M D} {ms : List (M D × Bool)} (h : CO X W e m) (hs : CM X W es (mvs ms)) (hst : starEach (e :: es) X.env = (false, eval e X.env) :: starEach es X.env := by rfl) : CM X W (e :: es) (mvs ((m, true) :: ms)) := by
  obtain ⟨t, p, q⟩ := h
  obtain ⟨t2, p2, q2⟩ := hs
  refine ⟨_, pa_cons p p2 hst, fun C σ ρ E H F U Q w z => ?_⟩
  refine runO q w Rc.m z fun d ρ1 U1 a H1 F1 w1 z1 => ?_
  refine runM q2 w1 Rc.m.pop z1 fun ss ρ2 U2 vs H2 F2 _ l2 w2 z2 => ?_
  exact z2 (.ref a :: vs) H2 F2 (by rw [List.length_cons, List.length_cons, l2]) w2.rot

/-! ### displays -/
theorem len1000 {n : Nat} (h : n ≤ 1000) : n ≤ sizeLine := Nat.le_of_lt (small1000 h)
def eTup (ms : List (M D)) : M D := fun ρ U => (evs ms ρ U).bind fun ds ρ U => .ok (.tup ds) ρ U
theorem c_tup {es : List Expr} {ms : List (M D)} {k : Nat} {pos : Pos} (h : CA X W es (evs ms)) (hl : ms.length ≤ 1000 := by decide) : CE X W (.Tuple es k pos) (eTup ms) := by
  obtain ⟨t, p, q⟩ := h
  refine ⟨_, pe_tup p, fun C σ ρ E H F U Q w z => ?_⟩
  refine runA q w Rc.e z fun ds ρ1 U1 vs H1 F1 e1 w1 r1 z1 => ?_
  refine ⟨by rw [← r1.len, evs_len e1]; exact len1000 hl, fun pp hp => z1 _ _ F1 (w1.new hp) ?_⟩
  exact .tup upd_same (r1.grow (grow_new w1.ok.fdom hp))
def oLst (ms : List (M D)) : M D := fun ρ U => (evs ms ρ U).bind fun ds ρ U => .ok (.lst ds) ρ U
/-- a new own object -/
theorem Wf.newO {C : Cf} {H : Hp} {F : Addr → Prop} {U : Urn} {σ : L2.St} {ρ : Rho} {E : List Ent} {p : Addr} {o : HO} {d : D} (w : Wf C H F U σ ρ E) (hp : H p = none) (ho : (∀ d v, Rep C.u F H d v → Rep C.u F (upd H p o) d v) → Own C F (upd H p o) p d) :
    Wf C (upd H p o) F U σ ρ ((.own d, some (.ref p)) :: E) := by
  have g : Grow F H F (upd H p o) := grow_new w.ok.fdom hp
  refine (w.new hp).pushO (fun f => ?_) (w.ok.none0 hp).1 (ho fun d v r => r.grow g) fun d' hm => ?_
  · obtain ⟨o', e⟩ := w.ok.fdom p f
    rw [hp] at e; cases e
  · obtain ⟨a', e, _, _, o'⟩ := w.ok.all _ hm
    have e' : p = a' := by simpa using e
    subst e'
    obtain ⟨ob, e2, _⟩ := o'.mut
    rw [hp] at e2; cases e2
theorem RepAll.map {u : Option Addr} {F F' : Addr → Prop} {H H' : Hp} (f : ∀ d v, Rep u F H d v → Rep u F' H' d v) : ∀ {ds : List D} {vs : List V}, RepAll u F H ds vs → RepAll u F' H' ds vs
  | _, _, .nil => .nil
  | _, _, .cons a b => .cons (f _ _ a) (RepAll.map f b)
theorem c_lst {es : List Expr} {ms : List (M D)} {pos : Pos} (h : CA X W es (evs ms)) (hl : ms.length ≤ 1000 := by decide) : CO X W (.List es pos) (oLst ms) := by
  obtain ⟨t, p, q⟩ := h
  refine ⟨_, pe_lst p, fun C σ ρ E H F U Q w z => ?_⟩
  refine runA q w Rc.o z fun ds ρ1 U1 vs H1 F1 e1 w1 r1 z1 => ?_
  refine ⟨by rw [← r1.len, evs_len e1]; exact len1000 hl, fun pp hp => z1 _ _ F1 (w1.newO hp fun g => ⟨vs, upd_same, r1.map g⟩)⟩
def oDic0 : M D := fun ρ U => .ok (.dicK []) ρ U
def oDic0T : M D := fun ρ U => .ok (.dicT []) ρ U
theorem c_dic0 {pos : Pos} : CO X W (.Dict [] [] pos) oDic0 :=
  ⟨_, pe_dnewK, fun C σ ρ E H F U Q w z p hp => z p _ F (w.newO hp fun _ => ⟨[], upd_same, .nil⟩)⟩
theorem c_dic0T {pos : Pos} : CO X W (.Dict [] [] pos) oDic0T :=
  ⟨_, pe_dnewT, fun C σ ρ E H F U Q w z p hp => z p _ F (w.newO hp fun _ => ⟨[], upd_same, .nil⟩)⟩

/-! ### calls of the program's own defs -/
def eCall (f : Fn) (ms : List (M D)) : M D := fun ρ U => (evs ms ρ U).bind fun ds ρ U => match f ds U with
  | .ok d U => .ok d ρ U
  | .exc x U => .exc x ρ U
  | .stk => .stk
def FPost (C : Cf) (mg : Str → Option Value) (Q : VK) (W : XK) : FR → Prop
  | .ok d U' => ∀ v H' F', Ok C H' F' U' [] → Rep C.u F' H' d v → Q v H'
  | .exc x U' => ∀ c dd H' F', Ok C H' F' U' [] → XR mg x c dd H' → W c dd H'
  | .stk => False
/-- a def's promise -/
def spF (mg : Str → Option Value) (n : Nat) (f : Fn) : Sp := fun vs H Q W => ∃ (C : Cf) (ds : List D) (U : Urn), vs.length = n ∧ C.H0 = H ∧ Ok C H C.F0 U [] ∧ RepAll C.u C.F0 H ds vs ∧ FPost C mg Q W (f ds U)
/-- a def of the program, proved -/
structure FOk (P : Program) (w : World) (K : PySem.W.Frag) (mg : Str → Option Value) (base : Heap) (k : Nat) (name : Str) (ps : List Str) (f : Fn) : Prop where
  ex : ∃ (a : Addr) (fd : FuncData), mg name = some (.ref a) ∧ PySem.W.keepIn K (.ref a) = true ∧ Binds K fd ps [] ∧ FnOk P w K mg base (L2.CX P w) k a fd ps (spF mg ps.length f)
theorem FOk.mono {P : Program} {w : World} {K : PySem.W.Frag} {mg : Str → Option Value} {base : Heap} {j k : Nat} {name : Str} {ps : List Str} {f : Fn} (h : FOk P w K mg base j name ps f) (l : j ≤ k) : FOk P w K mg base k name ps f := by
  obtain ⟨a, fd, h1, h2, h3, h4⟩ := h.ex
  exact ⟨a, fd, h1, h2, h3, h4.mono l⟩
/-- behind a call: the caller's state -/
theorem Ok.after {C : Cf} {H H' : Hp} {F F' : Addr → Prop} {U U' : Urn} {L : List Ent} (h : Ok C H F U L) (h' : Ok ⟨H, F, C.u⟩ H' F' U' []) : Ok C H' F' U' L := by
  have ku : ∀ a o, H a = some o → C.u ≠ some a → H' a = some o := fun a o e n => h'.keep a o e n
  have g : Grow F H F' H' := by
    refine ⟨h'.fmono, fun a f => ?_, fun a o i e => ?_⟩
    · obtain ⟨o, e⟩ := h.fdom a f
      rw [e]; exact ku a o e fun z => h.fu a z f
    · refine ku a o e fun z => ?_
      rw [h.urn a z] at e; cases e; exact i
  refine ⟨fun x hx => ?_, h.nod, fun a o e n => ku a o (h.keep a o e n) n, fun a f => g.mono a (h.fmono a f), fun a f => ?_, h'.fdom, h'.fu, h'.urn, h.udom⟩
  · have q := h.all x hx
    obtain ⟨s, y⟩ := x
    cases s with
    | un => trivial
    | val d => obtain ⟨v, e, r⟩ := q; exact ⟨v, e, r.grow g⟩
    | own d =>
      obtain ⟨a, e, f, h0, o⟩ := q
      obtain ⟨ob, e2, _⟩ := o.mut
      have ua : C.u ≠ some a := fun z => by obtain ⟨o2, z2⟩ := h.udom a z; rw [h0] at z2; cases z2
      refine ⟨a, e, fun z => ?_, h0, o.grow g ((ku a ob e2 ua).trans e2.symm)⟩
      rcases h'.fnew a z with z | z
      · exact f z
      · have z : H a = none := z
        rw [e2] at z; cases z
  · rcases h'.fnew a f with z | z
    · exact h.fnew a z
    · exact .inr (h.none0 z).1
theorem Ok.enter {C : Cf} {H : Hp} {F : Addr → Prop} {U : Urn} {L : List Ent} (h : Ok C H F U L) : Ok ⟨H, F, C.u⟩ H F U [] :=
  ⟨fun _ z => (nomatch z), List.nodup_nil, fun _ _ e _ => e, fun _ f => f, fun _ f => .inl f, h.fdom, h.fu, h.urn, fun a e => ⟨_, h.urn a e⟩⟩
theorem c_call {x : Str} {p pos : Pos} {e : Expr} {es : List Expr} {ms : List (M D)} {k : Nat} {ps : List Str} {f : Fn} (F : FOk X.prog X.w X.K X.mg X.base k x ps f) (hr : Room k X.A) (hx : Passes (L2.CX X.prog X.w) X W) (hg : Gl X x)
    (ha : CA X W (e :: es) (evs ms)) (hl : ms.length = ps.length := by rfl) (hdb : (x == ("__debug__" : Str)) = false := by decide) (he : starEach (e :: es) X.env = (false, eval e X.env) :: starEach es X.env := by rfl) (hpl : (backTo pos (starEach es X.env)).any (·.1) = false := by rfl) :
    CE X W (.Call (.Name x p) (e :: es) [] pos) (eCall f ms) := by
  obtain ⟨t, pa, q⟩ := ha
  obtain ⟨a, fd, h1, h2, h3, h4⟩ := F.ex
  refine ⟨_, pe_call h4 hr hg h1 h2 h3 .nil hx pa hdb he hpl, fun C σ ρ E H F U Q w z => ?_⟩
  refine runA q w Rc.e z fun ds ρ1 U1 vs H1 F1 e1 w1 r1 z1 => ?_
  refine ⟨⟨H1, F1, C.u⟩, ds, U1, ?_, rfl, w1.ok.enter, by rw [List.append_nil]; exact r1, ?_⟩
  · rw [List.append_nil, ← r1.len, evs_len e1]; exact hl
  · cases r : f ds U1 with
    | ok d U2 => rw [r] at z1; exact fun v H' F' o' r' => z1 v H' F' ⟨w1.len, w1.ok.after o'⟩ r'
    | exc x U2 => rw [r] at z1; exact fun c dd H' F' o' r' => z1 c dd H' F' ⟨w1.len, w1.ok.after o'⟩ r'
    | stk => rw [r] at z1; exact z1
theorem c_call0 {x : Str} {p pos : Pos} {k : Nat} {f : Fn} (F : FOk X.prog X.w X.K X.mg X.base k x [] f) (hr : Room k X.A) (hx : Passes (L2.CX X.prog X.w) X W) (hg : Gl X x) (hdb : (x == ("__debug__" : Str)) = false := by decide) :
    CE X W (.Call (.Name x p) [] [] pos) (eCall f []) := by
  obtain ⟨a, fd, h1, h2, h3, h4⟩ := F.ex
  refine ⟨_, pe_call0 h4 hr hg h1 h2 h3 .nil hx hdb, fun C σ ρ E H F U Q w z => ?_⟩
  have z1 : EPost C σ E X.mg W Q (match f [] U with | .ok d U => .ok d ρ U | .exc x U => .exc x ρ U | .stk => .stk) := z
  refine ⟨⟨H, F, C.u⟩, [], U, rfl, rfl, w.ok.enter, .nil, ?_⟩
  cases r : f [] U with
  | ok d U2 => rw [r] at z1; exact fun v H' F' o' r' => z1 v H' F' ⟨w.len, w.ok.after o'⟩ r'
  | exc x U2 => rw [r] at z1; exact fun c dd H' F' o' r' => z1 c dd H' F' ⟨w.len, w.ok.after o'⟩ r'
  | stk => rw [r] at z1; exact z1
end
end VL

set_option maxRecDepth 100000
set_option maxHeartbeats 1000000
/-! VL3: operands; operators by trees. -/
namespace VL
open PySem PySem.Spec PyProof.Rows L2

/-! ### operands: an expression, or a slot that is read as it stands -/
inductive Opd where
  | ev (m : M D) | sl (i : Nat)
def COp (X : Cx) (W : XK) (e : Expr) : Opd → Prop
  | .ev m => CE X W e m
  | .sl i => PE X e (tVar i)
theorem cop_ev {X : Cx} {W : XK} {e : Expr} {m : M D} (h : CE X W e m) : COp X W e (.ev m) := h
theorem cop_sl {X : Cx} {W : XK} {i : Nat} {x : Str} {pos : Pos} (hN : X.N[i]? = some x) (hv : Vis X.env.scope x) (hd : (x == ("__debug__" : Str)) = false := by decide) (hcd : (x == ("__classdict__" : Str)) = false := by decide) : COp X W (.Name x pos) (.sl i) :=
  (pe_var hN hv hd hcd : PE X _ (tVar i))
def lk {α : Type} (i : Nat) (k : D → M α) : M α := fun ρ U => match look ρ i with
  | some d => k d ρ U
  | none => .stk
def ev1 {α : Type} (a : Opd) (k : D → M α) : M α := match a with
  | .ev m => fun ρ U => (m ρ U).bind k
  | .sl i => lk i k
def ev2 {α : Type} (a b : Opd) (k : D → D → M α) : M α := match a with
  | .ev m => fun ρ U => (m ρ U).bind fun x => ev1 b fun y => k x y
  | .sl i => lk i fun _ => ev1 b fun y => lk i fun x => k x y
section
variable {X : Cx} {W : XK} {C : Cf} {H : Hp} {F : Addr → Prop} {U : Urn} {σ : L2.St} {ρ : Rho} {E : List Ent}
theorem run1 {β : Type} {e : Expr} {a : Opd} (h : COp X W e a) : ∃ t, PE X e t ∧ ∀ (C : Cf) (σ : L2.St) (ρ : Rho) (E : List Ent) (H : Hp) (F : Addr → Prop) (U : Urn) (k : D → M β) (P : R β → Prop) (Q : VK), Wf C H F U σ ρ E → Rc C σ E X.mg W P → P (ev1 a k ρ U) →
    (∀ d ρ' U' v H' F', Wf C H' F' U' σ ρ' E → BRep C F' H' d v → P (k d ρ' U') → Q v H') → t σ H Q := by
  cases a with
  | ev m =>
    obtain ⟨t, p, q⟩ := h
    refine ⟨t, p, fun C σ ρ E H F U k P Q w rc z hh => ?_⟩
    exact runE q w rc z fun d ρ' U' v H' F' w' r' z' => hh d ρ' U' v H' F' w' (.inl r') z'
  | sl i =>
    refine ⟨_, h, fun C σ ρ E H F U k P Q w rc z hh => ?_⟩
    have z : P (lk i k ρ U) := z
    unfold lk at z
    cases e : look ρ i with
    | none => rw [e] at z; exact (rc.2 z).elim
    | some d =>
      rw [e] at z
      obtain ⟨v, h1, h2⟩ := w.look e
      exact ⟨v, h1, hh d ρ U v H F w h2 z⟩
theorem run2 {β : Type} {ea eb : Expr} {a b : Opd} (ha : COp X W ea a) (hb : COp X W eb b) : ∃ ta tb, PE X ea ta ∧ PE X eb tb ∧ ∀ (C : Cf) (σ : L2.St) (ρ : Rho) (E : List Ent) (H : Hp) (F : Addr → Prop) (U : Urn) (k : D → D → M β) (P : R β → Prop) (Q : V → V → Hp → Prop), Wf C H F U σ ρ E → Rc C σ E X.mg W P → P (ev2 a b k ρ U) →
    (∀ dx dy ρ' U' x y H' F', Wf C H' F' U' σ ρ' E → BRep C F' H' dx x → BRep C F' H' dy y → P (k dx dy ρ' U') → Q x y H') → ta σ H fun x H1 => tb σ H1 fun y H2 => Q x y H2 := by
  obtain ⟨tb, pb, qb⟩ := run1 (β := β) hb
  cases a with
  | ev m =>
    obtain ⟨t, p, q⟩ := ha
    refine ⟨t, tb, p, pb, fun C σ ρ E H F U k P Q w rc z hh => ?_⟩
    refine runE q w rc z fun dx ρ1 U1 x H1 F1 w1 r1 z1 => ?_
    refine qb C σ ρ1 _ H1 F1 U1 _ P _ (w1.push r1) rc.pop z1 fun dy ρ2 U2 y H2 F2 w2 r2 z2 => ?_
    exact hh dx dy ρ2 U2 x y H2 F2 w2.pop (.inl w2.topR) r2 z2
  | sl i =>
    refine ⟨_, tb, ha, pb, fun C σ ρ E H F U k P Q w rc z hh => ?_⟩
    have z : P (lk i (fun _ => ev1 b fun y => lk i fun x => k x y) ρ U) := z
    unfold lk at z
    cases e : look ρ i with
    | none => rw [e] at z; exact (rc.2 z).elim
    | some d =>
      rw [e] at z
      obtain ⟨v, h1, h2⟩ := w.look e
      refine ⟨v, h1, ?_⟩
      refine qb C σ ρ E H F U _ P _ w rc z fun dy ρ2 U2 y H2 F2 w2 r2 z2 => ?_
      cases e2 : look ρ2 i with
      | none => simp only [e2] at z2; exact (rc.2 z2).elim
      | some dx =>
        simp only [e2] at z2
        obtain ⟨v', g1, g2⟩ := w2.look e2
        have : v = v' := by rw [h1] at g1; simpa using g1
        subst this
        exact hh dx dy ρ2 U2 v y H2 F2 w2 g2 r2 z2
end

/-! ### trees as PyData -/
mutual
def D.pd : D → Option PyData
  | .non => some .none
  | .bl b => some (.bool b)
  | .int i => some (.int i)
  | .str x => some (.str x)
  | .tup xs => (pdAll xs).map .tuple
  | .lst xs => (pdAll xs).map .list
  | _ => none
def pdAll : List D → Option (List PyData)
  | [] => some []
  | x :: xs => match D.pd x, pdAll xs with
    | some p, some ps => some (p :: ps)
    | _, _ => none
end
section
variable {K : PySem.W.Frag} {u : Option Addr} {F : Addr → Prop} {H : Hp}
mutual
theorem Rep.dp : ∀ {d : D} {v : V} {p : PyData}, Rep u F H d v → D.pd d = some p → Dp K H v p
  | _, _, _, .non, e => by cases e; exact .non
  | _, _, _, .bl b, e => by cases e; exact .bl b
  | _, _, _, .int b, e => by cases e; exact .int b
  | _, _, _, .str b, e => by cases e; exact .str b
  | .tup ds, _, p, .tup h r, e => by
    simp only [D.pd] at e
    cases q : pdAll ds with
    | none => rw [q] at e; cases e
    | some ps => rw [q] at e; cases e; exact .tup (.inl (.inl h)) (RepAll.dp r q)
  | .lst ds, _, p, .lst f h r, e => by
    simp only [D.pd] at e
    cases q : pdAll ds with
    | none => rw [q] at e; cases e
    | some ps => rw [q] at e; cases e; exact .lst (.inl (.inl h)) (RepAll.dp r q)
  | .dicK _, _, _, _, e => by simp [D.pd] at e
  | .dicT _, _, _, _, e => by simp [D.pd] at e
  | .rng _ _, _, _, _, e => by simp [D.pd] at e
  | .set _, _, _, _, e => by simp [D.pd] at e
  | .urn, _, _, _, e => by simp [D.pd] at e
  | .scr _ _, _, _, _, e => by simp [D.pd] at e
theorem RepAll.dp : ∀ {ds : List D} {vs : List V} {ps : List PyData}, RepAll u F H ds vs → pdAll ds = some ps → DpAll K H vs ps
  | [], _, _, .nil, e => by simp only [pdAll] at e; cases e; exact .nil
  | d :: ds, _, ps, .cons h r, e => by
    simp only [pdAll] at e
    cases q : D.pd d with
    | none => rw [q] at e; cases e
    | some p =>
      cases q2 : pdAll ds with
      | none => rw [q, q2] at e; cases e
      | some qs => rw [q, q2] at e; cases e; exact .cons (Rep.dp h q) (RepAll.dp r q2)
end
theorem BRep.dp {C : Cf} {d : D} {v : V} {p : PyData} (r : BRep C F H d v) (e : D.pd d = some p) : Dp K H v p := by
  rcases r with r | ⟨a, rfl, o⟩
  · exact r.dp e
  · cases d with
    | lst ds =>
      obtain ⟨vs, h, r⟩ := o
      simp only [D.pd] at e
      cases q : pdAll ds with
      | none => rw [q] at e; cases e
      | some ps => rw [q] at e; cases e; exact .lst (.inl (.inl h)) (RepAll.dp r q)
    | dicK _ => simp [D.pd] at e
    | dicT _ => simp [D.pd] at e
    | _ => exact o.elim
theorem BRep.seqL {C : Cf} {ds : List D} {v : V} (r : BRep C F H (.lst ds) v) : ∃ a vs, v = .ref a ∧ H a = some (.lst vs) ∧ RepAll C.u F H ds vs := by
  rcases r with r | ⟨a, rfl, vs, h, r⟩
  · cases r with
    | lst f h r => exact ⟨_, _, rfl, h, r⟩
  · exact ⟨a, vs, rfl, h, r⟩
theorem BRep.seqT {C : Cf} {ds : List D} {v : V} (r : BRep C F H (.tup ds) v) : ∃ a vs, v = .ref a ∧ H a = some (.tup vs) ∧ RepAll C.u F H ds vs := by
  rcases r with r | ⟨a, rfl, o⟩
  · cases r with
    | tup h r => exact ⟨_, _, rfl, h, r⟩
  · exact o.elim
theorem BRep.int {C : Cf} {i : Int} {v : V} (r : BRep C F H (.int i) v) : v = .int i := by
  rcases r with r | ⟨a, rfl, o⟩
  · cases r; rfl
  · exact o.elim
theorem BRep.bl {C : Cf} {i : Bool} {v : V} (r : BRep C F H (.bl i) v) : v = .bl i := by
  rcases r with r | ⟨a, rfl, o⟩
  · cases r; rfl
  · exact o.elim
theorem BRep.str {C : Cf} {i : Str} {v : V} (r : BRep C F H (.str i) v) : v = .str i := by
  rcases r with r | ⟨a, rfl, o⟩
  · cases r; rfl
  · exact o.elim
theorem BRep.non {C : Cf} {v : V} (r : BRep C F H .non v) : v = .non := by
  rcases r with r | ⟨a, rfl, o⟩
  · cases r; rfl
  · exact o.elim
end

/-! ### operators by trees -/
/-- what a rule asks of its end: a frozen value -/
def KPost (C : Cf) (σ : L2.St) (ρ : Rho) (U : Urn) (E : List Ent) (Q : VK) (d : D) : Prop := ∀ v H' F', Wf C H' F' U σ ρ E → Rep C.u F' H' d v → Q v H'
def NPost (C : Cf) (σ : L2.St) (ρ : Rho) (U : Urn) (E : List Ent) (Q : VK) (d : D) : Prop := ∀ a H' F', Wf C H' F' U σ ρ ((.own d, some (.ref a)) :: E) → Q (.ref a) H'
def OpOk (X : Cx) (f : Value → Value → Sem Value) (op : D → D → Option D) : Prop := ∃ r, OpR X f r ∧
  ∀ C σ ρ E H F U a b x y d Q, Wf C H F U σ ρ E → BRep C F H a x → BRep C F H b y → op a b = some d → KPost C σ ρ U E Q d → r x y H Q
def OpNew (X : Cx) (f : Value → Value → Sem Value) (op : D → D → Option D) : Prop := ∃ r, OpR X f r ∧
  ∀ C σ ρ E H F U a b x y d Q, Wf C H F U σ ρ E → BRep C F H a x → BRep C F H b y → op a b = some d → NPost C σ ρ U E Q d → r x y H Q
/-- first the one, else the other -/
def orD (f g : D → D → Option D) : D → D → Option D := fun a b => match f a b with
  | some d => some d
  | none => g a b
theorem OpOk.or {X : Cx} {f : Value → Value → Sem Value} {g h : D → D → Option D} (hg : OpOk X f g) (hh : OpOk X f h) : OpOk X f (orD g h) := by
  obtain ⟨r, p, q⟩ := hg
  obtain ⟨r', p', q'⟩ := hh
  refine ⟨_, p.or p', fun C σ ρ E H F U a b x y d Q w ra rb e k => ?_⟩
  unfold orD at e
  cases z : g a b with
  | some d' => rw [z] at e; cases e; exact .inl (q C σ ρ E H F U a b x y _ Q w ra rb z k)
  | none => rw [z] at e; exact .inr (q' C σ ρ E H F U a b x y _ Q w ra rb e k)
def opt {α : Type} (o : Option α) : M α := fun ρ U => match o with
  | some a => .ok a ρ U
  | none => .stk
def eBin (op : D → D → Option D) (a b : Opd) : M D := ev2 a b fun x y => opt (op x y)
def tOf (m : M D) : M Bool := fun ρ U => (m ρ U).bind fun d ρ U => match d with
  | .bl b => .ok b ρ U
  | _ => .stk
section
variable {X : Cx} {W : XK} {ea eb : Expr} {a b : Opd} {op : D → D → Option D} {pos : Pos}
theorem opt_e {C : Cf} {σ : L2.St} {ρ : Rho} {U : Urn} {E : List Ent} {mg : Str → Option Value} {Q : VK} {o : Option D} (z : EPost C σ E mg W Q (opt o ρ U)) : ∃ d, o = some d ∧ KPost C σ ρ U E Q d := by
  unfold opt at z
  cases o with
  | none => exact z.elim
  | some d => exact ⟨d, rfl, z⟩
theorem opt_o {C : Cf} {σ : L2.St} {ρ : Rho} {U : Urn} {E : List Ent} {mg : Str → Option Value} {Q : VK} {o : Option D} (z : OPost C σ E mg W Q (opt o ρ U)) : ∃ d, o = some d ∧ NPost C σ ρ U E Q d := by
  unfold opt at z
  cases o with
  | none => exact z.elim
  | some d => exact ⟨d, rfl, z⟩
theorem c_bin {o : Operator} (h : OpOk X (binaryOp o) op) (ha : COp X W ea a) (hb : COp X W eb b) : CE X W (.BinOp ea o eb pos) (eBin op a b) := by
  obtain ⟨r, p, q⟩ := h
  obtain ⟨ta, tb, pa, pb, run⟩ := run2 (β := D) ha hb
  refine ⟨_, pe_op p pa pb, fun C σ ρ E H F U Q w z => ?_⟩
  refine run C σ ρ E H F U _ _ _ w Rc.e z fun dx dy ρ1 U1 x y H1 F1 w1 r1 r2 z1 => ?_
  obtain ⟨d, e, k⟩ := opt_e z1
  exact q C σ ρ1 E H1 F1 U1 dx dy x y d Q w1 r1 r2 e k
theorem c_binO {o : Operator} (h : OpNew X (binaryOp o) op) (ha : COp X W ea a) (hb : COp X W eb b) : CO X W (.BinOp ea o eb pos) (eBin op a b) := by
  obtain ⟨r, p, q⟩ := h
  obtain ⟨ta, tb, pa, pb, run⟩ := run2 (β := D) ha hb
  refine ⟨_, pe_op p pa pb, fun C σ ρ E H F U Q w z => ?_⟩
  refine run C σ ρ E H F U _ _ _ w Rc.o z fun dx dy ρ1 U1 x y H1 F1 w1 r1 r2 z1 => ?_
  obtain ⟨d, e, k⟩ := opt_o z1
  exact q C σ ρ1 E H1 F1 U1 dx dy x y d Q w1 r1 r2 e k
theorem c_cmp {o : CmpOp} (h : OpOk X (compareOp o) op) (ha : COp X W ea a) (hb : COp X W eb b) (hm : behindInMarks o eb = false) : CE X W (.Compare ea [o] [eb] pos) (eBin op a b) := by
  obtain ⟨r, p, q⟩ := h
  obtain ⟨ta, tb, pa, pb, run⟩ := run2 (β := D) ha hb
  refine ⟨_, pe_cmpR p pa pb hm, fun C σ ρ E H F U Q w z => ?_⟩
  refine run C σ ρ E H F U _ _ _ w Rc.e z fun dx dy ρ1 U1 x y H1 F1 w1 r1 r2 z1 => ?_
  obtain ⟨d, e, k⟩ := opt_e z1
  exact q C σ ρ1 E H1 F1 U1 dx dy x y d Q w1 r1 r2 e k
/-- what a test's reading asks, from the value -/
theorem t_of {C : Cf} {σ : L2.St} {E : List Ent} {mg : Str → Option Value} {Q : Bool → Hp → Prop} {m : M D} {ρ : Rho} {U : Urn} (z : TPost C σ E mg W Q (tOf m ρ U)) : EPost C σ E mg W (fun x H' => ∃ k, x = .bl k ∧ Q k H') (m ρ U) := by
  unfold tOf at z
  cases r : m ρ U with
  | stk => rw [r] at z; exact z
  | exc x ρ' U' => rw [r] at z; exact z
  | ok d ρ' U' =>
    rw [r] at z
    intro v H' F' w' rr
    cases d with
    | bl b => cases rr; exact ⟨b, rfl, z H' F' w'⟩
    | _ => exact z.elim
theorem ct_cmp {o : CmpOp} (h : OpOk X (compareOp o) op) (ha : COp X W ea a) (hb : COp X W eb b) (hm : behindInMarks o eb = false) : CT X W (.Compare ea [o] [eb] pos) (tOf (eBin op a b)) := by
  obtain ⟨r, p, q⟩ := h
  obtain ⟨ta, tb, pa, pb, run⟩ := run2 (β := D) ha hb
  refine ⟨_, pt_cmpR p pa pb hm, fun C σ ρ E H F U Q w z => ?_⟩
  refine run C σ ρ E H F U _ _ _ w Rc.e (t_of z) fun dx dy ρ1 U1 x y H1 F1 w1 r1 r2 z1 => ?_
  obtain ⟨d, e, k⟩ := opt_e z1
  exact q C σ ρ1 E H1 F1 U1 dx dy x y d _ w1 r1 r2 e k
/-- any expression that gives a bool, as a test -/
theorem ct_val {e : Expr} {m : M D} (h : CE X W e m) (he : ∀ whole, isTrue e X.env whole = (do let v ← whole; standAt e.pos; holding [v] (truthy v)) := by intro _; rfl) : CT X W e (tOf m) := by
  obtain ⟨t, p, q⟩ := h
  refine ⟨_, pt_val p he, fun C σ ρ E H F U Q w z => ?_⟩
  exact q C σ ρ E H F U _ w (t_of z)

/-! ### and, or, not, if -/
def tAndM (a b : M Bool) : M Bool := fun ρ U => (a ρ U).bind fun x ρ U => if x then b ρ U else .ok false ρ U
def tOrM (a b : M Bool) : M Bool := fun ρ U => (a ρ U).bind fun x ρ U => if x then .ok true ρ U else b ρ U
def tNotM (a : M Bool) : M Bool := fun ρ U => (a ρ U).bind fun x ρ U => .ok (!x) ρ U
/-- a test whatever its whole is -/
def CW (X : Cx) (W : XK) (e : Expr) (m : M Bool) : Prop :=
  ∃ t, PW X e t ∧ ∀ C σ ρ E H F U Q, Wf C H F U σ ρ E → TPost C σ E X.mg W Q (m ρ U) → t σ H Q
theorem CW.ct {e : Expr} {m : M Bool} (h : CW X W e m) : CT X W e m := let ⟨t, p, q⟩ := h; ⟨t, p.pt, q⟩
theorem cw_and1 {e : Expr} {m : M Bool} (h : CT X W e m) : CW X W (.BoolOp .And [e] pos) m := let ⟨t, p, q⟩ := h; ⟨t, pw_and1 p, q⟩
theorem cw_or1 {e : Expr} {m : M Bool} (h : CT X W e m) : CW X W (.BoolOp .Or [e] pos) m := let ⟨t, p, q⟩ := h; ⟨t, pw_or1 p, q⟩
theorem cw_and {e f : Expr} {rest : List Expr} {m n : M Bool} (h : CT X W e m) (h' : CW X W (.BoolOp .And (f :: rest) pos) n) : CW X W (.BoolOp .And (e :: f :: rest) pos) (tAndM m n) := by
  obtain ⟨t, p, q⟩ := h
  obtain ⟨t', p', q'⟩ := h'
  refine ⟨_, pw_and p p', fun C σ ρ E H F U Q w z => ?_⟩
  refine runT (t := t) q w Rc.t z fun x ρ1 U1 H1 F1 w1 z1 => ?_
  cases x with
  | true => exact q' C σ ρ1 E H1 F1 U1 Q w1 z1
  | false => exact z1 H1 F1 w1
theorem cw_or {e f : Expr} {rest : List Expr} {m n : M Bool} (h : CT X W e m) (h' : CW X W (.BoolOp .Or (f :: rest) pos) n) : CW X W (.BoolOp .Or (e :: f :: rest) pos) (tOrM m n) := by
  obtain ⟨t, p, q⟩ := h
  obtain ⟨t', p', q'⟩ := h'
  refine ⟨_, pw_or p p', fun C σ ρ E H F U Q w z => ?_⟩
  refine runT (t := t) q w Rc.t z fun x ρ1 U1 H1 F1 w1 z1 => ?_
  cases x with
  | false => exact q' C σ ρ1 E H1 F1 U1 Q w1 z1
  | true => exact z1 H1 F1 w1
theorem ct_not {e : Expr} {m : M Bool} (h : CT X W e m) : CT X W (.UnaryOp .Not e pos) (tNotM m) := by
  obtain ⟨t, p, q⟩ := h
  refine ⟨_, pt_not p, fun C σ ρ E H F U Q w z => ?_⟩
  exact runT (t := t) q w Rc.t z fun x ρ1 U1 H1 F1 w1 z1 => z1 H1 F1 w1
def blM (m : M Bool) : M D := fun ρ U => (m ρ U).bind fun x ρ U => .ok (.bl x) ρ U
/-- a and b as a value, both bools -/
def eAnd (a b : M D) : M D := fun ρ U => (a ρ U).bind fun x ρ U => match x with
  | .bl true => b ρ U
  | .bl false => .ok (.bl false) ρ U
  | _ => .stk
def eOr (a b : M D) : M D := fun ρ U => (a ρ U).bind fun x ρ U => match x with
  | .bl true => .ok (.bl true) ρ U
  | .bl false => b ρ U
  | _ => .stk
def eNot (a : M D) : M D := fun ρ U => (a ρ U).bind fun x ρ U => match x with
  | .bl b => .ok (.bl (!b)) ρ U
  | _ => .stk
theorem c_one {o : PySem.BoolOp} {e : Expr} {m : M D} (h : CE X W e m) : CE X W (.BoolOp o [e] pos) m := let ⟨t, p, q⟩ := h; ⟨t, pe_one p, q⟩
theorem c_and {e f : Expr} {rest : List Expr} {m n : M D} (h : CE X W e m) (h' : CE X W (.BoolOp .And (f :: rest) pos) n) : CE X W (.BoolOp .And (e :: f :: rest) pos) (eAnd m n) := by
  obtain ⟨t, p, q⟩ := h
  obtain ⟨t', p', q'⟩ := h'
  refine ⟨_, pe_and p p', fun C σ ρ E H F U Q w z => ?_⟩
  refine runE (t := t) q w Rc.e z fun x ρ1 U1 v H1 F1 w1 r1 z1 => ?_
  cases x with
  | bl c =>
    cases r1
    cases c with
    | true => exact ⟨true, rfl, q' C σ ρ1 E H1 F1 U1 Q w1 z1⟩
    | false => exact ⟨false, rfl, z1 _ H1 F1 w1 (.bl false)⟩
  | _ => exact z1.elim
theorem c_or {e f : Expr} {rest : List Expr} {m n : M D} (h : CE X W e m) (h' : CE X W (.BoolOp .Or (f :: rest) pos) n) : CE X W (.BoolOp .Or (e :: f :: rest) pos) (eOr m n) := by
  obtain ⟨t, p, q⟩ := h
  obtain ⟨t', p', q'⟩ := h'
  refine ⟨_, pe_or p p', fun C σ ρ E H F U Q w z => ?_⟩
  refine runE (t := t) q w Rc.e z fun x ρ1 U1 v H1 F1 w1 r1 z1 => ?_
  cases x with
  | bl c =>
    cases r1
    cases c with
    | false => exact ⟨false, rfl, q' C σ ρ1 E H1 F1 U1 Q w1 z1⟩
    | true => exact ⟨true, rfl, z1 _ H1 F1 w1 (.bl true)⟩
  | _ => exact z1.elim
theorem c_not {e : Expr} {m : M D} (h : CE X W e m) : CE X W (.UnaryOp .Not e pos) (eNot m) := by
  obtain ⟨t, p, q⟩ := h
  refine ⟨_, pe_not p, fun C σ ρ E H F U Q w z => ?_⟩
  refine runE (t := t) q w Rc.e z fun x ρ1 U1 v H1 F1 w1 r1 z1 => ?_
  cases x with
  | bl c => cases r1; exact ⟨c, rfl, z1 _ H1 F1 w1 (.bl _)⟩
  | _ => exact z1.elim
def eIf {α : Type} (c : M Bool) (a b : M α) : M α := fun ρ U => (c ρ U).bind fun x ρ U => if x then a ρ U else b ρ U
theorem c_if {c f g : Expr} {mc : M Bool} {m n : M D} (hc : CT X W c mc) (h : CE X W f m) (h' : CE X W g n) : CE X W (.IfExp c f g pos) (eIf mc m n) := by
  obtain ⟨tc, pc, qc⟩ := hc
  obtain ⟨t, p, q⟩ := h
  obtain ⟨t', p', q'⟩ := h'
  refine ⟨_, pe_ifExp pc p p', fun C σ ρ E H F U Q w z => ?_⟩
  refine runT (t := tc) qc w Rc.e z fun x ρ1 U1 H1 F1 w1 z1 => ?_
  cases x with
  | true => exact q C σ ρ1 E H1 F1 U1 Q w1 z1
  | false => exact q' C σ ρ1 E H1 F1 U1 Q w1 z1
theorem c_ifO {c f g : Expr} {mc : M Bool} {m n : M D} (hc : CT X W c mc) (h : CO X W f m) (h' : CO X W g n) : CO X W (.IfExp c f g pos) (eIf mc m n) := by
  obtain ⟨tc, pc, qc⟩ := hc
  obtain ⟨t, p, q⟩ := h
  obtain ⟨t', p', q'⟩ := h'
  refine ⟨_, pe_ifExp pc p p', fun C σ ρ E H F U Q w z => ?_⟩
  refine runT (t := tc) qc w Rc.o z fun x ρ1 U1 H1 F1 w1 z1 => ?_
  cases x with
  | true => exact q C σ ρ1 E H1 F1 U1 Q w1 z1
  | false => exact q' C σ ρ1 E H1 F1 U1 Q w1 z1
end

/-! ### ints -/
section
variable {X : Cx}
def iiD (f : Int → Int → Option D) : D → D → Option D
  | .int i, .int j => f i j
  | _, _ => none
theorem iiD_some {f : Int → Int → Option D} {a b d : D} (h : iiD f a b = some d) : ∃ i j, a = .int i ∧ b = .int j ∧ f i j = some d := by
  cases a with
  | int i => cases b with
    | int j => exact ⟨i, j, rfl, rfl, h⟩
    | _ => cases h
  | _ => cases h
theorem ok_ii {f : Value → Value → Sem Value} {r : R2} {g : Int → Int → Option D} (p : OpR X f r)
    (k : ∀ i j d, g i j = some d → ∃ v, (∀ u F H, Rep u F H d v) ∧ ∀ (H : Hp) (Q : VK), Q v H → r (.int i) (.int j) H Q) : OpOk X f (iiD g) := by
  refine ⟨r, p, fun C σ ρ E H F U a b x y d Q w ra rb e kp => ?_⟩
  obtain ⟨i, j, rfl, rfl, e⟩ := iiD_some e
  cases ra.int
  cases rb.int
  obtain ⟨v, h1, h2⟩ := k i j d e
  exact h2 H Q (kp v H F w (h1 _ _ _))
instance (i j : Int) : Decidable (CMul i j) := by unfold CMul; exact inferInstance
instance (i j : Int) : Decidable (CDivN i j) := by unfold CDivN; exact inferInstance
instance (i j : Int) : Decidable (CPow i j) := by unfold CPow; exact inferInstance
def addI : D → D → Option D := iiD fun i j => some (.int (i + j))
def subI : D → D → Option D := iiD fun i j => some (.int (i - j))
def mulI : D → D → Option D := iiD fun i j => if CMul i j then some (.int (i * j)) else none
def fdivI : D → D → Option D := iiD fun i j => if CDivN i j then some (.int (i.fdiv j)) else none
def modI : D → D → Option D := iiD fun i j => if j ≠ 0 then some (.int (i.fmod j)) else none
def powI : D → D → Option D := iiD fun i j => if CPow i j then some (.int (i ^ j.toNat)) else none
theorem ok_add : OpOk X (binaryOp .Add) addI := ok_ii op_add fun i j d e => by cases e; exact ⟨_, fun _ _ _ => .int _, fun H Q q => ⟨i, j, rfl, rfl, q⟩⟩
theorem ok_sub : OpOk X (binaryOp .Sub) subI := ok_ii op_sub fun i j d e => by cases e; exact ⟨_, fun _ _ _ => .int _, fun H Q q => ⟨i, j, rfl, rfl, q⟩⟩
theorem ok_mul : OpOk X (binaryOp .Mult) mulI := ok_ii op_mul fun i j d e => by
  by_cases h : CMul i j
  · rw [if_pos h] at e; cases e; exact ⟨_, fun _ _ _ => .int _, fun H Q q => ⟨i, j, rfl, rfl, h, q⟩⟩
  · rw [if_neg h] at e; cases e
theorem ok_fdiv : OpOk X (binaryOp .FloorDiv) fdivI := ok_ii op_fdivN fun i j d e => by
  by_cases h : CDivN i j
  · rw [if_pos h] at e; cases e; exact ⟨_, fun _ _ _ => .int _, fun H Q q => ⟨i, j, rfl, rfl, h, q⟩⟩
  · rw [if_neg h] at e; cases e
theorem ok_mod : OpOk X (binaryOp .Mod) modI := ok_ii op_modN fun i j d e => by
  by_cases h : j ≠ 0
  · rw [if_pos h] at e; cases e; exact ⟨_, fun _ _ _ => .int _, fun H Q q => ⟨i, j, rfl, rfl, h, q⟩⟩
  · rw [if_neg h] at e; cases e
theorem ok_pow : OpOk X (binaryOp .Pow) powI := ok_ii op_pow fun i j d e => by
  by_cases h : CPow i j
  · rw [if_pos h] at e; cases e; exact ⟨_, fun _ _ _ => .int _, fun H Q q => ⟨i, j, rfl, rfl, h, q⟩⟩
  · rw [if_neg h] at e; cases e
def ltI : D → D → Option D := iiD fun i j => some (.bl (decide (i < j)))
def leI : D → D → Option D := iiD fun i j => some (.bl (decide (i ≤ j)))
def gtI : D → D → Option D := iiD fun i j => some (.bl (decide (j < i)))
def geI : D → D → Option D := iiD fun i j => some (.bl (decide (j ≤ i)))
theorem ok_lt : OpOk X (compareOp .Lt) ltI := ok_ii op_lt fun i j d e => by cases e; exact ⟨_, fun _ _ _ => .bl _, fun H Q q => ⟨i, j, rfl, rfl, q⟩⟩
theorem ok_le : OpOk X (compareOp .LtE) leI := ok_ii op_le fun i j d e => by cases e; exact ⟨_, fun _ _ _ => .bl _, fun H Q q => ⟨i, j, rfl, rfl, q⟩⟩
theorem ok_gt : OpOk X (compareOp .Gt) gtI := ok_ii op_gt fun i j d e => by cases e; exact ⟨_, fun _ _ _ => .bl _, fun H Q q => ⟨i, j, rfl, rfl, q⟩⟩
theorem ok_ge : OpOk X (compareOp .GtE) geI := ok_ii op_ge fun i j d e => by cases e; exact ⟨_, fun _ _ _ => .bl _, fun H Q q => ⟨i, j, rfl, rfl, q⟩⟩
/-! ### equality -/
def eqP (a b : D) : Option Bool := match D.pd a, D.pd b with
  | some p, some q => if SeqAt.shaped p && SeqAt.shaped q then some (PyData.eqv p q) else none
  | _, _ => none
def eqD (a b : D) : Option D := (eqP a b).map .bl
def neD (a b : D) : Option D := (eqP a b).map fun x => .bl (!x)
theorem eqP_some {a b : D} {x : Bool} (h : eqP a b = some x) : ∃ p q, D.pd a = some p ∧ D.pd b = some q ∧ SeqAt.shaped p = true ∧ SeqAt.shaped q = true ∧ PyData.eqv p q = x := by
  unfold eqP at h
  cases e : D.pd a with
  | none => rw [e] at h; cases h
  | some p =>
    cases e2 : D.pd b with
    | none => rw [e, e2] at h; cases h
    | some q =>
      rw [e, e2] at h
      simp only at h
      by_cases hs : (SeqAt.shaped p && SeqAt.shaped q) = true
      · rw [if_pos hs] at h
        cases h
        rw [Bool.and_eq_true] at hs
        exact ⟨p, q, rfl, rfl, hs.1, hs.2, rfl⟩
      · rw [if_neg hs] at h; cases h
theorem ok_eq (g : Good X) : OpOk X (compareOp .Eq) eqD := by
  refine ⟨_, op_eqD (by have := g.hu; omega), fun C σ ρ E H F U a b x y d Q w ra rb e k => ?_⟩
  unfold eqD at e
  cases z : eqP a b with
  | none => rw [z] at e; cases e
  | some c =>
    rw [z] at e
    cases e
    obtain ⟨p, q, h1, h2, h3, h4, h5⟩ := eqP_some z
    exact ⟨p, q, ra.dp h1, rb.dp h2, h3, h4, k _ H F w (by rw [h5]; exact .bl c)⟩
theorem ok_ne (g : Good X) : OpOk X (compareOp .NotEq) neD := by
  refine ⟨_, op_neD (by have := g.hu; omega), fun C σ ρ E H F U a b x y d Q w ra rb e k => ?_⟩
  unfold neD at e
  cases z : eqP a b with
  | none => rw [z] at e; cases e
  | some c =>
    rw [z] at e
    cases e
    obtain ⟨p, q, h1, h2, h3, h4, h5⟩ := eqP_some z
    exact ⟨p, q, ra.dp h1, rb.dp h2, h3, h4, k _ H F w (by rw [h5]; exact .bl _)⟩
/-- is None, is not None -/
def isNon : D → Bool
  | .non => true
  | _ => false
def isND : D → D → Option D
  | a, .non => some (.bl (isNon a))
  | _, _ => none
def notND : D → D → Option D
  | a, .non => some (.bl (!isNon a))
  | _, _ => none
theorem BRep.nonI {C : Cf} {F : Addr → Prop} {H : Hp} {d : D} {v : V} (r : BRep C F H d v) : decide (v = .non) = isNon d := by
  rcases r with r | ⟨a, rfl, o⟩
  · cases r <;> rfl
  · cases d with
    | non => exact o.elim
    | _ => rfl
theorem isND_some {a b d : D} (h : isND a b = some d) : b = .non ∧ d = .bl (isNon a) := by
  cases b with
  | non => exact ⟨rfl, by simpa [isND] using h.symm⟩
  | _ => simp [isND] at h
theorem notND_some {a b d : D} (h : notND a b = some d) : b = .non ∧ d = .bl (!isNon a) := by
  cases b with
  | non => exact ⟨rfl, by simpa [notND] using h.symm⟩
  | _ => simp [notND] at h
theorem ok_isN : OpOk X (compareOp .Is) isND := by
  refine ⟨_, op_isN, fun C σ ρ E H F U a b x y d Q w ra rb e k => ?_⟩
  obtain ⟨rfl, rfl⟩ := isND_some e
  cases rb.non
  refine ⟨rfl, k _ H F w ?_⟩
  rw [ra.nonI]
  exact .bl _
theorem ok_notN : OpOk X (compareOp .IsNot) notND := by
  refine ⟨_, op_notN, fun C σ ρ E H F U a b x y d Q w ra rb e k => ?_⟩
  obtain ⟨rfl, rfl⟩ := notND_some e
  cases rb.non
  refine ⟨rfl, k _ H F w ?_⟩
  rw [ra.nonI]
  exact .bl _
end
end VL

set_option maxRecDepth 100000
set_option maxHeartbeats 4000000
/-! VL4: sequences and dicts by trees. -/
namespace VL
open PySem PySem.Spec PyProof.Rows L2

section
variable {X : Cx}
def addT : D → D → Option D
  | .tup xs, .tup ys => if xs.length + ys.length ≤ 16777216 then some (.tup (xs ++ ys)) else none
  | _, _ => none
def addL : D → D → Option D
  | .lst xs, .lst ys => if xs.length + ys.length ≤ 16777216 then some (.lst (xs ++ ys)) else none
  | _, _ => none
def mulL : D → D → Option D
  | .lst xs, .int k => if -(2 ^ 63) ≤ k ∧ k < 2 ^ 63 ∧ xs.length * k.toNat ≤ 16777216 then some (.lst (List.replicate k.toNat xs).flatten) else none
  | _, _ => none
def mulT : D → D → Option D
  | .tup xs, .int k => if k = 1 then some (.tup xs) else if xs.length ≠ 0 ∧ 2 ≤ k ∧ k ≤ 1000 ∧ xs.length ≤ 1000 then some (.tup (List.replicate k.toNat xs).flatten) else none
  | _, _ => none
theorem addT_some {a b d : D} (h : addT a b = some d) : ∃ xs ys, a = .tup xs ∧ b = .tup ys ∧ xs.length + ys.length ≤ 16777216 ∧ d = .tup (xs ++ ys) := by
  cases a with
  | tup xs => cases b with
    | tup ys =>
      unfold addT at h
      by_cases hl : xs.length + ys.length ≤ 16777216
      · simp only [hl, if_true] at h; cases h; exact ⟨xs, ys, rfl, rfl, hl, rfl⟩
      · simp only [hl, if_false] at h; cases h
    | _ => cases h
  | _ => cases h
theorem addL_some {a b d : D} (h : addL a b = some d) : ∃ xs ys, a = .lst xs ∧ b = .lst ys ∧ xs.length + ys.length ≤ 16777216 ∧ d = .lst (xs ++ ys) := by
  cases a with
  | lst xs => cases b with
    | lst ys =>
      unfold addL at h
      by_cases hl : xs.length + ys.length ≤ 16777216
      · simp only [hl, if_true] at h; cases h; exact ⟨xs, ys, rfl, rfl, hl, rfl⟩
      · simp only [hl, if_false] at h; cases h
    | _ => cases h
  | _ => cases h
theorem mulL_some {a b d : D} (h : mulL a b = some d) : ∃ xs k, a = .lst xs ∧ b = .int k ∧ (-(2 ^ 63) ≤ k ∧ k < 2 ^ 63 ∧ xs.length * k.toNat ≤ 16777216) ∧ d = .lst (List.replicate k.toNat xs).flatten := by
  cases a with
  | lst xs => cases b with
    | int k =>
      unfold mulL at h
      by_cases hl : -(2 ^ 63) ≤ k ∧ k < 2 ^ 63 ∧ xs.length * k.toNat ≤ 16777216
      · simp only [hl, if_true] at h; cases h; exact ⟨xs, k, rfl, rfl, hl, rfl⟩
      · simp only [hl, if_false] at h; cases h
    | _ => cases h
  | _ => cases h
theorem nil_iff {u : Option Addr} {F : Addr → Prop} {H : Hp} {ds : List D} {vs : List V} (r : RepAll u F H ds vs) : vs = [] ↔ ds = [] := by
  cases r <;> simp
theorem Rep.tupNew {C : Cf} {σ : L2.St} {ρ : Rho} {E : List Ent} {H : Hp} {F : Addr → Prop} {U : Urn} {Q : VK} {ds : List D} {vs : List V} (w : Wf C H F U σ ρ E) (r : RepAll C.u F H ds vs) (k : KPost C σ ρ U E Q (.tup ds)) :
    ∀ p, H p = none → Q (.ref p) (upd H p (.tup vs)) := fun p hp => k _ _ F (w.new hp) (.tup upd_same (r.grow (grow_new w.ok.fdom hp)))
theorem ok_addT : OpOk X (binaryOp .Add) addT := by
  refine ⟨_, op_catA, fun C σ ρ E H F U a b x y d Q w ra rb e k => ?_⟩
  obtain ⟨xs, ys, rfl, rfl, hl, rfl⟩ := addT_some e
  obtain ⟨p, vs, rfl, hp, rv⟩ := ra.seqT
  obtain ⟨q, ws, rfl, hq, rw'⟩ := rb.seqT
  refine ⟨p, q, vs, ws, rfl, rfl, .inl (.inl hp), .inl (.inl hq), by rw [← rv.len, ← rw'.len, sizeLine_eq]; exact hl, fun z => ?_, fun z z2 => ?_, fun z z2 => Rep.tupNew w (rv.append rw') k⟩
  · have e1 := (nil_iff rv).mp z
    subst e1
    exact k _ H F w (.tup hq rw')
  · have e1 := (nil_iff rw').mp z2
    subst e1
    refine k _ H F w (.tup hp ?_)
    rw [List.append_nil]; exact rv
theorem ok_addIT : OpOk X (binaryOp .Add) (orD addI addT) := ok_add.or ok_addT
theorem new_addL : OpNew X (binaryOp .Add) addL := by
  refine ⟨_, op_cat, fun C σ ρ E H F U a b x y d Q w ra rb e k => ?_⟩
  obtain ⟨xs, ys, rfl, rfl, hl, rfl⟩ := addL_some e
  obtain ⟨p, vs, rfl, hp, rv⟩ := ra.seqL
  obtain ⟨q, ws, rfl, hq, rw'⟩ := rb.seqL
  refine ⟨p, q, vs, ws, rfl, rfl, hp, hq, by rw [← rv.len, ← rw'.len, sizeLine_eq]; exact hl, fun r hr => k _ _ F (w.newO hr fun g => ⟨_, upd_same, (rv.append rw').map g⟩)⟩
theorem new_mulL : OpNew X (binaryOp .Mult) mulL := by
  refine ⟨_, op_rep, fun C σ ρ E H F U a b x y d Q w ra rb e k => ?_⟩
  obtain ⟨xs, i, rfl, rfl, ⟨h1, h2, h3⟩, rfl⟩ := mulL_some e
  obtain ⟨p, vs, rfl, hp, rv⟩ := ra.seqL
  cases rb.int
  refine ⟨p, i, vs, rfl, rfl, hp, h1, h2, by rw [← rv.len, sizeLine_eq]; exact h3, fun r hr => k _ _ F (w.newO hr fun g => ⟨_, upd_same, (rv.flat _).map g⟩)⟩
/-! tuple * 1 is the tuple itself -/
theorem tuple_mul1 (l : Addr) (items : Array Value) (n : Nat) (sl : Array (Option Value)) (dd : Option Addr) (u : Tok) :
    Meets (Builtin.«tuple.__mul__» ⟨[.ref l, .int 1 u], []⟩) (fun _ R s => s.heap.get? l = some { cls := .type "tuple", dict := dd, data := .seq items n, slots := sl } ∧ R (.ok (.ret (Value.ref l))) s) :=
  .of_wp fun prog w A R s h => by
    obtain ⟨hp, g, d, tk, os⟩ := s
    obtain ⟨hl, h⟩ := h
    have f1 := AutoSeq1.idx_int
    wp_walk using wpAny_loadPart' hl
    repeat (first
      | (refine wpAny_ite_false (decide_eq_false (by decide)) ?_; wp_walk using wpAny_loadPart' hl)
      | (refine wpAny_ite_true (by simp) ?_; wp_walk using wpAny_loadPart' hl))
    exact ⟨_, rfl, h⟩

def rRep1 (K : PySem.W.Frag) : R2 := fun x y H Q => ∃ l xs, x = .ref l ∧ y = .int 1 ∧ SqT K H l xs ∧ Q (.ref l) H
theorem op_rep1 : OpR X (binaryOp .Mult) (rRep1 X.K) := by
  intro pins s σ H x y v u Q I rx ry h
  obtain ⟨l, xs, rfl, rfl, hT, q⟩ := h
  cases rx
  obtain ⟨t, rfl⟩ := ry
  obtain ⟨its, r, ⟨⟨cls, dd, data, sl⟩, ho, hc, n, hd⟩, hs⟩ := I.tuple hT
  simp only at hc hd
  subst hc hd
  refine wpAny_binaryOp_repeat_ref (T := "tuple") (U := "int") (by decide) ⟨_, ho, rfl⟩ (fun s' => typeIs_int s' 1 t) noFill_tuple_mul F.fills_int_mul F.slot_int_rmul repeat_tuple F.slot_int_index.lookup
    (call_meets F.slot_int_rmul (typeIs_int s 1 t) F.entry_int_rmul (F.args_int_rmul_2 _ _) (int_rmul_tuple 1 t l its.toArray n dd sl)
      ⟨ho, rfl, ⟨_, ho, rfl⟩, call_meets F.slot_tuple_mul ⟨_, ho, rfl⟩ F.entry_tuple_mul (F.args_tuple_mul_2 _ _) (tuple_mul1 l its.toArray n sl dd t) ⟨ho, ?_⟩⟩)
  exact ⟨.ref l, H, I, rfl, q⟩
theorem mulT_some {a b d : D} (h : mulT a b = some d) : ∃ xs k, a = .tup xs ∧ b = .int k ∧ ((k = 1 ∧ d = .tup xs) ∨ (xs.length ≠ 0 ∧ 2 ≤ k ∧ k ≤ 1000 ∧ xs.length ≤ 1000) ∧ d = .tup (List.replicate k.toNat xs).flatten) := by
  cases a with
  | tup xs => cases b with
    | int k =>
      refine ⟨xs, k, rfl, rfl, ?_⟩
      unfold mulT at h
      by_cases hk : k = 1
      · simp only [hk, if_true] at h; cases h; exact .inl ⟨hk, rfl⟩
      · by_cases hl : xs.length ≠ 0 ∧ 2 ≤ k ∧ k ≤ 1000 ∧ xs.length ≤ 1000
        · simp only [hk, if_false] at h
          rw [if_pos hl] at h; cases h; exact .inr ⟨hl, rfl⟩
        · simp only [hk, if_false] at h
          rw [if_neg hl] at h; cases h
    | _ => cases h
  | _ => cases h
theorem ok_mulT : OpOk X (binaryOp .Mult) mulT := by
  refine ⟨_, OpR.or op_rep1 op_repT, fun C σ ρ E H F U a b x y d Q w ra rb e k => ?_⟩
  obtain ⟨xs, i, rfl, rfl, h⟩ := mulT_some e
  obtain ⟨p, vs, rfl, hp, rv⟩ := ra.seqT
  cases rb.int
  rcases h with ⟨rfl, rfl⟩ | ⟨⟨h1, h2, h3, h4⟩, rfl⟩
  · exact .inl ⟨p, vs, rfl, rfl, .inl (.inl hp), k _ H F w (.tup hp rv)⟩
  · refine .inr ⟨p, i, vs, rfl, rfl, .inl (.inl hp), fun z => ?_, h2, h3, by rw [← rv.len]; exact h4, Rep.tupNew w (rv.flat _) k⟩
    rw [(nil_iff rv).mp z] at h1
    exact h1 rfl
theorem ok_mulIT : OpOk X (binaryOp .Mult) (orD mulI mulT) := ok_mul.or ok_mulT

/-! ### keys of dicts -/
def keyD : Key → D
  | .inl i => .int i
  | .inr s => .str s
def keyOf : D → Option Key
  | .int i => some (.inl i)
  | .str s => some (.inr s)
  | _ => none
theorem keyOf_some {d : D} {k : Key} (h : keyOf d = some k) : d = keyD k := by
  cases d <;> simp [keyOf] at h <;> subst h <;> rfl
def keysOf : List D → Option (List Key)
  | [] => some []
  | d :: ds => match keyOf d, keysOf ds with
    | some k, some ks => some (k :: ks)
    | _, _ => none
theorem keysOf_some : ∀ {ds : List D} {ks : List Key}, keysOf ds = some ks → ds = ks.map keyD
  | [], ks, h => by cases h; rfl
  | d :: ds, ks, h => by
    simp only [keysOf] at h
    cases e : keyOf d with
    | none => rw [e] at h; cases h
    | some k =>
      cases e2 : keysOf ds with
      | none => rw [e, e2] at h; cases h
      | some ks' => rw [e, e2] at h; cases h; rw [keyOf_some e, keysOf_some e2]; rfl
theorem Rep.key {u : Option Addr} {F : Addr → Prop} {H : Hp} {k : Key} {v : V} (r : Rep u F H (keyD k) v) : v = kV k := by
  cases k with
  | inl i => cases r; rfl
  | inr s => cases r; rfl
theorem RepAll.keys {u : Option Addr} {F : Addr → Prop} {H : Hp} : ∀ {ks : List Key} {vs : List V}, RepAll u F H (ks.map keyD) vs → vs = ks.map kV
  | [], _, .nil => rfl
  | k :: ks, _, .cons h r => by rw [h.key, RepAll.keys r]; rfl
theorem keyD_rep {u : Option Addr} {F : Addr → Prop} {H : Hp} (k : Key) : Rep u F H (keyD k) (kV k) := by
  cases k with
  | inl i => exact .int i
  | inr s => exact .str s
theorem keysD_rep {u : Option Addr} {F : Addr → Prop} {H : Hp} : ∀ ks : List Key, RepAll u F H (ks.map keyD) (ks.map kV)
  | [] => .nil
  | k :: ks => .cons (keyD_rep k) (keysD_rep ks)
def valD {κ : Type} [DecidableEq κ] (kvs : List (κ × D)) (k : κ) : Option D := (kvs.find? fun kv => decide (kv.1 = k)).map (·.2)
def putD {κ : Type} [DecidableEq κ] (kvs : List (κ × D)) (k : κ) (v : D) : List (κ × D) :=
  if kvs.any (fun kv => decide (kv.1 = k)) then kvs.map fun kv => if kv.1 = k then (kv.1, v) else kv else kvs ++ [(k, v)]
/-- what a dict has at a key -/
def dgetD : D → D → Option (Option D)
  | .dicK kvs, k => (keyOf k).map (valD kvs)
  | .dicT kvs, .tup ks => (keysOf ks).map (valD kvs)
  | _, _ => none
def RelOD (u : Option Addr) (F : Addr → Prop) (H : Hp) : Option D → Option V → Prop
  | some d, some v => Rep u F H d v
  | none, none => True
  | _, _ => False
theorem RepK.val {u : Option Addr} {F : Addr → Prop} {H : Hp} (k : Key) : ∀ {ds : List (Key × D)} {vs : List (Key × V)}, RepK u F H ds vs → RelOD u F H (valD ds k) (valV vs k)
  | _, _, .nil => trivial
  | (k', d) :: ds, (_, v) :: vs, .cons h r => by
    unfold valD valV
    rw [List.find?_cons, List.find?_cons]
    by_cases e : k' = k
    · simp only [e, decide_true]; exact h
    · simp only [e, decide_false]; exact RepK.val k r
theorem RepT.val {u : Option Addr} {F : Addr → Prop} {H : Hp} (k : List Key) : ∀ {ds : List (List Key × D)} {vs : List (List Key × V)}, RepT u F H ds vs → RelOD u F H (valD ds k) (valV vs k)
  | _, _, .nil => trivial
  | (k', d) :: ds, (_, v) :: vs, .cons h r => by
    unfold valD valV
    rw [List.find?_cons, List.find?_cons]
    by_cases e : k' = k
    · simp only [e, decide_true]; exact h
    · simp only [e, decide_false]; exact RepT.val k r
theorem BRep.dget {C : Cf} {F : Addr → Prop} {H : Hp} {a k : D} {x y : V} {o : Option D} (ra : BRep C F H a x) (rb : BRep C F H k y) (e : dgetD a k = some o) : ∃ p ov, x = .ref p ∧ DGet H p y ov ∧ RelOD C.u F H o ov := by
  cases a with
  | dicK kvs =>
    simp only [dgetD] at e
    cases q : keyOf k with
    | none => rw [q] at e; cases e
    | some kk =>
      rw [q] at e
      cases e
      have hk := keyOf_some q
      subst hk
      have hy : y = kV kk := by
        rcases rb with r | ⟨b, rfl, o⟩
        · exact r.key
        · cases kk <;> exact o.elim
      subst hy
      rcases ra with r | ⟨p, rfl, vs, h, r⟩
      · cases r with
        | dicK f h r => exact ⟨_, _, rfl, .inl ⟨_, kk, h, rfl, rfl⟩, r.val kk⟩
      · exact ⟨p, _, rfl, .inl ⟨_, kk, .inl h, rfl, rfl⟩, r.val kk⟩
  | dicT kvs =>
    cases k with
    | tup ks =>
      simp only [dgetD] at e
      cases q : keysOf ks with
      | none => rw [q] at e; cases e
      | some kk =>
        rw [q] at e
        cases e
        have hk := keysOf_some q
        subst hk
        obtain ⟨b, vs, rfl, hb, rv⟩ := rb.seqT
        have hv := rv.keys
        subst hv
        rcases ra with r | ⟨p, rfl, ws, h, r⟩
        · cases r with
          | dicT f h r => exact ⟨_, _, rfl, .inr ⟨_, kk, b, h, rfl, hb, rfl⟩, r.val kk⟩
        · exact ⟨p, _, rfl, .inr ⟨_, kk, b, .inl h, rfl, hb, rfl⟩, r.val kk⟩
    | _ => cases e
  | _ => cases e
theorem any_repK {u : Option Addr} {F : Addr → Prop} {H : Hp} (k : Key) : ∀ {ds : List (Key × D)} {vs : List (Key × V)}, RepK u F H ds vs → (ds.any fun kv => decide (kv.1 = k)) = vs.any fun kv => decide (kv.1 = k)
  | _, _, .nil => rfl
  | (k', d) :: ds, (_, v) :: vs, .cons h r => by rw [List.any_cons, List.any_cons, any_repK k r]
theorem any_repT {u : Option Addr} {F : Addr → Prop} {H : Hp} (k : List Key) : ∀ {ds : List (List Key × D)} {vs : List (List Key × V)}, RepT u F H ds vs → (ds.any fun kv => decide (kv.1 = k)) = vs.any fun kv => decide (kv.1 = k)
  | _, _, .nil => rfl
  | (k', d) :: ds, (_, v) :: vs, .cons h r => by rw [List.any_cons, List.any_cons, any_repT k r]
theorem map_repK {u : Option Addr} {F : Addr → Prop} {H : Hp} {k : Key} {d : D} {v : V} (q : Rep u F H d v) : ∀ {ds : List (Key × D)} {vs : List (Key × V)}, RepK u F H ds vs → RepK u F H (ds.map fun kv => if kv.1 = k then (kv.1, d) else kv) (vs.map fun kv => if kv.1 = k then (kv.1, v) else kv)
  | _, _, .nil => .nil
  | (k', d') :: ds, (_, v') :: vs, .cons h r => by
    rw [List.map_cons, List.map_cons]
    by_cases e : k' = k
    · simp only [e, if_true]; exact .cons q (map_repK q r)
    · simp only [e, if_false]; exact .cons h (map_repK q r)
theorem map_repT {u : Option Addr} {F : Addr → Prop} {H : Hp} {k : List Key} {d : D} {v : V} (q : Rep u F H d v) : ∀ {ds : List (List Key × D)} {vs : List (List Key × V)}, RepT u F H ds vs → RepT u F H (ds.map fun kv => if kv.1 = k then (kv.1, d) else kv) (vs.map fun kv => if kv.1 = k then (kv.1, v) else kv)
  | _, _, .nil => .nil
  | (k', d') :: ds, (_, v') :: vs, .cons h r => by
    rw [List.map_cons, List.map_cons]
    by_cases e : k' = k
    · simp only [e, if_true]; exact .cons q (map_repT q r)
    · simp only [e, if_false]; exact .cons h (map_repT q r)
theorem app_repK {u : Option Addr} {F : Addr → Prop} {H : Hp} : ∀ {ds es : List (Key × D)} {vs ws : List (Key × V)}, RepK u F H ds vs → RepK u F H es ws → RepK u F H (ds ++ es) (vs ++ ws)
  | _, _, _, _, .nil, r => r
  | _, _, _, _, .cons h r, q => .cons h (app_repK r q)
theorem app_repT {u : Option Addr} {F : Addr → Prop} {H : Hp} : ∀ {ds es : List (List Key × D)} {vs ws : List (List Key × V)}, RepT u F H ds vs → RepT u F H es ws → RepT u F H (ds ++ es) (vs ++ ws)
  | _, _, _, _, .nil, r => r
  | _, _, _, _, .cons h r, q => .cons h (app_repT r q)
theorem len_repK {u : Option Addr} {F : Addr → Prop} {H : Hp} : ∀ {ds : List (Key × D)} {vs : List (Key × V)}, RepK u F H ds vs → ds.length = vs.length
  | _, _, .nil => rfl
  | _, _, .cons h r => by rw [List.length_cons, List.length_cons, len_repK r]
theorem len_repT {u : Option Addr} {F : Addr → Prop} {H : Hp} : ∀ {ds : List (List Key × D)} {vs : List (List Key × V)}, RepT u F H ds vs → ds.length = vs.length
  | _, _, .nil => rfl
  | _, _, .cons h r => by rw [List.length_cons, List.length_cons, len_repT r]

theorem RepK.put {u : Option Addr} {F : Addr → Prop} {H : Hp} {k : Key} {d : D} {v : V} (q : Rep u F H d v) {ds : List (Key × D)} {vs : List (Key × V)} (r : RepK u F H ds vs) : RepK u F H (putD ds k d) (putK vs k v) := by
  unfold putD putK
  rw [any_repK k r]
  by_cases c : (vs.any fun kv => decide (kv.1 = k)) = true
  · rw [if_pos c, if_pos c]; exact map_repK q r
  · rw [if_neg c, if_neg c]; exact app_repK r (.cons q .nil)
theorem RepT.put {u : Option Addr} {F : Addr → Prop} {H : Hp} {k : List Key} {d : D} {v : V} (q : Rep u F H d v) {ds : List (List Key × D)} {vs : List (List Key × V)} (r : RepT u F H ds vs) : RepT u F H (putD ds k d) (putK vs k v) := by
  unfold putD putK
  rw [any_repT k r]
  by_cases c : (vs.any fun kv => decide (kv.1 = k)) = true
  · rw [if_pos c, if_pos c]; exact map_repT q r
  · rw [if_neg c, if_neg c]; exact app_repT r (.cons q .nil)
/-! ### in -/
def seqD : D → Option (List D)
  | .lst xs => some xs
  | .tup xs => some xs
  | _ => none
def inP (x c : D) : Option Bool := match seqD c with
  | some xs => match D.pd x, pdAll xs with
    | some p, some ps => if SeqAt.shaped p && SeqAt.shaped (.list ps) then some (ps.any fun z => PyData.eqv z p) else none
    | _, _ => none
  | none => match c with
    | .set ns => match x with
      | .int i => some (decide (i ∈ ns))
      | _ => none
    | _ => (dgetD c x).map (·.isSome)
def inD (x c : D) : Option D := (inP x c).map .bl
def notInD (x c : D) : Option D := (inP x c).map fun b => .bl (!b)
def rInT (K : PySem.W.Frag) (neg : Bool) : R2 := fun x y H Q => ∃ d ds, Dp K H x d ∧ Dp K H y (.tuple ds) ∧ SeqAt.shaped d = true ∧ SeqAt.shaped (.tuple ds) = true ∧ Q (.bl (if neg then !(ds.any fun z => PyData.eqv z d) else ds.any fun z => PyData.eqv z d)) H
theorem op_inT (hu : X.A.units + 65 < cLine) : OpR X (compareOp .In) (rInT X.K false) := by
  intro pins s σ H x y v u Q I rx ry h
  obtain ⟨d, ds, hd, he, sd, se, q⟩ := h
  obtain ⟨as, r1⟩ := Dp.reads I d x v hd rx
  obtain ⟨bs, r2⟩ := Dp.reads I (.tuple ds) y u he ry
  exact SeqAt.in_tuple_reads r2 r1 (SeqAt.canLay_of_shaped se) (SeqAt.canLay_of_shaped sd) (room_in_shaped sd hu) ⟨.bl _, H, I, rfl, q⟩
theorem op_notInT (hu : X.A.units + 65 < cLine) : OpR X (compareOp .NotIn) (rInT X.K true) := by
  intro pins s σ H x y v u Q I rx ry h
  obtain ⟨d, ds, hd, he, sd, se, q⟩ := h
  obtain ⟨as, r1⟩ := Dp.reads I d x v hd rx
  obtain ⟨bs, r2⟩ := Dp.reads I (.tuple ds) y u he ry
  exact SeqAt.notIn_tuple_reads r2 r1 (SeqAt.canLay_of_shaped se) (SeqAt.canLay_of_shaped sd) (room_in_shaped sd hu) ⟨.bl _, H, I, rfl, q⟩
def rInDic (neg : Bool) : R2 := fun y x H Q => ∃ a o, x = .ref a ∧ DGet H a y o ∧ Q (.bl (if neg then !o.isSome else o.isSome)) H
theorem op_inDic (hu : X.A.units + 1 < cLine) : OpR X (compareOp .In) (rInDic false) := by
  intro pins s σ H x y v u Q I rx ry h
  obtain ⟨a, o, rfl, g, q⟩ := h
  obtain rfl : u = Value.ref a := ry
  exact d_in hu I g rx fun s3 I3 => ⟨.bl o.isSome, H, I3, rfl, q⟩
theorem op_notInDic (hu : X.A.units + 1 < cLine) : OpR X (compareOp .NotIn) (rInDic true) := by
  intro pins s σ H x y v u Q I rx ry h
  obtain ⟨a, o, rfl, g, q⟩ := h
  obtain rfl : u = Value.ref a := ry
  exact d_notIn hu I g rx fun s3 I3 => ⟨.bl (!o.isSome), H, I3, rfl, q⟩
theorem RelOD.isSome {u : Option Addr} {F : Addr → Prop} {H : Hp} {o : Option D} {ov : Option V} (r : RelOD u F H o ov) : ov.isSome = o.isSome := by
  cases o <;> cases ov <;> first | rfl | exact r.elim
theorem shaped_tl {ps : List PyData} (h : SeqAt.shaped (.list ps) = true) : SeqAt.shaped (.tuple ps) = true := by
  unfold SeqAt.shaped at h ⊢
  rw [Bool.and_eq_true, decide_eq_true_iff] at h ⊢
  simp only [PyData.canLay0, PyData.depth] at h ⊢
  exact h
/-- the sequence's and the dict's in, without sets -/
theorem inP_cases {x c : D} {b : Bool} (h : inP x c = some b) : (∃ xs p ps, (c = .lst xs ∨ c = .tup xs) ∧ D.pd x = some p ∧ pdAll xs = some ps ∧ SeqAt.shaped p = true ∧ SeqAt.shaped (.list ps) = true ∧ b = ps.any fun z => PyData.eqv z p) ∨
    (∃ ns i, c = .set ns ∧ x = .int i ∧ b = decide (i ∈ ns)) ∨ ∃ o, dgetD c x = some o ∧ b = o.isSome := by
  unfold inP at h
  cases e : seqD c with
  | some xs =>
    rw [e] at h
    simp only at h
    have hc : c = .lst xs ∨ c = .tup xs := by
      cases c <;> simp [seqD] at e <;> subst e <;> simp
    cases q : D.pd x with
    | none => rw [q] at h; cases h
    | some p =>
      cases q2 : pdAll xs with
      | none => rw [q, q2] at h; cases h
      | some ps =>
        rw [q, q2] at h
        simp only at h
        by_cases hs : (SeqAt.shaped p && SeqAt.shaped (.list ps)) = true
        · rw [if_pos hs] at h
          cases h
          rw [Bool.and_eq_true] at hs
          exact .inl ⟨xs, p, ps, hc, rfl, q2, hs.1, hs.2, rfl⟩
        · rw [if_neg hs] at h; cases h
  | none =>
    rw [e] at h
    simp only at h
    have dd : (dgetD c x).map (·.isSome) = some b → ∃ o, dgetD c x = some o ∧ b = o.isSome := fun h => by
      cases q : dgetD c x with
      | none => rw [q] at h; cases h
      | some o => rw [q] at h; cases h; exact ⟨o, rfl, rfl⟩
    cases c with
    | set ns =>
      cases x with
      | int i => cases h; exact .inr (.inl ⟨ns, i, rfl, rfl, rfl⟩)
      | _ => cases h
    | _ => exact .inr (.inr (dd h))
theorem pd_lst {xs : List D} {ps : List PyData} (h : pdAll xs = some ps) : D.pd (.lst xs) = some (.list ps) := by simp [D.pd, h]
theorem pd_tup {xs : List D} {ps : List PyData} (h : pdAll xs = some ps) : D.pd (.tup xs) = some (.tuple ps) := by simp [D.pd, h]
def noSet : D → Bool
  | .set _ => false
  | _ => true
def inDn (x c : D) : Option D := if noSet c then inD x c else none
def notInDn (x c : D) : Option D := if noSet c then notInD x c else none
theorem ok_in (g : Good X) : OpOk X (compareOp .In) inDn := by
  refine ⟨_, OpR.or (op_inD g.hu) (OpR.or (op_inT g.hu) (op_inDic (by have := g.hu; omega))), fun C σ ρ E H F U a b x y d Q w ra rb e k => ?_⟩
  unfold inDn at e
  by_cases hn : noSet b = true
  · rw [if_pos hn] at e
    unfold inD at e
    cases z : inP a b with
    | none => rw [z] at e; cases e
    | some c =>
      rw [z] at e
      cases e
      have kk : Q (.bl c) H := k _ H F w (.bl c)
      rcases inP_cases z with ⟨xs, p, ps, hc, h1, h2, h3, h4, rfl⟩ | ⟨ns, i, rfl, _⟩ | ⟨o, h1, rfl⟩
      · rcases hc with rfl | rfl
        · exact .inl ⟨p, ps, ra.dp h1, rb.dp (pd_lst h2), h3, h4, kk⟩
        · exact .inr (.inl ⟨p, ps, ra.dp h1, rb.dp (pd_tup h2), h3, shaped_tl h4, kk⟩)
      · cases hn
      · obtain ⟨p, ov, rfl, g1, g2⟩ := rb.dget ra h1
        refine .inr (.inr ⟨p, ov, rfl, g1, ?_⟩)
        rw [← g2.isSome] at kk
        exact kk
  · rw [if_neg hn] at e; cases e
theorem ok_notIn (g : Good X) : OpOk X (compareOp .NotIn) notInDn := by
  refine ⟨_, OpR.or (op_notInD g.hu) (OpR.or (op_notInT g.hu) (op_notInDic (by have := g.hu; omega))), fun C σ ρ E H F U a b x y d Q w ra rb e k => ?_⟩
  unfold notInDn at e
  by_cases hn : noSet b = true
  · rw [if_pos hn] at e
    unfold notInD at e
    cases z : inP a b with
    | none => rw [z] at e; cases e
    | some c =>
      rw [z] at e
      cases e
      have kk : Q (.bl (!c)) H := k _ H F w (.bl _)
      rcases inP_cases z with ⟨xs, p, ps, hc, h1, h2, h3, h4, rfl⟩ | ⟨ns, i, rfl, _⟩ | ⟨o, h1, rfl⟩
      · rcases hc with rfl | rfl
        · exact .inl ⟨p, ps, ra.dp h1, rb.dp (pd_lst h2), h3, h4, kk⟩
        · exact .inr (.inl ⟨p, ps, ra.dp h1, rb.dp (pd_tup h2), h3, shaped_tl h4, kk⟩)
      · cases hn
      · obtain ⟨p, ov, rfl, g1, g2⟩ := rb.dget ra h1
        refine .inr (.inr ⟨p, ov, rfl, g1, ?_⟩)
        rw [← g2.isSome] at kk
        exact kk
  · rw [if_neg hn] at e; cases e

/-! ### subscripts -/
def ixD : D → D → Option D
  | .lst xs, .int i => atI xs i
  | .tup xs, .int i => atI xs i
  | a, k => (dgetD a k).bind id
variable {W : XK} {ea eb : Expr} {a b : Opd} {pos : Pos}
theorem at_rep {u : Option Addr} {F : Addr → Prop} {H : Hp} {ds : List D} {vs : List V} {i : Int} {d : D} (r : RepAll u F H ds vs) (h : atI ds i = some d) : ∃ v, atI vs i = some v ∧ Rep u F H d v := by
  unfold atI at h ⊢
  rw [← r.len]
  cases e : ixN ds.length i with
  | none => rw [e] at h; cases h
  | some j => rw [e] at h; exact r.getD h
theorem dget_id {a k d : D} (h : (dgetD a k).bind id = some d) : dgetD a k = some (some d) := by
  cases q : dgetD a k with
  | none => rw [q] at h; cases h
  | some o => rw [q] at h; exact congrArg some h
theorem ixD_cases {a k d : D} (h : ixD a k = some d) : (∃ xs i, (a = .lst xs ∨ a = .tup xs) ∧ k = .int i ∧ atI xs i = some d) ∨ dgetD a k = some (some d) := by
  cases a with
  | lst xs =>
    cases k with
    | int i => exact .inl ⟨xs, i, .inl rfl, rfl, h⟩
    | _ => exact .inr (dget_id h)
  | tup xs =>
    cases k with
    | int i => exact .inl ⟨xs, i, .inr rfl, rfl, h⟩
    | _ => exact .inr (dget_id h)
  | _ => exact .inr (dget_id h)
def eIx (a b : Opd) : M D := eBin ixD a b
def rIxDic : R2 := fun x y H Q => ∃ a v, x = .ref a ∧ DGet H a y (some v) ∧ Q v H
theorem ix_dic (hu : X.A.units + 1 < cLine) : IxR X rIxDic := by
  intro value slice pins s σ H x y v u Q I rx ry h hs
  obtain ⟨a, z, rfl, g, q⟩ := h
  obtain rfl : v = Value.ref a := rx
  have hT := dict_typeIs I g
  unfold subscriptTail
  refine wpAny_bind ?_
  rw [getitemInPython_of_ne hT.not_modules]
  refine wpAny_bind (wpAny_specialOf hT PySem.F.slot_dict_getitem.lookup ?_)
  have fin : wpAny (model X.prog X.w) X.A (subscripted slice false (.ref a) u) (fun r s₃ => wpAny (model X.prog X.w) X.A (letTemporaryGo value (.ref a) r >>= fun _ => pure r) (EP X pins σ Q) X.xe s₃) X.xe s := by
    rw [hs]
    exact wpAny_operating (wpAny_mono (d_getItem hu I g ry fun w' s3 I3 rw' => (⟨z, H, I3, rw', q⟩ : EP X pins σ Q w' s3)) (fun r s₃ h₃ => wpAny_bind (wpAny_letTemporaryGo (wpAny_pure h₃))) fun _ _ x => x)
  first
    | exact wpAny_pure (wpAny_bind fin)
    | exact wpAny_bind (wpAny_pure (wpAny_bind fin))
    | exact wpAny_bind fin
    | exact wpAny_pure fin
    | exact fin
theorem c_ix (g : Good X) (ha : COp X W ea a) (hb : COp X W eb b) (hs : PlainIx eb := by intro _ _; rfl) : CE X W (.Subscript ea eb pos) (eIx a b) := by
  obtain ⟨ta, tb, pa, pb, run⟩ := run2 (β := D) ha hb
  refine ⟨_, pe_ix (IxR.or ix_list (IxR.or ix_tup (ix_dic (by have := g.hu; omega)))) pa pb hs, fun C σ ρ E H F U Q w z => ?_⟩
  refine run C σ ρ E H F U _ _ _ w Rc.e z fun dx dy ρ1 U1 x y H1 F1 w1 r1 r2 z1 => ?_
  obtain ⟨d, e, k⟩ := opt_e z1
  rcases ixD_cases e with ⟨xs, i, hx, rfl, h⟩ | h
  · cases r2.int
    rcases hx with rfl | rfl
    · obtain ⟨p, vs, rfl, hp, rv⟩ := r1.seqL
      obtain ⟨v, h1, h2⟩ := at_rep rv h
      exact .inl ⟨p, vs, i, v, rfl, rfl, .inl (.inl hp), h1, k v H1 F1 w1 h2⟩
    · obtain ⟨p, vs, rfl, hp, rv⟩ := r1.seqT
      obtain ⟨v, h1, h2⟩ := at_rep rv h
      exact .inr (.inl ⟨p, vs, i, v, rfl, rfl, .inl (.inl hp), h1, k v H1 F1 w1 h2⟩)
  · obtain ⟨p, ov, rfl, g1, g2⟩ := r1.dget r2 h
    cases ov with
    | none => exact g2.elim
    | some v => exact .inr (.inr ⟨p, v, rfl, g1, k v H1 F1 w1 g2⟩)

/-! ### slices -/
def cut {α : Type} (xs : List α) (lo hi : Option Int) : List α := (xs.drop (HT.sIx xs.length 0 lo)).take (HT.sIx xs.length xs.length hi - HT.sIx xs.length 0 lo)
theorem cut_rep {u : Option Addr} {F : Addr → Prop} {H : Hp} {ds : List D} {vs : List V} (r : RepAll u F H ds vs) (lo hi : Option Int) : RepAll u F H (cut ds lo hi) (cutV vs lo hi) := by
  unfold cut cutV
  rw [← r.len]
  exact (r.drop _).take _
/-- a part of a slice -/
def CPO (X : Cx) (W : XK) (e : Option Expr) (m : M (Option Int)) : Prop :=
  ∃ t, PO X e t ∧ ∀ C σ ρ E H F U Q, Wf C H F U σ ρ E → (match m ρ U with
    | .ok i ρ' U' => ∀ H' F', Wf C H' F' U' σ ρ' E → Q i H'
    | .exc x ρ' U' => XPost C σ E X.mg W x ρ' U'
    | .stk => False) → t σ H Q
def pNone : M (Option Int) := fun ρ U => .ok none ρ U
def pInt (m : M D) : M (Option Int) := fun ρ U => (m ρ U).bind fun d ρ U => match d with
  | .int i => .ok (some i) ρ U
  | _ => .stk
theorem cp_none : CPO X W none pNone := ⟨_, po_none, fun C σ ρ E H F U Q w z => z H F w⟩
theorem cp_int {e : Expr} {m : M D} (h : CE X W e m) : CPO X W (some e) (pInt m) := by
  obtain ⟨t, p, q⟩ := h
  refine ⟨_, po_some p, fun C σ ρ E H F U Q w z => ?_⟩
  refine q C σ ρ E H F U _ w ?_
  unfold pInt at z
  cases r : m ρ U with
  | stk => rw [r] at z; exact z
  | exc x ρ' U' => rw [r] at z; exact z
  | ok d ρ' U' =>
    rw [r] at z
    intro v H' F' w' rr
    cases d with
    | int i => cases rr; exact ⟨i, rfl, z H' F' w'⟩
    | _ => exact z.elim
def slT : D → Option Int → Option Int → Option D
  | .tup xs, lo, hi => some (.tup (cut xs lo hi))
  | _, _, _ => none
def slL : D → Option Int → Option Int → Option D
  | .lst xs, lo, hi => some (.lst (cut xs lo hi))
  | _, _, _ => none
/-- a slice: the value first, then the ends, then the value as it stands -/
def eSl (f : D → Option Int → Option Int → Option D) (a : Opd) (lo hi : M (Option Int)) : M D := match a with
  | .ev m => fun ρ U => (m ρ U).bind fun d ρ U => (lo ρ U).bind fun l ρ U => (hi ρ U).bind fun h => opt (f d l h)
  | .sl i => lk i fun _ ρ U => (lo ρ U).bind fun l ρ U => (hi ρ U).bind fun h => lk i fun d => opt (f d l h)
theorem runP {β : Type} {m : M (Option Int)} {k : Option Int → M β} {P : R β → Prop} {t : TO} {Q : Option Int → Hp → Prop} {C : Cf} {H : Hp} {F : Addr → Prop} {U : Urn} {σ : L2.St} {ρ : Rho} {E : List Ent} (q : ∀ C σ ρ E H F U Q, Wf C H F U σ ρ E → (match m ρ U with
    | .ok i ρ' U' => ∀ H' F', Wf C H' F' U' σ ρ' E → Q i H'
    | .exc x ρ' U' => XPost C σ E X.mg W x ρ' U'
    | .stk => False) → t σ H Q) (w : Wf C H F U σ ρ E) (rc : Rc C σ E X.mg W P)
    (z : P ((m ρ U).bind k)) (h : ∀ i ρ' U' H' F', Wf C H' F' U' σ ρ' E → P (k i ρ' U') → Q i H') : t σ H Q := by
  refine q C σ ρ E H F U Q w ?_
  cases r : m ρ U with
  | ok d ρ' U' => rw [r] at z; exact fun H' F' w' => h d ρ' U' H' F' w' z
  | exc x ρ' U' => rw [r] at z; exact rc.1 x ρ' U' z
  | stk => rw [r] at z; exact rc.2 z
theorem runSl {f : D → Option Int → Option Int → Option D} {lo hi : Option Expr} {ml mh : M (Option Int)} (ha : COp X W ea a) (hl : CPO X W lo ml) (hh : CPO X W hi mh) :
    ∃ ta tl th, PE X ea ta ∧ PO X lo tl ∧ PO X hi th ∧ ∀ (C : Cf) (σ : L2.St) (ρ : Rho) (E : List Ent) (H : Hp) (F : Addr → Prop) (U : Urn) (P : R D → Prop) (Q : V → Option Int → Option Int → Hp → Prop), Wf C H F U σ ρ E → Rc C σ E X.mg W P → P (eSl f a ml mh ρ U) →
      (∀ d l h ρ' U' x H' F', Wf C H' F' U' σ ρ' E → BRep C F' H' d x → P (opt (f d l h) ρ' U') → Q x l h H') → ta σ H fun x H1 => tl σ H1 fun l H2 => th σ H2 fun h H3 => Q x l h H3 := by
  obtain ⟨tl, pl, ql⟩ := hl
  obtain ⟨th, ph, qh⟩ := hh
  cases a with
  | ev m =>
    obtain ⟨t, p, q⟩ := ha
    refine ⟨t, tl, th, p, pl, ph, fun C σ ρ E H F U P Q w rc z hq => ?_⟩
    refine runE q w rc z fun dx ρ1 U1 x H1 F1 w1 r1 z1 => ?_
    refine runP ql (w1.push r1) rc.pop z1 fun l ρ2 U2 H2 F2 w2 z2 => ?_
    refine runP qh w2 rc.pop z2 fun h ρ3 U3 H3 F3 w3 z3 => ?_
    exact hq dx l h ρ3 U3 x H3 F3 w3.pop (.inl w3.topR) z3
  | sl i =>
    refine ⟨_, tl, th, ha, pl, ph, fun C σ ρ E H F U P Q w rc z hq => ?_⟩
    have z : P (lk i (fun _ ρ U => (ml ρ U).bind fun l ρ U => (mh ρ U).bind fun h => lk i fun d => opt (f d l h)) ρ U) := z
    unfold lk at z
    cases e : look ρ i with
    | none => rw [e] at z; exact (rc.2 z).elim
    | some d =>
      rw [e] at z
      obtain ⟨v, h1, h2⟩ := w.look e
      refine ⟨v, h1, ?_⟩
      refine runP ql w rc z fun l ρ2 U2 H2 F2 w2 z2 => ?_
      refine runP qh w2 rc z2 fun h ρ3 U3 H3 F3 w3 z3 => ?_
      cases e2 : look ρ3 i with
      | none => simp only [e2] at z3; exact (rc.2 z3).elim
      | some dx =>
        simp only [e2] at z3
        obtain ⟨v', g1, g2⟩ := w3.look e2
        have : v = v' := by rw [h1] at g1; simpa using g1
        subst this
        exact hq dx l h ρ3 U3 v H3 F3 w3 g2 z3
theorem c_slT {lo hi : Option Expr} {ml mh : M (Option Int)} {p2 : Pos} (ha : COp X W ea a) (hl : CPO X W lo ml) (hh : CPO X W hi mh) : CE X W (.Subscript ea (.Slice lo hi none p2) pos) (eSl slT a ml mh) := by
  obtain ⟨ta, tl, th, pa, pl, ph, run⟩ := runSl (f := slT) ha hl hh
  refine ⟨_, pe_slice sl_tupA pa pl ph, fun C σ ρ E H F U Q w z => ?_⟩
  refine run C σ ρ E H F U _ _ w Rc.e z fun d l h ρ1 U1 x H1 F1 w1 r1 z1 => ?_
  obtain ⟨d', e, k⟩ := opt_e z1
  cases d with
  | tup xs =>
    cases e
    obtain ⟨p, vs, rfl, hp, rv⟩ := r1.seqT
    refine ⟨p, vs, rfl, .inl (.inl hp), fun hw => ?_, fun _ => Rep.tupNew w1 (cut_rep rv l h) k⟩
    have e1 : cut xs l h = xs := by
      unfold cut
      rw [← rv.len] at hw
      rw [hw.1, hw.2]
      simp
    rw [e1] at k
    exact k _ H1 F1 w1 (.tup hp rv)
  | _ => cases e
theorem c_slL {lo hi : Option Expr} {ml mh : M (Option Int)} {p2 : Pos} (ha : COp X W ea a) (hl : CPO X W lo ml) (hh : CPO X W hi mh) : CO X W (.Subscript ea (.Slice lo hi none p2) pos) (eSl slL a ml mh) := by
  obtain ⟨ta, tl, th, pa, pl, ph, run⟩ := runSl (f := slL) ha hl hh
  refine ⟨_, pe_slice sl_list pa pl ph, fun C σ ρ E H F U Q w z => ?_⟩
  refine run C σ ρ E H F U _ _ w Rc.o z fun d l h ρ1 U1 x H1 F1 w1 r1 z1 => ?_
  obtain ⟨d', e, k⟩ := opt_o z1
  cases d with
  | lst xs =>
    cases e
    obtain ⟨p, vs, rfl, hp, rv⟩ := r1.seqL
    exact ⟨p, vs, rfl, .inl (.inl hp), fun r hr => k _ _ F1 (w1.newO hr fun g => ⟨_, upd_same, (cut_rep rv l h).map g⟩)⟩
  | _ => cases e
end
end VL

set_option maxRecDepth 100000
set_option maxHeartbeats 4000000
/-! VLE: enumerate over a tuple. -/
namespace VL
open PySem PySem.Spec PyProof.Rows L2

theorem meets_enumerate_new1 {v : Value} {o : Obj} {H : Heap → Prop} (B : Begins v o H) :
    Meets (Builtin.«enumerate.__new__» ⟨[.type "enumerate", v], []⟩) (fun _ R s => H s.heap ∧
      R (.ok (.ret (.ref (s.heap.push o).objs.size))) { s with heap := (s.heap.push o).push { cls := .type "enumerate", data := .fields #[.none, .bool false, .ref s.heap.objs.size, rawInt 0, .none, .none] } }) :=
  .of_wp fun prog w A R s h => by
    obtain ⟨hp, g, d, tk, os⟩ := s; obtain ⟨h1, h⟩ := h
    have hsub := sub_enumerate
    have q1 : ∀ {A' : Around} {E : Value → Shared → Prop} {Q : Value → Shared → Prop}, Q (.ref hp.objs.size) ⟨hp.push o, g, d, tk, os⟩ → wpAny (model prog w) A' (pyIter v) Q E ⟨hp, g, d, tk, os⟩ :=
      fun q => B.iter prog w _ _ ⟨hp, g, d, tk, os⟩ _ h1 q
    wp_walk using q1
    refine wpAny_stack_any fun st => wpAny_pure ?_
    split
    · rename_i c _ _ _ _ _
      cases (c == Value.type "enumerate")
      · wp_walk using q1
        exact ⟨_, rfl, h⟩
      · wp_walk using q1
        exact ⟨_, rfl, h⟩
    · wp_walk using q1
      exact ⟨_, rfl, h⟩
section
variable {prog : Program} {w : World} {A : Around} {E : Value → Shared → Prop} {s : Shared}
theorem enum_begins1 {v : Value} {o : Obj} {H : Heap → Prop} {Q : Value → Shared → Prop} (B : Begins v o H) (h1 : H s.heap)
    (h : ∀ h', IsEnum h' (s.heap.objs.size + 1) s.heap.objs.size 0 .none → h'.get? s.heap.objs.size = some o → h'.objs.size = s.heap.objs.size + 2 →
      (∀ b o, s.heap.get? b = some o → h'.get? b = some o) → Q (.ref (s.heap.objs.size + 1)) { s with heap := h' }) :
    wpAny (model prog w) A (call (.type "enumerate") [v]) Q E s := by
  refine callType_new F.called_enumerate (by decide) (F.typeCall_enumerate_1 _) (F.newCall_enumerate_1 _) (fun obj => F.args_object_init_2 obj _) F.entry_enumerate_new
    (meets_enumerate_new1 B) ⟨h1, ?_⟩
  have hz : (s.heap.push o).objs.size = s.heap.objs.size + 1 := Heap.size_push ..
  show _ ∧ _
  rw [hz]
  have he : IsEnum ((s.heap.push o).push { cls := .type "enumerate", data := .fields #[.none, .bool false, .ref s.heap.objs.size, rawInt 0, .none, .none] }) (s.heap.objs.size + 1) s.heap.objs.size 0 .none := by
    have := Heap.get?_push_size (s.heap.push o) (o := { cls := .type "enumerate", data := .fields #[.none, .bool false, .ref s.heap.objs.size, rawInt 0, .none, .none] }) rfl
    rw [hz] at this; exact this
  refine ⟨⟨_, he, rfl⟩, h _ he (Heap.get?_push_of_some _ (Heap.get?_push_size _ B.free)) (by rw [Heap.size_push, hz]) fun b o x => Heap.get?_push_of_some _ (Heap.get?_push_of_some _ x)⟩
end
section
variable {prog : Program} {w : World} {A : Around} {E : Value → Shared → Prop} {s : Shared}
theorem wpAny_pyNext_enum_endT {e it l : Addr} {i : Nat} {items : Array Value} {old : Value} {Q : Option Value → Shared → Prop} (hh : A.handled = none)
    (he : IsEnum s.heap e it i old) (hit : s.heap.IsTupleIter it l i) (hl : s.heap.IsTuple l items) (hx : items[i]? = none)
    (hQ : ∀ h', Heap.ExtBut it s.heap h' → Q none { s with heap := h' }) : wpAny (model prog w) A (pyNext (.ref e)) Q E s := by
  have hT : s.TypeIs (.ref e) "enumerate" := ⟨_, he, rfl⟩
  unfold pyNext
  refine wpAny_bind (wpAny_attempt (wpAny_callSpecial?_slot (name := Str.ofString "__next__") hT F.slot_enumerate_next
    (wpAny_call_entry F.slot_enumerate_next hT F.entry_enumerate_next ?_ (F.args_enumerate_next_1 _))))
  show wpAny _ _ (field (.ref e) 2 >>= _) _ _ _
  refine wpAny_bind (wpAny_field he rfl (x := .ref it) rfl ?_)
  refine wpAny_bind (wpAny_nextOf_tuple_end hh hit hl hx fun h' x he' hx' => ?_)
  obtain ⟨o, ho, hc⟩ := hx'
  refine wpAny_bind (wpAny_isInstance (T := "StopIteration") (b := true) ⟨o, ho, hc⟩ isSubtype_stop ?_)
  exact wpAny_pure (hQ _ he')
end
/-- the tuple at a, each item in a new pair -/
def IteT (K : PySem.W.Frag) (a : Addr) : It :=
  ⟨fun i H => ∃ (xs : List V) (x : V), SqT K H a xs ∧ xs[i]? = some x, fun i H v H' => ∃ T x, v = .ref T ∧ H T = none ∧ H' = upd H T (.tup [.int (i : Nat), x]) ∧ ∀ xs, SqT K H a xs → xs[i]? = some x, fun i H => ∃ xs : List V, SqT K H a xs ∧ xs.length ≤ i⟩
theorem turn_enumT {P : Program} {w : World} {K : PySem.W.Frag} {elts : List Expr} {kk : Nat} {tpos : Pos} (a e it : Addr) (hae : a ≠ it) (hae2 : e ≠ a) :
    Turn P w K (.Tuple elts kk tpos) (IteT K a) [e, it] e (fun i h => (∃ old, IsEnum h e it ((i : Nat) : Int) old) ∧ h.IsTupleIter it a i ∧ e ≠ it) where
  mem := by simp
  obj := fun i h st b hb => by
    obtain ⟨⟨old, he⟩, ⟨o, ho, hc, hd⟩, _⟩ := st
    have e' : b = e ∨ b = it := by simpa using hb
    rcases e' with z | z
    · rw [z]; exact ⟨_, he, fun v q => nomatch q⟩
    · rw [z]; exact ⟨o, ho, fun v q => by rw [hd] at q; cases q⟩
  keep := fun i h h' st k => let ⟨⟨old, he⟩, hi, hne⟩ := st; ⟨⟨old, k e (by simp) _ he⟩, hi.at fun o q => k it (by simp) o q, hne⟩
  item := by
    intro X hP hw hK hc i pins s σ H E I hf st hg
    subst hP hw hK
    obtain ⟨⟨old, he⟩, hit, hne⟩ := st
    obtain ⟨xs, x, hq, hx⟩ := hg
    obtain ⟨its, rv, p, hz⟩ := I.tuple hq
    obtain ⟨u, hu, ru⟩ := rv.get hx
    have hel : e < s.heap.objs.size := Heap.lt_size he
    have hil : it < s.heap.objs.size := by obtain ⟨_, q, _⟩ := hit; exact Heap.lt_size q
    have hlt : i < its.toArray.size := by
      have := (List.getElem?_eq_some_iff.mp hu).1
      simpa using this
    have Dr := Draws.tuple (prog := X.prog) (w := X.w) (A := X.A.in1) (I.ok.hd hc) it a hae its.toArray
    refine wpAny_pyNext_enum_itemD Dr he ⟨hit, p⟩ hlt hne (by simp; exact ⟨hne, hae2⟩) fun u' h' tk hu' ho hit' hT hsz hk => ?_
    have eu : u' = u := by
      have hu2 : its[i]? = some u' := by simpa using hu'
      rw [hu] at hu2
      exact (Option.some.inj hu2).symm
    subst eu
    refine ⟨_, rfl, wpAny_letOwnedTupleGo_enum (s := { s with heap := h', toks := tk + 1 }) ho fun h'' he' sb => ?_⟩
    have hT2 : h''.get? s.heap.objs.size = some { cls := .type "tuple", data := .seq #[.int i tk, u'] } := (sb.2 _ (Nat.ne_of_gt hel)).trans hT
    have new : ObjOk X.prog X.w (upd H s.heap.objs.size (.tup [.int (i : Nat), x])) h'' s.heap.objs.size (.tup [.int (i : Nat), x]) :=
      ⟨by show 2 ≤ sizeLine; decide, [.int i tk, u'], .cons ⟨_, rfl⟩ (.cons ru .nil), ⟨_, hT2, rfl, _, rfl⟩⟩
    have I1 : Inv X pins σ (upd H s.heap.objs.size (.tup [.int (i : Nat), x])) { s with heap := h'', toks := tk + 1 } :=
      I.turnedNew (ch := [e, it]) (fun b ob hb q => (sb.2 b (fun z => hb (by simp [z]))).trans (hk b ob (fun z => hb (by simp [z])) (fun z => hb (by simp [z])) q)) hf (Nat.le_refl _) new
    refine ⟨.ref s.heap.objs.size, _, I1, rfl, ⟨_, x, rfl, I.hok.fresh (Nat.le_refl _), rfl, fun ys hy => by rw [I.tuple_inj hy hq]; exact hx⟩, ⟨⟨u', ?_⟩, hit'.1.at fun o q => (sb.2 it (Ne.symm hne)).trans q, hne⟩, fun b hb => ?_⟩
    · have e1 : ((i + 1 : Nat) : Int) = (i : Int) + 1 := by omega
      rw [e1]; exact he'
    · have hb' : b < s.heap.objs.size := by
        have e' : b = e ∨ b = it := by simpa using hb
        rcases e' with z | z
        · rw [z]; exact hel
        · rw [z]; exact hil
      rw [upd_ne (Nat.ne_of_lt hb')]
      exact (hf b hb).1
  done := by
    intro X hP hw hK hc i pins s σ H E I hf st hg
    subst hP hw hK
    obtain ⟨⟨old, he⟩, hit, hne⟩ := st
    obtain ⟨xs, hq, hx⟩ := hg
    obtain ⟨its, rv, p, hz⟩ := I.tuple hq
    obtain ⟨f0, f1, f2, f3, f4, f5⟩ := hf it (by simp)
    have hl := rv.length
    exact wpAny_pyNext_enum_endT (I.ok.hd hc) he hit p (by simp; omega) fun h' eb => ⟨rfl, I.turned (t' := s.toks) (fun b o hb q => eb b o hb q) f0 f1 f3 f4 f5⟩
  self := fun A i s Q E st h => let ⟨⟨_, he⟩, _⟩ := st; wpAny_pyIter_enum he h
def iEnumT (K : PySem.W.Frag) (ta : TA) : TI := fun σ H R => ta σ H fun vs H1 => ∃ a xs, vs = [.ref a] ∧ SqT K H1 a xs ∧ R (IteT K a) H1
theorem pi_enumT {X : Cx} {e : Expr} {ta : TA} {p pos tpos : Pos} {elts : List Expr} {kk : Nat} (hg : Gl X "enumerate") (hm : X.mg "enumerate" = none) (ha : PA X [e] ta) (hs : starEach [e] X.env = [(false, eval e X.env)] := by rfl) :
    PI X (.Tuple elts kk tpos) (.Call (.Name "enumerate" p) [e] [] pos) (iEnumT X.K ta) := by
  refine ⟨fun pins s σ H R I h => ?_⟩
  refine Call_ (ld_blt I hg hm boot_enumerate (PyProof.Rows.callWith_type1 (thn (ha.run pos pins s σ H _ I h) fun us s1 ⟨vs, H1, I1, r1, q1⟩ => ?_) hs rfl))
  obtain ⟨a, xs, ex, hq, q⟩ := q1
  subst ex
  cases r1 with
  | cons r rr =>
    cases rr
    cases r
    obtain ⟨its, rv, p', hz⟩ := I1.tuple hq
    have ha : a < s1.heap.objs.size := by obtain ⟨o, ho, _⟩ := p'; exact Heap.lt_size ho
    refine enum_begins1 (begins_tuple a its.toArray) p' fun h' he hit hsz hk => wpAny_pyIter_enum he ?_
    have I2 : Inv X pins σ H1 { s1 with heap := h' } := I1.kept (t' := s1.toks) hk
    refine ⟨s1.heap.objs.size + 1, [s1.heap.objs.size + 1, s1.heap.objs.size], _, _, H1, rfl, I2, turn_enumT a (s1.heap.objs.size + 1) s1.heap.objs.size (Nat.ne_of_lt ha) (Nat.ne_of_gt (Nat.lt_succ_of_lt ha)), ⟨⟨.none, he⟩, ⟨_, hit, rfl, rfl⟩, Nat.succ_ne_self _⟩, fun b hb => ?_, q⟩
    have e' : b = s1.heap.objs.size + 1 ∨ b = s1.heap.objs.size := by simpa using hb
    have hle : s1.heap.objs.size ≤ b := by
      rcases e' with z | z
      · rw [z]; exact Nat.le_add_right _ _
      · rw [z]; exact Nat.le_refl _
    exact I1.fpOk hle (I1.hok.fresh hle)
end VL

set_option maxRecDepth 100000
set_option maxHeartbeats 4000000
/-! VL5: what is walked, comprehensions, statements. -/
namespace VL
open PySem PySem.Spec PyProof.Rows L2

/-! ### what is walked -/
/-- the iterator J gives the trees ds, while pe is held -/
def ItOk (C : Cf) (J : It) (ds : List D) (pe : List Ent) : Prop := ∀ H F U σ ρ E i, Wf C H F U σ ρ (pe ++ E) →
  (i < ds.length → J.go i H ∧ ∀ x H', J.yld i H x H' → ∃ d, ds[i]? = some d ∧ Wf C H' F U σ ρ (pe ++ E) ∧ Rep C.u F H' d x) ∧ (ds.length ≤ i → J.stop i H)
def IPost (C : Cf) (σ : L2.St) (E : List Ent) (mg : Str → Option Value) (W : XK) (Rq : It → Hp → Prop) : R (List D) → Prop
  | .ok ds ρ' U' => ∀ J pe H' F', Wf C H' F' U' σ ρ' (pe ++ E) → ItOk C J ds pe → Rq J H'
  | .exc x ρ' U' => XPost C σ E mg W x ρ' U'
  | .stk => False
def CI (X : Cx) (W : XK) (tg e : Expr) (m : M (List D)) : Prop :=
  ∃ t, PI X tg e t ∧ ∀ C σ ρ E H F U Rq, Wf C H F U σ ρ E → IPost C σ E X.mg W Rq (m ρ U) → t σ H Rq
theorem PI.or {X : Cx} {tg e : Expr} {t u : TI} (h : PI X tg e t) (h' : PI X tg e u) : PI X tg e (fun σ H Q => t σ H Q ∨ u σ H Q) :=
  ⟨fun pins s σ H Q I q => q.elim (h.run pins s σ H Q I) (h'.run pins s σ H Q I)⟩
theorem Rc.i {C : Cf} {σ : L2.St} {E : List Ent} {mg : Str → Option Value} {W : XK} {Rq : It → Hp → Prop} : Rc C σ E mg W (IPost C σ E mg W Rq) := ⟨fun _ _ _ h => h, fun h => h⟩
section
variable {X : Cx} {W : XK} {tg e : Expr} {pos : Pos} {C : Cf}
theorem it_list {ds : List D} {a : Addr} : ItOk C (Itl X.K a) ds [(.val (.lst ds), some (.ref a))] := by
  intro H F U σ ρ E i w
  obtain ⟨v, e, r⟩ := Wf.topV (E := E) (by exact w)
  have e : V.ref a = v := Option.some.inj e
  subst e
  cases r with
  | lst f h r =>
    refine ⟨fun hi => ?_, fun hi => ⟨_, .inl (.inl h), by rw [← r.len]; exact hi⟩⟩
    obtain ⟨v, h1, h2⟩ := r.getD (List.getElem?_eq_getElem hi)
    refine ⟨⟨_, v, .inl (.inl h), h1⟩, fun x H' y => ?_⟩
    obtain ⟨rfl, y⟩ := y
    have := y _ (.inl (.inl h))
    rw [h1] at this; cases this
    exact ⟨_, List.getElem?_eq_getElem hi, w, h2⟩
theorem it_tup {ds : List D} {a : Addr} : ItOk C (Itt X.K a) ds [(.val (.tup ds), some (.ref a))] := by
  intro H F U σ ρ E i w
  obtain ⟨v, e, r⟩ := Wf.topV (E := E) (by exact w)
  have e : V.ref a = v := Option.some.inj e
  subst e
  cases r with
  | tup h r =>
    refine ⟨fun hi => ?_, fun hi => ⟨_, .inl (.inl h), by rw [← r.len]; exact hi⟩⟩
    obtain ⟨v, h1, h2⟩ := r.getD (List.getElem?_eq_getElem hi)
    refine ⟨⟨_, v, .inl (.inl h), h1⟩, fun x H' y => ?_⟩
    obtain ⟨rfl, y⟩ := y
    have := y _ (.inl (.inl h))
    rw [h1] at this; cases this
    exact ⟨_, List.getElem?_eq_getElem hi, w, h2⟩
def iSeq (m : M D) : M (List D) := fun ρ U => (m ρ U).bind fun d => opt (seqD d)
theorem ci_seq {m : M D} (h : CE X W e m) : CI X W tg e (iSeq m) := by
  obtain ⟨t, p, q⟩ := h
  refine ⟨_, PI.or (pi_list p) (pi_tup p), fun C σ ρ E H F U Rq w z => ?_⟩
  unfold iSeq at z
  cases r : m ρ U with
  | stk => rw [r] at z; exact z.elim
  | exc x ρ' U' =>
    rw [r] at z
    exact .inl (q C σ ρ E H F U _ w (by rw [r]; exact z))
  | ok d ρ' U' =>
    rw [r] at z
    cases d with
    | lst ds =>
      refine .inl (q C σ ρ E H F U _ w ?_)
      rw [r]
      intro v H' F' w' rr
      cases rr with
      | lst f h rr => exact ⟨_, rfl, ⟨_, .inl (.inl h)⟩, z _ _ H' F' (w'.push (.lst f h rr)) it_list⟩
    | tup ds =>
      refine .inr (q C σ ρ E H F U _ w ?_)
      rw [r]
      intro v H' F' w' rr
      cases rr with
      | tup h rr => exact ⟨_, rfl, ⟨_, .inl (.inl h)⟩, z _ _ H' F' (w'.push (.tup h rr)) it_tup⟩
    | _ => exact z.elim
/-! range -/
def rgD (lo hi : Int) : List D := (List.range (hi - lo).toNat).map fun i => D.int (lo + (i : Nat))
theorem it_rng {lo hi : Int} : ItOk C (Itr lo (hi - lo).toNat) (rgD lo hi) [] := by
  intro H F U σ ρ E i w
  have hl : (rgD lo hi).length = (hi - lo).toNat := by simp [rgD]
  refine ⟨fun h => ⟨by rw [hl] at h; exact h, fun x H' y => ?_⟩, fun h => by rw [hl] at h; exact h⟩
  obtain ⟨rfl, rfl⟩ := y
  refine ⟨.int (lo + i), ?_, w, .int _⟩
  rw [hl] at h
  simp [rgD, h]
def sm62 (i : Int) : Bool := decide (-(2 ^ 62) ≤ i ∧ i < 2 ^ 62)
def iRg1 (m : M D) : M (List D) := fun ρ U => (m ρ U).bind fun d => match d with
  | .int j => if sm62 j then opt (some (rgD 0 j)) else opt none
  | _ => opt none
def iRg2 (a b : M D) : M (List D) := fun ρ U => (evs [a, b] ρ U).bind fun ds => match ds with
  | [.int i, .int j] => if sm62 i && sm62 j then opt (some (rgD i j)) else opt none
  | _ => opt none
theorem ci_rg1 {a : Expr} {m : M D} {p : Pos} (hg : Gl X "range") (hm : X.mg "range" = none) (h : CE X W a m) (hs : starEach [a] X.env = [(false, eval a X.env)] := by rfl) (hs2 : starEach [a] X.env = (false, eval a X.env) :: starEach [] X.env := by rfl) :
    CI X W tg (.Call (.Name "range" p) [a] [] pos) (iRg1 m) := by
  obtain ⟨t, pp, q⟩ := h
  refine ⟨_, pi_range1 hg hm (pa_cons pp pa_nil hs2) hs, fun C σ ρ E H F U Rq w z => ?_⟩
  refine runE (t := t) q w Rc.i z fun d ρ1 U1 v H1 F1 w1 r1 z1 => ?_
  cases d with
  | int j =>
    cases r1
    simp only at z1
    by_cases hj : sm62 j = true
    · rw [if_pos hj] at z1
      have hj2 := of_decide_eq_true hj
      have z2 := z1 (Itr 0 j.toNat) [] H1 F1 w1 (by have := it_rng (C := C) (lo := 0) (hi := j); simpa using this)
      exact ⟨j, rfl, hj2.1, hj2.2, z2⟩
    · rw [if_neg hj] at z1; exact z1.elim
  | _ => exact z1.elim
theorem ci_rg2 {a b : Expr} {m n : M D} {p : Pos} (hg : Gl X "range") (hm : X.mg "range" = none) (h : CA X W [a, b] (evs [m, n])) (hs : starEach [a, b] X.env = [(false, eval a X.env), (false, eval b X.env)] := by rfl) (hs2 : starEach [b] X.env = [(false, eval b X.env)] := by rfl) :
    CI X W tg (.Call (.Name "range" p) [a, b] [] pos) (iRg2 m n) := by
  obtain ⟨t, pp, q⟩ := h
  refine ⟨_, pi_range2 hg hm pp hs hs2, fun C σ ρ E H F U Rq w z => ?_⟩
  refine runA (t := t) q w Rc.i z fun ds ρ1 U1 vs H1 F1 _ w1 r1 z1 => ?_
  cases r1 with
  | nil => exact z1.elim
  | cons a1 r1 =>
    cases r1 with
    | nil => cases a1 <;> exact z1.elim
    | cons a2 r1 =>
      cases r1 with
      | cons _ _ => cases a1 <;> cases a2 <;> exact z1.elim
      | nil =>
        cases a1 with
        | int i =>
          cases a2 with
          | int j =>
            simp only at z1
            by_cases hj : (sm62 i && sm62 j) = true
            · rw [if_pos hj] at z1
              rw [Bool.and_eq_true] at hj
              have h1 := of_decide_eq_true hj.1
              have h2 := of_decide_eq_true hj.2
              exact ⟨i, j, rfl, ⟨h1.1, h1.2, h2.1, h2.2⟩, z1 _ [] H1 F1 w1 it_rng⟩
            · rw [if_neg hj] at z1; exact z1.elim
          | _ => exact z1.elim
        | _ => exact z1.elim
/-! enumerate -/
def enD (i : Nat) : List D → List D
  | [] => []
  | d :: ds => .tup [.int i, d] :: enD (i + 1) ds
theorem enD_get : ∀ (ds : List D) (k i : Nat), (enD k ds)[i]? = ds[i]?.map fun d => D.tup [.int ((k + i : Nat) : Int), d]
  | [], _, _ => by simp [enD]
  | d :: ds, k, 0 => by simp [enD]
  | d :: ds, k, i + 1 => by
    simp only [enD, List.getElem?_cons_succ]
    rw [enD_get ds (k + 1) i]
    rw [show k + 1 + i = k + (i + 1) by omega]
theorem enD_len : ∀ (ds : List D) (k : Nat), (enD k ds).length = ds.length
  | [], _ => rfl
  | d :: ds, k => by simp [enD, enD_len ds (k + 1)]
theorem it_enumL {ds : List D} {a : Addr} : ItOk C (Ite X.K a) (enD 0 ds) [(.val (.lst ds), some (.ref a))] := by
  intro H F U σ ρ E i w
  rw [enD_len]
  obtain ⟨v, e, r⟩ := Wf.topV (E := E) (by exact w)
  have e : V.ref a = v := Option.some.inj e
  subst e
  cases r with
  | lst f h r =>
    refine ⟨fun hi => ?_, fun hi => ⟨_, .inl (.inl h), by rw [← r.len]; exact hi⟩⟩
    obtain ⟨v, h1, h2⟩ := r.getD (List.getElem?_eq_getElem hi)
    refine ⟨⟨_, v, .inl (.inl h), h1⟩, fun x H' y => ?_⟩
    obtain ⟨T, x', rfl, hT, rfl, y⟩ := y
    have := y _ (.inl (.inl h))
    rw [h1] at this; cases this
    refine ⟨_, by rw [enD_get, List.getElem?_eq_getElem hi, Nat.zero_add]; rfl, w.new hT, .tup upd_same (.cons (.int _) (.cons (h2.grow (grow_new w.ok.fdom hT)) .nil))⟩
theorem it_enumT {ds : List D} {a : Addr} : ItOk C (IteT X.K a) (enD 0 ds) [(.val (.tup ds), some (.ref a))] := by
  intro H F U σ ρ E i w
  rw [enD_len]
  obtain ⟨v, e, r⟩ := Wf.topV (E := E) (by exact w)
  have e : V.ref a = v := Option.some.inj e
  subst e
  cases r with
  | tup h r =>
    refine ⟨fun hi => ?_, fun hi => ⟨_, .inl (.inl h), by rw [← r.len]; exact hi⟩⟩
    obtain ⟨v, h1, h2⟩ := r.getD (List.getElem?_eq_getElem hi)
    refine ⟨⟨_, v, .inl (.inl h), h1⟩, fun x H' y => ?_⟩
    obtain ⟨T, x', rfl, hT, rfl, y⟩ := y
    have := y _ (.inl (.inl h))
    rw [h1] at this; cases this
    refine ⟨_, by rw [enD_get, List.getElem?_eq_getElem hi, Nat.zero_add]; rfl, w.new hT, .tup upd_same (.cons (.int _) (.cons (h2.grow (grow_new w.ok.fdom hT)) .nil))⟩
def iEn (m : M D) : M (List D) := fun ρ U => (m ρ U).bind fun d => opt ((seqD d).map (enD 0))
theorem ci_enum {a : Expr} {m : M D} {p tpos : Pos} {elts : List Expr} {kk : Nat} (hg : Gl X "enumerate") (hm : X.mg "enumerate" = none) (h : CE X W a m) (hs : starEach [a] X.env = [(false, eval a X.env)] := by rfl) (hs2 : starEach [a] X.env = (false, eval a X.env) :: starEach [] X.env := by rfl) :
    CI X W (.Tuple elts kk tpos) (.Call (.Name "enumerate" p) [a] [] pos) (iEn m) := by
  obtain ⟨t, pp, q⟩ := h
  refine ⟨_, PI.or (pi_enum hg hm (pa_cons pp pa_nil hs2) hs) (pi_enumT hg hm (pa_cons pp pa_nil hs2) hs), fun C σ ρ E H F U Rq w z => ?_⟩
  unfold iEn at z
  cases r : m ρ U with
  | stk => rw [r] at z; exact z.elim
  | exc x ρ' U' =>
    rw [r] at z
    exact .inl (q C σ ρ E H F U _ w (by rw [r]; exact z))
  | ok d ρ' U' =>
    rw [r] at z
    cases d with
    | lst ds =>
      refine .inl (q C σ ρ E H F U _ w ?_)
      rw [r]
      intro v H' F' w' rr
      cases rr with
      | lst f h rr => exact ⟨_, _, rfl, .inl (.inl h), z _ _ H' F' (w'.push (.lst f h rr)) it_enumL⟩
    | tup ds =>
      refine .inr (q C σ ρ E H F U _ w ?_)
      rw [r]
      intro v H' F' w' rr
      cases rr with
      | tup h rr => exact ⟨_, _, rfl, .inl (.inl h), z _ _ H' F' (w'.push (.tup h rr)) it_enumT⟩
    | _ => exact z.elim
/-! zip of two lists, two tuples -/
def zpD : List D → List D → List D
  | d :: ds, e :: es => .tup [d, e] :: zpD ds es
  | _, _ => []
theorem zpD_len : ∀ ds es : List D, (zpD ds es).length = min ds.length es.length
  | [], es => by simp [zpD]
  | d :: ds, [] => by simp [zpD]
  | d :: ds, e :: es => by simp only [zpD, List.length_cons, zpD_len ds es]; omega
theorem zpD_get : ∀ (ds es : List D) (i : Nat) (d e : D), ds[i]? = some d → es[i]? = some e → (zpD ds es)[i]? = some (.tup [d, e])
  | [], _, _, _, _, h, _ => by simp at h
  | _ :: _, [], _, _, _, _, h => by simp at h
  | d :: ds, e :: es, 0, _, _, h1, h2 => by simp at h1 h2; subst h1 h2; simp [zpD]
  | d :: ds, e :: es, i + 1, _, _, h1, h2 => by simpa [zpD] using zpD_get ds es i _ _ (by simpa using h1) (by simpa using h2)
theorem it_zipL {ds es : List D} {a b : Addr} : ItOk C (Itz X.K a b) (zpD ds es) [(.val (.lst es), some (.ref b)), (.val (.lst ds), some (.ref a))] := by
  intro H F U σ ρ E i w
  rw [zpD_len]
  have r2 := Wf.topR (E := (.val (.lst ds), some (.ref a)) :: E) (by exact w)
  have r1 := Wf.topR (E := E) (by exact Wf.pop (by exact w))
  cases r1 with
  | lst f h r =>
    cases r2 with
    | lst f' h' r' =>
      refine ⟨fun hi => ?_, fun hi => ⟨_, _, .inl (.inl h), .inl (.inl h'), by rw [← r.len, ← r'.len]; omega⟩⟩
      have hi1 : i < ds.length := by omega
      have hi2 : i < es.length := by omega
      obtain ⟨v, h1, h2⟩ := r.getD (List.getElem?_eq_getElem hi1)
      obtain ⟨v', h1', h2'⟩ := r'.getD (List.getElem?_eq_getElem hi2)
      refine ⟨⟨_, _, v, v', .inl (.inl h), .inl (.inl h'), h1, h1'⟩, fun x H' y => ?_⟩
      obtain ⟨T, x', y', rfl, hT, rfl, y1, y2⟩ := y
      have := y1 _ (.inl (.inl h))
      rw [h1] at this; cases this
      have := y2 _ (.inl (.inl h'))
      rw [h1'] at this; cases this
      have g := grow_new (o := .tup [v, v']) w.ok.fdom hT
      exact ⟨_, zpD_get ds es i _ _ (List.getElem?_eq_getElem hi1) (List.getElem?_eq_getElem hi2), w.new hT, .tup upd_same (.cons (h2.grow g) (.cons (h2'.grow g) .nil))⟩
theorem it_zipT {ds es : List D} {a b : Addr} : ItOk C (RZ.ItzT X.K a b) (zpD ds es) [(.val (.tup es), some (.ref b)), (.val (.tup ds), some (.ref a))] := by
  intro H F U σ ρ E i w
  rw [zpD_len]
  have r2 := Wf.topR (E := (.val (.tup ds), some (.ref a)) :: E) (by exact w)
  have r1 := Wf.topR (E := E) (by exact Wf.pop (by exact w))
  cases r1 with
  | tup h r =>
    cases r2 with
    | tup h' r' =>
      refine ⟨fun hi => ?_, fun hi => ⟨_, _, .inl (.inl h), .inl (.inl h'), by rw [← r.len, ← r'.len]; omega⟩⟩
      have hi1 : i < ds.length := by omega
      have hi2 : i < es.length := by omega
      obtain ⟨v, h1, h2⟩ := r.getD (List.getElem?_eq_getElem hi1)
      obtain ⟨v', h1', h2'⟩ := r'.getD (List.getElem?_eq_getElem hi2)
      refine ⟨⟨_, _, v, v', .inl (.inl h), .inl (.inl h'), h1, h1'⟩, fun x H' y => ?_⟩
      obtain ⟨T, x', y', rfl, hT, rfl, y1, y2⟩ := y
      have := y1 _ (.inl (.inl h))
      rw [h1] at this; cases this
      have := y2 _ (.inl (.inl h'))
      rw [h1'] at this; cases this
      have g := grow_new (o := .tup [v, v']) w.ok.fdom hT
      exact ⟨_, zpD_get ds es i _ _ (List.getElem?_eq_getElem hi1) (List.getElem?_eq_getElem hi2), w.new hT, .tup upd_same (.cons (h2.grow g) (.cons (h2'.grow g) .nil))⟩
def zipP : List D → Option (List D)
  | [.lst xs, .lst ys] => some (zpD xs ys)
  | [.tup xs, .tup ys] => some (zpD xs ys)
  | _ => none
theorem zipP_cases {ds es : List D} (h : zipP ds = some es) : (∃ xs ys, ds = [.lst xs, .lst ys] ∧ es = zpD xs ys) ∨ ∃ xs ys, ds = [.tup xs, .tup ys] ∧ es = zpD xs ys := by
  match ds, h with
  | [.lst xs, .lst ys], h => cases h; exact .inl ⟨xs, ys, rfl, rfl⟩
  | [.tup xs, .tup ys], h => cases h; exact .inr ⟨xs, ys, rfl, rfl⟩
def iZip (a b : M D) : M (List D) := fun ρ U => (evs [a, b] ρ U).bind fun ds => opt (zipP ds)
theorem ci_zip {a b : Expr} {m n : M D} {p tpos : Pos} {elts : List Expr} {kk : Nat} (hg : Gl X "zip") (hm : X.mg "zip" = none) (h : CA X W [a, b] (evs [m, n]))
    (hs : starEach [a, b] X.env = (false, eval a X.env) :: starEach [b] X.env := by rfl) (hpl : (backTo pos (starEach [b] X.env)).any (·.1) = false := by rfl) :
    CI X W (.Tuple elts kk tpos) (.Call (.Name "zip" p) [a, b] [] pos) (iZip m n) := by
  obtain ⟨t, pp, q⟩ := h
  refine ⟨_, RZ.pi_zipA hg hm pp hs hpl, fun C σ ρ E H F U Rq w z => ?_⟩
  refine runA (t := t) q w Rc.i z fun ds ρ1 U1 vs H1 F1 _ w1 r1 z1 => ?_
  cases e : zipP ds with
  | none => rw [e] at z1; exact z1.elim
  | some es =>
    rw [e] at z1
    rcases zipP_cases e with ⟨xs, ys, rfl, rfl⟩ | ⟨xs, ys, rfl, rfl⟩
    · cases r1 with
      | cons a1 r1 => cases r1 with
        | cons a2 r1 => cases r1 with
          | nil => cases a1 with
            | lst f h r => cases a2 with
              | lst f' h' r' => exact ⟨_, _, _, _, rfl, .inl ⟨.inl (.inl h), .inl (.inl h'), z1 _ _ H1 F1 ((w1.push (.lst f h r)).push (.lst f' h' r')) it_zipL⟩⟩
    · cases r1 with
      | cons a1 r1 => cases r1 with
        | cons a2 r1 => cases r1 with
          | nil => cases a1 with
            | tup h r => cases a2 with
              | tup h' r' => exact ⟨_, _, _, _, rfl, .inr ⟨.inl (.inl h), .inl (.inl h'), z1 _ _ H1 F1 ((w1.push (.tup h r)).push (.tup h' r')) it_zipT⟩⟩
end
end VL

set_option maxRecDepth 100000
set_option maxHeartbeats 4000000
/-! VL6: targets, comprehensions, statements. -/
namespace VL
open PySem PySem.Spec PyProof.Rows L2

/-! ### targets that are names -/
inductive Tg where
  | nm (i : Nat) | tp (is : List Nat)
def gNames : List Nat → TGs
  | [] => gNil
  | i :: is => gCons (gName i) (gNames is)
/-- a tuple or a list is taken apart -/
def gEi (a b : TG) : TG := fun v σ H Q => a v σ H Q ∨ b v σ H Q
theorem pg_ei {X : Cx} {e : Expr} {a b : TG} (h : PG X e a) (h' : PG X e b) : PG X e (gEi a b) :=
  ⟨fun pins s σ H v u Q I r hw => hw.elim (fun z => h.run pins s σ H v u Q I r z) (fun z => h'.run pins s σ H v u Q I r z)⟩
def tgT (K : PySem.W.Frag) : Tg → TG
  | .nm i => gName i
  | .tp is => gEi (gTup K is.length (gNames is)) (gUnl K is.length (gNames is))
def setsR : List Nat → List D → Rho → Option Rho
  | [], [], ρ => some ρ
  | i :: is, d :: ds, ρ => if i < ρ.length then setsR is ds (ρ.set i (.val d)) else none
  | _, _, _ => none
def setsS : List Nat → List V → L2.St → L2.St
  | i :: is, v :: vs, σ => setsS is vs (σ.set i (some v))
  | _, _, σ => σ
def tgM : Tg → D → Rho → Option Rho
  | .nm i, d, ρ => if i < ρ.length then some (ρ.set i (.val d)) else none
  | .tp is, .tup ds, ρ => setsR is ds ρ
  | .tp is, .lst ds, ρ => setsR is ds ρ
  | _, _, _ => none
def tgS : Tg → V → List V → L2.St → L2.St
  | .nm i, v, _, σ => σ.set i (some v)
  | .tp is, _, vs, σ => setsS is vs σ
section
variable {C : Cf} {H : Hp} {F : Addr → Prop} {U : Urn} {E : List Ent}
theorem sets_ok : ∀ {is : List Nat} {ds : List D} {ρ ρ' : Rho} {vs : List V} {σ : L2.St} {Q : L2.St → Hp → Prop}, setsR is ds ρ = some ρ' → Wf C H F U σ ρ E → RepAll C.u F H ds vs →
    vs.length = is.length ∧ Wf C H F U (setsS is vs σ) ρ' E ∧ (Q (setsS is vs σ) H → gNames is vs σ H Q)
  | [], [], _, _, _, _, _, h, w, .nil => by cases h; exact ⟨rfl, w, fun q => ⟨rfl, q⟩⟩
  | [], _ :: _, _, _, _, _, _, h, _, _ => by cases h
  | _ :: _, [], _, _, _, _, _, h, _, _ => by cases h
  | i :: is, d :: ds, ρ, ρ', _, σ, Q, h, w, .cons (v := v) (vs := vs) r rs => by
    unfold setsR at h
    by_cases hi : i < ρ.length
    · rw [if_pos hi] at h
      have w1 := (w.push r).store hi
      obtain ⟨h1, h2, h3⟩ := sets_ok (Q := Q) h w1 rs
      exact ⟨by rw [List.length_cons, List.length_cons, h1], h2, fun q => ⟨v, vs, rfl, h3 q⟩⟩
    · rw [if_neg hi] at h; cases h
theorem tg_ok {K : PySem.W.Frag} {tg : Tg} {d : D} {ρ ρ' : Rho} {v : V} {σ : L2.St} {Q : L2.St → Hp → Prop} (h : tgM tg d ρ = some ρ') (w : Wf C H F U σ ρ E) (r : Rep C.u F H d v) :
    ∃ vs, Wf C H F U (tgS tg v vs σ) ρ' E ∧ (Q (tgS tg v vs σ) H → tgT K tg v σ H Q) := by
  cases tg with
  | nm i =>
    unfold tgM at h
    by_cases hi : i < ρ.length
    · simp only [hi, if_true] at h
      cases h
      exact ⟨[], (w.push r).store hi, fun q => q⟩
    · simp only [hi, if_false] at h; cases h
  | tp is =>
    cases d with
    | tup ds =>
      cases r with
      | tup hp rs =>
        obtain ⟨h1, h2, h3⟩ := sets_ok (Q := Q) h w rs
        exact ⟨_, h2, fun q => .inl ⟨_, _, rfl, .inl (.inl hp), h1, h3 q⟩⟩
    | lst ds =>
      cases r with
      | lst hf hp rs =>
        obtain ⟨h1, h2, h3⟩ := sets_ok (Q := Q) h w rs
        exact ⟨_, h2, fun q => .inr ⟨_, _, rfl, .inl (.inl hp), h1, h3 q⟩⟩
    | _ => cases h
def tgIx : Tg → List Nat
  | .nm i => [i]
  | .tp is => is
theorem wipe_len {σ : L2.St} (vs : List Nat) : (wipe σ vs).length = σ.length := wipe_length σ vs
theorem wipe_in {σ : L2.St} {i : Nat} : ∀ {vs : List Nat}, i ∈ vs → i < σ.length → (wipe σ vs)[i]? = some none
  | v :: vs, h, hl => by
    unfold wipe
    by_cases e : v = i
    · subst e; rw [List.getElem?_set_self (by rw [wipe_length]; exact hl)]
    · rw [List.getElem?_set_ne e]
      rcases List.mem_cons.mp h with z | z
      · exact absurd z.symm e
      · exact wipe_in z hl
theorem wipe_eq {σ τ : L2.St} {vs : List Nat} (hl : σ.length = τ.length) (h : ∀ j, j ∉ vs → σ[j]? = τ[j]?) : wipe σ vs = wipe τ vs := by
  apply List.ext_getElem?
  intro j
  by_cases hj : j ∈ vs
  · by_cases hl2 : j < σ.length
    · rw [wipe_in hj hl2, wipe_in hj (hl ▸ hl2)]
    · rw [List.getElem?_eq_none (by rw [wipe_length]; omega), List.getElem?_eq_none (by rw [wipe_length]; omega)]
  · rw [wipe_out hj, wipe_out hj]; exact h j hj
theorem setsS_len : ∀ (is : List Nat) (vs : List V) (σ : L2.St), (setsS is vs σ).length = σ.length
  | [], _, _ => by unfold setsS; rfl
  | _ :: _, [], _ => by unfold setsS; rfl
  | i :: is, v :: vs, σ => by unfold setsS; rw [setsS_len is vs, List.length_set]
theorem setsS_out : ∀ (is : List Nat) (vs : List V) (σ : L2.St) (j : Nat), j ∉ is → (setsS is vs σ)[j]? = σ[j]?
  | [], _, _, _, _ => by unfold setsS; rfl
  | _ :: _, [], _, _, _ => by unfold setsS; rfl
  | i :: is, v :: vs, σ, j, h => by
    unfold setsS
    have hij : i ≠ j := fun e => h (by rw [e]; exact List.mem_cons_self)
    rw [setsS_out is vs _ j fun z => h (List.mem_cons_of_mem _ z), List.getElem?_set_ne hij]
theorem tgS_wipe {tg : Tg} {v : V} {vs : List V} {σ : L2.St} {ws : List Nat} (h : ∀ i ∈ tgIx tg, i ∈ ws) : wipe (tgS tg v vs (wipe σ ws)) ws = wipe σ ws := by
  apply wipe_eq
  · cases tg with
    | nm i => simp [tgS, wipe_length]
    | tp is => simp [tgS, setsS_len, wipe_length]
  · intro j hj
    cases tg with
    | nm i =>
      have : i ≠ j := fun e => hj (e ▸ h i (by simp [tgIx]))
      simp only [tgS]
      rw [List.getElem?_set_ne this, wipe_out hj]
    | tp is =>
      simp only [tgS]
      have h' : j ∉ is := fun z => hj (h j (by simpa [tgIx] using z))
      rw [setsS_out _ _ _ _ h', wipe_out hj]
end
def CGn (X : Cx) (tg : Expr) (g : Tg) : Prop := PG X tg (tgT X.K g)
def CGns (X : Cx) (tgs : List Expr) (is : List Nat) : Prop := PGs X tgs (gNames is)
section
variable {X : Cx} {pos : Pos}
theorem cg_nm {i : Nat} {x : Str} (g : Good X) (hi : X.N[i]? = some x) (hx : Loc X.env.scope x) (hf : X.fn x = true ∨ X.env.scope.names.lookup x = some .local) : CGn X (.Name x pos) (.nm i) := pg_name g.nd hi hx hf
theorem cgs_nil : CGns X [] [] := pgs_nil
theorem cgs_cons {i : Nat} {x : Str} {es : List Expr} {is : List Nat} (g : Good X) (hi : X.N[i]? = some x) (hx : Loc X.env.scope x) (hf : X.fn x = true ∨ X.env.scope.names.lookup x = some .local) (h : CGns X es is)
    (hs : (assignEach (.Name x pos :: es) X.env).map (·.2) = assign (.Name x pos) X.env :: (assignEach es X.env).map (·.2) := by rfl) : CGns X (.Name x pos :: es) (i :: is) := pgs_cons (pg_name g.nd hi hx hf) h hs
theorem cg_tp {es : List Expr} {is : List Nat} {k : Nat} (g : Good X) (h : CGns X es is) (hn : (assignEach es X.env).length = is.length := by rfl) (hst : (assignEach es X.env).findIdx? (·.1) = none := by rfl) : CGn X (.Tuple es k pos) (.tp is) := pg_ei (pg_tup g.calm h hn hst) (pg_unl g.calm h hn hst)
end

/-! ### comprehensions -/
def R.bx {α β : Type} : R α → (α → M β) → R β
  | .ok a ρ U, f => f a ρ U
  | _, _ => .stk
theorem runEx {X : Cx} {β : Type} {m : M D} {k : D → M β} {P : R β → Prop} {t : TE} {Q : VK} {C : Cf} {H : Hp} {F : Addr → Prop} {U : Urn} {σ : L2.St} {ρ : Rho} {E : List Ent} (q : ∀ C σ ρ E H F U Q, Wf C H F U σ ρ E → EPost C σ E X.mg E0 Q (m ρ U) → t σ H Q) (w : Wf C H F U σ ρ E) (rc : P .stk → False)
    (z : P ((m ρ U).bx k)) (h : ∀ d ρ' U' v H' F', Wf C H' F' U' σ ρ' E → Rep C.u F' H' d v → P (k d ρ' U') → Q v H') : t σ H Q := by
  refine q C σ ρ E H F U Q w ?_
  cases r : m ρ U with
  | ok d ρ' U' => rw [r] at z; exact fun v H' F' w' r' => h d ρ' U' v H' F' w' r' z
  | exc x ρ' U' => rw [r] at z; exact (rc z).elim
  | stk => rw [r] at z; exact (rc z).elim
theorem runTx {X : Cx} {β : Type} {m : M Bool} {k : Bool → M β} {P : R β → Prop} {t : TT} {Q : Bool → Hp → Prop} {C : Cf} {H : Hp} {F : Addr → Prop} {U : Urn} {σ : L2.St} {ρ : Rho} {E : List Ent} (q : ∀ C σ ρ E H F U Q, Wf C H F U σ ρ E → TPost C σ E X.mg E0 Q (m ρ U) → t σ H Q) (w : Wf C H F U σ ρ E) (rc : P .stk → False)
    (z : P ((m ρ U).bx k)) (h : ∀ b ρ' U' H' F', Wf C H' F' U' σ ρ' E → P (k b ρ' U') → Q b H') : t σ H Q := by
  refine q C σ ρ E H F U Q w ?_
  cases r : m ρ U with
  | ok d ρ' U' => rw [r] at z; exact fun H' F' w' => h d ρ' U' H' F' w' z
  | exc x ρ' U' => rw [r] at z; exact (rc z).elim
  | stk => rw [r] at z; exact (rc z).elim
def unAll : List Nat → Rho → Rho
  | [], ρ => ρ
  | v :: vs, ρ => (unAll vs ρ).set v .un
def savR (ρ : Rho) (vs : List Nat) : List Sl := vs.map fun v => ρ.getD v .un
def restR : List Nat → List Sl → Rho → Rho
  | v :: vs, s :: ss, ρ => restR vs ss (ρ.set v s)
  | _, _, ρ => ρ
/-- the walk of a comprehension: a test, the element -/
def lcRun (tg : Tg) (vs : List Nat) (c : M Bool) (elt : M D) (fin : List D → M D) : List D → List D → M D
  | [], acc => fin acc
  | d :: ds, acc => fun ρ U => match tgM tg d ρ with
    | none => .stk
    | some ρ => (c ρ U).bx fun b ρ U => if b then (elt ρ U).bx fun x ρ U => if acc.length < 16777216 then lcRun tg vs c elt fin ds (acc ++ [x]) (unAll vs ρ) U else .stk
        else lcRun tg vs c elt fin ds acc (unAll vs ρ) U
def oLc (it : M (List D)) (tg : Tg) (vs : List Nat) (c : M Bool) (elt : M D) : M D := fun ρ U => (it ρ U).bind fun ds ρ U =>
  if vs.all (fun v => decide (v < ρ.length)) then lcRun tg vs c elt (fun acc ρ' U' => .ok (.lst acc) (restR vs (savR ρ vs) ρ') U') ds [] (unAll vs ρ) U else .stk
def tYesM : M Bool := fun ρ U => .ok true ρ U
def CTs (X : Cx) (W : XK) (ifs : List Expr) (m : M Bool) : Prop := ∃ t, PTs X ifs t ∧ ∀ C σ ρ E H F U Q, Wf C H F U σ ρ E → TPost C σ E X.mg W Q (m ρ U) → t σ H Q
theorem cts_nil {X : Cx} {W : XK} : CTs X W [] tYesM := ⟨_, pts_nil, fun C σ ρ E H F U Q w z => z H F w⟩
theorem cts_one {X : Cx} {W : XK} {c : Expr} {m : M Bool} (h : CT X W c m) : CTs X W [c] m := let ⟨t, p, q⟩ := h; ⟨t, pts_one p, q⟩
section
variable {C : Cf} {H : Hp} {F : Addr → Prop} {U : Urn} {E : List Ent}
theorem unAll_len : ∀ (vs : List Nat) (ρ : Rho), (unAll vs ρ).length = ρ.length
  | [], _ => rfl
  | v :: vs, ρ => by unfold unAll; rw [List.length_set, unAll_len vs]
theorem unAll_out : ∀ (vs : List Nat) (ρ : Rho) (j : Nat), j ∉ vs → (unAll vs ρ)[j]? = ρ[j]?
  | [], _, _, _ => rfl
  | v :: vs, ρ, j, h => by
    unfold unAll
    have hij : v ≠ j := fun e => h (by rw [e]; exact List.mem_cons_self)
    rw [List.getElem?_set_ne hij]
    exact unAll_out vs ρ j fun z => h (List.mem_cons_of_mem _ z)
theorem Wf.unset {σ : L2.St} {ρ : Rho} {v : Nat} {s : Sl} (w : Wf C H F U σ ρ E) (e : ρ[v]? = some s) (x : Option V) : ∃ y, σ[v]? = some y ∧ Wf C H F U (σ.set v x) (ρ.set v .un) ((s, y) :: E) := by
  obtain ⟨y, ey, w1⟩ := w.out e
  have hv : v < ρ.length := (List.getElem?_eq_some_iff.mp e).1
  have w2 : Wf C H F U σ (ρ.set v .un) ((.un, x) :: (s, y) :: E) := ⟨w1.len, (w1.ok.un (x := x)).perm List.perm_middle.symm⟩
  have w3 := w2.store (i := v) (by rw [List.length_set]; exact hv)
  rw [List.set_set] at w3
  exact ⟨y, ey, w3⟩
/-- the slots vs put aside -/
theorem Wf.aside : ∀ {vs : List Nat} {σ : L2.St} {ρ : Rho}, vs.Nodup → (∀ v ∈ vs, v < ρ.length) → Wf C H F U σ ρ E → ∃ sv : List (Option V), sv.length = vs.length ∧ (∀ (k v : Nat), vs[k]? = some v → ∃ y : Option V, sv[k]? = some y ∧ σ[v]? = some y) ∧
    Wf C H F U (wipe σ vs) (unAll vs ρ) ((savR ρ vs).zip sv ++ E)
  | [], σ, ρ, _, _, w => ⟨[], rfl, fun k v h => by simp at h, w⟩
  | v :: vs, σ, ρ, hn, hl, w => by
    obtain ⟨n1, n2⟩ := List.nodup_cons.mp hn
    obtain ⟨sv, h1, h2, w1⟩ := Wf.aside n2 (fun x hx => hl x (List.mem_cons_of_mem _ hx)) w
    have hv : v < ρ.length := hl v List.mem_cons_self
    have e : (unAll vs ρ)[v]? = some (ρ.getD v .un) := by
      rw [unAll_out vs ρ v n1, List.getElem?_eq_getElem hv, List.getD_eq_getElem?_getD, List.getElem?_eq_getElem hv]; rfl
    obtain ⟨y, ey, w2⟩ := w1.unset e none
    rw [wipe_out n1] at ey
    refine ⟨y :: sv, by rw [List.length_cons, List.length_cons, h1], fun k x hk => ?_, w2⟩
    cases k with
    | zero => have : v = x := by simpa using hk
              subst this; exact ⟨y, rfl, ey⟩
    | succ k => simpa using h2 k x (by simpa using hk)
/-- .. and back -/
theorem Wf.asback : ∀ {vs : List Nat} {σ : L2.St} {ρ' : Rho} {ss : List Sl} {sv : List (Option V)}, vs.Nodup → (∀ v ∈ vs, v < ρ'.length) → ss.length = vs.length → sv.length = vs.length → (∀ (k v : Nat), vs[k]? = some v → ∃ y : Option V, sv[k]? = some y ∧ σ[v]? = some y) →
    Wf C H F U (wipe σ vs) ρ' (ss.zip sv ++ E) → Wf C H F U σ (restR vs ss ρ') E
  | [], σ, ρ', ss, sv, _, _, h1, h2, _, w => by
    cases ss with
    | nil => unfold restR; exact w
    | cons _ _ => cases h1
  | v :: vs, σ, ρ', [], sv, _, _, h1, _, _, _ => by cases h1
  | v :: vs, σ, ρ', s :: ss, [], _, _, _, h2, _, _ => by cases h2
  | v :: vs, σ, ρ', s :: ss, y :: sv, hn, hl, h1, h2, h3, w => by
    obtain ⟨n1, n2⟩ := List.nodup_cons.mp hn
    unfold restR
    refine Wf.asback (ρ' := ρ'.set v s) (sv := sv) n2 (fun x hx => by rw [List.length_set]; exact hl x (List.mem_cons_of_mem _ hx)) (by simpa using h1) (by simpa using h2) (fun k x hk => ?_) ?_
    · have := h3 (k + 1) x (by simpa using hk)
      simpa using this
    · have w1 : Wf C H F U ((wipe σ vs).set v none) ρ' ((s, y) :: (ss.zip sv ++ E)) := w
      have w2 := w1.store (i := v) (hl v List.mem_cons_self)
      obtain ⟨y', e1, e2⟩ := h3 0 v rfl
      have : y = y' := by simpa using e1
      subst this
      rw [set_set_self (by rw [wipe_out n1]; exact e2)] at w2
      exact w2
/-- the slots vs forgotten -/
theorem Wf.forget : ∀ {vs : List Nat} {σ : L2.St} {ρ : Rho}, (∀ v ∈ vs, v < ρ.length) → Wf C H F U σ ρ E → Wf C H F U (wipe σ vs) (unAll vs ρ) E
  | [], _, _, _, w => w
  | v :: vs, σ, ρ, hl, w => by
    have w1 := Wf.forget (fun x hx => hl x (List.mem_cons_of_mem _ hx)) w
    have hv : v < (unAll vs ρ).length := by rw [unAll_len]; exact hl v List.mem_cons_self
    obtain ⟨y, _, w2⟩ := w1.unset (List.getElem?_eq_getElem hv) none
    exact w2.pop
theorem Wf.under {σ : L2.St} {ρ : Rho} {e : Ent} {L : List Ent} (w : Wf C H F U σ ρ (e :: (L ++ E))) : Wf C H F U σ ρ (L ++ e :: E) :=
  ⟨w.len, w.ok.perm (List.Perm.append_left _ List.perm_middle.symm)⟩
end
theorem setsR_len : ∀ {is : List Nat} {ds : List D} {ρ ρ' : Rho}, setsR is ds ρ = some ρ' → ρ'.length = ρ.length
  | [], [], _, _, h => by cases h; rfl
  | [], _ :: _, _, _, h => by cases h
  | _ :: _, [], _, _, h => by cases h
  | i :: is, d :: ds, ρ, ρ', h => by
    unfold setsR at h
    by_cases hi : i < ρ.length
    · rw [if_pos hi] at h; rw [setsR_len h, List.length_set]
    · rw [if_neg hi] at h; cases h
theorem tgM_len {tg : Tg} {d : D} {ρ ρ' : Rho} (h : tgM tg d ρ = some ρ') : ρ'.length = ρ.length := by
  cases tg with
  | nm i =>
    unfold tgM at h
    by_cases hi : i < ρ.length
    · simp only [hi, if_true] at h; cases h; rw [List.length_set]
    · simp only [hi, if_false] at h; cases h
  | tp is =>
    cases d with
    | tup ds => exact setsR_len h
    | lst ds => exact setsR_len h
    | _ => cases h
section
variable {X : Cx} {W : XK} {pos : Pos}
/-- the readings, told by the machine's words alone -/
def tE (mg : Str → Option Value) (W : XK) (m : M D) : TE := fun σ H Q => ∃ C ρ E F U, Wf C H F U σ ρ E ∧ EPost C σ E mg W Q (m ρ U)
def tT (mg : Str → Option Value) (W : XK) (m : M Bool) : TT := fun σ H Q => ∃ C ρ E F U, Wf C H F U σ ρ E ∧ TPost C σ E mg W Q (m ρ U)
theorem CE.pe {e : Expr} {m : M D} (h : CE X W e m) : PE X e (tE X.mg W m) := by
  obtain ⟨t, p, q⟩ := h
  exact ⟨fun pins s σ H Q I ⟨C, ρ, E, F, U, w, z⟩ => p.run pins s σ H Q I (q C σ ρ E H F U Q w z)⟩
theorem CTs.pts {e : List Expr} {m : M Bool} (h : CTs X W e m) : PTs X e (tT X.mg W m) := by
  obtain ⟨t, p, q⟩ := h
  exact ⟨fun pins s σ H Q I ⟨C, ρ, E, F, U, w, z⟩ => p.run pins s σ H Q I (q C σ ρ E H F U Q w z)⟩
theorem lc_q {elt tg iter : Expr} {ifs : List Expr} {scope : Scope} {own : List (Str × Nat)} {mi : M (List D)} {g : Tg} {mc : M Bool} {me : M D} (gd : Good X) (hi : CI X W tg iter mi) (ok : BlkOk X.N X.env.scope scope own)
    (hg : ∀ (s : Shared) (H : Hp) (C : Addr) (cl : List (Str × Addr)) (fp : List Addr), CGn (X.blk s H scope (compEnvC scope cl C X.env) fp) tg g)
    (ht : ∀ (s : Shared) (H : Hp) (C : Addr) (cl : List (Str × Addr)) (fp : List Addr), CTs (X.blk s H scope (compEnvC scope cl C X.env) fp) E0 ifs mc)
    (he : ∀ (s : Shared) (H : Hp) (C : Addr) (cl : List (Str × Addr)) (fp : List Addr), CE (X.blk s H scope (compEnvC scope cl C X.env) fp) E0 elt me)
    (hv : (own.map (·.2)).Nodup := by decide) (hgv : ∀ i ∈ tgIx g, i ∈ own.map (·.2) := by decide) (hs : ∀ x, foldedSetIterable iter X.env x = pure x := by intro _; rfl) :
    ∃ wi, PI X tg iter wi ∧ ∀ C σ ρ E H F U Q, Wf C H F U σ ρ E → OPost C σ E X.mg W Q (oLc mi g (own.map (·.2)) mc me ρ U) → tLc wi (tgT X.K g) (tT X.mg E0 mc) (tE X.mg E0 me) (own.map (·.2)) σ H Q := by
  obtain ⟨wi, pI, qI⟩ := hi
  have pt : ∀ (s : Shared) (H : Hp) (C : Addr) (cl : List (Str × Addr)) (fp : List Addr), PTs (X.blk s H scope (compEnvC scope cl C X.env) fp) ifs (tT X.mg E0 mc) := fun s H C cl fp => (ht s H C cl fp).pts
  have pe : ∀ (s : Shared) (H : Hp) (C : Addr) (cl : List (Str × Addr)) (fp : List Addr), PE (X.blk s H scope (compEnvC scope cl C X.env) fp) elt (tE X.mg E0 me) := fun s H C cl fp => (he s H C cl fp).pe
  have pg : ∀ (s : Shared) (H : Hp) (C : Addr) (cl : List (Str × Addr)) (fp : List Addr), PG (X.blk s H scope (compEnvC scope cl C X.env) fp) tg (tgT X.K g) := fun s H C cl fp => hg s H C cl fp
  have qt : ∀ C σ ρ E H F U Q, Wf C H F U σ ρ E → TPost C σ E X.mg E0 Q (mc ρ U) → tT X.mg E0 mc σ H Q := fun C σ ρ E H F U Q w z => ⟨C, ρ, E, F, U, w, z⟩
  have qe : ∀ C σ ρ E H F U Q, Wf C H F U σ ρ E → EPost C σ E X.mg E0 Q (me ρ U) → tE X.mg E0 me σ H Q := fun C σ ρ E H F U Q w z => ⟨C, ρ, E, F, U, w, z⟩
  generalize tT X.mg E0 mc = tt at pt qt ⊢
  generalize tE X.mg E0 me = te at pe qe ⊢
  refine ⟨wi, pI, fun C σ ρ E H F U Q w z => ?_⟩
  generalize own.map (·.2) = vs at *
  have z : OPost C σ E X.mg W Q ((mi ρ U).bind fun ds ρ U => if vs.all (fun v => decide (v < ρ.length)) then lcRun g vs mc me (fun acc ρ' U' => .ok (.lst acc) (restR vs (savR ρ vs) ρ') U') ds [] (unAll vs ρ) U else .stk) := z
  refine qI C σ ρ E H F U _ w ?_
  cases r : mi ρ U with
  | stk => rw [r] at z; exact z
  | exc x ρ' U' => rw [r] at z; exact z
  | ok ds ρ0 U0 =>
    rw [r] at z
    simp only [R.bind] at z
    have hl : vs.all (fun v => decide (v < ρ0.length)) = true := by
      by_cases hl : vs.all (fun v => decide (v < ρ0.length)) = true
      · exact hl
      · rw [if_neg hl] at z; exact z.elim
    rw [if_pos hl] at z
    have hl : ∀ v ∈ vs, v < ρ0.length := fun v hv => of_decide_eq_true (List.all_eq_true.mp hl v hv)
    intro J pn H1 F1 w1 itok D hD
    obtain ⟨sv, sl, sk, w2⟩ := Wf.aside hv hl w1
    -- the new list
    have w3 := w2.newO (o := .lst []) (d := .lst []) hD fun _ => ⟨[], upd_same, .nil⟩
    refine ⟨fun i m H => i ≤ ds.length ∧ m = ds.length - i ∧ ∃ F U ρ acc, Wf C H F U (wipe σ vs) ρ ((.own (.lst acc), some (.ref D)) :: ((savR ρ0 vs).zip sv ++ (pn ++ E))) ∧ ρ.length = ρ0.length ∧
      OPost C σ E X.mg W Q (lcRun g vs mc me (fun acc ρ' U' => .ok (.lst acc) (restR vs (savR ρ0 vs) ρ') U') (ds.drop i) acc ρ U),
      ⟨ds.length, Nat.zero_le _, by omega, F1, U0, unAll vs ρ0, [], w3, unAll_len vs ρ0, z⟩, ?_⟩
    rintro i m H2 ⟨hi, rfl, F2, U2, ρ2, acc, w4, hρ, z2⟩
    -- what the iterator knows
    have wit : Wf C H2 F2 U2 (wipe σ vs) ρ2 (pn ++ (((.own (.lst acc), some (.ref D)) :: (savR ρ0 vs).zip sv) ++ E)) := by
      refine ⟨w4.len, w4.ok.perm (List.Perm.append_left _ ?_)⟩
      show ((Sl.own (VL.D.lst acc), some (V.ref D)) :: (List.zip (savR ρ0 vs) sv ++ (pn ++ E))).Perm (pn ++ ((Sl.own (VL.D.lst acc), some (V.ref D)) :: (List.zip (savR ρ0 vs) sv ++ E)))
      refine ((List.Perm.cons _ ?_).trans List.perm_middle.symm)
      rw [← List.append_assoc, ← List.append_assoc]
      exact List.Perm.append_right _ List.perm_append_comm
    have wti : ∀ {H F U ρ}, Wf C H F U (wipe σ vs) ρ (pn ++ (((.own (.lst acc), some (.ref D)) :: (savR ρ0 vs).zip sv) ++ E)) → Wf C H F U (wipe σ vs) ρ ((.own (.lst acc), some (.ref D)) :: ((savR ρ0 vs).zip sv ++ (pn ++ E))) := fun w => by
      refine ⟨w.len, w.ok.perm (List.Perm.append_left _ ?_)⟩
      show (pn ++ ((Sl.own (VL.D.lst acc), some (V.ref D)) :: (List.zip (savR ρ0 vs) sv ++ E))).Perm ((Sl.own (VL.D.lst acc), some (V.ref D)) :: (List.zip (savR ρ0 vs) sv ++ (pn ++ E)))
      refine List.perm_middle.trans (List.Perm.cons _ ?_)
      rw [← List.append_assoc, ← List.append_assoc]
      exact List.Perm.append_right _ List.perm_append_comm
    obtain ⟨go, stop⟩ := itok H2 F2 U2 (wipe σ vs) ρ2 _ i wit
    by_cases hlt : i < ds.length
    · obtain ⟨hgo, hy⟩ := go hlt
      refine .inr ⟨hgo, fun H' => ∃ F U ρ acc, Wf C H' F U (wipe σ vs) ρ ((.own (.lst acc), some (.ref D)) :: ((savR ρ0 vs).zip sv ++ (pn ++ E))) ∧ ρ.length = ρ0.length ∧
        OPost C σ E X.mg W Q (lcRun g vs mc me (fun acc ρ' U' => .ok (.lst acc) (restR vs (savR ρ0 vs) ρ') U') (ds.drop (i + 1)) acc ρ U),
        fun H' ⟨F', U', ρ', acc', a, b, c⟩ => ⟨ds.length - (i + 1), by omega, hlt, rfl, F', U', ρ', acc', a, b, c⟩, fun x H3 y => ?_⟩
      obtain ⟨d, hd, w5, rx⟩ := hy x H3 y
      have hdrop : ds.drop i = d :: ds.drop (i + 1) := by
        rw [List.drop_eq_getElem_cons hlt]
        congr 1
        rw [List.getElem?_eq_getElem hlt] at hd
        exact Option.some.inj hd
      rw [hdrop] at z2
      unfold lcRun at z2
      cases et : tgM g d ρ2 with
      | none => simp only [et] at z2; exact z2.elim
      | some ρ3 =>
        simp only [et] at z2
        obtain ⟨vs', w6, hq⟩ := tg_ok (K := X.K) (Q := fun σ2 H2 => wipe σ2 vs = wipe σ vs ∧ tt σ2 H2 fun b H3 =>
          if b = true then te σ2 H3 fun y H4 => ∃ acc, H4 D = some (.lst acc) ∧ acc.length < sizeLine ∧ (∃ F U ρ acc', Wf C (upd H4 D (.lst (acc ++ [y]))) F U (wipe σ vs) ρ ((.own (.lst acc'), some (.ref D)) :: ((savR ρ0 vs).zip sv ++ (pn ++ E))) ∧ ρ.length = ρ0.length ∧
              OPost C σ E X.mg W Q (lcRun g vs mc me (fun acc ρ' U' => .ok (.lst acc) (restR vs (savR ρ0 vs) ρ') U') (ds.drop (i + 1)) acc' ρ U))
            else ∃ F U ρ acc', Wf C H3 F U (wipe σ vs) ρ ((.own (.lst acc'), some (.ref D)) :: ((savR ρ0 vs).zip sv ++ (pn ++ E))) ∧ ρ.length = ρ0.length ∧
              OPost C σ E X.mg W Q (lcRun g vs mc me (fun acc ρ' U' => .ok (.lst acc) (restR vs (savR ρ0 vs) ρ') U') (ds.drop (i + 1)) acc' ρ U)) et (wti w5) rx
        refine hq ⟨tgS_wipe hgv, ?_⟩
        have hw := tgS_wipe (v := x) (vs := vs') (σ := σ) hgv
        have hρ3 := tgM_len et
        refine runTx (t := tt) (X := X) qt w6 (P := OPost C σ E X.mg W Q) (fun z => z) z2 fun b ρ4 U4 H4 F4 w7 z3 => ?_
        have hρ4 : ρ4.length = ρ0.length := by
          have h1 := w7.len
          have h2 := w6.len
          rw [h1, ← h2, hρ3, hρ]
        have fg : ∀ {H F U ρ acc}, ρ.length = ρ0.length → Wf C H F U (tgS g x vs' (wipe σ vs)) ρ ((.own (.lst acc), some (.ref D)) :: ((savR ρ0 vs).zip sv ++ (pn ++ E))) → Wf C H F U (wipe σ vs) (unAll vs ρ) ((.own (.lst acc), some (.ref D)) :: ((savR ρ0 vs).zip sv ++ (pn ++ E))) := fun hr w => by
          have := Wf.forget (vs := vs) (fun v hv => by rw [hr]; exact hl v hv) w
          rw [hw] at this; exact this
        cases b with
        | false => exact ⟨F4, U4, unAll vs ρ4, acc, fg hρ4 w7, by rw [unAll_len]; exact hρ4, z3⟩
        | true =>
          refine runEx (t := te) (X := X) qe w7 (P := OPost C σ E X.mg W Q) (fun z => z) z3 fun e ρ5 U5 v5 H5 F5 w8 r5 z4 => ?_
          have hacc : acc.length < 16777216 := by
            by_cases hacc : acc.length < 16777216
            · exact hacc
            · rw [if_neg hacc] at z4; exact z4.elim
          rw [if_pos hacc] at z4
          obtain ⟨a', ea, _, _, ws, hws, rws⟩ := w8.top
          have ea : D = a' := by simpa using ea
          subst ea
          refine ⟨ws, hws, by rw [← rws.len, sizeLine_eq]; exact hacc, F5, U5, unAll vs ρ5, acc ++ [e], ?_, ?_, z4⟩
          · have hρ5 : ρ5.length = ρ0.length := by rw [w8.len, ← w7.len, hρ4]
            exact fg hρ5 (w8.writeTop (d' := .lst (acc ++ [e])) fun gr => ⟨_, upd_same, (rws.map gr).append (.cons (gr _ _ r5) .nil)⟩)
          · rw [unAll_len, w8.len, ← w7.len, hρ4]
    · refine .inl ⟨stop (by omega), ?_⟩
      have hdrop : ds.drop i = [] := List.drop_of_length_le (by omega)
      rw [hdrop] at z2
      unfold lcRun at z2
      refine z2 D H2 F2 ?_
      have hl2 : ∀ v ∈ vs, v < ρ2.length := fun v hv => by rw [hρ]; exact hl v hv
      have w9 : Wf C H2 F2 U2 (wipe σ vs) ρ2 ((savR ρ0 vs).zip sv ++ (pn ++ (Sl.own (VL.D.lst acc), some (V.ref D)) :: E)) := by
        refine ⟨w4.len, w4.ok.perm (List.Perm.append_left _ ?_)⟩
        refine List.perm_middle.symm.trans (List.Perm.append_left _ ?_)
        exact List.perm_middle.symm
      have w10 := Wf.asback hv hl2 (by simp [savR]) sl sk w9
      exact w10.popN
theorem c_lc {elt tg iter : Expr} {ifs : List Expr} {scope : Scope} {own : List (Str × Nat)} {mi : M (List D)} {g : Tg} {mc : M Bool} {me : M D} (gd : Good X) (hi : CI X W tg iter mi) (ok : BlkOk X.N X.env.scope scope own)
    (hg : ∀ (s : Shared) (H : Hp) (C : Addr) (cl : List (Str × Addr)) (fp : List Addr), CGn (X.blk s H scope (compEnvC scope cl C X.env) fp) tg g)
    (ht : ∀ (s : Shared) (H : Hp) (C : Addr) (cl : List (Str × Addr)) (fp : List Addr), CTs (X.blk s H scope (compEnvC scope cl C X.env) fp) E0 ifs mc)
    (he : ∀ (s : Shared) (H : Hp) (C : Addr) (cl : List (Str × Addr)) (fp : List Addr), CE (X.blk s H scope (compEnvC scope cl C X.env) fp) E0 elt me)
    (hv : (own.map (·.2)).Nodup := by decide) (hgv : ∀ i ∈ tgIx g, i ∈ own.map (·.2) := by decide) (hs : ∀ x, foldedSetIterable iter X.env x = pure x := by intro _; rfl) :
    CO X W (.ListComp elt [⟨tg, iter, ifs, 0⟩] scope pos) (oLc mi g (own.map (·.2)) mc me) := by
  obtain ⟨wi, pI, q⟩ := lc_q (W := W) gd hi ok hg ht he hv hgv hs
  exact ⟨_, pe_lc gd.calm gd.nd pI ok (g := tgT X.K g) (fun s H C cl fp => hg s H C cl fp) (fun s H C cl fp => (ht s H C cl fp).pts) (fun s H C cl fp => (he s H C cl fp).pe) hs, q⟩
end
end VL

set_option maxRecDepth 100000
set_option maxHeartbeats 4000000
/-! VL7: statements. -/
namespace VL
open PySem PySem.Spec PyProof.Rows L2

def sNx : S := fun ρ U => .ok .nx ρ U
def sBk : S := fun ρ U => .ok .bk ρ U
def sCt : S := fun ρ U => .ok .ct ρ U
def sSeq (a b : S) : S := fun ρ U => (a ρ U).bind fun f ρ U => match f with
  | .nx => b ρ U
  | f => .ok f ρ U
theorem Rc.s {C : Cf} {σ : L2.St} {E : List Ent} {mg : Str → Option Value} {W : XK} {D : Ends} : Rc C σ E mg W (SPost C E mg W D) := ⟨fun _ _ _ h c dd H' F' w r => h c dd σ H' F' w r, fun h => h⟩
section
variable {X : Cx} {W : XK} {st : Stmt} {sts : List Stmt} {a b : S} {pos : Pos} {e : Expr} {m : M D}
theorem cs_nil : CSs X W [] sNx := ⟨_, pss_nil, fun C σ ρ E H F U D w z => z σ H F w⟩
theorem cs_one (h : CS X W st a) : CSs X W [st] a := let ⟨t, p, q⟩ := h; ⟨t, pss_one p, q⟩
theorem cs_cons (h : CS X W st a) (h' : CSs X W sts b) : CSs X W (st :: sts) (sSeq a b) := by
  obtain ⟨t, p, q⟩ := h
  obtain ⟨t', p', q'⟩ := h'
  refine ⟨_, pss_cons p p', fun C σ ρ E H F U D w z => ?_⟩
  refine q C σ ρ E H F U _ w ?_
  unfold sSeq at z
  cases r : a ρ U with
  | stk => rw [r] at z; exact z
  | exc x ρ' U' => rw [r] at z; exact z
  | ok f ρ' U' =>
    rw [r] at z
    cases f with
    | nx => exact fun σ' H' F' w' => q' C σ' ρ' E H' F' U' D w' z
    | bk => exact z
    | ct => exact z
    | ret d => exact z
theorem cs_pass : CS X W (.Pass pos) sNx := ⟨_, ps_pass, fun C σ ρ E H F U D w z => z σ H F w⟩
theorem cs_break : CS X W (.Break pos) sBk := ⟨_, ps_break, fun C σ ρ E H F U D w z => z σ H F w⟩
theorem cs_doc {x : Str} {j : Nat} {p2 : Pos} : CS X W (.Expr (.Constant (.str x) j p2) pos) sNx := ⟨_, ps_doc, fun C σ ρ E H F U D w z => z σ H F w⟩
def sExpr (m : M D) : S := fun ρ U => (m ρ U).bind fun _ ρ U => .ok .nx ρ U
theorem cs_expr (h : CE X W e m) (hs : swapsWith e none pos.line X.env = pure false := by rfl) : CS X W (.Expr e pos) (sExpr m) := by
  obtain ⟨t, p, q⟩ := h
  refine ⟨_, ps_expr p hs, fun C σ ρ E H F U D w z => ?_⟩
  exact runE (t := t) q w Rc.s z fun d ρ1 U1 v H1 F1 w1 r1 z1 => z1 σ H1 F1 w1
def sRet (m : M D) : S := fun ρ U => (m ρ U).bind fun d ρ U => .ok (.ret d) ρ U
theorem cs_ret (h : CE X W e m) : CS X W (.Return (some e) pos) (sRet m) := by
  obtain ⟨t, p, q⟩ := h
  refine ⟨_, ps_ret p, fun C σ ρ E H F U D w z => ?_⟩
  exact runE (t := t) q w Rc.s z fun d ρ1 U1 v H1 F1 w1 r1 z1 => z1 v σ H1 F1 w1 r1
def sIf (c : M Bool) (a b : S) : S := fun ρ U => (c ρ U).bind fun x ρ U => if x then a ρ U else b ρ U
theorem cs_if {c : Expr} {x y : List Stmt} {mc : M Bool} (hc : CT X W c mc) (h : CSs X W x a) (h' : CSs X W y b) : CS X W (.If c x y pos) (sIf mc a b) := by
  obtain ⟨tc, pc, qc⟩ := hc
  obtain ⟨t, p, q⟩ := h
  obtain ⟨t', p', q'⟩ := h'
  refine ⟨_, ps_if pc p p', fun C σ ρ E H F U D w z => ?_⟩
  refine runT (t := tc) qc w Rc.s z fun x ρ1 U1 H1 F1 w1 z1 => ?_
  cases x with
  | true => exact q C σ ρ1 E H1 F1 U1 D w1 z1
  | false => exact q' C σ ρ1 E H1 F1 U1 D w1 z1
/-! ### stores -/
def stR (i : Nat) (s : Sl) : M Fl := fun ρ U => if i < ρ.length then .ok .nx (ρ.set i s) U else .stk
def sSet (i : Nat) (m : M D) : S := fun ρ U => (m ρ U).bind fun d => stR i (.val d)
def sSetO (i : Nat) (m : M D) : S := fun ρ U => (m ρ U).bind fun d => stR i (.own d)
theorem st_ok {C : Cf} {E : List Ent} {mg : Str → Option Value} {D : Ends} {i : Nat} {s : Sl} {v : V} {ρ : Rho} {U : Urn} {H : Hp} {F : Addr → Prop} {σ : L2.St} (z : SPost C E mg W D (stR i s ρ U)) (w : Wf C H F U σ ρ ((s, some v) :: E)) : D.nx (σ.set i (some v)) H := by
  unfold stR at z
  by_cases hi : i < ρ.length
  · rw [if_pos hi] at z; exact z _ H F (w.store hi)
  · rw [if_neg hi] at z; exact z.elim
theorem cs_set {i : Nat} {x : Str} {p2 : Pos} (g : Good X) (hi : X.N[i]? = some x) (hx : Loc X.env.scope x) (hf : X.fn x = true ∨ X.env.scope.names.lookup x = some .local) (h : CE X W e m)
    (hs : swapsWith e (some (.Name x p2)) pos.line X.env = pure false := by rfl) : CS X W (.Assign [.Name x p2] e pos) (sSet i m) := by
  obtain ⟨t, p, q⟩ := h
  refine ⟨_, ps_set g.nd hi hx p hs hf, fun C σ ρ E H F U D w z => ?_⟩
  exact runE (t := t) q w Rc.s z fun d ρ1 U1 v H1 F1 w1 r1 z1 => st_ok z1 (w1.push r1)
theorem cs_setO {i : Nat} {x : Str} {p2 : Pos} (g : Good X) (hi : X.N[i]? = some x) (hx : Loc X.env.scope x) (hf : X.fn x = true ∨ X.env.scope.names.lookup x = some .local) (h : CO X W e m)
    (hs : swapsWith e (some (.Name x p2)) pos.line X.env = pure false := by rfl) : CS X W (.Assign [.Name x p2] e pos) (sSetO i m) := by
  obtain ⟨t, p, q⟩ := h
  refine ⟨_, ps_set g.nd hi hx p hs hf, fun C σ ρ E H F U D w z => ?_⟩
  exact runO (t := t) q w Rc.s z fun d ρ1 U1 v H1 F1 w1 z1 => st_ok z1 w1
/-! name = [..] on one line, the name a local: the model stores before it lets the block go -/
theorem cs_setLc {i : Nat} {y : Str} {py : Pos} {elt tg iter : Expr} {ifs : List Expr} {scope : Scope} {own : List (Str × Nat)} {mi : M (List D)} {gt : Tg} {mc : M Bool} {me : M D} {spos : Pos} (gd : Good X) (hy : X.N[i]? = some y) (hyl : X.env.scope.names.lookup y = some .local)
    (hk : X.env.scope.kind = .function) (hl : (py.line == pos.line) = true) (ha : (scope.names.any fun (n, k) => n == y && (k == .local || k == .cell)) = false)
    (hi : CI X W tg iter mi) (ok : BlkOk X.N X.env.scope scope own)
    (hg : ∀ (s : Shared) (H : Hp) (C : Addr) (cl : List (Str × Addr)) (fp : List Addr), CGn (X.blk s H scope (compEnvC scope cl C X.env) fp) tg gt)
    (ht : ∀ (s : Shared) (H : Hp) (C : Addr) (cl : List (Str × Addr)) (fp : List Addr), CTs (X.blk s H scope (compEnvC scope cl C X.env) fp) E0 ifs mc)
    (he : ∀ (s : Shared) (H : Hp) (C : Addr) (cl : List (Str × Addr)) (fp : List Addr), CE (X.blk s H scope (compEnvC scope cl C X.env) fp) E0 elt me)
    (hv : (own.map (·.2)).Nodup := by decide) (hgv : ∀ i ∈ tgIx gt, i ∈ own.map (·.2) := by decide) (hs : ∀ x, foldedSetIterable iter X.env x = pure x := by intro _; rfl) :
    CS X W (.Assign [.Name y py] (.ListComp elt [⟨tg, iter, ifs, 0⟩] scope pos) spos) (sSet i (oLc mi gt (own.map (·.2)) mc me)) := by
  obtain ⟨wi, pI, q⟩ := lc_q (W := W) gd hi ok hg ht he hv hgv hs
  refine ⟨_, ps_setLc gd.calm gd.nd hy hyl (sw_true hk hyl hl ha) pI ok (g := tgT X.K gt) (te := tE X.mg E0 me) (tt := tT X.mg E0 mc) (fun s H C cl fp => hg s H C cl fp) (fun s H C cl fp => (ht s H C cl fp).pts) (fun s H C cl fp => (he s H C cl fp).pe) hs, fun C σ ρ E H F U D w z => ?_⟩
  show tLc wi (tgT X.K gt) (tT X.mg E0 mc) (tE X.mg E0 me) (own.map (·.2)) σ H (fun x H1 => gName i x σ H1 D.nx)
  exact runO (X := X) (Q := fun x H1 => gName i x σ H1 D.nx) (t := tLc wi (tgT X.K gt) (tT X.mg E0 mc) (tE X.mg E0 me) (own.map (·.2))) q w Rc.s z fun d ρ1 U1 a H1 F1 w1 z1 => st_ok z1 (w1.freezeTop.pop.push w1.freezeTop.topR)
theorem cs_setLcO {i : Nat} {y : Str} {py : Pos} {elt tg iter : Expr} {ifs : List Expr} {scope : Scope} {own : List (Str × Nat)} {mi : M (List D)} {gt : Tg} {mc : M Bool} {me : M D} {spos : Pos} (gd : Good X) (hy : X.N[i]? = some y) (hyl : X.env.scope.names.lookup y = some .local)
    (hk : X.env.scope.kind = .function) (hl : (py.line == pos.line) = true) (ha : (scope.names.any fun (n, k) => n == y && (k == .local || k == .cell)) = false)
    (hi : CI X W tg iter mi) (ok : BlkOk X.N X.env.scope scope own)
    (hg : ∀ (s : Shared) (H : Hp) (C : Addr) (cl : List (Str × Addr)) (fp : List Addr), CGn (X.blk s H scope (compEnvC scope cl C X.env) fp) tg gt)
    (ht : ∀ (s : Shared) (H : Hp) (C : Addr) (cl : List (Str × Addr)) (fp : List Addr), CTs (X.blk s H scope (compEnvC scope cl C X.env) fp) E0 ifs mc)
    (he : ∀ (s : Shared) (H : Hp) (C : Addr) (cl : List (Str × Addr)) (fp : List Addr), CE (X.blk s H scope (compEnvC scope cl C X.env) fp) E0 elt me)
    (hv : (own.map (·.2)).Nodup := by decide) (hgv : ∀ i ∈ tgIx gt, i ∈ own.map (·.2) := by decide) (hs : ∀ x, foldedSetIterable iter X.env x = pure x := by intro _; rfl) :
    CS X W (.Assign [.Name y py] (.ListComp elt [⟨tg, iter, ifs, 0⟩] scope pos) spos) (sSetO i (oLc mi gt (own.map (·.2)) mc me)) := by
  obtain ⟨wi, pI, q⟩ := lc_q (W := W) gd hi ok hg ht he hv hgv hs
  refine ⟨_, ps_setLc gd.calm gd.nd hy hyl (sw_true hk hyl hl ha) pI ok (g := tgT X.K gt) (te := tE X.mg E0 me) (tt := tT X.mg E0 mc) (fun s H C cl fp => hg s H C cl fp) (fun s H C cl fp => (ht s H C cl fp).pts) (fun s H C cl fp => (he s H C cl fp).pe) hs, fun C σ ρ E H F U D w z => ?_⟩
  show tLc wi (tgT X.K gt) (tT X.mg E0 mc) (tE X.mg E0 me) (own.map (·.2)) σ H (fun x H1 => gName i x σ H1 D.nx)
  exact runO (X := X) (Q := fun x H1 => gName i x σ H1 D.nx) (t := tLc wi (tgT X.K gt) (tT X.mg E0 mc) (tE X.mg E0 me) (own.map (·.2))) q w Rc.s z fun d ρ1 U1 a H1 F1 w1 z1 => st_ok z1 w1
/-! several targets, names, from a tuple that is a value -/
def sUnp (is : List Nat) (m : M D) : S := fun ρ U => (m ρ U).bind fun d ρ U => match tgM (.tp is) d ρ with
  | some ρ => .ok .nx ρ U
  | none => .stk
theorem cs_unp {es : List Expr} {is : List Nat} {k : Nat} {p2 : Pos} (g : Good X) (ht : CGns X es is) (h : CE X W e m) (hn : (assignEach es X.env).length = is.length := by rfl) (hst : (assignEach es X.env).findIdx? (·.1) = none := by rfl)
    (hs : swapsWithSole [.Tuple es k p2] e pos.line X.env = pure false := by rfl) (hw : swappedStores [.Tuple es k p2] e X.env = pure none := by rfl)
    (h1 : (assignEach [.Tuple es k p2] X.env).map (·.2) = [assign (.Tuple es k p2) X.env] := by rfl) : CS X W (.Assign [.Tuple es k p2] e pos) (sUnp is m) := by
  obtain ⟨t, p, q⟩ := h
  refine ⟨_, ps_asg p (show PG X (.Tuple es k p2) (tgT X.K (.tp is)) from cg_tp g ht hn hst) hs hw h1, fun C σ ρ E H F U D w z => ?_⟩
  refine runE (t := t) q w Rc.s z fun d ρ1 U1 v H1 F1 w1 r1 z1 => ?_
  cases et : tgM (.tp is) d ρ1 with
  | none => rw [et] at z1; exact z1.elim
  | some ρ2 =>
    rw [et] at z1
    obtain ⟨vs, w2, hq⟩ := tg_ok (K := X.K) (Q := D.nx) et w1 r1
    exact hq (z1 _ H1 F1 w2)
/-! several targets from a written tuple: names and places -/
inductive TgA where
  | nm (i : Nat)
  /-- slot i at the index -/
  | ix (i : Nat) (m : M D)
/-- how many entries an own object takes -/
def putIx : D → D → D → Option D
  | .lst xs, .int k, v => (ixN xs.length k).map fun j => .lst (xs.set j v)
  | .dicK kvs, k, v => (keyOf k).bind fun k => if kvs.length < 16777216 then some (.dicK (putD kvs k v)) else none
  | .dicT kvs, .tup ks, v => (keysOf ks).bind fun k => if kvs.length < 16777216 then some (.dicT (putD kvs k v)) else none
  | _, _, _ => none
/-- what stands at an own slot is changed -/
def upO (i : Nat) (f : D → Option D) : M Unit := fun ρ U => match ρ[i]? with
  | some (.own d) => match f d with
    | some d' => .ok () (ρ.set i (.own d')) U
    | none => .stk
  | _ => .stk
def isOwn (ρ : Rho) (i : Nat) : Bool := match ρ[i]? with
  | some (.own _) => true
  | _ => false
def stIx (i : Nat) (m : M D) (s : Sl) : M Unit := fun ρ U => if isOwn ρ i then match s with
    | .val v => (m ρ U).bind fun k => upO i fun d => putIx d k v
    | _ => .stk
  else .stk
def putsM : List TgA → List Sl → M Unit
  | [], [] => fun ρ U => .ok () ρ U
  | .nm i :: ts, s :: ss => fun ρ U => if i < ρ.length then putsM ts ss (ρ.set i s) U else .stk
  | .ix i m :: ts, s :: ss => fun ρ U => (stIx i m s ρ U).bind fun _ => putsM ts ss
  | _, _ => fun _ _ => .stk
end
section
variable {X : Cx} {W : XK} {pos : Pos} {e : Expr} {m : M D}
theorem rSet_dic {C : Cf} {H : Hp} {F : Addr → Prop} {a : Addr} {d k v d' : D} {y x : V} (o : Own C F H a d) (rk : BRep C F H k y) (rv : Rep C.u F H v x) (e : putIx d k v = some d') :
    ∃ o', ((∃ vs i j, y = .int i ∧ H a = some (.lst vs) ∧ ixN vs.length i = some j ∧ o' = .lst (vs.set j x)) ∨ DPut H a y x (upd H a o')) ∧
      ((∀ d v, Rep C.u F H d v → Rep C.u F (upd H a o') d v) → Own C F (upd H a o') a d') := by
  cases d with
  | lst xs =>
    cases k with
    | int i =>
      obtain ⟨vs, h, r⟩ := o
      cases rk.int
      simp only [putIx] at e
      cases q : ixN xs.length i with
      | none => rw [q] at e; cases e
      | some j =>
        rw [q] at e
        cases e
        exact ⟨.lst (vs.set j x), .inl ⟨vs, i, j, rfl, h, by rw [← r.len]; exact q, rfl⟩, fun g => ⟨_, upd_same, RepAll.set (g _ _ rv) j (r.map g)⟩⟩
    | _ => cases e
  | dicK kvs =>
    obtain ⟨vs, h, r⟩ := o
    simp only [putIx] at e
    cases q : keyOf k with
    | none => rw [q] at e; cases e
    | some kk =>
      rw [q] at e
      simp only [Option.bind] at e
      have hk := keyOf_some q
      subst hk
      have hy : y = kV kk := by
        rcases rk with r | ⟨b, rfl, o⟩
        · exact r.key
        · cases kk <;> exact o.elim
      subst hy
      by_cases hl : kvs.length < 16777216
      · rw [if_pos hl] at e
        cases e
        refine ⟨.dK (putK vs kk x), .inr (.inl ⟨vs, kk, h, rfl, by rw [← len_repK r, sizeLine_eq]; exact hl, rfl⟩), fun g => ⟨_, upd_same, ?_⟩⟩
        have rg : RepK C.u F (upd H a (.dK (putK vs kk x))) kvs vs := by
          have : ∀ {ds : List (Key × D)} {ws : List (Key × V)}, RepK C.u F H ds ws → RepK C.u F (upd H a (.dK (putK vs kk x))) ds ws := by
            intro ds ws q
            induction ds generalizing ws with
            | nil => cases q; exact .nil
            | cons p ds ih => cases q with | cons h r => exact .cons (g _ _ h) (ih r)
          exact this r
        exact RepK.put (g _ _ rv) rg
      · rw [if_neg hl] at e; cases e
  | dicT kvs =>
    cases k with
    | tup ks =>
      obtain ⟨vs, h, r⟩ := o
      simp only [putIx] at e
      cases q : keysOf ks with
      | none => rw [q] at e; cases e
      | some kk =>
        rw [q] at e
        simp only [Option.bind] at e
        have hk := keysOf_some q
        subst hk
        obtain ⟨b, ws, rfl, hb, rb⟩ := rk.seqT
        have hv := rb.keys
        subst hv
        by_cases hl : kvs.length < 16777216
        · rw [if_pos hl] at e
          cases e
          refine ⟨.dT (putK vs kk x), .inr (.inr ⟨vs, kk, b, h, rfl, hb, by rw [← len_repT r, sizeLine_eq]; exact hl, rfl⟩), fun g => ⟨_, upd_same, ?_⟩⟩
          have rg : RepT C.u F (upd H a (.dT (putK vs kk x))) kvs vs := by
            have : ∀ {ds : List (List Key × D)} {ws : List (List Key × V)}, RepT C.u F H ds ws → RepT C.u F (upd H a (.dT (putK vs kk x))) ds ws := by
              intro ds ws q
              induction ds generalizing ws with
              | nil => cases q; exact .nil
              | cons p ds ih => cases q with | cons h r => exact .cons (g _ _ h) (ih r)
            exact this r
          exact RepT.put (g _ _ rv) rg
        · rw [if_neg hl] at e; cases e
    | _ => cases e
  | _ => exact o.elim
theorem isOwn_some {ρ : Rho} {i : Nat} (h : isOwn ρ i = true) : ∃ d, ρ[i]? = some (.own d) := by
  unfold isOwn at h
  cases e : ρ[i]? with
  | none => rw [e] at h; cases h
  | some s => rw [e] at h; cases s with
    | own d => exact ⟨d, rfl⟩
    | _ => cases h
/-- an own slot's object written where it stands -/
theorem Wf.upOwn {C : Cf} {H : Hp} {F : Addr → Prop} {U : Urn} {σ : L2.St} {ρ : Rho} {E : List Ent} {i : Nat} {d d' : D} {a : Addr} {o : HO} (w : Wf C H F U σ ρ E) (e : ρ[i]? = some (.own d)) (ea : σ[i]? = some (some (.ref a)))
    (h : (∀ d v, Rep C.u F H d v → Rep C.u F (upd H a o) d v) → Own C F (upd H a o) a d') : Wf C (upd H a o) F U σ (ρ.set i (.own d')) E := by
  obtain ⟨x, ex, w1⟩ := w.out e
  rw [ea] at ex
  have ex : some (V.ref a) = x := Option.some.inj ex
  subst ex
  have w2 := (w1.writeTop h).back (i := i) (by rw [List.getElem?_set_self (List.getElem?_eq_some_iff.mp e).1]) ea
  rw [List.set_set] at w2
  exact w2
def rSetLD : L2.TSet := fun o i v H Q => L2.rSetL o i v H Q ∨ L2.rSetD o i v H Q
theorem set_LD (g : Good X) : PSet X rSetLD := by
  intro pins s σ H o i v ov iv u Q I ro ri rv h
  rcases h with h | h
  · exact set_list pins s σ H o i v ov iv u Q I ro ri rv h
  · exact set_dict (by have := g.hu; omega) pins s σ H o i v ov iv u Q I ro ri rv h
/-- the store at a place, by its parts -/
theorem stIx_ok {C : Cf} {E : List Ent} {σ : L2.St} {ρ : Rho} {H : Hp} {F : Addr → Prop} {U : Urn} {i : Nat} {s : Sl} {v : V} {t : TE} {P : R Unit → Prop} {Q : L2.St → Hp → Prop} (q : ∀ C σ ρ E H F U Q, Wf C H F U σ ρ E → EPost C σ E X.mg W Q (m ρ U) → t σ H Q)
    (w : Wf C H F U σ ρ ((s, some v) :: E)) (rc : Rc C σ E X.mg W P) (z : P (stIx i m s ρ U)) (h : ∀ ρ' U' H' F', Wf C H' F' U' σ ρ' E → P (.ok () ρ' U') → Q σ H') :
    gSub (tVar i) t rSetLD v σ H Q := by
  unfold stIx at z
  by_cases ho : isOwn ρ i = true
  · rw [if_pos ho] at z
    cases s with
    | un => exact (rc.2 z).elim
    | own _ => exact (rc.2 z).elim
    | val dv =>
      obtain ⟨d, hd⟩ := isOwn_some ho
      obtain ⟨x, ex, a, rfl, _⟩ := w.get hd
      refine ⟨.ref a, ex, ?_⟩
      refine runE (t := t) q w rc.pop z fun k ρ1 U1 y H1 F1 w1 r1 z1 => ?_
      unfold upO at z1
      cases e1 : ρ1[i]? with
      | none => simp only [e1] at z1; exact (rc.2 z1).elim
      | some s1 =>
        simp only [e1] at z1
        cases s1 with
        | un => exact (rc.2 z1).elim
        | val _ => exact (rc.2 z1).elim
        | own d1 =>
          simp only at z1
          cases e2 : putIx d1 k dv with
          | none => rw [e2] at z1; exact (rc.2 z1).elim
          | some d2 =>
            rw [e2] at z1
            obtain ⟨x, ex2, a2, rfl, _, _, o⟩ := w1.get e1
            have ea : a = a2 := by rw [ex] at ex2; simpa using ex2
            subst ea
            obtain ⟨o', hset, hown⟩ := rSet_dic o (.inl r1) w1.topR e2
            have w2 := (w1.pop).upOwn e1 ex2 hown
            have fin := h _ U1 _ F1 w2 z1
            rcases hset with ⟨vs, ii, j, rfl, hl, hj, rfl⟩ | hp
            · exact .inl ⟨a, vs, ii, j, rfl, rfl, hl, hj, fin⟩
            · exact .inr ⟨a, _, rfl, hp, fin⟩
  · rw [if_neg ho] at z; exact (rc.2 z).elim
/-- targets, one after another -/
def CPuts (X : Cx) (W : XK) (es : List Expr) (ts : List TgA) : Prop :=
  ∃ t, PGs X es t ∧ ∀ C σ ρ E H F U ss vs (P : R Unit → Prop) (Q : L2.St → Hp → Prop), vs.length = ss.length → Wf C H F U σ ρ (ss.zip (vs.map some) ++ E) → (∀ σ, Rc C σ E X.mg W P) → P (putsM ts ss ρ U) →
    (∀ σ' ρ' U' H' F', Wf C H' F' U' σ' ρ' E → P (.ok () ρ' U') → Q σ' H') → t vs σ H Q
theorem cp_nil : CPuts X W [] [] := by
  refine ⟨_, pgs_nil, fun C σ ρ E H F U ss vs P Q hl w rc z h => ?_⟩
  cases ss with
  | cons _ _ => exact ((rc σ).2 z).elim
  | nil =>
    cases vs with
    | cons _ _ => cases hl
    | nil => exact ⟨rfl, h σ ρ U H F w z⟩
theorem cp_nm {i : Nat} {x : Str} {p2 : Pos} {es : List Expr} {ts : List TgA} (g : Good X) (hi : X.N[i]? = some x) (hx : Loc X.env.scope x) (hf : X.fn x = true ∨ X.env.scope.names.lookup x = some .local) (h : CPuts X W es ts)
    (hs : (assignEach (.Name x p2 :: es) X.env).map (·.2) = assign (.Name x p2) X.env :: (assignEach es X.env).map (·.2) := by rfl) : CPuts X W (.Name x p2 :: es) (.nm i :: ts) := by
  obtain ⟨t, p, q⟩ := h
  refine ⟨_, pgs_cons (pg_name g.nd hi hx hf) p hs, fun C σ ρ E H F U ss vs P Q hl w rc z h => ?_⟩
  cases ss with
  | nil => exact ((rc σ).2 z).elim
  | cons s ss =>
    cases vs with
    | nil => cases hl
    | cons v vs =>
      unfold putsM at z
      by_cases hi : i < ρ.length
      · simp only [hi, if_true] at z
        exact ⟨v, vs, rfl, q C _ _ E H F U ss vs P Q (by simpa using hl) (w.store hi) rc z h⟩
      · simp only [hi, if_false] at z; exact ((rc σ).2 z).elim
theorem cp_ix {i : Nat} {x : Str} {p2 p3 : Pos} {ie : Expr} {mi : M D} {es : List Expr} {ts : List TgA} (g : Good X) (hi : X.N[i]? = some x) (hv : Vis X.env.scope x) (he : CE X W ie mi) (h : CPuts X W es ts)
    (hd : (x == ("__debug__" : Str)) = false := by decide) (hcd : (x == ("__classdict__" : Str)) = false := by decide)
    (ha : ∀ v, assign (.Subscript (.Name x p2) ie p3) X.env v = (do
      let ov ← holding [v] (eval (.Name x p2) X.env)
      let iv ← holding [v, ov] (eval ie X.env)
      standAt p3
      holding [v, ov, iv] (setItem ov iv v)
      release [v, ov, iv] []) := by intro _; rfl)
    (hs : (assignEach (.Subscript (.Name x p2) ie p3 :: es) X.env).map (·.2) = assign (.Subscript (.Name x p2) ie p3) X.env :: (assignEach es X.env).map (·.2) := by rfl) : CPuts X W (.Subscript (.Name x p2) ie p3 :: es) (.ix i mi :: ts) := by
  obtain ⟨t, p, q⟩ := h
  obtain ⟨t2, pe, qe⟩ := he
  refine ⟨_, pgs_cons (pg_sub (pe_var hi hv hd hcd) pe (set_LD g) ha) p hs, fun C σ ρ E H F U ss vs P Q hl w rc z h => ?_⟩
  cases ss with
  | nil => exact ((rc σ).2 z).elim
  | cons s ss =>
    cases vs with
    | nil => cases hl
    | cons v vs =>
      unfold putsM at z
      refine ⟨v, vs, rfl, ?_⟩
      refine stIx_ok (W := W) (X := X) (m := mi) (P := fun r => P (r.bind fun _ => putsM ts ss)) qe (by exact w) ⟨fun x ρ' U' hz => ?_, fun hz => (rc σ).2 hz⟩ z fun ρ1 U1 H1 F1 w1 z1 => ?_
      · exact ((rc σ).1 x ρ' U' hz).popN
      · exact q C σ ρ1 E H1 F1 U1 ss vs P Q (by simpa using hl) w1 rc z1 h
def sPar (ts : List TgA) (ms : List (M D × Bool)) : S := fun ρ U => (mvs ms ρ U).bind fun ss ρ U => (putsM ts ss ρ U).bind fun _ ρ U => .ok .nx ρ U
theorem mvs_len : ∀ {ms : List (M D × Bool)} {ρ : Rho} {U : Urn} {ss : List Sl} {ρ' : Rho} {U' : Urn}, mvs ms ρ U = .ok ss ρ' U' → ss.length = ms.length
  | [], _, _, _, _, _, h => by cases h; rfl
  | (m, o) :: ms, ρ, U, ds, ρ', U', h => by
    unfold mvs at h
    cases e : m ρ U with
    | ok d ρ1 U1 =>
      rw [e] at h
      simp only [R.bind] at h
      cases e2 : mvs ms ρ1 U1 with
      | ok ds2 ρ2 U2 =>
        rw [e2] at h
        cases h
        rw [List.length_cons, List.length_cons, mvs_len e2]
      | exc x ρ2 U2 => rw [e2] at h; cases h
      | stk => rw [e2] at h; cases h
    | exc x ρ2 U2 => rw [e] at h; cases h
    | stk => rw [e] at h; cases h
theorem putsM_len : ∀ {ts : List TgA} {ss : List Sl} {ρ ρ' : Rho} {U U' : Urn}, putsM ts ss ρ U = .ok () ρ' U' → ts.length = ss.length
  | [], [], _, _, _, _, _ => rfl
  | [], _ :: _, _, _, _, _, h => by cases h
  | .nm i :: ts, [], _, _, _, _, h => by cases h
  | .ix i m :: ts, [], _, _, _, _, h => by cases h
  | .nm i :: ts, s :: ss, ρ, _, U, _, h => by
    unfold putsM at h
    by_cases hi : i < ρ.length
    · simp only [hi, if_true] at h; rw [List.length_cons, List.length_cons, putsM_len h]
    · simp only [hi, if_false] at h; cases h
  | .ix i m :: ts, s :: ss, ρ, _, U, _, h => by
    unfold putsM at h
    cases e : stIx i m s ρ U with
    | ok _ ρ1 U1 => rw [e] at h; rw [List.length_cons, List.length_cons, putsM_len h]
    | exc _ _ _ => rw [e] at h; cases h
    | stk => rw [e] at h; cases h
theorem Rc.s2 {C : Cf} {E : List Ent} {mg : Str → Option Value} {D : Ends} (σ : L2.St) : Rc C σ E mg W (fun r : R Unit => SPost C E mg W D (r.bind fun _ ρ U => .ok .nx ρ U)) := ⟨fun _ _ _ h c dd H' F' w r => h c dd σ H' F' w r, fun h => h⟩
/-- by a tuple that is made -/
theorem cs_parT {es tes : List Expr} {ts : List TgA} {ms : List (M D × Bool)} {k k2 : Nat} {p2 p3 : Pos} (g : Good X) (ht : CPuts X W tes ts) (h : CM X W es (mvs ms)) (hl : ms.length = ts.length := by rfl) (hl2 : ms.length ≤ 1000 := by decide) (hn : (assignEach tes X.env).length = ts.length := by rfl)
    (hst : (assignEach tes X.env).findIdx? (·.1) = none := by rfl) (hs : swapsWithSole [.Tuple tes k p2] (.Tuple es k2 p3) pos.line X.env = pure false := by rfl) (hw : swappedStores [.Tuple tes k p2] (.Tuple es k2 p3) X.env = pure none := by rfl)
    (h1 : (assignEach [.Tuple tes k p2] X.env).map (·.2) = [assign (.Tuple tes k p2) X.env] := by rfl) : CS X W (.Assign [.Tuple tes k p2] (.Tuple es k2 p3) pos) (sPar ts ms) := by
  obtain ⟨t, p, q⟩ := h
  obtain ⟨tt, pt, qt⟩ := ht
  refine ⟨_, ps_asg (pe_tup p) (pg_tup g.calm pt hn hst) hs hw h1, fun C σ ρ E H F U D w z => ?_⟩
  refine runM (t := t) q w Rc.s z fun ss ρ1 U1 vs H1 F1 e1 l1 w1 z1 => ?_
  have hlen : vs.length = ts.length := by rw [l1, mvs_len e1, hl]
  refine ⟨by rw [hlen, ← hl]; exact len1000 hl2, fun pp hp => ⟨pp, vs, rfl, .inl (.inl upd_same), hlen, ?_⟩⟩
  exact qt C σ ρ1 E _ F1 U1 ss vs (fun r => SPost C E X.mg W D (r.bind fun _ ρ U => .ok .nx ρ U)) D.nx l1 (w1.new hp) Rc.s2 z1 fun σ' ρ' U' H' F' w' z' => z' σ' H' F' w'
/-- two plain names, three -/
theorem cs_par2 {i j : Nat} {x y : Str} {a b : Expr} {ms : List (M D × Bool)} {px py p2 p3 : Pos} {k k2 : Nat} (g : Good X) (hi : X.N[i]? = some x) (hj : X.N[j]? = some y) (hij : i ≠ j) (hx : X.env.scope.names.lookup x = some .local) (hy : X.env.scope.names.lookup y = some .local)
    (h : CM X W [a, b] (mvs ms)) (hw : swappedStores [.Tuple [.Name x px, .Name y py] k p2] (.Tuple [a, b] k2 p3) X.env = pure (some [x, y])) (hs : swapsWithSole [.Tuple [.Name x px, .Name y py] k p2] (.Tuple [a, b] k2 p3) pos.line X.env = pure false := by rfl) :
    CS X W (.Assign [.Tuple [.Name x px, .Name y py] k p2] (.Tuple [a, b] k2 p3) pos) (sPar [.nm i, .nm j] ms) := by
  obtain ⟨t, p, q⟩ := h
  refine ⟨_, ps_par g.calm g.nd hi hj hij hx hy p hw hs, fun C σ ρ E H F U D w z => ?_⟩
  refine runM (t := t) q w Rc.s z fun ss ρ1 U1 vs H1 F1 e1 l1 w1 z1 => ?_
  match ss, vs, l1, w1, z1 with
  | [s1, s2], [v1, v2], _, w1, z1 =>
    simp only [putsM] at z1
    by_cases h1 : i < ρ1.length
    · simp only [h1, if_true] at z1
      have w2 := Wf.store (E := (s2, some v2) :: E) (by exact w1) h1
      by_cases h2 : j < (ρ1.set i s1).length
      · simp only [h2, if_true] at z1
        exact ⟨v1, v2, rfl, z1 _ H1 F1 (w2.store h2)⟩
      · simp only [h2, if_false] at z1; exact z1.elim
    · simp only [h1, if_false] at z1; exact z1.elim
  | [], _, _, _, z1 => exact z1.elim
  | [s1], _, _, _, z1 =>
    simp only [putsM] at z1
    by_cases h1 : i < ρ1.length
    · simp only [h1, if_true] at z1; exact z1.elim
    · simp only [h1, if_false] at z1; exact z1.elim
  | s1 :: s2 :: s3 :: ss, _, _, _, z1 =>
    simp only [putsM] at z1
    by_cases h1 : i < ρ1.length
    · simp only [h1, if_true] at z1
      by_cases h2 : j < (ρ1.set i s1).length
      · simp only [h2, if_true] at z1; exact z1.elim
      · simp only [h2, if_false] at z1; exact z1.elim
    · simp only [h1, if_false] at z1; exact z1.elim
theorem cs_par3 {i j l : Nat} {x y u : Str} {a b c : Expr} {ms : List (M D × Bool)} {px py pu p2 p3 : Pos} {k k2 : Nat} (g : Good X) (hi : X.N[i]? = some x) (hj : X.N[j]? = some y) (hl : X.N[l]? = some u) (hij : i ≠ j) (hil : i ≠ l) (hjl : j ≠ l)
    (hx : X.env.scope.names.lookup x = some .local) (hy : X.env.scope.names.lookup y = some .local) (hu : X.env.scope.names.lookup u = some .local)
    (h : CM X W [a, b, c] (mvs ms)) (hw : swappedStores [.Tuple [.Name x px, .Name y py, .Name u pu] k p2] (.Tuple [a, b, c] k2 p3) X.env = pure (some [x, y, u])) (hml : ms.length = 3 := by rfl) (hs : swapsWithSole [.Tuple [.Name x px, .Name y py, .Name u pu] k p2] (.Tuple [a, b, c] k2 p3) pos.line X.env = pure false := by rfl) :
    CS X W (.Assign [.Tuple [.Name x px, .Name y py, .Name u pu] k p2] (.Tuple [a, b, c] k2 p3) pos) (sPar [.nm i, .nm j, .nm l] ms) := by
  obtain ⟨t, p, q⟩ := h
  refine ⟨_, ps_par3 g.calm g.nd hi hj hl hij hil hjl hx hy hu p hw hs, fun C σ ρ E H F U D w z => ?_⟩
  refine runM (t := t) q w Rc.s z fun ss ρ1 U1 vs H1 F1 e1 l1 w1 z1 => ?_
  have hsl : ss.length = 3 := by rw [mvs_len e1, hml]
  match ss, vs, hsl, l1, w1, z1 with
  | [s1, s2, s3], [v1, v2, v3], _, _, w1, z1 =>
    simp only [putsM] at z1
    by_cases h1 : i < ρ1.length
    · simp only [h1, if_true] at z1
      have w2 := Wf.store (E := (s2, some v2) :: (s3, some v3) :: E) (by exact w1) h1
      by_cases h2 : j < (ρ1.set i s1).length
      · simp only [h2, if_true] at z1
        have w3 := Wf.store (E := (s3, some v3) :: E) (by exact w2) h2
        by_cases h3 : l < ((ρ1.set i s1).set j s2).length
        · simp only [h3, if_true] at z1
          exact ⟨v1, v2, v3, rfl, z1 _ H1 F1 (w3.store h3)⟩
        · simp only [h3, if_false] at z1; exact z1.elim
      · simp only [h2, if_false] at z1; exact z1.elim
    · simp only [h1, if_false] at z1; exact z1.elim
/-- x[i] = e -/
def sIx (i : Nat) (mi m : M D) : S := fun ρ U => (m ρ U).bind fun v ρ U => (stIx i mi (.val v) ρ U).bind fun _ ρ U => .ok .nx ρ U
theorem cs_ix {i : Nat} {x : Str} {p2 p3 : Pos} {ie : Expr} {mi : M D} (g : Good X) (hi : X.N[i]? = some x) (hv : Vis X.env.scope x) (hie : CE X W ie mi) (he : CE X W e m)
    (hd : (x == ("__debug__" : Str)) = false := by decide) (hcd : (x == ("__classdict__" : Str)) = false := by decide)
    (ha : ∀ v, assign (.Subscript (.Name x p2) ie p3) X.env v = (do
      let ov ← holding [v] (eval (.Name x p2) X.env)
      let iv ← holding [v, ov] (eval ie X.env)
      standAt p3
      holding [v, ov, iv] (setItem ov iv v)
      release [v, ov, iv] []) := by intro _; rfl)
    (hs : swapsWithSole [.Subscript (.Name x p2) ie p3] e pos.line X.env = pure false := by rfl) (hw : swappedStores [.Subscript (.Name x p2) ie p3] e X.env = pure none := by rfl)
    (h1 : (assignEach [.Subscript (.Name x p2) ie p3] X.env).map (·.2) = [assign (.Subscript (.Name x p2) ie p3) X.env] := by rfl) : CS X W (.Assign [.Subscript (.Name x p2) ie p3] e pos) (sIx i mi m) := by
  obtain ⟨t, p, q⟩ := he
  obtain ⟨t2, pe, qe⟩ := hie
  refine ⟨_, ps_asg p (pg_sub (pe_var hi hv hd hcd) pe (set_LD g) ha) hs hw h1, fun C σ ρ E H F U D w z => ?_⟩
  refine runE (t := t) q w Rc.s z fun d ρ1 U1 v H1 F1 w1 r1 z1 => ?_
  exact stIx_ok (W := W) (X := X) (m := mi) (P := fun r => SPost C E X.mg W D (r.bind fun _ ρ U => .ok .nx ρ U)) qe (w1.push r1) (Rc.s2 σ) z1 fun ρ2 U2 H2 F2 w2 z2 => z2 σ H2 F2 w2
/-! ### append, extend, pop -/
def appD (v : D) : D → Option D
  | .lst xs => if xs.length < 16777216 then some (.lst (xs ++ [v])) else none
  | _ => none
def extD (v : D) : D → Option D
  | .lst xs => match v with
    | .lst ys => if xs.length + ys.length ≤ 16777216 then some (.lst (xs ++ ys)) else none
    | _ => none
  | _ => none
def isOwnL (ρ : Rho) (i : Nat) : Bool := match ρ[i]? with
  | some (.own (.lst _)) => true
  | _ => false
theorem isOwnL_some {ρ : Rho} {i : Nat} (h : isOwnL ρ i = true) : ∃ ds, ρ[i]? = some (.own (.lst ds)) := by
  unfold isOwnL at h
  cases e : ρ[i]? with
  | none => rw [e] at h; cases h
  | some s => rw [e] at h; cases s with
    | own d => cases d with
      | lst ds => exact ⟨ds, rfl⟩
      | _ => cases h
    | _ => cases h
/-- x.append(e), x.extend(e) as statements -/
def sMut (f : D → D → Option D) (i : Nat) (m : M D) : S := fun ρ U => if isOwnL ρ i then (m ρ U).bind fun v ρ U => (upO i (f v) ρ U).bind fun _ ρ U => .ok .nx ρ U else .stk
theorem upO_inv {C : Cf} {E : List Ent} {mg : Str → Option Value} {D : Ends} {i : Nat} {f : VL.D → Option VL.D} {ρ : Rho} {U : Urn} (z : SPost C E mg W D ((upO i f ρ U).bind fun _ ρ U => .ok .nx ρ U)) : ∃ d d', ρ[i]? = some (.own d) ∧ f d = some d' ∧ ∀ σ' H' F', Wf C H' F' U σ' (ρ.set i (.own d')) E → D.nx σ' H' := by
  unfold upO at z
  cases e : ρ[i]? with
  | none => simp only [e] at z; exact z.elim
  | some s =>
    simp only [e] at z
    cases s with
    | un => exact z.elim
    | val _ => exact z.elim
    | own d =>
      simp only at z
      cases e2 : f d with
      | none => rw [e2] at z; exact z.elim
      | some d' => rw [e2] at z; exact ⟨d, d', rfl, e2, z⟩
theorem cs_app {i : Nat} {x : Str} {p2 apos cpos : Pos} (g : Good X) (hi : X.N[i]? = some x) (hv : Vis X.env.scope x) (h : CE X W e m)
    (hd : (x == ("__debug__" : Str)) = false := by decide) (hcd : (x == ("__classdict__" : Str)) = false := by decide)
    (hbase : attributeBase (.Name x p2) "append" X.env (eval (.Name x p2) X.env) = eval (.Name x p2) X.env := by rfl)
    (hfew : ((backTo cpos (starEach [e] X.env)).all (fun x => !x.1) && (backToKw cpos (keywordEach [] X.env)).all (fun x => x.1.isSome) && decide ([e].length + ([] : List Keyword).length + (if ([] : List Keyword).isEmpty then 0 else 1) < 30)) = true := by rfl)
    (hline : (apos.endLine == cpos.line) = true := by rfl) (hs : starEach [e] X.env = (false, eval e X.env) :: starEach [] X.env := by rfl) (hplain : (backTo cpos (starEach [] X.env)).any (·.1) = false := by rfl)
    (hsw : swapsWith (.Call (.Attribute (.Name x p2) "append" apos) [e] [] cpos) none pos.line X.env = pure false := by rfl) :
    CS X W (.Expr (.Call (.Attribute (.Name x p2) "append" apos) [e] [] cpos) pos) (sMut appD i m) := by
  obtain ⟨t, p, q⟩ := h
  refine ⟨_, ps_expr (pe_bm PySem.F.plainAttrs_list PySem.F.slot_list_append PySem.F.type_list_append mt_append (pe_var hi hv hd hcd) (pa_cons p pa_nil hs) hbase hfew hline hs hplain) hsw, fun C σ ρ E H F U D w z => ?_⟩
  unfold sMut at z
  by_cases ho : isOwnL ρ i = true
  · rw [if_pos ho] at z
    obtain ⟨ds, hds⟩ := isOwnL_some ho
    obtain ⟨xx, ex, a, rfl, _, _, vs0, hv0, _⟩ := w.get hds
    refine ⟨.ref a, ex, .inl ⟨rfl, vs0, .inl (.inl hv0)⟩, ?_⟩
    refine runE (t := t) q w Rc.s z fun d ρ1 U1 y H1 F1 w1 r1 z1 => ?_
    obtain ⟨d1, d2, e1, e2, z2⟩ := upO_inv z1
    obtain ⟨xx, ex2, a2, rfl, _, _, o⟩ := w1.get e1
    have ea : a = a2 := by rw [ex] at ex2; simpa using ex2
    subst ea
    cases d1 with
    | lst xs =>
      obtain ⟨vs, hvs, rvs⟩ := o
      unfold appD at e2
      by_cases hl : xs.length < 16777216
      · simp only [hl, if_true] at e2
        cases e2
        exact ⟨a, vs, y, rfl, rfl, hvs, by rw [← rvs.len, sizeLine_eq]; exact hl, z2 σ _ F1 (w1.upOwn e1 ex2 fun gr => ⟨_, upd_same, (rvs.map gr).append (.cons (gr _ _ r1) .nil)⟩)⟩
      · simp only [hl, if_false] at e2; cases e2
    | _ => cases e2
  · rw [if_neg ho] at z; exact z.elim
theorem cs_ext {i : Nat} {x : Str} {p2 apos cpos : Pos} (g : Good X) (hi : X.N[i]? = some x) (hv : Vis X.env.scope x) (h : CE X W e m)
    (hd : (x == ("__debug__" : Str)) = false := by decide) (hcd : (x == ("__classdict__" : Str)) = false := by decide)
    (hbase : attributeBase (.Name x p2) "extend" X.env (eval (.Name x p2) X.env) = eval (.Name x p2) X.env := by rfl)
    (hfew : ((backTo cpos (starEach [e] X.env)).all (fun x => !x.1) && (backToKw cpos (keywordEach [] X.env)).all (fun x => x.1.isSome) && decide ([e].length + ([] : List Keyword).length + (if ([] : List Keyword).isEmpty then 0 else 1) < 30)) = true := by rfl)
    (hline : (apos.endLine == cpos.line) = true := by rfl) (hs : starEach [e] X.env = (false, eval e X.env) :: starEach [] X.env := by rfl) (hplain : (backTo cpos (starEach [] X.env)).any (·.1) = false := by rfl)
    (hsw : swapsWith (.Call (.Attribute (.Name x p2) "extend" apos) [e] [] cpos) none pos.line X.env = pure false := by rfl) :
    CS X W (.Expr (.Call (.Attribute (.Name x p2) "extend" apos) [e] [] cpos) pos) (sMut extD i m) := by
  obtain ⟨t, p, q⟩ := h
  refine ⟨_, ps_expr (pe_bm PySem.F.plainAttrs_list PySem.F.slot_list_extend PySem.F.type_list_extend mt_extend (pe_var hi hv hd hcd) (pa_cons p pa_nil hs) hbase hfew hline hs hplain) hsw, fun C σ ρ E H F U D w z => ?_⟩
  unfold sMut at z
  by_cases ho : isOwnL ρ i = true
  · rw [if_pos ho] at z
    obtain ⟨ds, hds⟩ := isOwnL_some ho
    obtain ⟨xx, ex, a, rfl, _, _, vs0, hv0, _⟩ := w.get hds
    refine ⟨.ref a, ex, .inl ⟨rfl, vs0, .inl (.inl hv0)⟩, ?_⟩
    refine runE (t := t) q w Rc.s z fun d ρ1 U1 y H1 F1 w1 r1 z1 => ?_
    obtain ⟨d1, d2, e1, e2, z2⟩ := upO_inv z1
    obtain ⟨xx, ex2, a2, rfl, _, _, o⟩ := w1.get e1
    have ea : a = a2 := by rw [ex] at ex2; simpa using ex2
    subst ea
    cases d1 with
    | lst xs =>
      obtain ⟨vs, hvs, rvs⟩ := o
      cases d with
      | lst ys =>
        cases r1 with
        | lst f hb rys =>
          simp only [extD] at e2
          by_cases hl : xs.length + ys.length ≤ 16777216
          · simp only [hl, if_true] at e2
            cases e2
            exact ⟨a, _, vs, _, rfl, rfl, hvs, hb, by rw [← rvs.len, ← rys.len, sizeLine_eq]; exact hl, z2 σ _ F1 (w1.upOwn e1 ex2 fun gr => ⟨_, upd_same, (rvs.map gr).append (rys.map gr)⟩)⟩
          · simp only [hl, if_false] at e2; cases e2
      | _ => cases e2
    | _ => cases e2
  · rw [if_neg ho] at z; exact z.elim
/-- x.pop(e), x.pop() as values -/
def ePopAt (i : Nat) (m : M D) : M D := fun ρ U => if isOwnL ρ i then (m ρ U).bind fun k ρ U => match ρ[i]?, k with
    | some (.own (.lst xs)), .int k => if sm62 k then match seqIndex? k xs.length with
      | some j => match xs[j]? with
        | some d => .ok d (ρ.set i (.own (.lst (xs.eraseIdx j)))) U
        | none => .stk
      | none => .stk
      else .stk
    | _, _ => .stk
  else .stk
theorem c_popAt {i : Nat} {x : Str} {p2 apos : Pos} (g : Good X) (hi : X.N[i]? = some x) (hv : Vis X.env.scope x) (h : CE X W e m)
    (hd : (x == ("__debug__" : Str)) = false := by decide) (hcd : (x == ("__classdict__" : Str)) = false := by decide)
    (hbase : attributeBase (.Name x p2) "pop" X.env (eval (.Name x p2) X.env) = eval (.Name x p2) X.env := by rfl)
    (hfew : ((backTo pos (starEach [e] X.env)).all (fun x => !x.1) && (backToKw pos (keywordEach [] X.env)).all (fun x => x.1.isSome) && decide ([e].length + ([] : List Keyword).length + (if ([] : List Keyword).isEmpty then 0 else 1) < 30)) = true := by rfl)
    (hline : (apos.endLine == pos.line) = true := by rfl) (hs : starEach [e] X.env = (false, eval e X.env) :: starEach [] X.env := by rfl) (hplain : (backTo pos (starEach [] X.env)).any (·.1) = false := by rfl) :
    CE X W (.Call (.Attribute (.Name x p2) "pop" apos) [e] [] pos) (ePopAt i m) := by
  obtain ⟨t, p, q⟩ := h
  refine ⟨_, pe_bm PySem.F.plainAttrs_list PySem.F.slot_list_pop PySem.F.type_list_pop mt_popAt (pe_var hi hv hd hcd) (pa_cons p pa_nil hs) hbase hfew hline hs hplain, fun C σ ρ E H F U Q w z => ?_⟩
  unfold ePopAt at z
  by_cases ho : isOwnL ρ i = true
  · rw [if_pos ho] at z
    obtain ⟨ds, hds⟩ := isOwnL_some ho
    obtain ⟨xx, ex, a, rfl, _, _, vs0, hv0, _⟩ := w.get hds
    refine ⟨.ref a, ex, .inl ⟨rfl, vs0, .inl (.inl hv0)⟩, ?_⟩
    refine runE (t := t) q w Rc.e z fun d ρ1 U1 y H1 F1 w1 r1 z1 => ?_
    cases e1 : ρ1[i]? with
    | none => simp only [e1] at z1; exact z1.elim
    | some s1 =>
      simp only [e1] at z1
      cases s1 with
      | un => exact z1.elim
      | val _ => exact z1.elim
      | own d1 =>
        cases d1 with
        | lst xs =>
          cases d with
          | int k =>
            simp only at z1
            obtain ⟨xx, ex2, a2, rfl, _, _, vs, hvs, rvs⟩ := w1.get e1
            have ea : a = a2 := by rw [ex] at ex2; simpa using ex2
            subst ea
            cases r1
            by_cases hk : sm62 k = true
            · rw [if_pos hk] at z1
              have hk2 := of_decide_eq_true hk
              cases e2 : seqIndex? k xs.length with
              | none => rw [e2] at z1; exact z1.elim
              | some j =>
                rw [e2] at z1
                simp only at z1
                cases e3 : xs[j]? with
                | none => rw [e3] at z1; exact z1.elim
                | some dd =>
                  rw [e3] at z1
                  simp only at z1
                  obtain ⟨v, g1, g2⟩ := rvs.getD e3
                  have w2 := w1.push g2
                  have w3 := w2.upOwn (d' := .lst (xs.eraseIdx j)) (o := .lst (vs.eraseIdx j)) e1 ex2 fun gr => ⟨_, upd_same, (rvs.map gr).eraseIdx j⟩
                  exact ⟨a, vs, k, j, v, rfl, rfl, hvs, by omega, by omega, by rw [← rvs.len]; exact e2, g1, z1 v _ F1 w3.pop w3.topR⟩
            · rw [if_neg hk] at z1; exact z1.elim
          | _ => exact z1.elim
        | _ => exact z1.elim
  · rw [if_neg ho] at z; exact z.elim
def ePop (i : Nat) : M D := fun ρ U => match ρ[i]? with
    | some (.own (.lst xs)) => match xs[xs.length - 1]? with
      | some d => .ok d (ρ.set i (.own (.lst xs.dropLast))) U
      | none => .stk
    | _ => .stk
theorem RepAll.dropLast {u : Option Addr} {F : Addr → Prop} {H : Hp} {ds : List D} {vs : List V} (r : RepAll u F H ds vs) : RepAll u F H ds.dropLast vs.dropLast := by
  rw [List.dropLast_eq_take, List.dropLast_eq_take, ← r.len]; exact r.take _
theorem c_pop {i : Nat} {x : Str} {p2 apos : Pos} (g : Good X) (hi : X.N[i]? = some x) (hv : Vis X.env.scope x)
    (hd : (x == ("__debug__" : Str)) = false := by decide) (hcd : (x == ("__classdict__" : Str)) = false := by decide)
    (hbase : attributeBase (.Name x p2) "pop" X.env (eval (.Name x p2) X.env) = eval (.Name x p2) X.env := by rfl) (hline : (apos.endLine == pos.line) = true := by rfl) :
    CE X W (.Call (.Attribute (.Name x p2) "pop" apos) [] [] pos) (ePop i) := by
  refine ⟨_, pe_bm0 PySem.F.plainAttrs_list PySem.F.slot_list_pop PySem.F.type_list_pop mt_pop (pe_var hi hv hd hcd) hbase hline, fun C σ ρ E H F U Q w z => ?_⟩
  unfold ePop at z
  cases e1 : ρ[i]? with
  | none => rw [e1] at z; exact z.elim
  | some s1 =>
    rw [e1] at z
    cases s1 with
    | un => exact z.elim
    | val _ => exact z.elim
    | own d1 =>
      cases d1 with
      | lst xs =>
        simp only at z
        cases e3 : xs[xs.length - 1]? with
        | none => rw [e3] at z; exact z.elim
        | some dd =>
          rw [e3] at z
          simp only at z
          obtain ⟨xx, ex2, a, rfl, _, _, vs, hvs, rvs⟩ := w.get e1
          obtain ⟨v, g1, g2⟩ := rvs.getD e3
          have w2 := w.push g2
          have w3 := w2.upOwn (d' := .lst xs.dropLast) (o := .lst vs.dropLast) e1 ex2 fun gr => ⟨_, upd_same, (rvs.map gr).dropLast⟩
          exact ⟨.ref a, ex2, .inl ⟨rfl, vs, .inl (.inl hvs)⟩, a, vs, v, rfl, rfl, hvs, by rw [← rvs.len]; exact g1, z v _ F w3.pop w3.topR⟩
      | _ => exact z.elim
/-! ### loops -/
def forL (tg : Tg) (body : S) : List D → S
  | [] => sNx
  | d :: ds => fun ρ U => match tgM tg d ρ with
    | none => .stk
    | some ρ => (body ρ U).bind fun f ρ U => match f with
      | .nx => forL tg body ds ρ U
      | .ct => forL tg body ds ρ U
      | .bk => .ok .nx ρ U
      | .ret d => .ok (.ret d) ρ U
def sFor (it : M (List D)) (tg : Tg) (body : S) : S := fun ρ U => (it ρ U).bind fun ds => forL tg body ds
theorem cs_for {tg iter : Expr} {body : List Stmt} {mi : M (List D)} {t : Tg} {mb : S} (gd : Good X) (hp : PassesOwn (model X.prog X.w) X.A X.env X.xe) (hi : CI X W tg iter mi) (hg : CGn X tg t) (hb : CSs X W body mb)
    (hs : ∀ x, foldedSetIterable iter X.env x = pure x := by intro _; rfl) : CS X W (.For tg iter body [] pos) (sFor mi t mb) := by
  obtain ⟨wi, pI, qI⟩ := hi
  obtain ⟨tb, pb, qb⟩ := hb
  refine ⟨_, ps_for hp gd.calm pI hg pb hs, fun C σ ρ E H F U D w z => ?_⟩
  unfold sFor at z
  refine qI C σ ρ E H F U _ w ?_
  cases r : mi ρ U with
  | stk => rw [r] at z; exact z
  | exc x ρ' U' => rw [r] at z; exact fun c dd H' F' w r => z c dd σ H' F' w r
  | ok ds ρ0 U0 =>
    rw [r] at z
    intro J pn H1 F1 w1 itok
    refine ⟨fun i m σ H => i ≤ ds.length ∧ m = ds.length - i ∧ ∃ F U ρ, Wf C H F U σ ρ (pn ++ E) ∧ SPost C E X.mg W D (forL t mb (ds.drop i) ρ U), ⟨ds.length, Nat.zero_le _, by omega, F1, U0, ρ0, w1, z⟩, ?_⟩
    rintro i m σ2 H2 ⟨hi, rfl, F2, U2, ρ2, w2, z2⟩
    obtain ⟨go, stop⟩ := itok H2 F2 U2 σ2 ρ2 E i w2
    by_cases hlt : i < ds.length
    · obtain ⟨hgo, hy⟩ := go hlt
      refine .inr ⟨hgo, fun σ' H' => ∃ F U ρ, Wf C H' F U σ' ρ (pn ++ E) ∧ SPost C E X.mg W D (forL t mb (ds.drop (i + 1)) ρ U), fun σ' H' ⟨F', U', ρ', a, b⟩ => ⟨ds.length - (i + 1), by omega, hlt, rfl, F', U', ρ', a, b⟩, fun x H3 y => ?_⟩
      obtain ⟨d, hd, w3, rx⟩ := hy x H3 y
      have hdrop : ds.drop i = d :: ds.drop (i + 1) := by
        rw [List.drop_eq_getElem_cons hlt]
        congr 1
        rw [List.getElem?_eq_getElem hlt] at hd
        exact Option.some.inj hd
      rw [hdrop] at z2
      unfold forL at z2
      cases et : tgM t d ρ2 with
      | none => simp only [et] at z2; exact z2.elim
      | some ρ3 =>
        simp only [et] at z2
        obtain ⟨vs', w4, hq⟩ := tg_ok (K := X.K) (Q := fun σ2 H2 => tb { D with nx := fun σ' H' => ∃ F U ρ, Wf C H' F U σ' ρ (pn ++ E) ∧ SPost C E X.mg W D (forL t mb (ds.drop (i + 1)) ρ U), ct := fun σ' H' => ∃ F U ρ, Wf C H' F U σ' ρ (pn ++ E) ∧ SPost C E X.mg W D (forL t mb (ds.drop (i + 1)) ρ U), bk := D.nx } σ2 H2) et w3 rx
        refine hq (qb C _ ρ3 (pn ++ E) H3 F2 U2 _ w4 ?_)
        cases rb : mb ρ3 U2 with
        | stk => rw [rb] at z2; exact z2
        | exc x ρ' U' => rw [rb] at z2; exact fun c dd σ' H' F' w' r' => z2 c dd σ' H' F' w'.popN r'
        | ok f ρ' U' =>
          rw [rb] at z2
          cases f with
          | nx => exact fun σ' H' F' w' => ⟨F', U', ρ', w', z2⟩
          | ct => exact fun σ' H' F' w' => ⟨F', U', ρ', w', z2⟩
          | bk => exact fun σ' H' F' w' => z2 σ' H' F' w'.popN
          | ret d => exact fun v σ' H' F' w' r' => z2 v σ' H' F' w'.popN r'
    · have hdrop : ds.drop i = [] := List.drop_of_length_le (by omega)
      rw [hdrop] at z2
      exact .inl ⟨stop (by omega), z2 σ2 H2 F2 w2.popN⟩
def whL (c : M Bool) (b : S) : Nat → S
  | 0 => fun _ _ => .stk
  | n + 1 => fun ρ U => (c ρ U).bind fun x ρ U => if x then (b ρ U).bind fun f ρ U => match f with
      | .nx => whL c b n ρ U
      | .ct => whL c b n ρ U
      | .bk => .ok .nx ρ U
      | .ret d => .ok (.ret d) ρ U
    else .ok .nx ρ U
theorem cs_while {c : Expr} {body : List Stmt} {mc : M Bool} {mb : S} (n : Nat) (hp : PassesOwn (model X.prog X.w) X.A X.env X.xe) (hc : CT X W c mc) (hb : CSs X W body mb) : CS X W (.While c body [] pos) (whL mc mb n) := by
  obtain ⟨tc, pc, qc⟩ := hc
  obtain ⟨tb, pb, qb⟩ := hb
  refine ⟨_, ps_while hp pc pb, fun C σ ρ E H F U D w z => ?_⟩
  refine ⟨fun m σ H => ∃ F U ρ, Wf C H F U σ ρ E ∧ SPost C E X.mg W D (whL mc mb m ρ U), ⟨n, F, U, ρ, w, z⟩, ?_⟩
  rintro m σ1 H1 ⟨F1, U1, ρ1, w1, z1⟩
  cases m with
  | zero => exact z1.elim
  | succ m =>
    unfold whL at z1
    refine runT (t := tc) qc w1 Rc.s z1 fun b ρ2 U2 H2 F2 w2 z2 => ?_
    cases b with
    | false => exact z2 σ1 H2 F2 w2
    | true =>
      rw [if_pos rfl]
      refine ⟨fun σ' H' => ∃ F U ρ, Wf C H' F U σ' ρ E ∧ SPost C E X.mg W D (whL mc mb m ρ U), fun σ' H' h => ⟨m, Nat.lt_succ_self m, h⟩, ?_⟩
      refine qb C σ1 ρ2 E H2 F2 U2 _ w2 ?_
      rw [if_pos rfl] at z2
      cases rb : mb ρ2 U2 with
      | stk => rw [rb] at z2; exact z2
      | exc x ρ' U' => rw [rb] at z2; exact z2
      | ok f ρ' U' =>
        rw [rb] at z2
        cases f with
        | nx => exact fun σ' H' F' w' => ⟨F', U', ρ', w', z2⟩
        | ct => exact fun σ' H' F' w' => ⟨F', U', ρ', w', z2⟩
        | bk => exact z2
        | ret d => exact z2
end
end VL

set_option maxRecDepth 100000
set_option maxHeartbeats 4000000
/-! VL8: built-in functions, chains, defs. -/
namespace VL
open PySem PySem.Spec PyProof.Rows L2

/-! ### calls of built-ins with one operand, two -/
def Call1 (X : Cx) (f : Value) (op : D → Option D) : Prop := ∃ r, CallR X f r ∧
  ∀ C σ ρ E H F U a x d Q, Wf C H F U σ ρ E → BRep C F H a x → op a = some d → KPost C σ ρ U E Q d → r [x] H Q
def Call1N (X : Cx) (f : Value) (op : D → Option D) : Prop := ∃ r, CallR X f r ∧
  ∀ C σ ρ E H F U a x d Q, Wf C H F U σ ρ E → BRep C F H a x → op a = some d → NPost C σ ρ U E Q d → r [x] H Q
def Call2 (X : Cx) (f : Value) (op : D → D → Option D) : Prop := ∃ r, CallR X f r ∧
  ∀ C σ ρ E H F U a b x y d Q, Wf C H F U σ ρ E → BRep C F H a x → BRep C F H b y → op a b = some d → KPost C σ ρ U E Q d → r [x, y] H Q
def or1 (f g : D → Option D) : D → Option D := fun a => match f a with
  | some d => some d
  | none => g a
theorem Call1.or {X : Cx} {f : Value} {g h : D → Option D} (hg : Call1 X f g) (hh : Call1 X f h) : Call1 X f (or1 g h) := by
  obtain ⟨r, p, q⟩ := hg
  obtain ⟨r', p', q'⟩ := hh
  refine ⟨_, p.or p', fun C σ ρ E H F U a x d Q w ra e k => ?_⟩
  unfold or1 at e
  cases z : g a with
  | some d' => rw [z] at e; cases e; exact .inl (q C σ ρ E H F U a x _ Q w ra z k)
  | none => rw [z] at e; exact .inr (q' C σ ρ E H F U a x _ Q w ra e k)
def eB1 (op : D → Option D) (a : Opd) : M D := ev1 a fun x => opt (op x)
section
variable {X : Cx} {W : XK} {e ea eb : Expr} {a b : Opd} {pos p : Pos} {id : String} {x : Str}
theorem c_b1 {op : D → Option D} (hc : Call1 X (.builtin id) op) (hg : Gl X x) (hm : X.mg x = none) (hv : bootBuiltins x = some (.builtin id)) (ha : COp X W e a) (hn : x ≠ "__name__" := by decide) (hdb : (x == ("__debug__" : Str)) = false := by decide)
    (he : starEach [e] X.env = (false, eval e X.env) :: starEach [] X.env := by rfl) (hpl : (backTo pos (starEach [] X.env)).any (·.1) = false := by rfl) : CE X W (.Call (.Name x p) [e] [] pos) (eB1 op a) := by
  obtain ⟨r, pr, q⟩ := hc
  obtain ⟨t, pe, run⟩ := run1 (β := D) ha
  refine ⟨_, pe_callB pr hg hm hv (pa_cons pe pa_nil he) hn hdb he hpl, fun C σ ρ E H F U Q w z => ?_⟩
  refine run C σ ρ E H F U _ _ _ w Rc.e z fun d ρ1 U1 v H1 F1 w1 r1 z1 => ?_
  obtain ⟨d', e', k⟩ := opt_e z1
  exact q C σ ρ1 E H1 F1 U1 d v d' Q w1 r1 e' k
theorem c_ty1 {op : D → Option D} (hc : Call1 X (.type id) op) (hg : Gl X x) (hm : X.mg x = none) (hv : bootBuiltins x = some (.type id)) (ha : COp X W e a) (hn : x ≠ "__name__" := by decide) (hdb : (x == ("__debug__" : Str)) = false := by decide)
    (he : starEach [e] X.env = (false, eval e X.env) :: starEach [] X.env := by rfl) (hpl : (backTo pos (starEach [] X.env)).any (·.1) = false := by rfl) : CE X W (.Call (.Name x p) [e] [] pos) (eB1 op a) := by
  obtain ⟨r, pr, q⟩ := hc
  obtain ⟨t, pe, run⟩ := run1 (β := D) ha
  refine ⟨_, pe_callTy pr hg hm hv (pa_cons pe pa_nil he) hn hdb he hpl, fun C σ ρ E H F U Q w z => ?_⟩
  refine run C σ ρ E H F U _ _ _ w Rc.e z fun d ρ1 U1 v H1 F1 w1 r1 z1 => ?_
  obtain ⟨d', e', k⟩ := opt_e z1
  exact q C σ ρ1 E H1 F1 U1 d v d' Q w1 r1 e' k
theorem c_ty1N {op : D → Option D} (hc : Call1N X (.type id) op) (hg : Gl X x) (hm : X.mg x = none) (hv : bootBuiltins x = some (.type id)) (ha : COp X W e a) (hn : x ≠ "__name__" := by decide) (hdb : (x == ("__debug__" : Str)) = false := by decide)
    (he : starEach [e] X.env = (false, eval e X.env) :: starEach [] X.env := by rfl) (hpl : (backTo pos (starEach [] X.env)).any (·.1) = false := by rfl) : CO X W (.Call (.Name x p) [e] [] pos) (eB1 op a) := by
  obtain ⟨r, pr, q⟩ := hc
  obtain ⟨t, pe, run⟩ := run1 (β := D) ha
  refine ⟨_, pe_callTy pr hg hm hv (pa_cons pe pa_nil he) hn hdb he hpl, fun C σ ρ E H F U Q w z => ?_⟩
  refine run C σ ρ E H F U _ _ _ w Rc.o z fun d ρ1 U1 v H1 F1 w1 r1 z1 => ?_
  obtain ⟨d', e', k⟩ := opt_o z1
  exact q C σ ρ1 E H1 F1 U1 d v d' Q w1 r1 e' k
def eB2 (op : D → D → Option D) (a b : Opd) : M D := eBin op a b
theorem c_b2 {op : D → D → Option D} (hc : Call2 X (.builtin id) op) (hg : Gl X x) (hm : X.mg x = none) (hv : bootBuiltins x = some (.builtin id)) (ha : COp X W ea a) (hb : COp X W eb b) (hn : x ≠ "__name__" := by decide) (hdb : (x == ("__debug__" : Str)) = false := by decide)
    (he : starEach [ea, eb] X.env = (false, eval ea X.env) :: starEach [eb] X.env := by rfl) (he2 : starEach [eb] X.env = (false, eval eb X.env) :: starEach [] X.env := by rfl) (hpl : (backTo pos (starEach [eb] X.env)).any (·.1) = false := by rfl) : CE X W (.Call (.Name x p) [ea, eb] [] pos) (eB2 op a b) := by
  obtain ⟨r, pr, q⟩ := hc
  obtain ⟨ta, tb, pa, pb, run⟩ := run2 (β := D) ha hb
  refine ⟨_, pe_callB pr hg hm hv (pa_cons pa (pa_cons pb pa_nil he2) he) hn hdb he hpl, fun C σ ρ E H F U Q w z => ?_⟩
  refine run C σ ρ E H F U _ _ _ w Rc.e z fun dx dy ρ1 U1 x y H1 F1 w1 r1 r2 z1 => ?_
  obtain ⟨d', e', k⟩ := opt_e z1
  exact q C σ ρ1 E H1 F1 U1 dx dy x y d' Q w1 r1 r2 e' k

/-! len -/
def lenS : D → Option D
  | .lst xs => some (.int xs.length)
  | .tup xs => some (.int xs.length)
  | _ => none
def lenK : D → Option D
  | .dicK xs => some (.int xs.length)
  | _ => none
def lenT : D → Option D
  | .dicT xs => some (.int xs.length)
  | _ => none
theorem len_seq : Call1 X (.builtin "len") lenS := by
  refine ⟨_, call_len_seq, fun C σ ρ E H F U a x d Q w ra e k => ?_⟩
  cases a with
  | lst xs =>
    cases e
    obtain ⟨p, vs, rfl, hp, rv⟩ := ra.seqL
    exact ⟨p, vs, rfl, .inl (.inl (.inl hp)), by rw [← rv.len]; exact k _ H F w (.int _)⟩
  | tup xs =>
    cases e
    obtain ⟨p, vs, rfl, hp, rv⟩ := ra.seqT
    exact ⟨p, vs, rfl, .inr (.inl (.inl hp)), by rw [← rv.len]; exact k _ H F w (.int _)⟩
  | _ => cases e
/-- dicts that may be read at once -/
theorem len_dK : Call1 X (.builtin "len") (fun _ => none) := ⟨_, call_len_seq, fun C σ ρ E H F U a x d Q w ra e k => by cases e⟩
abbrev lenD : D → Option D := lenS
theorem len_ok : Call1 X (.builtin "len") lenD := len_seq

/-! tuple(x), list(x) of lists and tuples -/
def tupD : D → Option D
  | .lst xs => some (.tup xs)
  | .tup xs => some (.tup xs)
  | _ => none
theorem tuple_ok : Call1 X (.type "tuple") tupD := by
  refine ⟨_, call_tuple_of, fun C σ ρ E H F U a x d Q w ra e k => ?_⟩
  cases a with
  | lst xs =>
    cases e
    obtain ⟨p, vs, rfl, hp, rv⟩ := ra.seqL
    exact ⟨p, vs, rfl, .inl ⟨.inl (.inl hp), Rep.tupNew w rv k⟩⟩
  | tup xs =>
    cases e
    obtain ⟨p, vs, rfl, hp, rv⟩ := ra.seqT
    exact ⟨p, vs, rfl, .inr ⟨.inl (.inl hp), k _ H F w (.tup hp rv)⟩⟩
  | _ => cases e
def lstD : D → Option D
  | .lst xs => some (.lst xs)
  | .tup xs => some (.lst xs)
  | _ => none
theorem list_ok : Call1N X (.type "list") lstD := by
  refine ⟨_, call_list_of, fun C σ ρ E H F U a x d Q w ra e k => ?_⟩
  cases a with
  | lst xs =>
    cases e
    obtain ⟨p, vs, rfl, hp, rv⟩ := ra.seqL
    exact ⟨p, vs, rfl, .inl (.inl (.inl hp)), fun r hr => k _ _ F (w.newO hr fun g => ⟨_, upd_same, rv.map g⟩)⟩
  | tup xs =>
    cases e
    obtain ⟨p, vs, rfl, hp, rv⟩ := ra.seqT
    exact ⟨p, vs, rfl, .inr (.inl (.inl hp)), fun r hr => k _ _ F (w.newO hr fun g => ⟨_, upd_same, rv.map g⟩)⟩
  | _ => cases e
/-! tuple(range(n)), list(range(n)), of two ends -/
def RgB (a b : Int) : Bool := decide (-(2 ^ 62) ≤ a ∧ a < 2 ^ 62 ∧ -(2 ^ 62) ≤ b ∧ b < 2 ^ 62 ∧ (b - a).toNat ≤ 16777216)
theorem rg_rep {u : Option Addr} {F : Addr → Prop} {H : Hp} (a b : Int) : RepAll u F H (rgD a b) (rgV a b) := by
  have : ∀ l : List Nat, RepAll u F H (l.map fun i => D.int (a + (i : Nat))) (l.map fun i => V.int (a + (i : Nat))) := fun l => by
    induction l with
    | nil => exact .nil
    | cons x l ih => exact .cons (.int _) ih
  exact this _
def eTupRg1 (m : M D) : M D := fun ρ U => (m ρ U).bind fun d => match d with
  | .int n => if RgB 0 n then opt (some (.tup (rgD 0 n))) else opt none
  | _ => opt none
def oLstRg1 (m : M D) : M D := fun ρ U => (m ρ U).bind fun d => match d with
  | .int n => if RgB 0 n then opt (some (.lst (rgD 0 n))) else opt none
  | _ => opt none
theorem c_tupRg1 {y : Str} {p2 pos2 : Pos} {m : M D} (g : Good X) (hg : Gl X "tuple") (hm : X.mg "tuple" = none) (hg2 : Gl X "range") (hm2 : X.mg "range" = none) (h : CE X W e m) (hs : starEach [e] X.env = (false, eval e X.env) :: starEach [] X.env := by rfl)
    (hs2 : starEach [.Call (.Name "range" p2) [e] [] pos2] X.env = (false, eval (.Call (.Name "range" p2) [e] [] pos2) X.env) :: starEach [] X.env := by rfl) : CE X W (.Call (.Name "tuple" p) [.Call (.Name "range" p2) [e] [] pos2] [] pos) (eTupRg1 m) := by
  obtain ⟨t, pe, q⟩ := h
  refine ⟨_, pe_tupRg g.calm hg hm (prg_1 hg2 hm2 pe hs) hs2, fun C σ ρ E H F U Q w z => ?_⟩
  refine runE (t := t) q w Rc.e z fun d ρ1 U1 v H1 F1 w1 r1 z1 => ?_
  cases d with
  | int n =>
    cases r1
    simp only at z1
    by_cases hn : RgB 0 n = true
    · rw [if_pos hn] at z1
      have hn2 := of_decide_eq_true hn
      exact ⟨n, rfl, ⟨hn2.1, hn2.2.1, hn2.2.2.1, hn2.2.2.2.1, by have := hn2.2.2.2.2; omega⟩, Rep.tupNew w1 (rg_rep 0 n) z1⟩
    · rw [if_neg hn] at z1; exact z1.elim
  | _ => exact z1.elim
theorem c_lstRg1 {p2 pos2 : Pos} {m : M D} (g : Good X) (hg : Gl X "list") (hm : X.mg "list" = none) (hg2 : Gl X "range") (hm2 : X.mg "range" = none) (h : CE X W e m) (hs : starEach [e] X.env = (false, eval e X.env) :: starEach [] X.env := by rfl)
    (hs2 : starEach [.Call (.Name "range" p2) [e] [] pos2] X.env = (false, eval (.Call (.Name "range" p2) [e] [] pos2) X.env) :: starEach [] X.env := by rfl) : CO X W (.Call (.Name "list" p) [.Call (.Name "range" p2) [e] [] pos2] [] pos) (oLstRg1 m) := by
  obtain ⟨t, pe, q⟩ := h
  refine ⟨_, pe_listRg g.calm hg hm (prg_1 hg2 hm2 pe hs) hs2, fun C σ ρ E H F U Q w z => ?_⟩
  refine runE (t := t) q w Rc.o z fun d ρ1 U1 v H1 F1 w1 r1 z1 => ?_
  cases d with
  | int n =>
    cases r1
    simp only at z1
    by_cases hn : RgB 0 n = true
    · rw [if_pos hn] at z1
      have hn2 := of_decide_eq_true hn
      exact ⟨n, rfl, ⟨hn2.1, hn2.2.1, hn2.2.2.1, hn2.2.2.2.1, by have := hn2.2.2.2.2; omega⟩, fun r hr => z1 _ _ F1 (w1.newO hr fun gr => ⟨_, upd_same, (rg_rep 0 n).map gr⟩)⟩
    · rw [if_neg hn] at z1; exact z1.elim
  | _ => exact z1.elim

/-! all, any of a list of bools -/
def blsD : List D → Option (List Bool)
  | [] => some []
  | .bl b :: ds => (blsD ds).map (b :: ·)
  | _ => none
theorem blsD_rep {u : Option Addr} {F : Addr → Prop} {H : Hp} : ∀ {ds : List D} {vs : List V} {bs : List Bool}, RepAll u F H ds vs → blsD ds = some bs → vs = bs.map V.bl
  | [], _, _, .nil, h => by cases h; rfl
  | d :: ds, _, bs, .cons r rs, h => by
    cases d with
    | bl b =>
      cases r
      simp only [blsD] at h
      cases e : blsD ds with
      | none => rw [e] at h; cases h
      | some cs => rw [e] at h; cases h; rw [blsD_rep rs e]; rfl
    | _ => cases h
def allD : D → Option D
  | .lst ds => (blsD ds).map fun bs => .bl (bs.all (fun b => b))
  | _ => none
def anyD : D → Option D
  | .lst ds => (blsD ds).map fun bs => .bl (bs.any (fun b => b))
  | _ => none
theorem all_ok (g : Good X) : Call1 X (.builtin "all") allD := by
  refine ⟨_, cr_all g.calm, fun C σ ρ E H F U a x d Q w ra e k => ?_⟩
  cases a with
  | lst xs =>
    simp only [allD] at e
    cases q : blsD xs with
    | none => rw [q] at e; cases e
    | some bs =>
      rw [q] at e; cases e
      obtain ⟨p, vs, rfl, hp, rv⟩ := ra.seqL
      have := blsD_rep rv q
      subst this
      exact ⟨p, bs, rfl, .inl (.inl hp), k _ H F w (.bl _)⟩
  | _ => cases e
theorem any_ok (g : Good X) : Call1 X (.builtin "any") anyD := by
  refine ⟨_, cr_any g.calm, fun C σ ρ E H F U a x d Q w ra e k => ?_⟩
  cases a with
  | lst xs =>
    simp only [anyD] at e
    cases q : blsD xs with
    | none => rw [q] at e; cases e
    | some bs =>
      rw [q] at e; cases e
      obtain ⟨p, vs, rfl, hp, rv⟩ := ra.seqL
      have := blsD_rep rv q
      subst this
      exact ⟨p, bs, rfl, .inl (.inl hp), k _ H F w (.bl _)⟩
  | _ => cases e
/-! abs, int, max, min of ints -/
def absD : D → Option D
  | .int i => some (.int (if i < 0 then -i else i))
  | _ => none
theorem abs_ok : Call1 X (.builtin "abs") absD := by
  refine ⟨_, call_abs, fun C σ ρ E H F U a x d Q w ra e k => ?_⟩
  cases a with
  | int i => cases e; cases ra.int; exact ⟨i, rfl, k _ H F w (.int _)⟩
  | _ => cases e
def intD : D → Option D
  | .int i => some (.int i)
  | .bl b => some (.int (if b then 1 else 0))
  | _ => none
theorem int_ok : Call1 X (.type "int") intD := by
  refine ⟨_, call_int1, fun C σ ρ E H F U a x d Q w ra e k => ?_⟩
  cases a with
  | int i => cases e; cases ra.int; exact .inl ⟨i, rfl, k _ H F w (.int _)⟩
  | bl i => cases e; cases ra.bl; exact .inr ⟨i, rfl, k _ H F w (.int _)⟩
  | _ => cases e
def maxI : D → D → Option D := iiD fun i j => some (.int (if j > i then j else i))
def minI : D → D → Option D := iiD fun i j => some (.int (if j < i then j else i))
theorem max_ok (g : Good X) : Call2 X (.builtin "max") maxI := by
  refine ⟨_, call_max2 g.calm, fun C σ ρ E H F U a b x y d Q w ra rb e k => ?_⟩
  obtain ⟨i, j, rfl, rfl, e⟩ := iiD_some e
  cases e; cases ra.int; cases rb.int
  exact ⟨i, j, rfl, k _ H F w (.int _)⟩
theorem min_ok (g : Good X) : Call2 X (.builtin "min") minI := by
  refine ⟨_, call_min2 g.calm, fun C σ ρ E H F U a b x y d Q w ra rb e k => ?_⟩
  obtain ⟨i, j, rfl, rfl, e⟩ := iiD_some e
  cases e; cases ra.int; cases rb.int
  exact ⟨i, j, rfl, k _ H F w (.int _)⟩

/-! ### isinstance -/
def tyD : D → Option String
  | .non => some "NoneType"
  | .bl _ => some "bool"
  | .int _ => some "int"
  | .str _ => some "str"
  | .tup _ => some "tuple"
  | .lst _ => some "list"
  | _ => none
/-- the classes that are asked for -/
inductive Ty where
  | int | bool | str | tuple | list
def Ty.nm : Ty → String
  | .int => "int"
  | .bool => "bool"
  | .str => "str"
  | .tuple => "tuple"
  | .list => "list"
def Ty.is : Ty → D → Bool
  | .int, .int _ => true
  | .int, .bl _ => true
  | .bool, .bl _ => true
  | .str, .str _ => true
  | .tuple, .tup _ => true
  | .list, .lst _ => true
  | _, _ => false
theorem kit_is {K : PySem.W.Frag} (T : Ty) {d : D} {n : String} (h : tyD d = some n) : PySem.W.kitOne K (.type n) (.type T.nm) = some (T.is d) := by
  refine kit_ty ?_
  cases d <;> cases h <;> cases T <;> first | (show kitB _ _ = some false; decide +kernel) | (show kitB _ _ = some true; decide +kernel)
theorem tyX_of {K : PySem.W.Frag} {C : Cf} {F : Addr → Prop} {H : Hp} {d : D} {v : V} {n : String} (r : BRep C F H d v) (h : tyD d = some n) : TyX K H v (.type n) := by
  cases d with
  | non => cases h; cases r.non; exact .base .non
  | bl b => cases h; cases r.bl; exact .base (.bl b)
  | int b => cases h; cases r.int; exact .base (.int b)
  | str b => cases h; cases r.str; exact .base (.str b)
  | tup xs => cases h; obtain ⟨p, vs, rfl, hp, _⟩ := r.seqT; exact .base (.tup hp)
  | lst xs => cases h; obtain ⟨p, vs, rfl, hp, _⟩ := r.seqL; exact .base (.lst hp)
  | _ => cases h
def isiD (Ts : List Ty) (d : D) : Option D := match tyD d with
  | some _ => some (.bl (Ts.any fun T => T.is d))
  | none => none
/-- the name of a built-in class, as a value -/
def tyName (X : Cx) (e : Expr) (T : Ty) : Prop := PE X e (tC (.ty T.nm))
theorem ty_nm {T : Ty} (hg : Gl X x) (hm : X.mg x = none) (hv : bootBuiltins x = some (.type T.nm)) (hn : x ≠ "__name__" := by decide) (hdb : (x == ("__debug__" : Str)) = false := by decide) : tyName X (.Name x p) T :=
  pe_bltn hg hm hv (show L2.RelV (.ty T.nm) (.type T.nm) from rfl) hn hdb
theorem c_isi {T : Ty} (hg : Gl X "isinstance") (hm : X.mg "isinstance" = none) (ha : COp X W ea a) (hT : tyName X eb T)
    (he : starEach [ea, eb] X.env = (false, eval ea X.env) :: starEach [eb] X.env := by rfl) (he2 : starEach [eb] X.env = (false, eval eb X.env) :: starEach [] X.env := by rfl) (hpl : (backTo pos (starEach [eb] X.env)).any (·.1) = false := by rfl) :
    CE X W (.Call (.Name "isinstance" p) [ea, eb] [] pos) (eB1 (isiD [T]) a) := by
  obtain ⟨t, pe, run⟩ := run1 (β := D) ha
  refine ⟨_, pe_callB call_isi hg hm PyProof.Rows.boot_isinstance (pa_cons pe (pa_cons hT pa_nil he2) he) (by decide) (by decide) he hpl, fun C σ ρ E H F U Q w z => ?_⟩
  refine run C σ ρ E H F U _ _ _ w Rc.e z fun d ρ1 U1 v H1 F1 w1 r1 z1 => ?_
  obtain ⟨d', e', k⟩ := opt_e z1
  unfold isiD at e'
  cases q : tyD d with
  | none => rw [q] at e'; cases e'
  | some n =>
    rw [q] at e'
    simp only at e'
    cases e'
    refine ⟨v, .ty T.nm, .type n, .type T.nm, _, rfl, .ty _, tyX_of r1 q, kit_is T q, ?_⟩
    have := k (.bl (T.is d)) H1 F1 w1 (by simp only [List.any_cons, List.any_nil, Bool.or_false]; exact .bl _)
    exact this
/-- isinstance(x, (T1, T2)) -/
theorem kit_any {K : PySem.W.Frag} {d : D} {n : String} (h : tyD d = some n) : ∀ Ts : List Ty, PySem.W.kitAny K (.type n) (Ts.map fun T => Value.type T.nm) = some (Ts.any fun T => T.is d)
  | [] => kitAny_nil
  | T :: Ts => by
    rw [List.map_cons, List.any_cons]
    refine kitAny_cons (kit_is T h) (fun hb => ?_) (fun hb => ?_)
    · rw [hb, Bool.false_or]; exact kit_any h Ts
    · rw [hb, Bool.true_or]
theorem c_isi2 {T1 T2 : Ty} {e1 e2 : Expr} {k : Nat} {tp : Pos} (hg : Gl X "isinstance") (hm : X.mg "isinstance" = none) (ha : COp X W ea a) (hT1 : tyName X e1 T1) (hT2 : tyName X e2 T2)
    (hx : starEach [e1, e2] X.env = (false, eval e1 X.env) :: starEach [e2] X.env := by rfl) (hx2 : starEach [e2] X.env = (false, eval e2 X.env) :: starEach [] X.env := by rfl)
    (he : starEach [ea, .Tuple [e1, e2] k tp] X.env = (false, eval ea X.env) :: starEach [.Tuple [e1, e2] k tp] X.env := by rfl) (he2 : starEach [.Tuple [e1, e2] k tp] X.env = (false, eval (.Tuple [e1, e2] k tp) X.env) :: starEach [] X.env := by rfl)
    (hpl : (backTo pos (starEach [.Tuple [e1, e2] k tp] X.env)).any (·.1) = false := by rfl) :
    CE X W (.Call (.Name "isinstance" p) [ea, .Tuple [e1, e2] k tp] [] pos) (eB1 (isiD [T1, T2]) a) := by
  obtain ⟨t, pe, run⟩ := run1 (β := D) ha
  refine ⟨_, pe_callB call_isiT hg hm PyProof.Rows.boot_isinstance (pa_cons pe (pa_cons (pe_tup (pa_cons hT1 (pa_cons hT2 pa_nil hx2) hx)) pa_nil he2) he) (by decide) (by decide) he hpl, fun C σ ρ E H F U Q w z => ?_⟩
  refine run C σ ρ E H F U _ _ _ w Rc.e z fun d ρ1 U1 v H1 F1 w1 r1 z1 => ?_
  obtain ⟨d', e', k⟩ := opt_e z1
  unfold isiD at e'
  cases q : tyD d with
  | none => rw [q] at e'; cases e'
  | some n =>
    rw [q] at e'
    simp only at e'
    cases e'
    refine ⟨by show 2 ≤ sizeLine; decide, fun tpp htp => ?_⟩
    have w2 := w1.new (o := .tup [.ty T1.nm, .ty T2.nm]) htp
    have r2 : BRep C F1 (upd H1 tpp (.tup [.ty T1.nm, .ty T2.nm])) d v := by
      rcases r1 with r | ⟨aa, rfl, o⟩
      · exact .inl (r.grow (grow_new w1.ok.fdom htp))
      · obtain ⟨ob, eo, _⟩ := o.mut
        exact .inr ⟨aa, rfl, o.grow (grow_new w1.ok.fdom htp) (upd_ne (ne_of_none eo htp))⟩
    exact ⟨v, tpp, [.ty T1.nm, .ty T2.nm], .type n, [.type T1.nm, .type T2.nm], _, rfl, upd_same, .cons (.ty _) (.cons (.ty _) .nil), tyX_of r2 q, kit_any q [T1, T2], k _ _ F1 w2 (.bl _)⟩

/-! ### chains -/
def eChain (op op' : D → D → Option D) (a b c : M D) : M D := fun ρ U => (a ρ U).bind fun x ρ U => (b ρ U).bind fun y ρ U => (opt (op x y) ρ U).bind fun k ρ U => match k with
  | .bl true => (c ρ U).bind fun z => opt (op' y z)
  | .bl false => .ok (.bl false) ρ U
  | _ => .stk
theorem chain_run {ec : Expr} {op op' : D → D → Option D} {o o' : CmpOp} {ma mb mc : M D} (h : OpOk X (compareOp o) op) (h' : OpOk X (compareOp o') op') (ha : CE X W ea ma) (hb : CE X W eb mb) (hc : CE X W ec mc) :
    ∃ r r' ta tb tc, OpR X (compareOp o) r ∧ OpR X (compareOp o') r' ∧ PE X ea ta ∧ PE X eb tb ∧ PE X ec tc ∧ ∀ C σ ρ E H F U Q, Wf C H F U σ ρ E → EPost C σ E X.mg W Q (eChain op op' ma mb mc ρ U) → tChain r r' ta tb tc σ H Q := by
  obtain ⟨r, pr, q⟩ := h
  obtain ⟨r', pr', q'⟩ := h'
  obtain ⟨ta, pa, qa⟩ := ha
  obtain ⟨tb, pb, qb⟩ := hb
  obtain ⟨tc, pc, qc⟩ := hc
  refine ⟨r, r', ta, tb, tc, pr, pr', pa, pb, pc, fun C σ ρ E H F U Q w z => ?_⟩
  refine runE (t := ta) qa w Rc.e z fun x ρ1 U1 vx H1 F1 w1 r1 z1 => ?_
  refine runE (t := tb) qb (w1.push r1) Rc.e.pop z1 fun y ρ2 U2 vy H2 F2 w2 r2 z2 => ?_
  cases e : op x y with
  | none => rw [e] at z2; exact z2.elim
  | some k =>
    rw [e] at z2
    simp only [opt, R.bind] at z2
    refine q C σ ρ2 ((.val y, some vy) :: E) H2 F2 U2 x y vx vy k _ (w2.pop.push r2) (.inl w2.topR) (.inl r2) e fun vk H3 F3 w3 r3 => ?_
    cases k with
    | bl b =>
      cases r3
      refine ⟨b, rfl, ?_⟩
      cases b with
      | false => exact z2 _ H3 F3 w3.pop (.bl false)
      | true =>
        rw [if_pos rfl]
        refine runE (t := tc) qc w3 Rc.e.pop z2 fun zz ρ3 U3 vz H4 F4 w4 r4 z3 => ?_
        obtain ⟨d, e4, k4⟩ := opt_e z3
        exact q' C σ ρ3 E H4 F4 U3 y zz vy vz d Q w4.pop (.inl w4.topR) (.inl r4) e4 k4
    | _ => exact z2.elim
theorem c_chain {ec : Expr} {op op' : D → D → Option D} {o o' : CmpOp} {ma mb mc : M D} (h : OpOk X (compareOp o) op) (h' : OpOk X (compareOp o') op') (ha : CE X W ea ma) (hb : CE X W eb mb) (hc : CE X W ec mc)
    (hm : lastMarks [o, o'] [eb, ec] = false := by with_unfolding_all rfl) : CE X W (.Compare ea [o, o'] [eb, ec] pos) (eChain op op' ma mb mc) := by
  obtain ⟨r, r', ta, tb, tc, pr, pr', pa, pb, pc, run⟩ := chain_run h h' ha hb hc
  exact ⟨_, pe_chain pr pr' pa pb pc hm, run⟩
theorem ct_chain {ec : Expr} {op op' : D → D → Option D} {o o' : CmpOp} {ma mb mc : M D} (h : OpOk X (compareOp o) op) (h' : OpOk X (compareOp o') op') (ha : CE X W ea ma) (hb : CE X W eb mb) (hc : CE X W ec mc)
    (hm : lastMarks [o, o'] [eb, ec] = false := by with_unfolding_all rfl) : CT X W (.Compare ea [o, o'] [eb, ec] pos) (tOf (eChain op op' ma mb mc)) := by
  obtain ⟨r, r', ta, tb, tc, pr, pr', pa, pb, pc, run⟩ := chain_run h h' ha hb hc
  exact ⟨_, pt_chain pr pr' pa pb pc hm, fun C σ ρ E H F U Q w z => run C σ ρ E H F U _ w (t_of z)⟩
theorem cs_never {st : Stmt} : CS X W st (fun _ _ => .stk) := ⟨_, ps_never, fun C σ ρ E H F U D w z => z⟩

/-! ### d.get(k, v) -/
def isDic : D → Bool
  | .dicK _ => true
  | .dicT _ => true
  | _ => false
def eGet (i : Opd) (a b : M D) : M D := match i with
  | .ev m => fun ρ U => (m ρ U).bind fun d ρ U => (a ρ U).bind fun k ρ U => (b ρ U).bind fun v => opt ((dgetD d k).map fun o => o.getD v)
  | .sl i => lk i fun d0 ρ U => if (isDic d0) then (a ρ U).bind fun k ρ U => (b ρ U).bind fun v => lk i fun d => opt ((dgetD d k).map fun o => o.getD v) else .stk
theorem isD_of {C : Cf} {F : Addr → Prop} {H : Hp} {d : D} {v : V} (r : BRep C F H d v) (h : isDic d = true) : ∃ a, v = .ref a ∧ IsD H a := by
  cases d with
  | dicK kvs =>
    rcases r with r | ⟨a, rfl, vs, h2, _⟩
    · cases r with | dicK f h2 r => exact ⟨_, rfl, .inl ⟨_, h2⟩⟩
    · exact ⟨a, rfl, .inl ⟨_, .inl h2⟩⟩
  | dicT kvs =>
    rcases r with r | ⟨a, rfl, vs, h2, _⟩
    · cases r with | dicT f h2 r => exact ⟨_, rfl, .inr ⟨_, h2⟩⟩
    · exact ⟨a, rfl, .inr ⟨_, .inl h2⟩⟩
  | _ => cases h
theorem c_get {i : Nat} {y : Str} {p2 apos : Pos} {ma mb : M D} (g : Good X) (hi : X.N[i]? = some y) (hv : Vis X.env.scope y) (ha : CE X W ea ma) (hb : CE X W eb mb) (m : M2 X (.Name y p2) "get" apos ea eb pos := by exact ⟨rfl, rfl, rfl, rfl⟩)
    (hd : (y == ("__debug__" : Str)) = false := by decide) (hcd : (y == ("__classdict__" : Str)) = false := by decide) : CE X W (.Call (.Attribute (.Name y p2) "get" apos) [ea, eb] [] pos) (eGet (.sl i) ma mb) := by
  obtain ⟨ta, pa, qa⟩ := ha
  obtain ⟨tb, pb, qb⟩ := hb
  refine ⟨_, pe_dget2 (by have := g.hu; omega) (pe_var hi hv hd hcd) pa pb m, fun C σ ρ E H F U Q w z => ?_⟩
  have z : EPost C σ E X.mg W Q (lk i (fun d0 ρ U => if (isDic d0) then (ma ρ U).bind fun k ρ U => (mb ρ U).bind fun v => lk i fun d => opt ((dgetD d k).map fun o => o.getD v) else .stk) ρ U) := z
  unfold lk at z
  cases e : look ρ i with
  | none => rw [e] at z; exact z.elim
  | some d0 =>
    rw [e] at z
    simp only at z
    obtain ⟨v, h1, h2⟩ := w.look e
    by_cases hq : isDic d0 = true
    · rw [if_pos hq] at z
      obtain ⟨a, rfl, isd⟩ := isD_of h2 hq
      refine ⟨.ref a, h1, a, rfl, isd, ?_⟩
      refine runE (t := ta) qa w Rc.e z fun k ρ1 U1 vk H1 F1 w1 r1 z1 => ?_
      refine runE (t := tb) qb (w1.push r1) Rc.e.pop z1 fun dv ρ2 U2 vv H2 F2 w2 r2 z2 => ?_
      cases e2 : look ρ2 i with
      | none => simp only [e2] at z2; exact z2.elim
      | some d =>
        simp only [e2] at z2
        obtain ⟨v2, g1, g2⟩ := w2.look e2
        have : V.ref a = v2 := by rw [h1] at g1; simpa using g1
        subst this
        cases e3 : dgetD d k with
        | none => rw [e3] at z2; exact z2.elim
        | some o =>
          rw [e3] at z2
          obtain ⟨p, ov, ep, dg, ro⟩ := g2.dget (.inl w2.topR) e3
          have : a = p := by simpa using ep
          subst this
          refine ⟨ov, dg, ?_⟩
          cases o with
          | none =>
            cases ov with
            | none => exact z2 _ H2 F2 w2.pop r2
            | some _ => exact ro.elim
          | some d' =>
            cases ov with
            | none => exact ro.elim
            | some v' => exact z2 _ H2 F2 w2.pop ro
    · rw [if_neg hq] at z; exact z.elim
end

/-! ### defs -/
structure Body (X : Cx) (W : XK) (k : Nat) : Prop where
  gd : Good X
  room : Room k X.A
  pas : Passes (L2.CX X.prog X.w) X W
  own : PassesOwn (model X.prog X.w) X.A X.env X.xe
  tk : Takes X (fun c d _ H => W c d H)
theorem Good.blk {X : Cx} (g : Good X) {s : Shared} {H : Hp} {sc : Scope} {env : Env} {fp : List Addr} : Good (X.blk s H sc env fp) := ⟨g.calm, g.nd, g.hu⟩
section
variable {P : Program} {w : World} {K : PySem.W.Frag} {mg : Str → Option Value} {base : Heap}
theorem zip_args : ∀ {C : Cf} {H : Hp} {F : Addr → Prop} {U : Urn} {ds : List D} {vs : List V} {L : List Ent}, Ok C H F U L → RepAll C.u F H ds vs → Ok C H F U ((ds.map Sl.val).zip (vs.map some) ++ L)
  | _, _, _, _, _, _, _, o, .nil => o
  | _, _, _, _, _, _, _, o, .cons r rs => (zip_args o rs).val r
theorem zip_un : ∀ {C : Cf} {H : Hp} {F : Addr → Prop} {U : Urn} {L : List Ent} (n : Nat), Ok C H F U L → Ok C H F U ((List.replicate n Sl.un).zip (List.replicate n none) ++ L)
  | _, _, _, _, _, 0, o => o
  | _, _, _, _, _, n + 1, o => by
    rw [List.replicate_succ, List.replicate_succ]
    exact (zip_un n o).un
theorem zip_app {α β : Type} : ∀ {a b : List α} {c d : List β}, a.length = c.length → (a ++ b).zip (c ++ d) = a.zip c ++ b.zip d
  | [], _, [], _, _ => rfl
  | _ :: _, _, _ :: _, _, h => by simp [zip_app (show _ = _ by simpa using h)]
  | [], _, _ :: _, _, h => by cases h
  | _ :: _, _, [], _, h => by cases h
/-- THE RULE for a def -/
theorem fnok_mk {name : Str} {st : Stmt} {f : Addr} {fd : FuncData} {N ps : List Str} {k : Nat} {m : S} (F : Fun K name name st f fd) (S : FnScope N ps (defScope st)) (hg : mg name = some (.ref f)) (hb : Binds K fd ps []) (nd : N.Nodup) (hps : ps.length ≤ N.length)
    (body : ∀ (cdv : Value) (A : Around) (outer : List Env) (s : Shared) (H : Hp) (E : XK), Body (cxOf (L2.CX P w) P w K mg base N name (defScope st) f cdv A outer s H E) E k →
      CSs (cxOf (L2.CX P w) P w K mg base N name (defScope st) f cdv A outer s H E) E (defBody st) m) : FnOk P w K mg base (L2.CX P w) (k + 1) f fd ps (spF mg ps.length (mkFn N.length m)) := by
  refine F.okX S (fun vs H Q E h => ?_) (fun cdv A outer s H vs Q E hr h => ?_)
  · obtain ⟨C, ds, U, hl, _⟩ := h
    exact hl
  · have tk : Takes (cxOf (L2.CX P w) P w K mg base N name (defScope st) f cdv A outer s H E) (fun c d _ H => E c d H) := takes_of rfl rfl rfl rfl
    have B : Body (cxOf (L2.CX P w) P w K mg base N name (defScope st) f cdv A outer s H E) E k := ⟨⟨rfl, nd, by have := hr.un; show (A.deeper _).units + 65 < cLine; omega⟩, hr, passes_call tk fun _ _ _ _ h => h, passes_of rfl, tk⟩
    obtain ⟨t, p, q⟩ := body cdv A outer s H E B
    refine ⟨t, p, ?_⟩
    obtain ⟨C, ds, U, hl, rfl, ok, rep, fp⟩ := h
    have hd : ds.length = vs.length := rep.len
    have w0 : Wf C C.H0 C.F0 U (L2.start N vs) (ds.map Sl.val ++ List.replicate (N.length - ds.length) Sl.un) [] := by
      refine ⟨by simp [L2.start, hd], ?_⟩
      rw [List.append_nil]
      unfold L2.start
      rw [zip_app (by simp [hd]), hd]
      have o1 := zip_args (zip_un (N.length - vs.length) ok) rep
      rw [List.append_nil] at o1
      exact o1
    refine q C _ _ [] _ _ U _ w0 ?_
    unfold mkFn at fp
    have dropL : ∀ {H F U σ ρ}, Wf C H F U σ ρ [] → Ok C H F U [] := fun {H F U σ ρ} w => by
      have o := w.ok
      rw [List.append_nil] at o
      exact ⟨fun _ z => (nomatch z), List.nodup_nil, o.keep, o.fmono, o.fnew, o.fdom, o.fu, o.urn, o.udom⟩
    cases r : m (ds.map Sl.val ++ List.replicate (N.length - ds.length) Sl.un) U with
    | stk => rw [r] at fp; exact fp
    | exc x ρ' U' => rw [r] at fp; exact fun c dd σ' H' F' w' r' => fp c dd H' F' (dropL w') r'
    | ok fl ρ' U' =>
      rw [r] at fp
      cases fl with
      | nx => exact fun σ' H' F' w' => fp .non H' F' (dropL w') .non
      | ret d => exact fun v σ' H' F' w' r' => fp v H' F' (dropL w') r'
      | bk => exact fp.elim
      | ct => exact fp.elim
theorem fok_mk {name : Str} {st : Stmt} {f : Addr} {fd : FuncData} {N ps : List Str} {k : Nat} {m : S} (F : Fun K name name st f fd) (S : FnScope N ps (defScope st)) (hg : mg name = some (.ref f)) (hb : Binds K fd ps []) (nd : N.Nodup) (hps : ps.length ≤ N.length)
    (body : ∀ (cdv : Value) (A : Around) (outer : List Env) (s : Shared) (H : Hp) (E : XK), Body (cxOf (L2.CX P w) P w K mg base N name (defScope st) f cdv A outer s H E) E k →
      CSs (cxOf (L2.CX P w) P w K mg base N name (defScope st) f cdv A outer s H E) E (defBody st) m) : FOk P w K mg base (k + 1) name ps (mkFn N.length m) :=
  ⟨f, fd, hg, F.kp, hb, fnok_mk F S hg hb nd hps body⟩
end
end VL

set_option maxRecDepth 100000
set_option maxHeartbeats 4000000
/-! VL9: the urn, the script, defs that hand back a new list. -/
namespace VL
open PySem PySem.Spec PyProof.Rows L2

section
variable {X : Cx} {W : XK} {e ea eb : Expr} {a b : Opd} {pos p : Pos}
theorem OpNew.ok {f : Value → Value → Sem Value} {op : D → D → Option D} (h : OpNew X f op) : OpOk X f op := by
  obtain ⟨r, p, q⟩ := h
  exact ⟨r, p, fun C σ ρ E H F U a b x y d Q w ra rb e k => q C σ ρ E H F U a b x y d Q w ra rb e fun a' H' F' w' => k _ _ _ w'.freezeTop.pop w'.freezeTop.topR⟩
def eNeg (m : M D) : M D := fun ρ U => (m ρ U).bind fun d ρ U => match d with
  | .int i => .ok (.int (-i)) ρ U
  | _ => .stk
theorem c_neg {m : M D} (h : CE X W e m) : CE X W (.UnaryOp .USub e pos) (eNeg m) := by
  obtain ⟨t, p, q⟩ := h
  refine ⟨_, pe_un un_neg p, fun C σ ρ E H F U Q w z => ?_⟩
  refine runE (X := X) (t := t) q w Rc.e z fun d ρ1 U1 v H1 F1 w1 r1 z1 => ?_
  cases d with
  | int i => cases r1; exact ⟨i, rfl, z1 _ H1 F1 w1 (.int _)⟩
  | _ => exact z1.elim
def addA : D → D → Option D := orD addI (orD addT addL)
def mulA : D → D → Option D := orD mulI (orD mulT mulL)
theorem ok_addA : OpOk X (binaryOp .Add) addA := ok_add.or (ok_addT.or new_addL.ok)
theorem ok_mulA : OpOk X (binaryOp .Mult) mulA := ok_mul.or (ok_mulT.or new_mulL.ok)
/-! slices of what is a tuple, a list, the script -/
def slA : D → Option Int → Option Int → Option D
  | .tup xs, lo, hi => some (.tup (cut xs lo hi))
  | .lst xs, lo, hi => some (.lst (cut xs lo hi))
  | _, _, _ => none
theorem BRep.scr {C : Cf} {F : Addr → Prop} {H : Hp} {K : PySem.W.Frag} {ns : List Int} {v : V} (r : BRep C F H (.scr K ns) v) : ∃ a, v = .ref a ∧ SqL K H a (ns.map V.int) := by
  rcases r with r | ⟨a, rfl, o⟩
  · cases r with | scr h => exact ⟨_, rfl, h.imp (fun h => h.2) id⟩
  · exact o.elim
theorem c_slA {lo hi : Option Expr} {ml mh : M (Option Int)} {p2 : Pos} (ha : COp X W ea a) (hl : CPO X W lo ml) (hh : CPO X W hi mh) : CE X W (.Subscript ea (.Slice lo hi none p2) pos) (eSl slA a ml mh) := by
  obtain ⟨ta, tl, th, pa, pl, ph, run⟩ := runSl (f := slA) ha hl hh
  refine ⟨_, pe_slice (SlR.or sl_tupA sl_list) pa pl ph, fun C σ ρ E H F U Q w z => ?_⟩
  refine run C σ ρ E H F U _ _ w Rc.e z fun d l h ρ1 U1 x H1 F1 w1 r1 z1 => ?_
  obtain ⟨d', e, k⟩ := opt_e z1
  have newL : ∀ {ds : List D} {vs : List V}, RepAll C.u F1 H1 ds vs → KPost C σ ρ1 U1 E Q (.lst ds) → ∀ r, H1 r = none → Q (.ref r) (upd H1 r (.lst vs)) := fun {ds vs} rv k r hr => by
    have w2 := w1.newO (d := .lst ds) (o := .lst vs) hr fun g => ⟨_, upd_same, rv.map g⟩
    exact k _ _ _ w2.freezeTop.pop w2.freezeTop.topR
  cases d with
  | tup xs =>
    cases e
    obtain ⟨p, vs, rfl, hp, rv⟩ := r1.seqT
    refine .inl ⟨p, vs, rfl, .inl (.inl hp), fun hw => ?_, fun _ => Rep.tupNew w1 (cut_rep rv l h) k⟩
    have e1 : cut xs l h = xs := by
      unfold cut
      rw [← rv.len] at hw
      rw [hw.1, hw.2]
      simp
    rw [e1] at k
    exact k _ H1 F1 w1 (.tup hp rv)
  | lst xs =>
    cases e
    obtain ⟨p, vs, rfl, hp, rv⟩ := r1.seqL
    exact .inr ⟨p, vs, rfl, .inl (.inl hp), newL (cut_rep rv l h) k⟩
  | _ => cases e
/-- .. as a new list -/
def slN : D → Option Int → Option Int → Option D
  | .lst xs, lo, hi => some (.lst (cut xs lo hi))
  | _, _, _ => none
theorem c_slN {lo hi : Option Expr} {ml mh : M (Option Int)} {p2 : Pos} (ha : COp X W ea a) (hl : CPO X W lo ml) (hh : CPO X W hi mh) : CO X W (.Subscript ea (.Slice lo hi none p2) pos) (eSl slN a ml mh) := by
  obtain ⟨ta, tl, th, pa, pl, ph, run⟩ := runSl (f := slN) ha hl hh
  refine ⟨_, pe_slice sl_list pa pl ph, fun C σ ρ E H F U Q w z => ?_⟩
  refine run C σ ρ E H F U _ _ w Rc.o z fun d l h ρ1 U1 x H1 F1 w1 r1 z1 => ?_
  obtain ⟨d', e, k⟩ := opt_o z1
  cases d with
  | lst xs =>
    cases e
    obtain ⟨p, vs, rfl, hp, rv⟩ := r1.seqL
    exact ⟨p, vs, rfl, .inl (.inl hp), fun r hr => k _ _ F1 (w1.newO hr fun g => ⟨_, upd_same, (cut_rep rv l h).map g⟩)⟩
  | _ => cases e
/-! a slice of the script -/
open Classical in
noncomputable def slS (K : PySem.W.Frag) : D → Option Int → Option Int → Option D
  | .scr K' ns, lo, hi => if K' = K then some (.lst (cut (ns.map D.int) lo hi)) else none
  | _, _, _ => none
theorem c_slS {lo hi : Option Expr} {ml mh : M (Option Int)} {p2 : Pos} (ha : COp X W ea a) (hl : CPO X W lo ml) (hh : CPO X W hi mh) : CO X W (.Subscript ea (.Slice lo hi none p2) pos) (eSl (slS X.K) a ml mh) := by
  obtain ⟨ta, tl, th, pa, pl, ph, run⟩ := runSl (f := slS X.K) ha hl hh
  refine ⟨_, pe_slice sl_list pa pl ph, fun C σ ρ E H F U Q w z => ?_⟩
  refine run C σ ρ E H F U _ _ w Rc.o z fun d l h ρ1 U1 x H1 F1 w1 r1 z1 => ?_
  obtain ⟨d', e, k⟩ := opt_o z1
  cases d with
  | scr K' ns =>
    by_cases hK : K' = X.K
    · subst hK
      have e : some (D.lst (cut (ns.map D.int) l h)) = some d' := by rw [← e]; simp only [slS, if_true]
      cases e
      obtain ⟨p, rfl, hp⟩ := r1.scr
      exact ⟨p, _, rfl, hp, fun r hr => k _ _ F1 (w1.newO hr fun g => ⟨_, upd_same, (cut_rep (RepAll.ints ns) l h).map g⟩)⟩
    · simp only [slS, if_neg hK] at e
      cases e
  | _ => cases e
/-! len, an item -/
def lenA : D → Option D
  | d => lenS d
theorem len_okA : Call1 X (.builtin "len") lenA := by
  refine ⟨_, call_len_seq, fun C σ ρ E H F U a x d Q w ra e k => ?_⟩
  cases a with
  | lst xs =>
    cases e
    obtain ⟨p, vs, rfl, hp, rv⟩ := ra.seqL
    exact ⟨p, vs, rfl, .inl (.inl (.inl hp)), by rw [← rv.len]; exact k _ H F w (.int _)⟩
  | tup xs =>
    cases e
    obtain ⟨p, vs, rfl, hp, rv⟩ := ra.seqT
    exact ⟨p, vs, rfl, .inr (.inl (.inl hp)), by rw [← rv.len]; exact k _ H F w (.int _)⟩
  | _ => cases e
/-! x or y of new lists -/
def oOr (a b : M D) : M D := fun ρ U => (a ρ U).bind fun d ρ U => match d with
  | .lst [] => b ρ U
  | .lst xs => .ok (.lst xs) ρ U
  | _ => .stk
theorem c_orO {f : Expr} {rest : List Expr} {m n : M D} (h : CO X W e m) (h' : CO X W (.BoolOp .Or (f :: rest) pos) n) : CO X W (.BoolOp .Or (e :: f :: rest) pos) (oOr m n) := by
  obtain ⟨t, p, q⟩ := h
  obtain ⟨t', p', q'⟩ := h'
  refine ⟨_, pe_orT p p', fun C σ ρ E H F U Q w z => ?_⟩
  refine runO (t := t) q w Rc.o z fun d ρ1 U1 a H1 F1 w1 z1 => ?_
  obtain ⟨a', ea, _, _, o⟩ := w1.top
  have ea : a = a' := by simpa using ea
  subst ea
  cases d with
  | lst xs =>
    obtain ⟨vs, hv, rv⟩ := o
    cases xs with
    | nil =>
      have : vs = [] := (nil_iff rv).mpr rfl
      subst this
      exact ⟨false, .inl ⟨[], .inl (.inl hv), rfl⟩, q' C σ ρ1 E H1 F1 U1 Q w1.pop z1⟩
    | cons x xs =>
      refine ⟨true, .inl ⟨vs, .inl (.inl hv), ?_⟩, z1 a H1 F1 w1⟩
      cases rv; rfl
  | _ => exact z1.elim
theorem c_oneO {o : PySem.BoolOp} {m : M D} (h : CO X W e m) : CO X W (.BoolOp o [e] pos) m := let ⟨t, p, q⟩ := h; ⟨t, pe_one p, q⟩
/-! ### the urn -/
def Urn.get (U : Urn) : Nat → Int
  | 0 => U.a
  | 1 => U.b
  | _ => U.c
def Urn.put (U : Urn) (v : Int) : Nat → Urn
  | 0 => { U with a := v }
  | 1 => { U with b := v }
  | _ => { U with c := v }
def isUrn (ρ : Rho) (i : Nat) : Bool := match ρ[i]? with
  | some (.val .urn) => true
  | _ => false
theorem isUrn_some {ρ : Rho} {i : Nat} (h : isUrn ρ i = true) : ρ[i]? = some (.val .urn) := by
  unfold isUrn at h
  split at h
  · assumption
  · cases h
def eUix (i k : Nat) : M D := fun ρ U => if isUrn ρ i then .ok (.int (U.get k)) ρ U else .stk
theorem c_uix {i : Nat} {x : Str} {k : Nat} {j : Nat} {p2 p3 : Pos} (hk : k < 3) (hi : X.N[i]? = some x) (hv : Vis X.env.scope x) (hd : (x == ("__debug__" : Str)) = false := by decide) (hcd : (x == ("__classdict__" : Str)) = false := by decide)
    (hs : PlainIx (.Constant (.int (k : Nat)) j p3) := by intro _ _; rfl) : CE X W (.Subscript (.Name x p2) (.Constant (.int (k : Nat)) j p3) pos) (eUix i k) := by
  refine ⟨_, pe_ix ix_list (pe_var hi hv hd hcd) pe_int hs, fun C σ ρ E H F U Q w z => ?_⟩
  unfold eUix at z
  by_cases hu : isUrn ρ i = true
  · rw [if_pos hu] at z
    obtain ⟨v, h1, r⟩ := w.getV (isUrn_some hu)
    cases r with
    | urn hu2 =>
      have hl := w.ok.urn _ hu2
      refine ⟨_, h1, _, _, _, .int (U.get k), rfl, rfl, .inl (.inl hl), ?_, z _ H F w (.int _)⟩
      refine atI_nat ?_
      match k, hk with
      | 0, _ => rfl
      | 1, _ => rfl
      | 2, _ => rfl
  · rw [if_neg hu] at z; exact z.elim
def sUix (i k : Nat) (m : M D) : S := fun ρ U => (m ρ U).bind fun v ρ U => match v with
  | .int n => if isUrn ρ i then .ok .nx ρ (U.put n k) else .stk
  | _ => .stk
theorem cs_uix {i : Nat} {x : Str} {k j : Nat} {p2 p3 p4 : Pos} {m : M D} (g : Good X) (hk : k < 3) (hi : X.N[i]? = some x) (hv : Vis X.env.scope x) (he : CE X W e m)
    (hd : (x == ("__debug__" : Str)) = false := by decide) (hcd : (x == ("__classdict__" : Str)) = false := by decide)
    (ha : ∀ v, assign (.Subscript (.Name x p2) (.Constant (.int (k : Nat)) j p4) p3) X.env v = (do
      let ov ← holding [v] (eval (.Name x p2) X.env)
      let iv ← holding [v, ov] (eval (.Constant (.int (k : Nat)) j p4) X.env)
      standAt p3
      holding [v, ov, iv] (setItem ov iv v)
      release [v, ov, iv] []) := by intro _; rfl)
    (hs : swapsWithSole [.Subscript (.Name x p2) (.Constant (.int (k : Nat)) j p4) p3] e pos.line X.env = pure false := by rfl) (hw : swappedStores [.Subscript (.Name x p2) (.Constant (.int (k : Nat)) j p4) p3] e X.env = pure none := by rfl)
    (h1 : (assignEach [.Subscript (.Name x p2) (.Constant (.int (k : Nat)) j p4) p3] X.env).map (·.2) = [assign (.Subscript (.Name x p2) (.Constant (.int (k : Nat)) j p4) p3) X.env] := by rfl) :
    CS X W (.Assign [.Subscript (.Name x p2) (.Constant (.int (k : Nat)) j p4) p3] e pos) (sUix i k m) := by
  obtain ⟨t, p, q⟩ := he
  refine ⟨_, ps_asg p (pg_sub (pe_var hi hv hd hcd) pe_int set_list ha) hs hw h1, fun C σ ρ E H F U D w z => ?_⟩
  refine runE (t := t) q w Rc.s z fun d ρ1 U1 v H1 F1 w1 r1 z1 => ?_
  cases d with
  | int n =>
    cases r1
    simp only at z1
    by_cases hu : isUrn ρ1 i = true
    · rw [if_pos hu] at z1
      obtain ⟨v, h1, r⟩ := w1.getV (isUrn_some hu)
      cases r with
      | urn hu2 =>
        have hl := w1.ok.urn _ hu2
        refine ⟨_, h1, _, _, _, k, rfl, rfl, hl, ?_, ?_⟩
        · unfold ixN
          rw [if_pos (by omega), if_pos (by simp; omega)]
          rfl
        · have w2 : Wf C _ F1 (U1.put n k) σ ρ1 E := ⟨w1.len, w1.ok.urnw hu2⟩
          have := z1 σ _ F1 w2
          match k, hk with
          | 0, _ => exact this
          | 1, _ => exact this
          | 2, _ => exact this
    · rw [if_neg hu] at z1; exact z1.elim
  | _ => exact z1.elim
/-! ### i op= e, ints -/
def sAugI (f : Int → Int → Int) (i : Nat) (m : M D) : S := fun ρ U => match look ρ i with
  | some (.int x) => (m ρ U).bind fun d => match d with
    | .int y => stR i (.val (.int (f x y)))
    | _ => fun _ _ => .stk
  | _ => .stk
theorem cs_aug {o : Operator} {f : Int → Int → Int} {i : Nat} {x : Str} {p2 : Pos} {m : M D} (g : Good X) (ho : PIp X o (ipI f)) (hi : X.N[i]? = some x) (hx : Loc X.env.scope x) (hf : X.fn x = true ∨ X.env.scope.names.lookup x = some .local) (h : CE X W e m) : CS X W (.AugAssign (.Name x p2) o e pos) (sAugI f i m) := by
  obtain ⟨t, p, q⟩ := h
  refine ⟨_, ps_aug g.nd hi hx p ho hf, fun C σ ρ E H F U D w z => ?_⟩
  unfold sAugI at z
  cases el : look ρ i with
  | none => rw [el] at z; exact z.elim
  | some d =>
    rw [el] at z
    obtain ⟨v, h1, h2⟩ := w.look el
    cases d with
    | int xx =>
      cases h2.int
      refine ⟨_, h1, ?_⟩
      refine runE (t := t) q w Rc.s z fun d ρ1 U1 v H1 F1 w1 r1 z1 => ?_
      cases d with
      | int y =>
        cases r1
        exact ⟨_, _, rfl, rfl, st_ok z1 (w1.push (.int _))⟩
      | _ => exact z1.elim
    | _ => exact z.elim
/-! ### defs that hand back a new list -/
def FPostO (C : Cf) (mg : Str → Option Value) (Q : VK) (W : XK) : FR → Prop
  | .ok d U' => ∀ a H' F', Ok C H' F' U' [(.own d, some (.ref a))] → Q (.ref a) H'
  | .exc x U' => ∀ c dd H' F', Ok C H' F' U' [] → XR mg x c dd H' → W c dd H'
  | .stk => False
def spO (mg : Str → Option Value) (n : Nat) (f : Fn) : Sp := fun vs H Q W => ∃ (C : Cf) (ds : List D) (U : Urn), vs.length = n ∧ C.H0 = H ∧ Ok C H C.F0 U [] ∧ RepAll C.u C.F0 H ds vs ∧ FPostO C mg Q W (f ds U)
structure FOkO (P : Program) (w : World) (K : PySem.W.Frag) (mg : Str → Option Value) (base : Heap) (k : Nat) (name : Str) (ps : List Str) (f : Fn) : Prop where
  ex : ∃ (a : Addr) (fd : FuncData), mg name = some (.ref a) ∧ PySem.W.keepIn K (.ref a) = true ∧ Binds K fd ps [] ∧ FnOk P w K mg base (L2.CX P w) k a fd ps (spO mg ps.length f)
theorem FOkO.mono {P : Program} {w : World} {K : PySem.W.Frag} {mg : Str → Option Value} {base : Heap} {j k : Nat} {name : Str} {ps : List Str} {f : Fn} (h : FOkO P w K mg base j name ps f) (l : j ≤ k) : FOkO P w K mg base k name ps f := by
  obtain ⟨a, fd, h1, h2, h3, h4⟩ := h.ex
  exact ⟨a, fd, h1, h2, h3, h4.mono l⟩
theorem Ok.sub {C : Cf} {H : Hp} {F : Addr → Prop} {U : Urn} {L : List Ent} (o : Ok C H F U L) : Ok C H F U [] :=
  ⟨fun _ z => (nomatch z), List.nodup_nil, o.keep, o.fmono, o.fnew, o.fdom, o.fu, o.urn, o.udom⟩
theorem FOkO.fok {P : Program} {w : World} {K : PySem.W.Frag} {mg : Str → Option Value} {base : Heap} {k : Nat} {name : Str} {ps : List Str} {f : Fn} (h : FOkO P w K mg base k name ps f) : FOk P w K mg base k name ps f := by
  obtain ⟨a, fd, h1, h2, h3, h4⟩ := h.ex
  refine ⟨a, fd, h1, h2, h3, h4.imp fun vs H Q W hs => ?_⟩
  obtain ⟨C, ds, U, a1, a2, a3, a4, a5⟩ := hs
  refine ⟨C, ds, U, a1, a2, a3, a4, ?_⟩
  cases r : f ds U with
  | stk => rw [r] at a5; exact a5
  | exc x U' => rw [r] at a5; exact a5
  | ok d U' =>
    rw [r] at a5
    intro aa H' F' o
    have fz := o.freeze
    obtain ⟨v, e, rr⟩ := fz.head
    have e : V.ref aa = v := by simpa using e
    subst e
    exact a5 _ H' _ fz.sub rr
theorem c_callO {x : Str} {es : List Expr} {ms : List (M D)} {k : Nat} {ps : List Str} {f : Fn} (F : FOkO X.prog X.w X.K X.mg X.base k x ps f) (hr : Room k X.A) (hx : Passes (L2.CX X.prog X.w) X W) (hg : Gl X x)
    (ha : CA X W (e :: es) (evs ms)) (hl : ms.length = ps.length := by rfl) (hdb : (x == ("__debug__" : Str)) = false := by decide) (he : starEach (e :: es) X.env = (false, eval e X.env) :: starEach es X.env := by rfl) (hpl : (backTo pos (starEach es X.env)).any (·.1) = false := by rfl) :
    CO X W (.Call (.Name x p) (e :: es) [] pos) (eCall f ms) := by
  obtain ⟨t, pa, q⟩ := ha
  obtain ⟨a, fd, h1, h2, h3, h4⟩ := F.ex
  refine ⟨_, pe_call h4 hr hg h1 h2 h3 .nil hx pa hdb he hpl, fun C σ ρ E H F U Q w z => ?_⟩
  refine runA q w Rc.o z fun ds ρ1 U1 vs H1 F1 e1 w1 r1 z1 => ?_
  refine ⟨⟨H1, F1, C.u⟩, ds, U1, ?_, rfl, w1.ok.enter, by rw [List.append_nil]; exact r1, ?_⟩
  · rw [List.append_nil, ← r1.len, evs_len e1]; exact hl
  · cases r : f ds U1 with
    | stk => rw [r] at z1; exact z1
    | exc x U2 => rw [r] at z1; exact fun c dd H' F' o' r' => z1 c dd H' F' ⟨w1.len, w1.ok.after o'⟩ r'
    | ok d U2 =>
      rw [r] at z1
      intro aa H' F' o'
      have wl : Wf C H' F' U2 σ ρ1 E := ⟨w1.len, w1.ok.after o'.sub⟩
      obtain ⟨a', ea, nf, h0, ow⟩ := o'.head
      have ea : aa = a' := by simpa using ea
      subst ea
      have h0 : H1 aa = none := h0
      refine z1 aa H' F' (wl.pushO nf (w1.ok.none0 h0).1 ?_ fun d' hm => ?_)
      · cases d with
        | lst ds => exact ow
        | dicK ds => exact ow
        | dicT ds => exact ow
        | _ => exact ow.elim
      · obtain ⟨a2, e2, _, _, o2⟩ := w1.ok.all _ hm
        have e2 : aa = a2 := by simpa using e2
        subst e2
        obtain ⟨ob, e3, _⟩ := o2.mut
        rw [h0] at e3; cases e3
/-- return of a new list: for a def's last statement -/
def CSO (X : Cx) (W : XK) (sts : List Stmt) (m : S) : Prop :=
  ∃ t, PSs X sts t ∧ ∀ C σ ρ H F U (Dn : Ends), Wf C H F U σ ρ [] → (match m ρ U with
    | .ok (.ret d) ρ' U' => ∀ a σ' H' F', Wf C H' F' U' σ' ρ' [(.own d, some (.ref a))] → Dn.rt (.ref a) H'
    | .ok _ _ _ => False
    | .exc x ρ' U' => ∀ c dd σ' H' F', Wf C H' F' U' σ' ρ' [] → XR X.mg x c dd H' → W c dd H'
    | .stk => False) → t Dn σ H
theorem cso_ret {m : M D} (h : CO X W e m) : CSO X W [.Return (some e) pos] (sRet m) := by
  obtain ⟨t, p, q⟩ := h
  refine ⟨_, pss_one (ps_ret p), fun C σ ρ H F U Dn w z => ?_⟩
  refine q C σ ρ [] H F U _ w ?_
  unfold sRet at z
  cases r : m ρ U with
  | stk => rw [r] at z; exact z
  | exc x ρ' U' => rw [r] at z; exact fun c dd H' F' w' r' => z c dd σ H' F' w' r'
  | ok d ρ' U' => rw [r] at z; exact fun a H' F' w' => z a σ H' F' w'
theorem sSet_nr (i : Nat) (m : M D) : ∀ ρ U d ρ' U', sSet i m ρ U ≠ .ok (.ret d) ρ' U' := fun ρ U d ρ' U' => by
  unfold sSet
  cases m ρ U with
  | stk => exact nofun
  | exc _ _ _ => exact nofun
  | ok e ρ1 U1 =>
    show stR i (.val e) ρ1 U1 ≠ _
    unfold stR
    by_cases h : i < ρ1.length
    · rw [if_pos h]; exact nofun
    · rw [if_neg h]; exact nofun
theorem sSetO_nr (i : Nat) (m : M D) : ∀ ρ U d ρ' U', sSetO i m ρ U ≠ .ok (.ret d) ρ' U' := fun ρ U d ρ' U' => by
  unfold sSetO
  cases m ρ U with
  | stk => exact nofun
  | exc _ _ _ => exact nofun
  | ok e ρ1 U1 =>
    show stR i (.own e) ρ1 U1 ≠ _
    unfold stR
    by_cases h : i < ρ1.length
    · rw [if_pos h]; exact nofun
    · rw [if_neg h]; exact nofun
theorem cso_cons {st : Stmt} {sts : List Stmt} {a b : S} (h : CS X W st a) (h' : CSO X W sts b) (hn : ∀ ρ U d ρ' U', a ρ U ≠ .ok (.ret d) ρ' U' := by
    first | exact sSet_nr _ _ | exact sSetO_nr _ _) : CSO X W (st :: sts) (sSeq a b) := by
  obtain ⟨t, p, q⟩ := h
  obtain ⟨t', p', q'⟩ := h'
  refine ⟨_, pss_cons p p', fun C σ ρ H F U Dn w z => ?_⟩
  refine q C σ ρ [] H F U _ w ?_
  unfold sSeq at z
  cases r : a ρ U with
  | stk => rw [r] at z; exact z
  | exc x ρ' U' => rw [r] at z; exact z
  | ok f ρ' U' =>
    rw [r] at z
    cases f with
    | nx => exact fun σ' H' F' w' => q' C σ' ρ' H' F' U' Dn w' z
    | bk => exact z.elim
    | ct => exact z.elim
    | ret d => exact (hn _ _ _ _ _ r).elim
end
section
variable {P : Program} {w : World} {K : PySem.W.Frag} {mg : Str → Option Value} {base : Heap}
theorem fokO_mk {name : Str} {st : Stmt} {f : Addr} {fd : FuncData} {N ps : List Str} {k : Nat} {m : S} (F : Fun K name name st f fd) (S : FnScope N ps (defScope st)) (hg : mg name = some (.ref f)) (hb : Binds K fd ps []) (nd : N.Nodup) (hps : ps.length ≤ N.length)
    (body : ∀ (cdv : Value) (A : Around) (outer : List Env) (s : Shared) (H : Hp) (E : XK), Body (cxOf (L2.CX P w) P w K mg base N name (defScope st) f cdv A outer s H E) E k →
      CSO (cxOf (L2.CX P w) P w K mg base N name (defScope st) f cdv A outer s H E) E (defBody st) m) (hret : ∀ ρ U, (match m ρ U with | .ok (.ret _) _ _ => True | .ok _ _ _ => False | _ => True)) : FOkO P w K mg base (k + 1) name ps (mkFn N.length m) := by
  refine ⟨f, fd, hg, F.kp, hb, F.okX S (fun vs H Q E h => ?_) (fun cdv A outer s H vs Q E hr h => ?_)⟩
  · obtain ⟨C, ds, U, hl, _⟩ := h
    exact hl
  · have tk : Takes (cxOf (L2.CX P w) P w K mg base N name (defScope st) f cdv A outer s H E) (fun c d _ H => E c d H) := takes_of rfl rfl rfl rfl
    have B : Body (cxOf (L2.CX P w) P w K mg base N name (defScope st) f cdv A outer s H E) E k := ⟨⟨rfl, nd, by have := hr.un; show (A.deeper _).units + 65 < cLine; omega⟩, hr, passes_call tk fun _ _ _ _ h => h, passes_of rfl, tk⟩
    obtain ⟨t, p, q⟩ := body cdv A outer s H E B
    refine ⟨t, p, ?_⟩
    obtain ⟨C, ds, U, hl, rfl, ok, rep, fp⟩ := h
    have hd : ds.length = vs.length := rep.len
    have w0 : Wf C C.H0 C.F0 U (L2.start N vs) (ds.map Sl.val ++ List.replicate (N.length - ds.length) Sl.un) [] := by
      refine ⟨by simp [L2.start, hd], ?_⟩
      rw [List.append_nil]
      unfold L2.start
      rw [zip_app (by simp [hd]), hd]
      have o1 := zip_args (zip_un (N.length - vs.length) ok) rep
      rw [List.append_nil] at o1
      exact o1
    refine q C _ _ _ _ U _ w0 ?_
    unfold mkFn at fp
    have hr2 := hret (ds.map Sl.val ++ List.replicate (N.length - ds.length) Sl.un) U
    cases r : m (ds.map Sl.val ++ List.replicate (N.length - ds.length) Sl.un) U with
    | stk => rw [r] at fp; exact fp
    | exc x ρ' U' => rw [r] at fp; exact fun c dd σ' H' F' w' r' => fp c dd H' F' w'.ok.sub r'
    | ok fl ρ' U' =>
      rw [r] at fp hr2
      cases fl with
      | nx => exact hr2.elim
      | bk => exact hr2.elim
      | ct => exact hr2.elim
      | ret d =>
        intro a σ' H' F' w'
        refine fp a H' F' ?_
        have := w'.ok.perm List.perm_append_comm
        exact ⟨fun x hx => this.all x (List.mem_append_left _ hx), by
          have hn := this.nod
          rw [List.filterMap_append] at hn
          exact (List.nodup_append.mp hn).1, this.keep, this.fmono, this.fnew, this.fdom, this.fu, this.urn, this.udom⟩
end
/-! ### a call that is handed a new list as its urn -/
section
variable {X : Cx} {W : XK} {e : Expr} {pos p : Pos}
def flU : FR → R D
  | .ok (.bl b) _ => .ok (.bl b) [] ⟨0, 0, 0⟩
  | _ => .stk
def eCallU (f : Fn) (m : M D) : M D := fun ρ U => (m ρ U).bind fun d ρ U => match d with
  | .lst [.int x, .int y, .int z] => match f [.urn] ⟨x, y, z⟩ with
    | .ok (.bl b) _ => .ok (.bl b) ρ U
    | _ => .stk
  | _ => .stk
theorem c_callU {x : Str} {m : M D} {k : Nat} {ps : List Str} {f : Fn} (F : FOk X.prog X.w X.K X.mg X.base k x ps f) (hr : Room k X.A) (hx : Passes (L2.CX X.prog X.w) X W) (hg : Gl X x) (ha : CO X W e m) (hl : ps.length = 1 := by rfl)
    (hdb : (x == ("__debug__" : Str)) = false := by decide) (he : starEach [e] X.env = (false, eval e X.env) :: starEach [] X.env := by rfl) (hpl : (backTo pos (starEach [] X.env)).any (·.1) = false := by rfl) : CE X W (.Call (.Name x p) [e] [] pos) (eCallU f m) := by
  obtain ⟨t, pa, q⟩ := ha
  obtain ⟨a, fd, h1, h2, h3, h4⟩ := F.ex
  refine ⟨_, pe_call h4 hr hg h1 h2 h3 .nil hx (pa_cons pa pa_nil he) hdb he hpl, fun C σ ρ E H F U Q w z => ?_⟩
  refine runO (t := t) q w Rc.e z fun d ρ1 U1 aa H1 F1 w1 z1 => ?_
  match d, w1, z1 with
  | .lst [.int xx, .int yy, .int zz], w1, z1 =>
    simp only at z1
    obtain ⟨a', ea, nf, h0, vs, hv, rv⟩ := w1.top
    have ea : aa = a' := by simpa using ea
    subst ea
    cases rv with | cons r1 rv => cases rv with | cons r2 rv => cases rv with | cons r3 rv => cases rv with | nil =>
    cases r1; cases r2; cases r3
    have ok := w1.ok
    have en : Ok ⟨H1, F1, some aa⟩ H1 F1 ⟨xx, yy, zz⟩ [] := ⟨fun _ z => (nomatch z), List.nodup_nil, fun _ _ e _ => e, fun _ f => f, fun _ f => .inl f, ok.fdom, fun b e f => by cases e; exact nf f, fun b e => by cases e; exact hv, fun b e => by cases e; exact ⟨_, hv⟩⟩
    refine ⟨⟨H1, F1, some aa⟩, [.urn], ⟨xx, yy, zz⟩, by simp [hl], rfl, en, .cons (.urn rfl) .nil, ?_⟩
    cases r : f [.urn] ⟨xx, yy, zz⟩ with
    | stk => rw [r] at z1; exact z1.elim
    | exc _ _ => rw [r] at z1; exact z1.elim
    | ok dd U2 =>
      rw [r] at z1
      cases dd with
      | bl b =>
        intro v H' F' h' rr
        cases rr
        have w2 := w1.pop
        refine z1 _ H' F' ⟨w2.len, ?_⟩ (.bl b)
        have okp := w2.ok
        have ku : ∀ c o, H1 c = some o → c ≠ aa → H' c = some o := fun c o e n => h'.keep c o e fun z => n (Option.some.inj z).symm
        have g : Grow F1 H1 F' H' := by
          refine ⟨h'.fmono, fun c f => ?_, fun c o i e => ?_⟩
          · obtain ⟨o, e⟩ := okp.fdom c f
            rw [e]; exact ku c o e fun z => nf (z ▸ f)
          · refine ku c o e fun z => ?_
            subst z; rw [hv] at e; cases e; exact i
        have uaa : C.u ≠ some aa := fun z => by obtain ⟨o2, z2⟩ := okp.udom aa z; rw [h0] at z2; cases z2
        refine ⟨fun y hy => ?_, okp.nod, fun c o e n => ?_, fun c f => g.mono c (okp.fmono c f), fun c f => ?_, h'.fdom, fun c e f => ?_, fun c e => ?_, okp.udom⟩
        · have qq := okp.all y hy
          obtain ⟨s, yv⟩ := y
          cases s with
          | un => trivial
          | val d => obtain ⟨v, e, r⟩ := qq; exact ⟨v, e, r.grow g⟩
          | own d =>
            obtain ⟨c, e, f, hh0, o⟩ := qq
            obtain ⟨ob, e2, _⟩ := o.mut
            have nca : c ≠ aa := fun z => by
              have e : yv = some (.ref c) := e
              have hm : (Sl.own d, some (V.ref aa)) ∈ ρ1.zip σ ++ E := by rw [← z, ← e]; exact hy
              have hnd := (ok.perm List.perm_middle).nod
              rw [List.filterMap_cons] at hnd
              exact (List.nodup_cons.mp (show (aa :: _).Nodup from hnd)).1 (mem_own.mpr ⟨d, hm⟩)
            refine ⟨c, e, fun z => ?_, hh0, o.grow g ((ku c ob e2 nca).trans e2.symm)⟩
            rcases h'.fnew c z with z | z
            · exact f z
            · have z : H1 c = none := z
              rw [e2] at z; cases z
        · exact ku c o (okp.keep c o e n) fun z => by subst z; rw [h0] at e; cases e
        · rcases h'.fnew c f with z | z
          · exact okp.fnew c z
          · exact .inr (okp.none0 z).1
        · rcases h'.fnew c f with z | z
          · exact okp.fu c e z
          · have z : H1 c = none := z
            rw [okp.urn c e] at z; cases z
        · exact ku c _ (okp.urn c e) fun z => uaa (z ▸ e)
      | _ => exact z1.elim
end
end VL

set_option maxRecDepth 100000
set_option maxHeartbeats 4000000
/-! VLA: short words for derivations. -/
namespace VL
open PySem PySem.Spec PyProof.Rows L2

section
variable {X : Cx} {W : XK}
theorem v (i : Nat) {x : Str} {pos : Pos} (hN : X.N[i]? = some x := by rfl) (hv : Vis X.env.scope x := by first | exact Or.inl rfl | exact Or.inr (Or.inl rfl) | exact Or.inr (Or.inr rfl)) (hd : (x == ("__debug__" : Str)) = false := by decide) (hcd : (x == ("__classdict__" : Str)) = false := by decide) :
    CE X W (.Name x pos) (eVar i) := c_var hN hv hd hcd
theorem s (i : Nat) {x : Str} {pos : Pos} (hN : X.N[i]? = some x := by rfl) (hv : Vis X.env.scope x := by first | exact Or.inl rfl | exact Or.inr (Or.inl rfl) | exact Or.inr (Or.inr rfl)) (hd : (x == ("__debug__" : Str)) = false := by decide) (hcd : (x == ("__classdict__" : Str)) = false := by decide) :
    COp X W (.Name x pos) (.sl i) := cop_sl hN hv hd hcd
theorem nm (i : Nat) {x : Str} {pos : Pos} (g : Good X) (hi : X.N[i]? = some x := by rfl) (hx : Loc X.env.scope x := by first | exact Or.inl rfl | exact Or.inr rfl) (hf : X.fn x = true ∨ X.env.scope.names.lookup x = some .local := by first | exact Or.inl rfl | exact Or.inr rfl) : CGn X (.Name x pos) (.nm i) := cg_nm g hi hx hf
theorem nmc (i : Nat) {x : Str} {pos : Pos} {es : List Expr} {is : List Nat} (g : Good X) (h : CGns X es is) (hi : X.N[i]? = some x := by rfl) (hx : Loc X.env.scope x := by first | exact Or.inl rfl | exact Or.inr rfl) (hf : X.fn x = true ∨ X.env.scope.names.lookup x = some .local := by first | exact Or.inl rfl | exact Or.inr rfl)
    (hs : (assignEach (.Name x pos :: es) X.env).map (·.2) = assign (.Name x pos) X.env :: (assignEach es X.env).map (·.2) := by rfl) : CGns X (.Name x pos :: es) (i :: is) := cgs_cons g hi hx hf h hs
variable {e : Expr} {m : M D} {pos : Pos}
theorem set (i : Nat) {x : Str} {p2 : Pos} (g : Good X) (h : CE X W e m) (hi : X.N[i]? = some x := by rfl) (hx : Loc X.env.scope x := by first | exact Or.inl rfl | exact Or.inr rfl) (hf : X.fn x = true ∨ X.env.scope.names.lookup x = some .local := by first | exact Or.inl rfl | exact Or.inr rfl)
    (hs : swapsWith e (some (.Name x p2)) pos.line X.env = pure false := by rfl) : CS X W (.Assign [.Name x p2] e pos) (sSet i m) := cs_set g hi hx hf h hs
theorem setO (i : Nat) {x : Str} {p2 : Pos} (g : Good X) (h : CO X W e m) (hi : X.N[i]? = some x := by rfl) (hx : Loc X.env.scope x := by first | exact Or.inl rfl | exact Or.inr rfl) (hf : X.fn x = true ∨ X.env.scope.names.lookup x = some .local := by first | exact Or.inl rfl | exact Or.inr rfl)
    (hs : swapsWith e (some (.Name x p2)) pos.line X.env = pure false := by rfl) : CS X W (.Assign [.Name x p2] e pos) (sSetO i m) := cs_setO g hi hx hf h hs
theorem pnm (i : Nat) {x : Str} {p2 : Pos} {es : List Expr} {ts : List TgA} (g : Good X) (h : CPuts X W es ts) (hi : X.N[i]? = some x := by rfl) (hx : Loc X.env.scope x := by first | exact Or.inl rfl | exact Or.inr rfl) (hf : X.fn x = true ∨ X.env.scope.names.lookup x = some .local := by first | exact Or.inl rfl | exact Or.inr rfl)
    (hs : (assignEach (.Name x p2 :: es) X.env).map (·.2) = assign (.Name x p2) X.env :: (assignEach es X.env).map (·.2) := by rfl) : CPuts X W (.Name x p2 :: es) (.nm i :: ts) := cp_nm g hi hx hf h hs
theorem app (i : Nat) {x : Str} {p2 apos cpos : Pos} (g : Good X) (h : CE X W e m) (hi : X.N[i]? = some x := by rfl) (hv : Vis X.env.scope x := by first | exact Or.inl rfl | exact Or.inr (Or.inl rfl) | exact Or.inr (Or.inr rfl))
    (hd : (x == ("__debug__" : Str)) = false := by decide) (hcd : (x == ("__classdict__" : Str)) = false := by decide)
    (hbase : attributeBase (.Name x p2) "append" X.env (eval (.Name x p2) X.env) = eval (.Name x p2) X.env := by rfl)
    (hfew : ((backTo cpos (starEach [e] X.env)).all (fun x => !x.1) && (backToKw cpos (keywordEach [] X.env)).all (fun x => x.1.isSome) && decide ([e].length + ([] : List Keyword).length + (if ([] : List Keyword).isEmpty then 0 else 1) < 30)) = true := by rfl)
    (hline : (apos.endLine == cpos.line) = true := by rfl) (hs : starEach [e] X.env = (false, eval e X.env) :: starEach [] X.env := by rfl) (hplain : (backTo cpos (starEach [] X.env)).any (·.1) = false := by rfl)
    (hsw : swapsWith (.Call (.Attribute (.Name x p2) "append" apos) [e] [] cpos) none pos.line X.env = pure false := by rfl) :
    CS X W (.Expr (.Call (.Attribute (.Name x p2) "append" apos) [e] [] cpos) pos) (sMut appD i m) := cs_app g hi hv h hd hcd hbase hfew hline hs hplain hsw
theorem ext (i : Nat) {x : Str} {p2 apos cpos : Pos} (g : Good X) (h : CE X W e m) (hi : X.N[i]? = some x := by rfl) (hv : Vis X.env.scope x := by first | exact Or.inl rfl | exact Or.inr (Or.inl rfl) | exact Or.inr (Or.inr rfl))
    (hd : (x == ("__debug__" : Str)) = false := by decide) (hcd : (x == ("__classdict__" : Str)) = false := by decide)
    (hbase : attributeBase (.Name x p2) "extend" X.env (eval (.Name x p2) X.env) = eval (.Name x p2) X.env := by rfl)
    (hfew : ((backTo cpos (starEach [e] X.env)).all (fun x => !x.1) && (backToKw cpos (keywordEach [] X.env)).all (fun x => x.1.isSome) && decide ([e].length + ([] : List Keyword).length + (if ([] : List Keyword).isEmpty then 0 else 1) < 30)) = true := by rfl)
    (hline : (apos.endLine == cpos.line) = true := by rfl) (hs : starEach [e] X.env = (false, eval e X.env) :: starEach [] X.env := by rfl) (hplain : (backTo cpos (starEach [] X.env)).any (·.1) = false := by rfl)
    (hsw : swapsWith (.Call (.Attribute (.Name x p2) "extend" apos) [e] [] cpos) none pos.line X.env = pure false := by rfl) :
    CS X W (.Expr (.Call (.Attribute (.Name x p2) "extend" apos) [e] [] cpos) pos) (sMut extD i m) := cs_ext g hi hv h hd hcd hbase hfew hline hs hplain hsw
theorem popAt (i : Nat) {x : Str} {p2 apos : Pos} (g : Good X) (h : CE X W e m) (hi : X.N[i]? = some x := by rfl) (hv : Vis X.env.scope x := by first | exact Or.inl rfl | exact Or.inr (Or.inl rfl) | exact Or.inr (Or.inr rfl))
    (hd : (x == ("__debug__" : Str)) = false := by decide) (hcd : (x == ("__classdict__" : Str)) = false := by decide)
    (hbase : attributeBase (.Name x p2) "pop" X.env (eval (.Name x p2) X.env) = eval (.Name x p2) X.env := by rfl)
    (hfew : ((backTo pos (starEach [e] X.env)).all (fun x => !x.1) && (backToKw pos (keywordEach [] X.env)).all (fun x => x.1.isSome) && decide ([e].length + ([] : List Keyword).length + (if ([] : List Keyword).isEmpty then 0 else 1) < 30)) = true := by rfl)
    (hline : (apos.endLine == pos.line) = true := by rfl) (hs : starEach [e] X.env = (false, eval e X.env) :: starEach [] X.env := by rfl) (hplain : (backTo pos (starEach [] X.env)).any (·.1) = false := by rfl) :
    CE X W (.Call (.Attribute (.Name x p2) "pop" apos) [e] [] pos) (ePopAt i m) := c_popAt g hi hv h hd hcd hbase hfew hline hs hplain
theorem popE (i : Nat) {x : Str} {p2 apos : Pos} (g : Good X) (hi : X.N[i]? = some x := by rfl) (hv : Vis X.env.scope x := by first | exact Or.inl rfl | exact Or.inr (Or.inl rfl) | exact Or.inr (Or.inr rfl))
    (hd : (x == ("__debug__" : Str)) = false := by decide) (hcd : (x == ("__classdict__" : Str)) = false := by decide)
    (hbase : attributeBase (.Name x p2) "pop" X.env (eval (.Name x p2) X.env) = eval (.Name x p2) X.env := by rfl) (hline : (apos.endLine == pos.line) = true := by rfl) :
    CE X W (.Call (.Attribute (.Name x p2) "pop" apos) [] [] pos) (ePop i) := c_pop g hi hv hd hcd hbase hline
theorem uix (i k : Nat) {x : Str} {j : Nat} {p2 p3 : Pos} (hk : k < 3 := by decide) (hi : X.N[i]? = some x := by rfl) (hv : Vis X.env.scope x := by first | exact Or.inl rfl | exact Or.inr (Or.inl rfl) | exact Or.inr (Or.inr rfl)) (hd : (x == ("__debug__" : Str)) = false := by decide) (hcd : (x == ("__classdict__" : Str)) = false := by decide)
    (hs : PlainIx (.Constant (.int (k : Nat)) j p3) := by intro _ _; rfl) : CE X W (.Subscript (.Name x p2) (.Constant (.int (k : Nat)) j p3) pos) (eUix i k) := c_uix hk hi hv hd hcd hs
end
/-! what the top holds -/
/-- the built-in names that no text stores -/
structure Bi (mg : Str → Option Value) : Prop where
  range : mg "range" = none
  enumerate : mg "enumerate" = none
  zip : mg "zip" = none
  len : mg "len" = none
  tuple : mg "tuple" = none
  list : mg "list" = none
  all : mg "all" = none
  any : mg "any" = none
  abs : mg "abs" = none
  int : mg "int" = none
  bool : mg "bool" = none
  str : mg "str" = none
  max : mg "max" = none
  min : mg "min" = none
  isinstance : mg "isinstance" = none
  set : mg "set" = none
  sorted : mg "sorted" = none
  dict : mg "dict" = none
  ValueError : mg "ValueError" = none
/-- a def of the text, where it stands -/
def HF (K : PySem.W.Frag) (mg : Str → Option Value) (name : Str) (ps : List Str) (st : Stmt) : Prop := ∃ (f : Addr) (fd : FuncData), Fun K name name st f fd ∧ mg name = some (.ref f) ∧ Binds K fd ps []
theorem fok_stk {P : Program} {w : World} {K : PySem.W.Frag} {mg : Str → Option Value} {base : Heap} {name : Str} {st : Stmt} {ps : List Str} (h : HF K mg name ps st) : FOk P w K mg base 0 name ps (fun _ _ => .stk) := by
  obtain ⟨f, fd, F, hg, hb⟩ := h
  refine ⟨f, fd, hg, F.kp, hb, ⟨fun vs H Q E ⟨C, ds, U, hl, _⟩ => hl, fun A outer s H args us vs Q E hr e0 hbt hv hs => ?_⟩⟩
  obtain ⟨C, ds, U, hl, _, _, _, hf⟩ := hs
  exact hf.elim
theorem fok {P : Program} {w : World} {K : PySem.W.Frag} {mg : Str → Option Value} {base : Heap} {name : Str} {st : Stmt} {N ps : List Str} {k : Nat} {m : S} (h : HF K mg name ps st) (S : FnScope N ps (defScope st))
    (bd : ∀ (f : Addr) (cdv : Value) (A : Around) (outer : List Env) (s : Shared) (H : Hp) (E : XK), Body (cxOf (L2.CX P w) P w K mg base N name (defScope st) f cdv A outer s H E) E k →
      CSs (cxOf (L2.CX P w) P w K mg base N name (defScope st) f cdv A outer s H E) E (defBody st) m) (hps : ps.length ≤ N.length := by decide) : FOk P w K mg base (k + 1) name ps (mkFn N.length m) := by
  obtain ⟨f, fd, F, hg, hb⟩ := h
  exact fok_mk F S hg hb S.nd hps (bd f)
theorem fokO {P : Program} {w : World} {K : PySem.W.Frag} {mg : Str → Option Value} {base : Heap} {name : Str} {st : Stmt} {N ps : List Str} {k : Nat} {m : S} (h : HF K mg name ps st) (S : FnScope N ps (defScope st))
    (bd : ∀ (f : Addr) (cdv : Value) (A : Around) (outer : List Env) (s : Shared) (H : Hp) (E : XK), Body (cxOf (L2.CX P w) P w K mg base N name (defScope st) f cdv A outer s H E) E k →
      CSO (cxOf (L2.CX P w) P w K mg base N name (defScope st) f cdv A outer s H E) E (defBody st) m) (hret : ∀ ρ U, (match m ρ U with | .ok (.ret _) _ _ => True | .ok _ _ _ => False | _ => True)) (hps : ps.length ≤ N.length := by decide) : FOkO P w K mg base (k + 1) name ps (mkFn N.length m) := by
  obtain ⟨f, fd, F, hg, hb⟩ := h
  exact fokO_mk F S hg hb S.nd hps (bd f) hret
theorem sRet_ret (m : M D) : ∀ ρ U, (match sRet m ρ U with | .ok (.ret _) _ _ => True | .ok _ _ _ => False | _ => True) := fun ρ U => by
  unfold sRet
  cases m ρ U <;> trivial
theorem sSeq_ret {a b : S} (h : ∀ ρ U, (match b ρ U with | .ok (.ret _) _ _ => True | .ok _ _ _ => False | _ => True)) (ha : ∀ ρ U, (match a ρ U with | .ok .nx _ _ => True | .ok _ _ _ => False | _ => True)) : ∀ ρ U, (match sSeq a b ρ U with | .ok (.ret _) _ _ => True | .ok _ _ _ => False | _ => True) := fun ρ U => by
  have h1 := ha ρ U
  unfold sSeq
  cases r : a ρ U with
  | stk => trivial
  | exc _ _ _ => trivial
  | ok f ρ' U' =>
    rw [r] at h1
    cases f with
    | nx => exact h ρ' U'
    | _ => exact h1.elim
theorem sSet_nx (i : Nat) (m : M D) : ∀ ρ U, (match sSet i m ρ U with | .ok .nx _ _ => True | .ok _ _ _ => False | _ => True) := fun ρ U => by
  unfold sSet
  cases m ρ U with
  | stk => trivial
  | exc _ _ _ => trivial
  | ok d ρ' U' =>
    show (match stR i (.val d) ρ' U' with | .ok .nx _ _ => True | .ok _ _ _ => False | _ => True)
    unfold stR
    by_cases h : i < ρ'.length
    · rw [if_pos h]; trivial
    · rw [if_neg h]; trivial
end VL

set_option maxRecDepth 100000
set_option maxHeartbeats 4000000
/-! VLB: the law's own end. -/
namespace VL
open PySem PySem.Spec PyProof.Rows L2
def spV (f : Fn) : Sp := fun vs H Q W => ∃ (C : Cf) (ds : List D) (U U' : Urn), vs.length = 1 ∧ C.H0 = H ∧ Ok C H C.F0 U [] ∧ RepAll C.u C.F0 H ds vs ∧ f ds U = .ok (.bl true) U' ∧ ∀ H', Q (.bl true) H'
theorem fokL {P : Program} {w : World} {K : PySem.W.Frag} {mg : Str → Option Value} {base : Heap} {name : Str} {st : Stmt} {N ps : List Str} {k : Nat} {m : S} {f : Addr} {fd : FuncData} (F : Fun K name name st f fd) (hg : mg name = some (.ref f)) (hb : Binds K fd ps []) (S : FnScope N ps (defScope st))
    (bd : ∀ (f : Addr) (cdv : Value) (A : Around) (outer : List Env) (s : Shared) (H : Hp) (E : XK), Body (cxOf (L2.CX P w) P w K mg base N name (defScope st) f cdv A outer s H E) E k →
      CSs (cxOf (L2.CX P w) P w K mg base N name (defScope st) f cdv A outer s H E) E (defBody st) m) (hps : ps.length ≤ N.length := by decide) (h1 : ps.length = 1 := by rfl) : FnOk P w K mg base (L2.CX P w) (k + 1) f fd ps (spV (mkFn N.length m)) := by
  refine (fnok_mk F S hg hb S.nd hps (bd f)).imp fun vs H Q E ⟨C, ds, U, U', hl, h0, ok, r, e, q⟩ => ⟨C, ds, U, hl.trans h1.symm, h0, ok, r, ?_⟩
  rw [e]
  intro v H' F' _ rv
  cases rv
  exact q H'
theorem spV_of {K : PySem.W.Frag} {f : Fn} {H : Hp} {a : Addr} {ns : List Int} (hS : SqL K H a (ns.map V.int)) (h : ∀ U, ∃ U', f [.scr K ns] U = .ok (.bl true) U') : spV f [.ref a] H (fun v _ => v = .bl true) (fun _ _ _ => False) := by
  obtain ⟨U', e⟩ := h ⟨0, 0, 0⟩
  rcases hS with hS | hS
  · refine ⟨⟨H, fun b => b = a, none⟩, [.scr K ns], ⟨0, 0, 0⟩, U', rfl, rfl, ?_, .cons (.scr (.inl ⟨rfl, hS⟩)) .nil, e, fun _ => rfl⟩
    refine ⟨fun _ z => (nomatch z), List.nodup_nil, fun _ _ e _ => e, fun _ f => f, fun _ f => .inl f, fun b e => ?_, fun b e => (nomatch e), fun b e => (nomatch e), fun b e => (nomatch e)⟩
    cases e
    rcases hS with hS | ⟨_, hS⟩
    · exact ⟨_, hS⟩
    · exact ⟨_, hS⟩
  · exact ⟨⟨H, fun _ => False, none⟩, [.scr K ns], ⟨0, 0, 0⟩, U', rfl, rfl, ⟨fun _ z => (nomatch z), List.nodup_nil, fun _ _ e _ => e, fun _ f => f, fun _ f => .inl f, fun b e => e.elim, fun b e => (nomatch e), fun b e => (nomatch e), fun b e => (nomatch e)⟩, .cons (.scr (.inr hS)) .nil, e, fun _ => rfl⟩
theorem hf_mk {K : PySem.W.Frag} {h : Heap} {mg : Str → Option Value} (X : K.In h) (G : h.Ns mainGlobals mg) {name : Str} {ps : List Str} {st : Stmt} {f1 : Addr} {od1 an1 : Option Addr} {sl1 : Array (Option Value)} {oc1 kV1 dc1 pm1 cd1 ct1 : Value}
    (a1 : PySem.W.nsIn K mainGlobals name = some (some (.ref f1))) (l1 : K.lookup f1 = some ⟨oc1, od1, .func (PySem.W.fnOf name name (defArgs st) (defBody st) (defScope st) .none kV1 dc1 pm1 an1 cd1 ct1), sl1⟩) (c1 : PySem.W.codeIn K cd1 name = true) (k1 : PySem.W.keepIn K (.ref f1) = true)
    (hb : ∀ {f fd}, Fun K name name st f fd → Binds K fd ps []) : HF K mg name ps st := by
  have F1 := fun_mk (st := st) l1 c1 k1
  exact ⟨_, _, F1, PySem.W.mg_of X G a1, hb F1⟩
end VL

set_option maxRecDepth 100000
set_option maxHeartbeats 4000000
/-! VLC: the machine's words run by simp: each word at a state is a bind with a named continuation. -/
namespace VL
open PySem PySem.Spec PyProof.Rows L2
@[simp] theorem R.bind_ok {α β : Type} (a : α) (ρ : Rho) (U : Urn) (k : α → M β) : (R.ok a ρ U).bind k = k a ρ U := id rfl
@[simp] theorem R.bind_exc {α β : Type} (x : Exn) (ρ : Rho) (U : Urn) (k : α → M β) : (R.exc x ρ U).bind k = .exc x ρ U := id rfl
@[simp] theorem R.bind_stk {α β : Type} (k : α → M β) : (R.stk : R α).bind k = .stk := id rfl
@[simp] theorem R.bind_ite {α β : Type} {c : Prop} [Decidable c] (x y : R α) (k : α → M β) : (if c then x else y).bind k = if c then x.bind k else y.bind k := by split <;> rfl
@[simp] theorem R.bx_ok {α β : Type} (a : α) (ρ : Rho) (U : Urn) (k : α → M β) : (R.ok a ρ U).bx k = k a ρ U := id rfl
@[simp] theorem R.bx_ite {α β : Type} {c : Prop} [Decidable c] (x y : R α) (k : α → M β) : (if c then x else y).bx k = if c then x.bx k else y.bx k := by split <;> rfl
@[simp] theorem fin_ite {c : Prop} [Decidable c] (x y : R Fl) : fin (if c then x else y) = if c then fin x else fin y := by split <;> rfl
/-- options -/
def kO {α : Type} : Option α → Rho → Urn → R α
  | some a, ρ, U => .ok a ρ U
  | none, _, _ => .stk
@[simp] theorem kO_some {α : Type} (a : α) (ρ : Rho) (U : Urn) : kO (some a) ρ U = .ok a ρ U := id rfl
@[simp] theorem kO_none {α : Type} (ρ : Rho) (U : Urn) : kO (none : Option α) ρ U = .stk := id rfl
theorem opt_ap {α : Type} (o : Option α) (ρ : Rho) (U : Urn) : opt o ρ U = kO o ρ U := by cases o <;> rfl
@[simp] theorem kO_ite {α : Type} {c : Prop} [Decidable c] (x y : Option α) (ρ : Rho) (U : Urn) : kO (if c then x else y) ρ U = if c then kO x ρ U else kO y ρ U := by split <;> rfl
/-- slots -/
def lkS : Option Sl → Option D
  | some (.val d) => some d
  | some (.own d) => some d
  | _ => none
@[simp] theorem lkS_val (d : D) : lkS (some (.val d)) = some d := id rfl
@[simp] theorem lkS_own (d : D) : lkS (some (.own d)) = some d := id rfl
@[simp] theorem look_ap (ρ : Rho) (i : Nat) : look ρ i = lkS ρ[i]? := by
  unfold look lkS
  cases ρ[i]? with
  | none => rfl
  | some s => cases s <;> rfl
def kVar : Option Sl → Nat → Rho → Urn → R D
  | some (.val d), _, ρ, U => .ok d ρ U
  | some (.own d), i, ρ, U => .ok d (ρ.set i (.val d)) U
  | _, _, _, _ => .stk
@[simp] theorem kVar_val (d : D) (i : Nat) (ρ : Rho) (U : Urn) : kVar (some (.val d)) i ρ U = .ok d ρ U := id rfl
@[simp] theorem kVar_own (d : D) (i : Nat) (ρ : Rho) (U : Urn) : kVar (some (.own d)) i ρ U = .ok d (ρ.set i (.val d)) U := id rfl
@[simp] theorem eVar_ap (i : Nat) (ρ : Rho) (U : Urn) : eVar i ρ U = kVar ρ[i]? i ρ U := by
  unfold eVar kVar
  cases ρ[i]? with
  | none => rfl
  | some s => cases s <;> rfl
@[simp] theorem eC_ap (d : D) (ρ : Rho) (U : Urn) : eC d ρ U = .ok d ρ U := id rfl
/-- lists of values -/
def KEvs2 (d : D) : List D → M (List D) := fun ds ρ U => .ok (d :: ds) ρ U
@[simp] theorem KEvs2_ap (d : D) (ds : List D) (ρ : Rho) (U : Urn) : KEvs2 d ds ρ U = .ok (d :: ds) ρ U := id rfl
def KEvs (ms : List (M D)) : D → M (List D) := fun d ρ U => (evs ms ρ U).bind (KEvs2 d)
@[simp] theorem KEvs_ap (ms : List (M D)) (d : D) (ρ : Rho) (U : Urn) : KEvs ms d ρ U = (evs ms ρ U).bind (KEvs2 d) := id rfl
@[simp] theorem evs_nil (ρ : Rho) (U : Urn) : evs [] ρ U = .ok [] ρ U := id rfl
@[simp] theorem evs_cons (m : M D) (ms : List (M D)) (ρ : Rho) (U : Urn) : evs (m :: ms) ρ U = (m ρ U).bind (KEvs ms) := id rfl
def KTup : List D → M D := fun ds ρ U => .ok (.tup ds) ρ U
@[simp] theorem KTup_ap (ds : List D) (ρ : Rho) (U : Urn) : KTup ds ρ U = .ok (.tup ds) ρ U := id rfl
@[simp] theorem eTup_ap (ms : List (M D)) (ρ : Rho) (U : Urn) : eTup ms ρ U = (evs ms ρ U).bind KTup := id rfl
def KLst : List D → M D := fun ds ρ U => .ok (.lst ds) ρ U
@[simp] theorem KLst_ap (ds : List D) (ρ : Rho) (U : Urn) : KLst ds ρ U = .ok (.lst ds) ρ U := id rfl
@[simp] theorem oLst_ap (ms : List (M D)) (ρ : Rho) (U : Urn) : oLst ms ρ U = (evs ms ρ U).bind KLst := id rfl
/-- calls -/
def fr : FR → Rho → R D
  | .ok d U, ρ => .ok d ρ U
  | .exc x U, ρ => .exc x ρ U
  | .stk, _ => .stk
@[simp] theorem fr_ok (d : D) (U : Urn) (ρ : Rho) : fr (.ok d U) ρ = .ok d ρ U := id rfl
@[simp] theorem fr_exc (x : Exn) (U : Urn) (ρ : Rho) : fr (.exc x U) ρ = .exc x ρ U := id rfl
@[simp] theorem fr_ite {c : Prop} [Decidable c] (x y : FR) (ρ : Rho) : fr (if c then x else y) ρ = if c then fr x ρ else fr y ρ := by split <;> rfl
def KCall (f : Fn) : List D → M D := fun ds ρ U => fr (f ds U) ρ
@[simp] theorem KCall_ap (f : Fn) (ds : List D) (ρ : Rho) (U : Urn) : KCall f ds ρ U = fr (f ds U) ρ := id rfl
@[simp] theorem eCall_ap (f : Fn) (ms : List (M D)) (ρ : Rho) (U : Urn) : eCall f ms ρ U = (evs ms ρ U).bind (KCall f) := by
  unfold eCall
  congr 1
  funext ds ρ U
  show _ = fr (f ds U) ρ
  cases f ds U <;> rfl
theorem mkFn_ap (n : Nat) (b : S) (ds : List D) (U : Urn) : mkFn n b ds U = fin (b (ds.map Sl.val ++ List.replicate (n - ds.length) Sl.un) U) := id rfl
@[simp] theorem fin_ret (d : D) (ρ : Rho) (U : Urn) : fin (.ok (.ret d) ρ U) = .ok d U := id rfl
@[simp] theorem fin_nx (ρ : Rho) (U : Urn) : fin (.ok .nx ρ U) = .ok .non U := id rfl
@[simp] theorem fin_exc (x : Exn) (ρ : Rho) (U : Urn) : fin (.exc x ρ U) = .exc x U := id rfl
/-- operators -/
def K1 (op : D → Option D) : D → M D := fun x ρ U => kO (op x) ρ U
@[simp] theorem K1_ap (op : D → Option D) (x : D) (ρ : Rho) (U : Urn) : K1 op x ρ U = kO (op x) ρ U := id rfl
def kL1 (op : D → Option D) : Option D → Rho → Urn → R D
  | some d, ρ, U => kO (op d) ρ U
  | none, _, _ => .stk
@[simp] theorem kL1_some (op : D → Option D) (d : D) (ρ : Rho) (U : Urn) : kL1 op (some d) ρ U = kO (op d) ρ U := id rfl
@[simp] theorem eB1_ev (op : D → Option D) (m : M D) (ρ : Rho) (U : Urn) : eB1 op (.ev m) ρ U = (m ρ U).bind (K1 op) := by
  unfold eB1 ev1
  show (m ρ U).bind _ = _
  congr 1
  funext d ρ U
  exact opt_ap _ _ _
@[simp] theorem eB1_sl (op : D → Option D) (i : Nat) (ρ : Rho) (U : Urn) : eB1 op (.sl i) ρ U = kL1 op (look ρ i) ρ U := by
  unfold eB1 ev1 lk
  show (match look ρ i with | some d => _ | none => _) = _
  cases look ρ i with
  | none => rfl
  | some d => exact opt_ap _ _ _
def K2b (op : D → D → Option D) (x : D) : D → M D := fun y ρ U => kO (op x y) ρ U
@[simp] theorem K2b_ap (op : D → D → Option D) (x y : D) (ρ : Rho) (U : Urn) : K2b op x y ρ U = kO (op x y) ρ U := id rfl
def K2e (op : D → D → Option D) (n : M D) : D → M D := fun x ρ U => (n ρ U).bind (K2b op x)
@[simp] theorem K2e_ap (op : D → D → Option D) (n : M D) (x : D) (ρ : Rho) (U : Urn) : K2e op n x ρ U = (n ρ U).bind (K2b op x) := id rfl
def K2s (op : D → D → Option D) (j : Nat) : D → M D := fun x ρ U => kL1 (op x) (look ρ j) ρ U
@[simp] theorem K2s_ap (op : D → D → Option D) (j : Nat) (x : D) (ρ : Rho) (U : Urn) : K2s op j x ρ U = kL1 (op x) (look ρ j) ρ U := id rfl
def K2l (op : D → D → Option D) (i : Nat) : D → M D := fun y ρ U => kL1 (fun x => op x y) (look ρ i) ρ U
@[simp] theorem K2l_ap (op : D → D → Option D) (i : Nat) (y : D) (ρ : Rho) (U : Urn) : K2l op i y ρ U = kL1 (fun x => op x y) (look ρ i) ρ U := id rfl
def kS2 (op : D → D → Option D) (i : Nat) (n : M D) : Option D → Rho → Urn → R D
  | some _, ρ, U => (n ρ U).bind (K2l op i)
  | none, _, _ => .stk
@[simp] theorem kS2_some (op : D → D → Option D) (i : Nat) (n : M D) (d : D) (ρ : Rho) (U : Urn) : kS2 op i n (some d) ρ U = (n ρ U).bind (K2l op i) := id rfl
def kSS (op : D → D → Option D) : Option D → Option D → Rho → Urn → R D
  | some a, some b, ρ, U => kO (op a b) ρ U
  | _, _, _, _ => .stk
@[simp] theorem kSS_some (op : D → D → Option D) (a b : D) (ρ : Rho) (U : Urn) : kSS op (some a) (some b) ρ U = kO (op a b) ρ U := id rfl
@[simp] theorem eBin_ee (op : D → D → Option D) (m n : M D) (ρ : Rho) (U : Urn) : eBin op (.ev m) (.ev n) ρ U = (m ρ U).bind (K2e op n) := by
  unfold eBin ev2
  show (m ρ U).bind _ = _
  congr 1
  funext d ρ U
  show (n ρ U).bind _ = _
  show _ = (n ρ U).bind (K2b op d)
  congr 1
  funext e ρ U
  exact opt_ap _ _ _
@[simp] theorem eBin_es (op : D → D → Option D) (m : M D) (j : Nat) (ρ : Rho) (U : Urn) : eBin op (.ev m) (.sl j) ρ U = (m ρ U).bind (K2s op j) := by
  unfold eBin ev2
  show (m ρ U).bind _ = _
  congr 1
  funext d ρ U
  show (match look ρ j with | some d => _ | none => _) = kL1 (op d) (look ρ j) ρ U
  cases look ρ j with
  | none => rfl
  | some d => exact opt_ap _ _ _
theorem lk_l (op : D → D → Option D) (i : Nat) (y : D) (ρ : Rho) (U : Urn) : lk i (fun x => opt (op x y)) ρ U = K2l op i y ρ U := by
  unfold lk
  show (match look ρ i with | some d => _ | none => _) = kL1 (fun x => op x y) (look ρ i) ρ U
  cases look ρ i with
  | none => rfl
  | some d => exact opt_ap _ _ _
@[simp] theorem eBin_se (op : D → D → Option D) (i : Nat) (n : M D) (ρ : Rho) (U : Urn) : eBin op (.sl i) (.ev n) ρ U = kS2 op i n (look ρ i) ρ U := by
  unfold eBin ev2
  show (match look ρ i with | some d => _ | none => _) = _
  cases look ρ i with
  | none => rfl
  | some d =>
    show (n ρ U).bind _ = (n ρ U).bind (K2l op i)
    congr 1
    funext y ρ U
    exact lk_l op i y ρ U
@[simp] theorem eBin_ss (op : D → D → Option D) (i j : Nat) (ρ : Rho) (U : Urn) : eBin op (.sl i) (.sl j) ρ U = kSS op (look ρ i) (look ρ j) ρ U := by
  unfold eBin ev2
  show (match look ρ i with | some d => _ | none => _) = _
  cases e : look ρ i with
  | none => rfl
  | some d =>
    show (match look ρ j with | some d => _ | none => _) = _
    cases look ρ j with
    | none => rfl
    | some d' =>
      show (match look ρ i with | some d => _ | none => _) = _
      rw [e]
      exact opt_ap _ _ _
@[simp] theorem eIx_ap (a b : Opd) (ρ : Rho) (U : Urn) : eIx a b ρ U = eBin ixD a b ρ U := id rfl
@[simp] theorem eB2_ap (op : D → D → Option D) (a b : Opd) (ρ : Rho) (U : Urn) : eB2 op a b ρ U = eBin op a b ρ U := id rfl
/-- tests and truth -/
def KT : D → M Bool := fun d ρ U => match d with
  | .bl b => .ok b ρ U
  | _ => .stk
@[simp] theorem KT_bl (b : Bool) (ρ : Rho) (U : Urn) : KT (.bl b) ρ U = .ok b ρ U := id rfl
@[simp] theorem tOf_ap (m : M D) (ρ : Rho) (U : Urn) : tOf m ρ U = (m ρ U).bind KT := id rfl
@[simp] theorem tYes_ap (ρ : Rho) (U : Urn) : tYesM ρ U = .ok true ρ U := id rfl
def KAnd (b : M Bool) : Bool → M Bool := fun x ρ U => if x = true then b ρ U else .ok false ρ U
@[simp] theorem KAnd_ap (b : M Bool) (x : Bool) (ρ : Rho) (U : Urn) : KAnd b x ρ U = if x = true then b ρ U else .ok false ρ U := id rfl
@[simp] theorem tAnd_ap (a b : M Bool) (ρ : Rho) (U : Urn) : tAndM a b ρ U = (a ρ U).bind (KAnd b) := id rfl
def KOr (b : M Bool) : Bool → M Bool := fun x ρ U => if x = true then .ok true ρ U else b ρ U
@[simp] theorem KOr_ap (b : M Bool) (x : Bool) (ρ : Rho) (U : Urn) : KOr b x ρ U = if x = true then .ok true ρ U else b ρ U := id rfl
@[simp] theorem tOr_ap (a b : M Bool) (ρ : Rho) (U : Urn) : tOrM a b ρ U = (a ρ U).bind (KOr b) := id rfl
def KNot : Bool → M Bool := fun x ρ U => .ok (!x) ρ U
@[simp] theorem KNot_ap (x : Bool) (ρ : Rho) (U : Urn) : KNot x ρ U = .ok (!x) ρ U := id rfl
@[simp] theorem tNot_ap (a : M Bool) (ρ : Rho) (U : Urn) : tNotM a ρ U = (a ρ U).bind KNot := id rfl
def KAndD (b : M D) : D → M D := fun x ρ U => match x with
  | .bl x => if x = true then b ρ U else .ok (.bl false) ρ U
  | _ => .stk
@[simp] theorem KAndD_ap (b : M D) (x : Bool) (ρ : Rho) (U : Urn) : KAndD b (.bl x) ρ U = if x = true then b ρ U else .ok (.bl false) ρ U := id rfl
@[simp] theorem eAnd_ap (a b : M D) (ρ : Rho) (U : Urn) : eAnd a b ρ U = (a ρ U).bind (KAndD b) := by
  unfold eAnd
  congr 1
  funext d ρ U
  cases d with
  | bl x => cases x <;> rfl
  | _ => rfl
def KOrD (b : M D) : D → M D := fun x ρ U => match x with
  | .bl x => if x = true then .ok (.bl true) ρ U else b ρ U
  | _ => .stk
@[simp] theorem KOrD_ap (b : M D) (x : Bool) (ρ : Rho) (U : Urn) : KOrD b (.bl x) ρ U = if x = true then .ok (.bl true) ρ U else b ρ U := id rfl
@[simp] theorem eOr_ap (a b : M D) (ρ : Rho) (U : Urn) : eOr a b ρ U = (a ρ U).bind (KOrD b) := by
  unfold eOr
  congr 1
  funext d ρ U
  cases d with
  | bl x => cases x <;> rfl
  | _ => rfl
def KNotD : D → M D := fun x ρ U => match x with
  | .bl b => .ok (.bl (!b)) ρ U
  | _ => .stk
@[simp] theorem KNotD_ap (b : Bool) (ρ : Rho) (U : Urn) : KNotD (.bl b) ρ U = .ok (.bl (!b)) ρ U := id rfl
@[simp] theorem eNot_ap (a : M D) (ρ : Rho) (U : Urn) : eNot a ρ U = (a ρ U).bind KNotD := id rfl
def KNeg : D → M D := fun x ρ U => match x with
  | .int i => .ok (.int (-i)) ρ U
  | _ => .stk
@[simp] theorem KNeg_ap (i : Int) (ρ : Rho) (U : Urn) : KNeg (.int i) ρ U = .ok (.int (-i)) ρ U := id rfl
@[simp] theorem eNeg_ap (a : M D) (ρ : Rho) (U : Urn) : eNeg a ρ U = (a ρ U).bind KNeg := id rfl
def KIf {α : Type} (a b : M α) : Bool → M α := fun x ρ U => if x = true then a ρ U else b ρ U
@[simp] theorem KIf_ap {α : Type} (a b : M α) (x : Bool) (ρ : Rho) (U : Urn) : KIf a b x ρ U = if x = true then a ρ U else b ρ U := id rfl
@[simp] theorem eIf_ap {α : Type} (c : M Bool) (a b : M α) (ρ : Rho) (U : Urn) : eIf c a b ρ U = (c ρ U).bind (KIf a b) := id rfl
@[simp] theorem sIf_ap (c : M Bool) (a b : S) (ρ : Rho) (U : Urn) : sIf c a b ρ U = (c ρ U).bind (KIf a b) := id rfl
def KCh4 (op' : D → D → Option D) (y : D) : D → M D := fun z ρ U => kO (op' y z) ρ U
@[simp] theorem KCh4_ap (op' : D → D → Option D) (y z : D) (ρ : Rho) (U : Urn) : KCh4 op' y z ρ U = kO (op' y z) ρ U := id rfl
def KCh3 (op' : D → D → Option D) (c : M D) (y : D) : D → M D := fun k ρ U => match k with
  | .bl x => if x = true then (c ρ U).bind (KCh4 op' y) else .ok (.bl false) ρ U
  | _ => .stk
@[simp] theorem KCh3_ap (op' : D → D → Option D) (c : M D) (y : D) (x : Bool) (ρ : Rho) (U : Urn) : KCh3 op' c y (.bl x) ρ U = if x = true then (c ρ U).bind (KCh4 op' y) else .ok (.bl false) ρ U := id rfl
def KCh2 (op op' : D → D → Option D) (c : M D) (x : D) : D → M D := fun y ρ U => (kO (op x y) ρ U).bind (KCh3 op' c y)
@[simp] theorem KCh2_ap (op op' : D → D → Option D) (c : M D) (x y : D) (ρ : Rho) (U : Urn) : KCh2 op op' c x y ρ U = (kO (op x y) ρ U).bind (KCh3 op' c y) := id rfl
def KCh1 (op op' : D → D → Option D) (b c : M D) : D → M D := fun x ρ U => (b ρ U).bind (KCh2 op op' c x)
@[simp] theorem KCh1_ap (op op' : D → D → Option D) (b c : M D) (x : D) (ρ : Rho) (U : Urn) : KCh1 op op' b c x ρ U = (b ρ U).bind (KCh2 op op' c x) := id rfl
@[simp] theorem eChain_ap (op op' : D → D → Option D) (a b c : M D) (ρ : Rho) (U : Urn) : eChain op op' a b c ρ U = (a ρ U).bind (KCh1 op op' b c) := by
  unfold eChain
  congr 1
  funext x ρ U
  show (b ρ U).bind _ = (b ρ U).bind (KCh2 op op' c x)
  congr 1
  funext y ρ U
  show (opt (op x y) ρ U).bind _ = (kO (op x y) ρ U).bind (KCh3 op' c y)
  rw [opt_ap]
  congr 1
  funext k ρ U
  cases k with
  | bl v => cases v with
    | true =>
      show (c ρ U).bind _ = (c ρ U).bind (KCh4 op' y)
      congr 1
      funext z ρ U
      exact opt_ap _ _ _
    | false => rfl
  | _ => rfl
/-- slices -/
def KSl2 (f : D → Option Int → Option Int → Option D) (d : D) (l : Option Int) : Option Int → M D := fun h ρ U => kO (f d l h) ρ U
@[simp] theorem KSl2_ap (f : D → Option Int → Option Int → Option D) (d : D) (l h : Option Int) (ρ : Rho) (U : Urn) : KSl2 f d l h ρ U = kO (f d l h) ρ U := id rfl
def KSl1 (f : D → Option Int → Option Int → Option D) (hi : M (Option Int)) (d : D) : Option Int → M D := fun l ρ U => (hi ρ U).bind (KSl2 f d l)
@[simp] theorem KSl1_ap (f : D → Option Int → Option Int → Option D) (hi : M (Option Int)) (d : D) (l : Option Int) (ρ : Rho) (U : Urn) : KSl1 f hi d l ρ U = (hi ρ U).bind (KSl2 f d l) := id rfl
def KSl0 (f : D → Option Int → Option Int → Option D) (lo hi : M (Option Int)) : D → M D := fun d ρ U => (lo ρ U).bind (KSl1 f hi d)
@[simp] theorem KSl0_ap (f : D → Option Int → Option Int → Option D) (lo hi : M (Option Int)) (d : D) (ρ : Rho) (U : Urn) : KSl0 f lo hi d ρ U = (lo ρ U).bind (KSl1 f hi d) := id rfl
@[simp] theorem eSl_ev (f : D → Option Int → Option Int → Option D) (m : M D) (lo hi : M (Option Int)) (ρ : Rho) (U : Urn) : eSl f (.ev m) lo hi ρ U = (m ρ U).bind (KSl0 f lo hi) := by
  unfold eSl
  show (m ρ U).bind _ = _
  congr 1
  funext d ρ U
  show (lo ρ U).bind _ = (lo ρ U).bind (KSl1 f hi d)
  congr 1
  funext l ρ U
  show (hi ρ U).bind _ = (hi ρ U).bind (KSl2 f d l)
  congr 1
  funext h ρ U
  exact opt_ap _ _ _
def KSs2 (f : D → Option Int → Option Int → Option D) (i : Nat) (l : Option Int) : Option Int → M D := fun h ρ U => kL1 (fun d => f d l h) (look ρ i) ρ U
@[simp] theorem KSs2_ap (f : D → Option Int → Option Int → Option D) (i : Nat) (l h : Option Int) (ρ : Rho) (U : Urn) : KSs2 f i l h ρ U = kL1 (fun d => f d l h) (look ρ i) ρ U := id rfl
def KSs1 (f : D → Option Int → Option Int → Option D) (hi : M (Option Int)) (i : Nat) : Option Int → M D := fun l ρ U => (hi ρ U).bind (KSs2 f i l)
@[simp] theorem KSs1_ap (f : D → Option Int → Option Int → Option D) (hi : M (Option Int)) (i : Nat) (l : Option Int) (ρ : Rho) (U : Urn) : KSs1 f hi i l ρ U = (hi ρ U).bind (KSs2 f i l) := id rfl
def kSl (f : D → Option Int → Option Int → Option D) (i : Nat) (lo hi : M (Option Int)) : Option D → Rho → Urn → R D
  | some _, ρ, U => (lo ρ U).bind (KSs1 f hi i)
  | none, _, _ => .stk
@[simp] theorem kSl_some (f : D → Option Int → Option Int → Option D) (i : Nat) (lo hi : M (Option Int)) (d : D) (ρ : Rho) (U : Urn) : kSl f i lo hi (some d) ρ U = (lo ρ U).bind (KSs1 f hi i) := id rfl
@[simp] theorem eSl_sl (f : D → Option Int → Option Int → Option D) (i : Nat) (lo hi : M (Option Int)) (ρ : Rho) (U : Urn) : eSl f (.sl i) lo hi ρ U = kSl f i lo hi (look ρ i) ρ U := by
  unfold eSl lk
  show (match look ρ i with | some d => _ | none => _) = _
  cases look ρ i with
  | none => rfl
  | some d =>
    show (lo ρ U).bind _ = (lo ρ U).bind (KSs1 f hi i)
    congr 1
    funext l ρ U
    show (hi ρ U).bind _ = (hi ρ U).bind (KSs2 f i l)
    congr 1
    funext h ρ U
    show (match look ρ i with | some d => _ | none => _) = kL1 (fun d => f d l h) (look ρ i) ρ U
    cases look ρ i with
    | none => rfl
    | some d => exact opt_ap _ _ _
@[simp] theorem pNone_ap (ρ : Rho) (U : Urn) : pNone ρ U = .ok none ρ U := id rfl
def KPI : D → M (Option Int) := fun d ρ U => match d with
  | .int i => .ok (some i) ρ U
  | _ => .stk
@[simp] theorem KPI_ap (i : Int) (ρ : Rho) (U : Urn) : KPI (.int i) ρ U = .ok (some i) ρ U := id rfl
@[simp] theorem pInt_ap (m : M D) (ρ : Rho) (U : Urn) : pInt m ρ U = (m ρ U).bind KPI := id rfl
/-- statements -/
@[simp] theorem sNx_ap (ρ : Rho) (U : Urn) : sNx ρ U = .ok .nx ρ U := id rfl
@[simp] theorem sBk_ap (ρ : Rho) (U : Urn) : sBk ρ U = .ok .bk ρ U := id rfl
def KSeq (b : S) : Fl → S := fun f ρ U => match f with
  | .nx => b ρ U
  | f => .ok f ρ U
@[simp] theorem KSeq_nx (b : S) (ρ : Rho) (U : Urn) : KSeq b .nx ρ U = b ρ U := id rfl
@[simp] theorem KSeq_ret (b : S) (d : D) (ρ : Rho) (U : Urn) : KSeq b (.ret d) ρ U = .ok (.ret d) ρ U := id rfl
@[simp] theorem KSeq_bk (b : S) (ρ : Rho) (U : Urn) : KSeq b .bk ρ U = .ok .bk ρ U := id rfl
@[simp] theorem KSeq_ct (b : S) (ρ : Rho) (U : Urn) : KSeq b .ct ρ U = .ok .ct ρ U := id rfl
@[simp] theorem sSeq_ap (a b : S) (ρ : Rho) (U : Urn) : sSeq a b ρ U = (a ρ U).bind (KSeq b) := by
  unfold sSeq
  congr 1
def KRet : D → S := fun d ρ U => .ok (.ret d) ρ U
@[simp] theorem KRet_ap (d : D) (ρ : Rho) (U : Urn) : KRet d ρ U = .ok (.ret d) ρ U := id rfl
@[simp] theorem sRet_ap (m : M D) (ρ : Rho) (U : Urn) : sRet m ρ U = (m ρ U).bind KRet := id rfl
def KExpr : D → S := fun _ ρ U => .ok .nx ρ U
@[simp] theorem KExpr_ap (d : D) (ρ : Rho) (U : Urn) : KExpr d ρ U = .ok .nx ρ U := id rfl
@[simp] theorem sExpr_ap (m : M D) (ρ : Rho) (U : Urn) : sExpr m ρ U = (m ρ U).bind KExpr := id rfl
def KSet (i : Nat) : D → S := fun d ρ U => if i < ρ.length then .ok .nx (ρ.set i (.val d)) U else .stk
@[simp] theorem KSet_ap (i : Nat) (d : D) (ρ : Rho) (U : Urn) : KSet i d ρ U = if i < ρ.length then .ok .nx (ρ.set i (.val d)) U else .stk := id rfl
@[simp] theorem sSet_ap (i : Nat) (m : M D) (ρ : Rho) (U : Urn) : sSet i m ρ U = (m ρ U).bind (KSet i) := id rfl
def KSetO (i : Nat) : D → S := fun d ρ U => if i < ρ.length then .ok .nx (ρ.set i (.own d)) U else .stk
@[simp] theorem KSetO_ap (i : Nat) (d : D) (ρ : Rho) (U : Urn) : KSetO i d ρ U = if i < ρ.length then .ok .nx (ρ.set i (.own d)) U else .stk := id rfl
@[simp] theorem sSetO_ap (i : Nat) (m : M D) (ρ : Rho) (U : Urn) : sSetO i m ρ U = (m ρ U).bind (KSetO i) := id rfl
def kR : Option Rho → Urn → R Fl
  | some ρ, U => .ok .nx ρ U
  | none, _ => .stk
@[simp] theorem kR_some (ρ : Rho) (U : Urn) : kR (some ρ) U = .ok .nx ρ U := id rfl
def KUnp (is : List Nat) : D → S := fun d ρ U => kR (tgM (.tp is) d ρ) U
@[simp] theorem KUnp_ap (is : List Nat) (d : D) (ρ : Rho) (U : Urn) : KUnp is d ρ U = kR (tgM (.tp is) d ρ) U := id rfl
@[simp] theorem sUnp_ap (is : List Nat) (m : M D) (ρ : Rho) (U : Urn) : sUnp is m ρ U = (m ρ U).bind (KUnp is) := by
  unfold sUnp
  congr 1
  funext d ρ U
  show _ = kR (tgM (.tp is) d ρ) U
  cases tgM (.tp is) d ρ <;> rfl
@[simp] theorem tgM_nm (i : Nat) (d : D) (ρ : Rho) : tgM (.nm i) d ρ = if i < ρ.length then some (ρ.set i (.val d)) else none := id rfl
@[simp] theorem tgM_tp (is : List Nat) (ds : List D) (ρ : Rho) : tgM (.tp is) (.tup ds) ρ = setsR is ds ρ := id rfl
@[simp] theorem tgM_tpl (is : List Nat) (ds : List D) (ρ : Rho) : tgM (.tp is) (.lst ds) ρ = setsR is ds ρ := id rfl
@[simp] theorem setsR_nil (ρ : Rho) : setsR [] [] ρ = some ρ := id rfl
@[simp] theorem setsR_cons (i : Nat) (is : List Nat) (d : D) (ds : List D) (ρ : Rho) : setsR (i :: is) (d :: ds) ρ = if i < ρ.length then setsR is ds (ρ.set i (.val d)) else none := id rfl
/-- pairs of stores -/
def KMvs2 (s : Sl) : List Sl → M (List Sl) := fun ss ρ U => .ok (s :: ss) ρ U
@[simp] theorem KMvs2_ap (s : Sl) (ss : List Sl) (ρ : Rho) (U : Urn) : KMvs2 s ss ρ U = .ok (s :: ss) ρ U := id rfl
def KMvs (o : Bool) (ms : List (M D × Bool)) : D → M (List Sl) := fun d ρ U => (mvs ms ρ U).bind (KMvs2 (if o then Sl.own d else Sl.val d))
@[simp] theorem KMvs_t (ms : List (M D × Bool)) (d : D) (ρ : Rho) (U : Urn) : KMvs true ms d ρ U = (mvs ms ρ U).bind (KMvs2 (Sl.own d)) := id rfl
@[simp] theorem KMvs_f (ms : List (M D × Bool)) (d : D) (ρ : Rho) (U : Urn) : KMvs false ms d ρ U = (mvs ms ρ U).bind (KMvs2 (Sl.val d)) := id rfl
@[simp] theorem mvs_nil (ρ : Rho) (U : Urn) : mvs [] ρ U = .ok [] ρ U := id rfl
@[simp] theorem mvs_cons (m : M D) (o : Bool) (ms : List (M D × Bool)) (ρ : Rho) (U : Urn) : mvs ((m, o) :: ms) ρ U = (m ρ U).bind (KMvs o ms) := id rfl
def KPar2 : Unit → S := fun _ ρ U => .ok .nx ρ U
@[simp] theorem KPar2_ap (u : Unit) (ρ : Rho) (U : Urn) : KPar2 u ρ U = .ok .nx ρ U := id rfl
def KPar (ts : List TgA) : List Sl → S := fun ss ρ U => (putsM ts ss ρ U).bind KPar2
@[simp] theorem KPar_ap (ts : List TgA) (ss : List Sl) (ρ : Rho) (U : Urn) : KPar ts ss ρ U = (putsM ts ss ρ U).bind KPar2 := id rfl
@[simp] theorem sPar_ap (ts : List TgA) (ms : List (M D × Bool)) (ρ : Rho) (U : Urn) : sPar ts ms ρ U = (mvs ms ρ U).bind (KPar ts) := id rfl
@[simp] theorem putsM_nil (ρ : Rho) (U : Urn) : putsM [] [] ρ U = .ok () ρ U := id rfl
@[simp] theorem putsM_nm (i : Nat) (ts : List TgA) (s : Sl) (ss : List Sl) (ρ : Rho) (U : Urn) : putsM (.nm i :: ts) (s :: ss) ρ U = if i < ρ.length then putsM ts ss (ρ.set i s) U else .stk := id rfl
def KPuts (ts : List TgA) (ss : List Sl) : Unit → M Unit := fun _ ρ U => putsM ts ss ρ U
@[simp] theorem KPuts_ap (ts : List TgA) (ss : List Sl) (u : Unit) (ρ : Rho) (U : Urn) : KPuts ts ss u ρ U = putsM ts ss ρ U := id rfl
@[simp] theorem putsM_ix (i : Nat) (m : M D) (ts : List TgA) (s : Sl) (ss : List Sl) (ρ : Rho) (U : Urn) : putsM (.ix i m :: ts) (s :: ss) ρ U = (stIx i m s ρ U).bind (KPuts ts ss) := id rfl
/-- own things changed -/
def kUp (i : Nat) (f : D → Option D) : Option Sl → Rho → Urn → R Unit
  | some (.own d), ρ, U => (kO (f d) ρ U).bind fun d' ρ U => .ok () (ρ.set i (.own d')) U
  | _, _, _ => .stk
def KUp (i : Nat) : D → M Unit := fun d ρ U => .ok () (ρ.set i (.own d)) U
@[simp] theorem KUp_ap (i : Nat) (d : D) (ρ : Rho) (U : Urn) : KUp i d ρ U = .ok () (ρ.set i (.own d)) U := id rfl
@[simp] theorem kUp_own (i : Nat) (f : D → Option D) (d : D) (ρ : Rho) (U : Urn) : kUp i f (some (.own d)) ρ U = (kO (f d) ρ U).bind (KUp i) := id rfl
theorem upO_ap (i : Nat) (f : D → Option D) (ρ : Rho) (U : Urn) : upO i f ρ U = kUp i f ρ[i]? ρ U := by
  unfold upO kUp
  cases ρ[i]? with
  | none => rfl
  | some s => cases s with
    | own d => cases h : f d <;> simp [h, kO]
    | _ => rfl
def KIx (i : Nat) (v : D) : D → M Unit := fun k ρ U => kUp i (fun d => putIx d k v) ρ[i]? ρ U
@[simp] theorem KIx_ap (i : Nat) (v k : D) (ρ : Rho) (U : Urn) : KIx i v k ρ U = kUp i (fun d => putIx d k v) ρ[i]? ρ U := id rfl
def kOw : Option Sl → Bool
  | some (.own _) => true
  | _ => false
@[simp] theorem kOw_own (d : D) : kOw (some (.own d)) = true := id rfl
@[simp] theorem stIx_val (i : Nat) (m : M D) (v : D) (ρ : Rho) (U : Urn) : stIx i m (.val v) ρ U = if kOw ρ[i]? = true then (m ρ U).bind (KIx i v) else .stk := by
  have e : isOwn ρ i = kOw ρ[i]? := by
    unfold isOwn kOw
    cases ρ[i]? with
    | none => rfl
    | some s => cases s <;> rfl
  have e2 : (fun k => upO i fun d => putIx d k v) = KIx i v := by
    funext k ρ U
    exact upO_ap _ _ _ _
  unfold stIx
  rw [e, ← e2]
def KSIx2 : Unit → S := fun _ ρ U => .ok .nx ρ U
@[simp] theorem KSIx2_ap (u : Unit) (ρ : Rho) (U : Urn) : KSIx2 u ρ U = .ok .nx ρ U := id rfl
def KSIx (i : Nat) (mi : M D) : D → S := fun v ρ U => (stIx i mi (.val v) ρ U).bind KSIx2
@[simp] theorem KSIx_ap (i : Nat) (mi : M D) (v : D) (ρ : Rho) (U : Urn) : KSIx i mi v ρ U = (stIx i mi (.val v) ρ U).bind KSIx2 := id rfl
@[simp] theorem sIx_ap (i : Nat) (mi m : M D) (ρ : Rho) (U : Urn) : sIx i mi m ρ U = (m ρ U).bind (KSIx i mi) := id rfl
def kOwL : Option Sl → Bool
  | some (.own (.lst _)) => true
  | _ => false
@[simp] theorem kOwL_own (ds : List D) : kOwL (some (.own (.lst ds))) = true := id rfl
theorem isOwnL_ap (ρ : Rho) (i : Nat) : isOwnL ρ i = kOwL ρ[i]? := by
  unfold isOwnL kOwL
  cases ρ[i]? with
  | none => rfl
  | some s => cases s with
    | own d => cases d <;> rfl
    | _ => rfl
def KMut (f : D → D → Option D) (i : Nat) : D → S := fun v ρ U => (kUp i (f v) ρ[i]? ρ U).bind KSIx2
@[simp] theorem KMut_ap (f : D → D → Option D) (i : Nat) (v : D) (ρ : Rho) (U : Urn) : KMut f i v ρ U = (kUp i (f v) ρ[i]? ρ U).bind KSIx2 := id rfl
@[simp] theorem sMut_ap (f : D → D → Option D) (i : Nat) (m : M D) (ρ : Rho) (U : Urn) : sMut f i m ρ U = if kOwL ρ[i]? = true then (m ρ U).bind (KMut f i) else .stk := by
  unfold sMut
  rw [isOwnL_ap]
  have e : (fun v (ρ : Rho) (U : Urn) => (upO i (f v) ρ U).bind fun _ ρ U => R.ok Fl.nx ρ U) = KMut f i := by
    funext v ρ U
    show (upO i (f v) ρ U).bind _ = _
    rw [upO_ap]
    rfl
  rw [e]
/-- the urn -/
@[simp] theorem eUix_ap (i k : Nat) (ρ : Rho) (U : Urn) : eUix i k ρ U = if isUrn ρ i then .ok (.int (U.get k)) ρ U else .stk := id rfl
def KUix (i k : Nat) : D → S := fun v ρ U => match v with
  | .int n => if isUrn ρ i then .ok .nx ρ (U.put n k) else .stk
  | _ => .stk
@[simp] theorem KUix_ap (i k : Nat) (n : Int) (ρ : Rho) (U : Urn) : KUix i k (.int n) ρ U = if isUrn ρ i then .ok .nx ρ (U.put n k) else .stk := id rfl
@[simp] theorem sUix_ap (i k : Nat) (m : M D) (ρ : Rho) (U : Urn) : sUix i k m ρ U = (m ρ U).bind (KUix i k) := id rfl
/-- what is walked -/
def KSeqD : D → M (List D) := fun d ρ U => kO (seqD d) ρ U
@[simp] theorem KSeqD_ap (d : D) (ρ : Rho) (U : Urn) : KSeqD d ρ U = kO (seqD d) ρ U := id rfl
@[simp] theorem iSeq_ap (m : M D) (ρ : Rho) (U : Urn) : iSeq m ρ U = (m ρ U).bind KSeqD := by
  unfold iSeq
  congr 1
  funext d ρ U
  exact opt_ap _ _ _
def KRg1 : D → M (List D) := fun d ρ U => match d with
  | .int j => if sm62 j = true then .ok (rgD 0 j) ρ U else .stk
  | _ => .stk
theorem KRg1_ap (j : Int) (ρ : Rho) (U : Urn) : KRg1 (.int j) ρ U = if sm62 j = true then .ok (rgD 0 j) ρ U else .stk := id rfl
@[simp] theorem iRg1_ap (m : M D) (ρ : Rho) (U : Urn) : iRg1 m ρ U = (m ρ U).bind KRg1 := by
  unfold iRg1
  congr 1
  funext d ρ U
  cases d with
  | int j =>
    show (if sm62 j then opt (some (rgD 0 j)) else opt none) ρ U = if sm62 j = true then .ok (rgD 0 j) ρ U else .stk
    by_cases h : sm62 j = true
    · rw [if_pos h, if_pos h]; rfl
    · rw [if_neg h, if_neg h]; rfl
  | _ => rfl
theorem KRg1_int {j : Int} (h0 : 0 ≤ j) (h : j < 1000000000) (ρ : Rho) (U : Urn) : KRg1 (.int j) ρ U = .ok (rgD 0 j) ρ U := by
  rw [KRg1_ap, if_pos]
  unfold sm62
  exact decide_eq_true ⟨by omega, by omega⟩
theorem KRg1_nat {k : Nat} (h : k < 1000000000) (ρ : Rho) (U : Urn) : KRg1 (.int k) ρ U = .ok (rgD 0 k) ρ U := KRg1_int (by omega) (by omega) ρ U
def KRg2 : List D → M (List D) := fun ds ρ U => match ds with
  | [.int i, .int j] => if (sm62 i && sm62 j) = true then .ok (rgD i j) ρ U else .stk
  | _ => .stk
theorem KRg2_ap (i j : Int) (ρ : Rho) (U : Urn) : KRg2 [.int i, .int j] ρ U = if (sm62 i && sm62 j) = true then .ok (rgD i j) ρ U else .stk := id rfl
def KEn : D → M (List D) := fun d ρ U => kO ((seqD d).map (enD 0)) ρ U
@[simp] theorem KEn_ap (d : D) (ρ : Rho) (U : Urn) : KEn d ρ U = kO ((seqD d).map (enD 0)) ρ U := id rfl
@[simp] theorem iEn_ap (m : M D) (ρ : Rho) (U : Urn) : iEn m ρ U = (m ρ U).bind KEn := by
  unfold iEn
  congr 1
  funext d ρ U
  exact opt_ap _ _ _
def KZip : List D → M (List D) := fun d ρ U => kO (zipP d) ρ U
@[simp] theorem KZip_ap (d : List D) (ρ : Rho) (U : Urn) : KZip d ρ U = kO (zipP d) ρ U := id rfl
@[simp] theorem iZip_ap (a b : M D) (ρ : Rho) (U : Urn) : iZip a b ρ U = (evs [a, b] ρ U).bind KZip := by
  unfold iZip
  congr 1
  funext d ρ U
  exact opt_ap _ _ _
/-- loops -/
def KFor (tg : Tg) (b : S) : List D → S := fun ds ρ U => forL tg b ds ρ U
@[simp] theorem KFor_ap (tg : Tg) (b : S) (ds : List D) (ρ : Rho) (U : Urn) : KFor tg b ds ρ U = forL tg b ds ρ U := id rfl
@[simp] theorem sFor_ap (it : M (List D)) (tg : Tg) (b : S) (ρ : Rho) (U : Urn) : sFor it tg b ρ U = (it ρ U).bind (KFor tg b) := id rfl
def KForN (tg : Tg) (b : S) (ds : List D) : Fl → S := fun f ρ U => match f with
  | .nx => forL tg b ds ρ U
  | .ct => forL tg b ds ρ U
  | .bk => .ok .nx ρ U
  | .ret d => .ok (.ret d) ρ U
theorem forL_nil (tg : Tg) (b : S) (ρ : Rho) (U : Urn) : forL tg b [] ρ U = .ok .nx ρ U := id rfl
theorem forL_cons (tg : Tg) (b : S) (d : D) (ds : List D) (ρ ρ' : Rho) (U : Urn) (h : tgM tg d ρ = some ρ') : forL tg b (d :: ds) ρ U = (b ρ' U).bind (KForN tg b ds) := by
  show (match tgM tg d ρ with | none => _ | some ρ => _) = _
  rw [h]
  show (b ρ' U).bind _ = _
  congr 1
/-- comprehensions -/
def lcV (tg : Tg) (vs : List Nat) (c : M Bool) (e : M D) : List D → M D := fun ds ρ U =>
  if vs.all (fun v => decide (v < ρ.length)) then lcRun tg vs c e (fun acc ρ' U' => .ok (.lst acc) (restR vs (savR ρ vs) ρ') U') ds [] (unAll vs ρ) U else .stk
@[simp] theorem oLc_ap (it : M (List D)) (tg : Tg) (vs : List Nat) (c : M Bool) (e : M D) (ρ : Rho) (U : Urn) : oLc it tg vs c e ρ U = (it ρ U).bind (lcV tg vs c e) := id rfl
end VL

set_option maxRecDepth 100000
set_option maxHeartbeats 4000000
/-! VLD: comprehensions and loops over lists; seqs of either kind. -/
namespace VL
open PySem PySem.Spec PyProof.Rows L2
/-! ### states -/
theorem unAll_get {vs : List Nat} : ∀ {ρ : Rho} {i : Nat}, i ∉ vs → (unAll vs ρ)[i]? = ρ[i]? := by
  induction vs with
  | nil => intro ρ i _; rfl
  | cons v vs ih =>
    intro ρ i h
    have h1 : v ≠ i := fun e => h (e ▸ List.mem_cons_self)
    show ((unAll vs ρ).set v .un)[i]? = _
    rw [List.getElem?_set_ne h1]
    exact ih fun e => h (List.mem_cons_of_mem _ e)
theorem set_get {ρ : Rho} {i : Nat} (s : Sl) (h : ρ[i]? = some s) : ρ.set i s = ρ := by
  apply List.ext_getElem?
  intro j
  by_cases e : i = j
  · subst e; rw [List.getElem?_set_self (by exact (List.getElem?_eq_some_iff.mp h).1), h]
  · rw [List.getElem?_set_ne e]
theorem unAll_un {vs : List Nat} {ρ : Rho} {v : Nat} (hv : v ∈ vs) (hl : v < ρ.length) : (unAll vs ρ)[v]? = some .un := by
  induction vs with
  | nil => cases hv
  | cons u vs ih =>
    show ((unAll vs ρ).set u .un)[v]? = _
    by_cases e : u = v
    · subst e; rw [List.getElem?_set_self (by rw [unAll_len]; exact hl)]
    · rw [List.getElem?_set_ne e]
      exact ih ((List.mem_cons.mp hv).resolve_left fun z => e z.symm)
theorem setsR_get : ∀ {is : List Nat} {ds : List D} {ρ ρ' : Rho} {i : Nat}, setsR is ds ρ = some ρ' → i ∉ is → ρ'[i]? = ρ[i]?
  | [], [], _, _, _, h, _ => by cases h; rfl
  | [], _ :: _, _, _, _, h, _ => by cases h
  | _ :: _, [], _, _, _, h, _ => by cases h
  | j :: is, d :: ds, ρ, ρ', i, h, hi => by
    simp only [setsR_cons] at h
    by_cases hj : j < ρ.length
    · rw [if_pos hj] at h
      rw [setsR_get h fun e => hi (List.mem_cons_of_mem _ e), List.getElem?_set_ne fun e => hi (by rw [e]; exact List.mem_cons_self)]
    · rw [if_neg hj] at h; cases h
theorem tgM_get {tg : Tg} {d : D} {ρ ρ' : Rho} {i : Nat} (h : tgM tg d ρ = some ρ') (hi : i ∉ tgIx tg) : ρ'[i]? = ρ[i]? := by
  cases tg with
  | nm j =>
    simp only [tgM_nm] at h
    by_cases hj : j < ρ.length
    · rw [if_pos hj] at h; cases h
      rw [List.getElem?_set_ne]
      intro e; exact hi (e ▸ List.mem_singleton.mpr rfl)
    · rw [if_neg hj] at h; cases h
  | tp is =>
    cases d with
    | tup ds => exact setsR_get h hi
    | lst ds => exact setsR_get h hi
    | _ => cases h
/-- behind the target's stores the block's names go again -/
theorem unAll_tg {tg : Tg} {vs : List Nat} {d : D} {ρ ρ' : Rho} (h : tgM tg d (unAll vs ρ) = some ρ') (hv : ∀ i ∈ tgIx tg, i ∈ vs) : unAll vs ρ' = unAll vs ρ := by
  have hl : ρ'.length = ρ.length := by rw [tgM_len h, unAll_len]
  apply List.ext_getElem?
  intro i
  by_cases hi : i ∈ vs
  · by_cases hi2 : i < ρ.length
    · rw [unAll_un hi hi2, unAll_un hi (by rw [hl]; exact hi2)]
    · rw [List.getElem?_eq_none (by rw [unAll_len]; omega), List.getElem?_eq_none (by rw [unAll_len]; omega)]
  · rw [unAll_get hi, unAll_get hi, tgM_get h (fun e => hi (hv i e)), unAll_get hi]
theorem restR_get : ∀ {vs : List Nat} {ρ0 ρ : Rho} {i : Nat}, vs.Nodup → ρ.length = ρ0.length → (∀ v ∈ vs, v < ρ0.length) → (restR vs (savR ρ0 vs) ρ)[i]? = if i ∈ vs then ρ0[i]? else ρ[i]?
  | [], ρ0, ρ, i, _, _, _ => by simp [restR]
  | v :: vs, ρ0, ρ, i, nd, hl, hv => by
    have nd := List.nodup_cons.mp nd
    show (restR vs (savR ρ0 vs) (ρ.set v (ρ0.getD v .un)))[i]? = _
    rw [restR_get nd.2 (by rw [List.length_set]; exact hl) fun u hu => hv u (List.mem_cons_of_mem _ hu)]
    by_cases h1 : i ∈ vs
    · rw [if_pos h1, if_pos (List.mem_cons_of_mem _ h1)]
    · rw [if_neg h1]
      have hvl := hv v List.mem_cons_self
      by_cases h2 : v = i
      · subst h2
        rw [if_pos List.mem_cons_self, List.getElem?_set_self (by rw [hl]; exact hvl), List.getD_eq_getElem?_getD, List.getElem?_eq_getElem hvl]; rfl
      · rw [List.getElem?_set_ne h2, if_neg]
        intro e
        rcases List.mem_cons.mp e with e | e
        · exact h2 e.symm
        · exact h1 e
theorem rest_un {vs : List Nat} {ρ : Rho} (nd : vs.Nodup) (hv : ∀ v ∈ vs, v < ρ.length) : restR vs (savR ρ vs) (unAll vs ρ) = ρ := by
  apply List.ext_getElem?
  intro i
  rw [restR_get nd (unAll_len _ _) hv]
  by_cases hi : i ∈ vs
  · rw [if_pos hi]
  · rw [if_neg hi, unAll_get hi]
/-! ### comprehensions -/
inductive All2 {α β : Type} (P : α → β → Prop) : List α → List β → Prop
  | nil : All2 P [] []
  | cons {x : α} {y : β} {xs : List α} {ys : List β} : P x y → All2 P xs ys → All2 P (x :: xs) (y :: ys)
theorem All2.len {α β : Type} {P : α → β → Prop} : ∀ {xs : List α} {ys : List β}, All2 P xs ys → ys.length = xs.length
  | _, _, .nil => rfl
  | _, _, .cons _ h => by rw [List.length_cons, List.length_cons, h.len]
theorem All2.ex {α β γ : Type} {Q : α → γ → Prop} {g : γ → β} : ∀ {xs : List α} {ys : List β}, All2 (fun x y => ∃ z, y = g z ∧ Q x z) xs ys → ∃ zs : List γ, ys = zs.map g ∧ All2 Q xs zs
  | _, _, .nil => ⟨[], rfl, .nil⟩
  | _, _, .cons ⟨z, e, q⟩ h => by
    obtain ⟨zs, e1, h1⟩ := h.ex
    exact ⟨z :: zs, by rw [e, e1]; rfl, .cons q h1⟩
theorem All2.right {α β : Type} {P : α → β → Prop} {Q : β → Prop} (k : ∀ x y, P x y → Q y) : ∀ {xs : List α} {ys : List β}, All2 P xs ys → ∀ y ∈ ys, Q y
  | _, _, .nil, _, h => by cases h
  | _, _, .cons p h, y, m => by
    rcases List.mem_cons.mp m with e | e
    · rw [e]; exact k _ _ p
    · exact h.right k y e
theorem lcRun_cons {tg : Tg} {vs : List Nat} {c : M Bool} {e : M D} {fin : List D → M D} {d : D} {ds acc : List D} {ρ ρ' : Rho} {U : Urn} (h : tgM tg d ρ = some ρ') :
    lcRun tg vs c e fin (d :: ds) acc ρ U = (c ρ' U).bx fun b ρ U => if b then (e ρ U).bx fun x ρ U => if acc.length < 16777216 then lcRun tg vs c e fin ds (acc ++ [x]) (unAll vs ρ) U else .stk else lcRun tg vs c e fin ds acc (unAll vs ρ) U := by
  show (match tgM tg d ρ with | none => _ | some ρ => _) = _
  rw [h]
/-- each turn leaves the state as it was: the general form, with draws -/
theorem lc_walk {α : Type} {tg : Tg} {vs : List Nat} {c : M Bool} {e : M D} {fin : List D → M D} {ρ : Rho} (hv : ∀ i ∈ tgIx tg, i ∈ vs) (en : α → D) (I : Urn → Nat → Prop) (P : α → D → Prop) (hI : ∀ U n, I U (n + 1) → I U n) :
    ∀ (xs : List α) (acc : List D) (U : Urn), acc.length + xs.length ≤ 16777216 → I U xs.length →
      (∀ x ∈ xs, ∀ U n, I U (n + 1) → ∃ ρ' y U', tgM tg (en x) (unAll vs ρ) = some ρ' ∧ c ρ' U = .ok true ρ' U ∧ e ρ' U = .ok y ρ' U' ∧ P x y ∧ I U' n) →
      ∃ ys U', lcRun tg vs c e fin (xs.map en) acc (unAll vs ρ) U = fin (acc ++ ys) (unAll vs ρ) U' ∧ All2 P xs ys ∧ I U' 0
  | [], acc, U, _, i, _ => ⟨[], U, by rw [List.append_nil]; rfl, .nil, i⟩
  | x :: xs, acc, U, hl, i, h => by
    obtain ⟨ρ', y, U1, h1, h2, h3, p, i1⟩ := h x List.mem_cons_self U xs.length i
    obtain ⟨ys, U', e1, f, i2⟩ := lc_walk hv en I P hI xs (acc ++ [y]) U1 (by simp at hl ⊢; omega) i1 fun x hx => h x (List.mem_cons_of_mem _ hx)
    refine ⟨y :: ys, U', ?_, .cons p f, i2⟩
    rw [List.map_cons, lcRun_cons h1, h2, R.bx_ok]
    show (e ρ' U).bx _ = _
    rw [h3, R.bx_ok]
    show (if acc.length < 16777216 then lcRun tg vs c e fin (xs.map en) (acc ++ [y]) (unAll vs ρ') U1 else R.stk) = _
    rw [if_pos (by simp at hl; omega), unAll_tg h1 hv, e1, List.append_assoc]
    rfl
/-- .. and a test, with no draw -/
theorem lc_filt {α : Type} {tg : Tg} {vs : List Nat} {c : M Bool} {e : M D} {fin : List D → M D} {ρ : Rho} {U : Urn} (hv : ∀ i ∈ tgIx tg, i ∈ vs) (en : α → D) (p : α → Bool) (g : α → D) :
    ∀ (xs : List α) (acc : List D), acc.length + xs.length ≤ 16777216 →
      (∀ x ∈ xs, ∃ ρ', tgM tg (en x) (unAll vs ρ) = some ρ' ∧ c ρ' U = .ok (p x) ρ' U ∧ (p x = true → e ρ' U = .ok (g x) ρ' U)) →
      lcRun tg vs c e fin (xs.map en) acc (unAll vs ρ) U = fin (acc ++ (xs.filter p).map g) (unAll vs ρ) U
  | [], acc, _, _ => by rw [List.filter_nil, List.map_nil, List.map_nil, List.append_nil]; rfl
  | x :: xs, acc, hl, h => by
    obtain ⟨ρ', h1, h2, h3⟩ := h x List.mem_cons_self
    have ih := fun acc' hl' => lc_filt (fin := fin) hv en p g xs acc' hl' fun x hx => h x (List.mem_cons_of_mem _ hx)
    simp only [List.length_cons] at hl
    rw [List.map_cons, lcRun_cons h1, h2, R.bx_ok]
    cases hp : p x with
    | true =>
      show (e ρ' U).bx _ = _
      rw [h3 hp, R.bx_ok]
      show (if acc.length < 16777216 then lcRun tg vs c e fin (xs.map en) (acc ++ [g x]) (unAll vs ρ') U else R.stk) = _
      rw [if_pos (by omega), unAll_tg h1 hv, ih _ (by simp; omega), List.append_assoc, List.filter_cons_of_pos hp]
      rfl
    | false =>
      show lcRun tg vs c e fin (xs.map en) acc (unAll vs ρ') U = _
      rw [unAll_tg h1 hv, ih _ (by omega), List.filter_cons_of_neg (by rw [hp]; exact Bool.false_ne_true)]
/-- THE RULE, no test, no draw -/
theorem lcV_map {α : Type} {tg : Tg} {vs : List Nat} {e : M D} {ρ : Rho} {U : Urn} {ds : List D} (en : α → D) (g : α → D) (xs : List α) (hd : ds = xs.map en) (h : ∀ x ∈ xs, ∃ ρ', tgM tg (en x) (unAll vs ρ) = some ρ' ∧ e ρ' U = .ok (g x) ρ' U)
    (hl : xs.length ≤ 16777216) (hr : ∀ v ∈ vs, v < ρ.length) (hv : ∀ i ∈ tgIx tg, i ∈ vs := by decide) (nd : vs.Nodup := by decide) : lcV tg vs tYesM e ds ρ U = .ok (.lst (xs.map g)) ρ U := by
  subst hd
  unfold lcV
  rw [if_pos (List.all_eq_true.mpr fun v hv => decide_eq_true (hr v hv))]
  rw [lc_filt hv en (fun _ => true) g xs [] (by simpa using hl) fun x hx => by
    obtain ⟨ρ', a, b⟩ := h x hx
    exact ⟨ρ', a, rfl, fun _ => b⟩]
  rw [List.nil_append, rest_un nd hr]
  have : xs.filter (fun _ => true) = xs := List.filter_eq_self.mpr fun _ _ => rfl
  rw [this]
/-- THE RULE, with a test, no draw -/
theorem lcV_filt {α : Type} {tg : Tg} {vs : List Nat} {c : M Bool} {e : M D} {ρ : Rho} {U : Urn} {ds : List D} (en : α → D) (p : α → Bool) (g : α → D) (xs : List α) (hd : ds = xs.map en) (h : ∀ x ∈ xs, ∃ ρ', tgM tg (en x) (unAll vs ρ) = some ρ' ∧ c ρ' U = .ok (p x) ρ' U ∧ (p x = true → e ρ' U = .ok (g x) ρ' U))
    (hl : xs.length ≤ 16777216) (hr : ∀ v ∈ vs, v < ρ.length) (hv : ∀ i ∈ tgIx tg, i ∈ vs := by decide) (nd : vs.Nodup := by decide) : lcV tg vs c e ds ρ U = .ok (.lst ((xs.filter p).map g)) ρ U := by
  subst hd
  unfold lcV
  rw [if_pos (List.all_eq_true.mpr fun v hv => decide_eq_true (hr v hv))]
  rw [lc_filt hv en p g xs [] (by simpa using hl) h, List.nil_append, rest_un nd hr]
/-- THE RULE, no test, with draws -/
theorem lcV_draw {α : Type} {tg : Tg} {vs : List Nat} {e : M D} {ρ : Rho} {U : Urn} {ds : List D} (en : α → D) (I : Urn → Nat → Prop) (P : α → D → Prop) (xs : List α) (hd : ds = xs.map en) (hI : ∀ U n, I U (n + 1) → I U n) (i : I U xs.length)
    (h : ∀ x ∈ xs, ∀ U n, I U (n + 1) → ∃ ρ' y U', tgM tg (en x) (unAll vs ρ) = some ρ' ∧ e ρ' U = .ok y ρ' U' ∧ P x y ∧ I U' n)
    (hl : xs.length ≤ 16777216) (hr : ∀ v ∈ vs, v < ρ.length) (hv : ∀ i ∈ tgIx tg, i ∈ vs := by decide) (nd : vs.Nodup := by decide) : ∃ ys U', lcV tg vs tYesM e ds ρ U = .ok (.lst ys) ρ U' ∧ All2 P xs ys ∧ I U' 0 := by
  subst hd
  unfold lcV
  rw [if_pos (List.all_eq_true.mpr fun v hv => decide_eq_true (hr v hv))]
  obtain ⟨ys, U', e1, f, i'⟩ := lc_walk (c := tYesM) (e := e) (fin := fun acc ρ' U' => .ok (.lst acc) (restR vs (savR ρ vs) ρ') U') hv en I P hI xs [] U (by simpa using hl) i fun x hx U n hi => by
    obtain ⟨ρ', y, U', a, b, c, d⟩ := h x hx U n hi
    exact ⟨ρ', y, U', a, rfl, b, c, d⟩
  refine ⟨ys, U', ?_, f, i'⟩
  rw [e1, List.nil_append, rest_un nd hr]
/-! ### loops: an invariant by the turns -/
theorem for_inv {α : Type} {tg : Tg} {b : S} {ds : List D} (en : α → D) (I : Nat → Rho → Urn → Prop) (xs : List α) (hd : ds = xs.map en) {ρ : Rho} {U : Urn} (h0 : I 0 ρ U)
    (h : ∀ (k : Nat) (x : α) (ρ : Rho) (U : Urn), xs[k]? = some x → I k ρ U → ∃ ρ1 ρ2 U2, tgM tg (en x) ρ = some ρ1 ∧ b ρ1 U = .ok .nx ρ2 U2 ∧ I (k + 1) ρ2 U2) :
    ∃ ρ' U', forL tg b ds ρ U = .ok .nx ρ' U' ∧ I xs.length ρ' U' := by
  subst hd
  have go : ∀ (n k : Nat) (ρ : Rho) (U : Urn), k + n = xs.length → I k ρ U → ∃ ρ' U', forL tg b ((xs.drop k).map en) ρ U = .ok .nx ρ' U' ∧ I xs.length ρ' U' := by
    intro n
    induction n with
    | zero =>
      intro k ρ U e i
      rw [List.drop_of_length_le (by omega)]
      exact ⟨ρ, U, rfl, (by omega : xs.length = k) ▸ i⟩
    | succ n ih =>
      intro k ρ U e i
      have hk : k < xs.length := by omega
      obtain ⟨ρ1, ρ2, U2, h1, h2, i2⟩ := h k xs[k] ρ U (List.getElem?_eq_getElem hk) i
      rw [List.drop_eq_getElem_cons hk, List.map_cons, forL_cons _ _ _ _ _ _ _ h1, h2]
      exact ih (k + 1) ρ2 U2 (by omega) i2
  exact go xs.length 0 ρ U (by omega) h0
/-! ### seqs of either kind -/
def sq (b : Bool) (xs : List D) : D := if b then .lst xs else .tup xs
@[simp] theorem sq_t (xs : List D) : sq true xs = .lst xs := id rfl
@[simp] theorem sq_f (xs : List D) : sq false xs = .tup xs := id rfl
@[simp] theorem ixD_lst (xs : List D) (i : Int) : ixD (.lst xs) (.int i) = atI xs i := id rfl
@[simp] theorem ixD_tup (xs : List D) (i : Int) : ixD (.tup xs) (.int i) = atI xs i := id rfl
@[simp] theorem ixD_sq (b : Bool) (xs : List D) (i : Int) : ixD (sq b xs) (.int i) = atI xs i := by cases b <;> rfl
@[simp] theorem seqD_lst (xs : List D) : seqD (.lst xs) = some xs := id rfl
@[simp] theorem seqD_tup (xs : List D) : seqD (.tup xs) = some xs := id rfl
@[simp] theorem seqD_sq (b : Bool) (xs : List D) : seqD (sq b xs) = some xs := by cases b <;> rfl
@[simp] theorem lenA_lst (xs : List D) : lenA (.lst xs) = some (.int xs.length) := id rfl
@[simp] theorem lenA_tup (xs : List D) : lenA (.tup xs) = some (.int xs.length) := id rfl
@[simp] theorem lenA_sq (b : Bool) (xs : List D) : lenA (sq b xs) = some (.int xs.length) := by cases b <;> rfl
@[simp] theorem tupD_lst (xs : List D) : tupD (.lst xs) = some (.tup xs) := id rfl
@[simp] theorem tupD_tup (xs : List D) : tupD (.tup xs) = some (.tup xs) := id rfl
@[simp] theorem tupD_sq (b : Bool) (xs : List D) : tupD (sq b xs) = some (.tup xs) := by cases b <;> rfl
@[simp] theorem lstD_lst (xs : List D) : lstD (.lst xs) = some (.lst xs) := id rfl
@[simp] theorem lstD_tup (xs : List D) : lstD (.tup xs) = some (.lst xs) := id rfl
@[simp] theorem atI_nat {α : Type} (xs : List α) (k : Nat) : atI xs (k : Int) = xs[k]? := by
  unfold atI ixN
  rw [if_pos (by omega)]
  by_cases h : k < xs.length
  · rw [if_pos (by omega)]; simp
  · rw [if_neg (by omega), List.getElem?_eq_none (by omega)]; rfl
@[simp] theorem atI_0 {α : Type} (xs : List α) : atI xs 0 = xs[0]? := atI_nat xs 0
@[simp] theorem atI_1 {α : Type} (xs : List α) : atI xs 1 = xs[1]? := atI_nat xs 1
@[simp] theorem atI_2 {α : Type} (xs : List α) : atI xs 2 = xs[2]? := atI_nat xs 2
@[simp] theorem atI_3 {α : Type} (xs : List α) : atI xs 3 = xs[3]? := atI_nat xs 3
@[simp] theorem atI_4 {α : Type} (xs : List α) : atI xs 4 = xs[4]? := atI_nat xs 4
@[simp] theorem atI_5 {α : Type} (xs : List α) : atI xs 5 = xs[5]? := atI_nat xs 5
theorem atI_neg {α : Type} (xs : List α) (k : Nat) (hk : 0 < k) (h : k ≤ xs.length) : atI xs (-(k : Int)) = xs[xs.length - k]? := by
  unfold atI ixN
  rw [if_neg (by omega), if_pos (by omega)]
  show xs[((-(k : Int)) + xs.length).toNat]? = _
  congr 1
  omega
@[simp] theorem atI_m1 {α : Type} (xs : List α) : atI xs (-1) = xs.getLast? := by
  cases xs with
  | nil => rfl
  | cons x xs =>
    rw [show (-1 : Int) = -((1 : Nat) : Int) from rfl, atI_neg _ 1 (by omega) (by simp), List.getLast?_eq_getElem?]
@[simp] theorem iiD_int (f : Int → Int → Option D) (i j : Int) : iiD f (.int i) (.int j) = f i j := id rfl
@[simp] theorem ltI_int (i j : Int) : ltI (.int i) (.int j) = some (.bl (decide (i < j))) := id rfl
@[simp] theorem leI_int (i j : Int) : leI (.int i) (.int j) = some (.bl (decide (i ≤ j))) := id rfl
@[simp] theorem gtI_int (i j : Int) : gtI (.int i) (.int j) = some (.bl (decide (j < i))) := id rfl
@[simp] theorem geI_int (i j : Int) : geI (.int i) (.int j) = some (.bl (decide (j ≤ i))) := id rfl
@[simp] theorem subI_int (i j : Int) : subI (.int i) (.int j) = some (.int (i - j)) := id rfl
@[simp] theorem addA_int (i j : Int) : addA (.int i) (.int j) = some (.int (i + j)) := id rfl
@[simp] theorem addA_lst (xs ys : List D) : addA (.lst xs) (.lst ys) = if xs.length + ys.length ≤ 16777216 then some (.lst (xs ++ ys)) else none := id rfl
@[simp] theorem addA_tup (xs ys : List D) : addA (.tup xs) (.tup ys) = if xs.length + ys.length ≤ 16777216 then some (.tup (xs ++ ys)) else none := by
  unfold addA orD addT
  show (match (none : Option D) with | some d => some d | none => _) = _
  by_cases h : xs.length + ys.length ≤ 16777216
  · simp [addI, iiD, h]
  · simp [addI, iiD, h, addL]
@[simp] theorem appD_lst (v : D) (xs : List D) : appD v (.lst xs) = if xs.length < 16777216 then some (.lst (xs ++ [v])) else none := id rfl
@[simp] theorem eqD_int (i j : Int) : eqD (.int i) (.int j) = some (.bl (decide (i = j))) := by
  show some (D.bl (i == j)) = _
  congr 2
@[simp] theorem neD_int (i j : Int) : neD (.int i) (.int j) = some (.bl (!decide (i = j))) := by
  show some (D.bl (!(i == j))) = _
  congr 3
@[simp] theorem blsD_map {α : Type} (f : α → Bool) : ∀ xs : List α, blsD (xs.map fun x => D.bl (f x)) = some (xs.map f)
  | [] => rfl
  | x :: xs => by simp [blsD, blsD_map f xs]
@[simp] theorem allD_map {α : Type} (f : α → Bool) (xs : List α) : allD (.lst (xs.map fun x => D.bl (f x))) = some (.bl (xs.all f)) := by
  simp only [allD, blsD_map, Option.map_some, List.all_map]; rfl
@[simp] theorem anyD_map {α : Type} (f : α → Bool) (xs : List α) : anyD (.lst (xs.map fun x => D.bl (f x))) = some (.bl (xs.any f)) := by
  simp only [anyD, blsD_map, Option.map_some, List.any_map]; rfl
theorem enD_map {α : Type} (en : α → D) : ∀ (xs : List α) (k : Nat), enD k (xs.map en) = (xs.zipIdx k).map fun p => D.tup [.int (p.2 : Int), en p.1]
  | [], _ => rfl
  | x :: xs, k => by
    show D.tup [.int k, en x] :: enD (k + 1) (xs.map en) = _
    rw [enD_map en xs (k + 1)]
    rfl
theorem zpD_map {α β : Type} (f : α → D) (g : β → D) : ∀ (xs : List α) (ys : List β), zpD (xs.map f) (ys.map g) = (xs.zip ys).map fun p => D.tup [f p.1, g p.2]
  | [], _ => by simp [zpD]
  | x :: xs, [] => by simp [zpD]
  | x :: xs, y :: ys => by simp [zpD, zpD_map f g xs ys]
theorem rgD_map (n : Nat) : rgD 0 (n : Int) = (List.range n).map fun (i : Nat) => D.int (i : Int) := by
  unfold rgD
  rw [show ((n : Int) - 0).toNat = n by omega]
  apply List.map_congr_left
  intro i _
  rw [Int.zero_add]
end VL

set_option maxRecDepth 100000
set_option maxHeartbeats 4000000
/-! VLS: the helpers that several laws share (k02 k03 k04 k11 k13): drawing, picking, same, lists, cells, box. -/
namespace VL
namespace S1
open PySem PySem.Spec PyProof.Rows L2
def b_l_take : S :=
  (sSeq (sIf (tOf (eBin gtI (.ev (eUix 0 0)) (.ev (eC (.int 0))))) (sSeq (sSet 2 (eBin modI (.ev (eB1 intD (.ev (eUix 0 0)))) (.sl 1)))
  (sSeq (sUix 0 0 (eBin fdivI (.ev (eUix 0 0)) (.sl 1)))
  (sRet (eVar 2)))) sNx)
  (sSeq (sUix 0 2 (eBin addA (.ev (eUix 0 2)) (.ev (eC (.int 1)))))
  (sSeq (sSet 3 (eBin modI (.ev (eB1 intD (.ev (eBin mulA (.ev (eBin addA (.ev (eUix 0 1)) (.ev (eBin mulA (.ev (eC (.int 48271))) (.ev (eUix 0 2)))))) (.ev (eBin addA (.ev (eC (.int 39373))) (.ev (eUix 0 2)))))))) (.ev (eC (.int 2147483647)))))
  (sSeq (sSet 4 (eBin addA (.ev (eBin modI (.ev (eB1 intD (.sl 3))) (.ev (eC (.int 40009))))) (.ev (eC (.int 7)))))
  (sSeq (sSet 5 (eBin modI (.ev (eB1 intD (.ev (eBin mulA (.ev (eBin addA (.ev (eBin addA (.sl 3) (.ev (eUix 0 2)))) (.ev (eBin fdivI (.ev (eUix 0 1)) (.ev (eC (.int 1000003))))))) (.sl 4))))) (.ev (eC (.int 2147483629)))))
  (sRet (eBin modI (.ev (eB1 intD (.ev (eBin fdivI (.ev (eBin modI (.ev (eB1 intD (.ev (eBin addA (.ev (eBin mulA (.sl 5) (.ev (eC (.int 48271))))) (.sl 3))))) (.ev (eC (.int 2147483587))))) (.ev (eC (.int 64))))))) (.sl 1))))))))
def m_l_take : Fn := mkFn 6 b_l_take

end S1
open PySem PySem.Spec PyProof.Rows L2
@[simp] theorem isUrn_val (ρ : Rho) (i : Nat) (h : ρ[i]? = some (.val .urn)) : isUrn ρ i = true := by unfold isUrn; rw [h]
@[simp] theorem intD_int (i : Int) : intD (.int i) = some (.int i) := id rfl
@[simp] theorem modI_int (i j : Int) : modI (.int i) (.int j) = if j ≠ 0 then some (.int (i.fmod j)) else none := id rfl
theorem fdivI_int {i j : Int} (h : CDivN i j) : fdivI (.int i) (.int j) = some (.int (i.fdiv j)) := by
  unfold fdivI; rw [iiD_int, if_pos h]
theorem mulA_int {i j : Int} (h : CMul i j) : mulA (.int i) (.int j) = some (.int (i * j)) := by
  unfold mulA orD mulI; rw [iiD_int, if_pos h]
/-- what the urn still gives -/
def Ud (U : Urn) (n : Nat) : Prop := 0 ≤ U.a ∧ 0 ≤ U.c ∧ U.c + n ≤ 2 ^ 40
theorem Ud.less {U : Urn} {n : Nat} (h : Ud U (n + 1)) : Ud U n := ⟨h.1, h.2.1, by have := h.2.2; omega⟩
theorem Ud.mono {U : Urn} {n m : Nat} (h : Ud U n) (l : m ≤ n) : Ud U m := ⟨h.1, h.2.1, by have := h.2.2; omega⟩
@[simp] theorem get_0 (U : Urn) : U.get 0 = U.a := id rfl
@[simp] theorem get_1 (U : Urn) : U.get 1 = U.b := id rfl
@[simp] theorem get_2 (U : Urn) : U.get 2 = U.c := id rfl
@[simp] theorem put_0 (U : Urn) (v : Int) : U.put v 0 = { U with a := v } := id rfl
@[simp] theorem put_2 (U : Urn) (v : Int) : U.put v 2 = { U with c := v } := id rfl
namespace S1
open PySem PySem.Spec PyProof.Rows L2
theorem take_ok {U : Urn} {n : Nat} {k : Nat} (h : Ud U (n + 1)) (hk : 0 < k) (hk2 : k < 1073741824) : ∃ (r : Nat) (U' : Urn), r < k ∧ m_l_take [.urn, .int k] U = .ok (.int r) U' ∧ Ud U' n := by
  obtain ⟨h1, h2, h3⟩ := h
  have k0 : (k : Int) ≠ 0 := by omega
  have k1 : k ≠ 0 := by omega
  have fm : ∀ x : Int, 0 ≤ x.fmod k ∧ x.fmod k < k := fun x => ⟨Int.fmod_nonneg_of_pos _ (by omega), Int.fmod_lt_of_pos _ (by omega)⟩
  by_cases ha : 0 < U.a
  · have e : m_l_take [.urn, .int k] U = .ok (.int (U.a.fmod k)) { U with a := U.a.fdiv k } := by
      have hd : CDivN U.a k := ⟨k0, by omega⟩
      unfold m_l_take b_l_take
      simp [mkFn_ap, ha, k1, fdivI_int hd]
    refine ⟨(U.a.fmod k).toNat, { U with a := U.a.fdiv k }, ?_, ?_, ?_⟩
    · have := fm U.a; omega
    · rw [e, Int.toNat_of_nonneg (fm _).1]
    · exact ⟨Int.fdiv_nonneg h1 (by omega), h2, by show U.c + n ≤ _; omega⟩
  · have c1 : CMul 48271 (U.c + 1) := .inl (by decide)
    have c2 : CMul (U.b + 48271 * (U.c + 1)) (39373 + (U.c + 1)) := .inr (by omega)
    have d1 : CDivN U.b 1000003 := ⟨by decide, by decide⟩
    obtain ⟨o, ho⟩ : ∃ o, o = ((U.b + 48271 * (U.c + 1)) * (39373 + (U.c + 1))).fmod 2147483647 := ⟨_, rfl⟩
    have c3 : CMul (o + (U.c + 1) + U.b.fdiv 1000003) (o.fmod 40009 + 7) := .inr (by
      have a1 := Int.fmod_nonneg_of_pos o (b := 40009) (by decide)
      have a2 := Int.fmod_lt_of_pos o (b := 40009) (by decide)
      omega)
    obtain ⟨t, ht⟩ : ∃ t, t = ((o + (U.c + 1) + U.b.fdiv 1000003) * (o.fmod 40009 + 7)).fmod 2147483629 := ⟨_, rfl⟩
    have c4 : CMul t 48271 := .inr (by decide)
    have d2 : CDivN ((t * 48271 + o).fmod 2147483587) 64 := ⟨by decide, by decide⟩
    have e : m_l_take [.urn, .int k] U = .ok (.int ((((t * 48271 + o).fmod 2147483587).fdiv 64).fmod k)) { U with c := U.c + 1 } := by
      unfold m_l_take b_l_take
      simp [mkFn_ap, ha, k1, mulA_int c1, mulA_int c2, fdivI_int d1, ← ho, mulA_int c3, ← ht, mulA_int c4, fdivI_int d2]
    refine ⟨((((t * 48271 + o).fmod 2147483587).fdiv 64).fmod k).toNat, { U with c := U.c + 1 }, ?_, ?_, ?_⟩
    · have := fm (((t * 48271 + o).fmod 2147483587).fdiv 64); omega
    · rw [e, Int.toNat_of_nonneg (fm _).1]
    · exact ⟨h1, by show 0 ≤ U.c + 1; omega, by show U.c + 1 + n ≤ _; omega⟩
def b_l_lists (r : Fn) : S :=
  (sRet (eIf (tOf (eB1 (isiD [.list, .tuple]) (.sl 0))) (oLc (iSeq (eVar 0)) (.nm 1) [1] tYesM (eCall r [(eVar 1)])) (eVar 0)))
def r_l_lists : Nat → Fn
  | 0 => fun _ _ => .stk
  | n + 1 => mkFn 2 (b_l_lists (r_l_lists n))
def m_l_lists : Fn := r_l_lists 12
def b_l_same (r : Fn) : S :=
  (sSeq (sIf (tOf (eB1 (isiD [.list, .tuple]) (.sl 1))) (sSeq (sIf (tOrM (tOf (eBin neD (.ev (eB1 (isiD [.list]) (.sl 0))) (.ev (eB1 (isiD [.list]) (.sl 1))))) (tOf (eBin neD (.ev (eB1 (isiD [.tuple]) (.sl 0))) (.ev (eB1 (isiD [.tuple]) (.sl 1)))))) (sRet (eC (.bl false))) sNx)
  (sRet (eAnd (eBin eqD (.ev (eB1 lenA (.sl 0))) (.ev (eB1 lenA (.sl 1)))) (eB1 allD (.ev (oLc (iZip (eVar 0) (eVar 1)) (.tp [2, 3]) [2, 3] tYesM (eCall r [(eVar 2), (eVar 3)]))))))) sNx)
  (sSeq (sIf (tOrM (tOf (eBin isND (.sl 1) (.ev (eC .non)))) (tOf (eB1 (isiD [.bool, .str]) (.sl 1)))) (sRet (eAnd (eBin eqD (.sl 0) (.sl 1)) (eAnd (eBin eqD (.ev (eB1 (isiD [.bool]) (.sl 0))) (.ev (eB1 (isiD [.bool]) (.sl 1)))) (eBin eqD (.ev (eBin isND (.sl 0) (.ev (eC .non)))) (.ev (eBin isND (.sl 1) (.ev (eC .non)))))))) sNx)
  (sRet (eAnd (eB1 (isiD [.int]) (.sl 0)) (eAnd (eNot (eB1 (isiD [.bool]) (.sl 0))) (eBin eqD (.sl 0) (.sl 1)))))))
def r_l_same : Nat → Fn
  | 0 => fun _ _ => .stk
  | n + 1 => mkFn 4 (b_l_same (r_l_same n))
def m_l_same : Fn := r_l_same 12
end S1
/-! ### plain data -/
def Leaf : D → Prop
  | .non => True
  | .bl _ => True
  | .int _ => True
  | _ => False
def PlD : Nat → D → Prop
  | 0, d => Leaf d
  | n + 1, d => Leaf d ∨ ∃ (b : Bool) (xs : List D), d = sq b xs ∧ (∀ x ∈ xs, PlD n x) ∧ xs.length ≤ 16777216
@[simp] theorem eqD_bl (a b : Bool) : eqD (.bl a) (.bl b) = some (.bl (a == b)) := id rfl
@[simp] theorem neD_bl (a b : Bool) : neD (.bl a) (.bl b) = some (.bl (!(a == b))) := id rfl
@[simp] theorem isi_int_int (i : Int) : isiD [.int] (.int i) = some (.bl true) := id rfl
@[simp] theorem isi_bool_int (i : Int) : isiD [.bool] (.int i) = some (.bl false) := id rfl
@[simp] theorem isi_lt_int (i : Int) : isiD [.list, .tuple] (.int i) = some (.bl false) := id rfl
@[simp] theorem isi_lt_bl (i : Bool) : isiD [.list, .tuple] (.bl i) = some (.bl false) := id rfl
@[simp] theorem isi_lt_non : isiD [.list, .tuple] .non = some (.bl false) := id rfl
@[simp] theorem isi_lt_lst (xs : List D) : isiD [.list, .tuple] (.lst xs) = some (.bl true) := id rfl
@[simp] theorem isi_lt_tup (xs : List D) : isiD [.list, .tuple] (.tup xs) = some (.bl true) := id rfl
@[simp] theorem isi_lt_sq (b : Bool) (xs : List D) : isiD [.list, .tuple] (sq b xs) = some (.bl true) := by cases b <;> rfl
@[simp] theorem isi_l_sq (b : Bool) (xs : List D) : isiD [.list] (sq b xs) = some (.bl b) := by cases b <;> rfl
@[simp] theorem isi_t_sq (b : Bool) (xs : List D) : isiD [.tuple] (sq b xs) = some (.bl (!b)) := by cases b <;> rfl
@[simp] theorem isi_t_tup (xs : List D) : isiD [.tuple] (.tup xs) = some (.bl true) := id rfl
@[simp] theorem isi_bs_int (i : Int) : isiD [.bool, .str] (.int i) = some (.bl false) := id rfl
@[simp] theorem isi_bs_bl (i : Bool) : isiD [.bool, .str] (.bl i) = some (.bl true) := id rfl
@[simp] theorem isi_bs_non : isiD [.bool, .str] .non = some (.bl false) := id rfl
@[simp] theorem isi_b_bl (i : Bool) : isiD [.bool] (.bl i) = some (.bl true) := id rfl
@[simp] theorem isi_b_non : isiD [.bool] .non = some (.bl false) := id rfl
@[simp] theorem isN_int (i : Int) : isND (.int i) .non = some (.bl false) := id rfl
@[simp] theorem isN_bl (i : Bool) : isND (.bl i) .non = some (.bl false) := id rfl
@[simp] theorem isN_non : isND .non .non = some (.bl true) := id rfl
@[simp] theorem eqD_non : eqD .non .non = some (.bl true) := id rfl
theorem zip_self {α : Type} : ∀ xs : List α, xs.zip xs = xs.map fun x => (x, x)
  | [] => rfl
  | x :: xs => by rw [List.zip_cons_cons, zip_self xs]; rfl
namespace S1
open PySem PySem.Spec PyProof.Rows L2
theorem same_refl : ∀ (n : Nat) {d : D} {U : Urn}, PlD n d → r_l_same (n + 1) [d, d] U = .ok (.bl true) U := by
  have leaf : ∀ (n : Nat) {d : D} {U : Urn}, Leaf d → r_l_same (n + 1) [d, d] U = .ok (.bl true) U := fun n d U h => by
    unfold r_l_same b_l_same
    cases d with
    | int i => simp [mkFn_ap]
    | bl i => simp [mkFn_ap]
    | non => simp [mkFn_ap]
    | _ => exact h.elim
  intro n
  induction n with
  | zero => exact fun h => leaf 0 h
  | succ n ih =>
    intro d U h
    rcases h with h | ⟨b, xs, rfl, hx, hl⟩
    · exact leaf _ h
    · have hz : zipP [sq b xs, sq b xs] = some (xs.map fun x => D.tup [x, x]) := by
        have e : zpD xs xs = xs.map fun x => D.tup [x, x] := by
          have e1 := zpD_map (fun x : D => x) (fun x : D => x) xs xs
          rw [List.map_id'] at e1
          rw [e1, zip_self, List.map_map]
          rfl
        cases b
        · show some (zpD xs xs) = _
          rw [e]
        · show some (zpD xs xs) = _
          rw [e]
      have hc : ∀ ρ : Rho, ρ.length = 4 → lcV (.tp [2, 3]) [2, 3] tYesM (eCall (r_l_same (n + 1)) [eVar 2, eVar 3]) (xs.map fun x => D.tup [x, x]) ρ U = .ok (.lst (xs.map fun _ => D.bl true)) ρ U := fun ρ hρ => by
        match ρ, hρ with
        | [r0, r1, r2, r3], _ =>
          refine lcV_map (fun x : D => D.tup [x, x]) (fun _ => D.bl true) xs rfl (fun x hx' => ?_) hl (by simp)
          refine ⟨[r0, r1, .val x, .val x], by simp [unAll], ?_⟩
          simp [ih (hx x hx')]
      have ha : allD (.lst (xs.map fun _ => D.bl true)) = some (.bl true) := by
        have := allD_map (fun _ : D => true) xs
        simpa using this
      rw [show r_l_same (n + 1 + 1) = mkFn 4 (b_l_same (r_l_same (n + 1))) from rfl]
      unfold b_l_same
      simp [mkFn_ap, hz, hc, ha]
theorem m_same_refl {d : D} {U : Urn} (h : PlD 11 d) : m_l_same [d, d] U = .ok (.bl true) U := same_refl 11 h
end S1
/-- tuples to lists, to a depth -/
def lsF : Nat → D → D
  | n + 1, .tup xs => .lst (xs.map (lsF n))
  | n + 1, .lst xs => .lst (xs.map (lsF n))
  | _, d => d
@[simp] theorem lsF_sq (n : Nat) (b : Bool) (xs : List D) : lsF (n + 1) (sq b xs) = .lst (xs.map (lsF n)) := by cases b <;> rfl
@[simp] theorem lsF_tup (n : Nat) (xs : List D) : lsF (n + 1) (.tup xs) = .lst (xs.map (lsF n)) := id rfl
@[simp] theorem lsF_lst (n : Nat) (xs : List D) : lsF (n + 1) (.lst xs) = .lst (xs.map (lsF n)) := id rfl
@[simp] theorem lsF_int (n : Nat) (i : Int) : lsF n (.int i) = .int i := by cases n <;> rfl
@[simp] theorem lsF_bl (n : Nat) (i : Bool) : lsF n (.bl i) = .bl i := by cases n <;> rfl
@[simp] theorem lsF_non (n : Nat) : lsF n .non = .non := by cases n <;> rfl
theorem PlD.int (n : Nat) (i : Int) : PlD n (.int i) := by cases n <;> simp [PlD, Leaf]
theorem PlD.bl (n : Nat) (i : Bool) : PlD n (.bl i) := by cases n <;> simp [PlD, Leaf]
theorem PlD.tup {n : Nat} {xs : List D} (h : ∀ x ∈ xs, PlD n x) (hl : xs.length ≤ 16777216) : PlD (n + 1) (.tup xs) := .inr ⟨false, xs, rfl, h, hl⟩
theorem PlD.lst {n : Nat} {xs : List D} (h : ∀ x ∈ xs, PlD n x) (hl : xs.length ≤ 16777216) : PlD (n + 1) (.lst xs) := .inr ⟨true, xs, rfl, h, hl⟩
theorem PlD.sq {n : Nat} {b : Bool} {xs : List D} (h : ∀ x ∈ xs, PlD n x) (hl : xs.length ≤ 16777216) : PlD (n + 1) (VL.sq b xs) := .inr ⟨b, xs, rfl, h, hl⟩
theorem PlD.up : ∀ {n : Nat} {d : D}, PlD n d → PlD (n + 1) d
  | 0, _, h => .inl h
  | n + 1, _, .inl h => .inl h
  | n + 1, _, .inr ⟨b, xs, e, h, hl⟩ => .inr ⟨b, xs, e, fun x hx => (h x hx).up, hl⟩
theorem PlD.mono {n : Nat} : ∀ {m : Nat} {d : D}, PlD n d → n ≤ m → PlD m d
  | 0, d, h, l => (by omega : n = 0) ▸ h
  | m + 1, d, h, l => by
    by_cases e : n = m + 1
    · exact e ▸ h
    · exact (h.mono (by omega : n ≤ m)).up
theorem sm62_nat {r : Nat} (h : r < 1000000000) : sm62 (r : Int) = true := by
  unfold sm62
  exact decide_eq_true ⟨by omega, by omega⟩
theorem seqIx_nat {r n : Nat} (h : r < n) : seqIndex? (r : Int) n = some r := by
  unfold seqIndex?
  have h1 : ¬ ((r : Int) < 0) := by omega
  have h2 : (r : Int) < (n : Int) := by omega
  simp only [h1, if_false]
  rw [if_pos (by simp [h])]
  rfl
def KPopAt (i : Nat) : D → M D := fun k ρ U => match ρ[i]?, k with
    | some (.own (.lst xs)), .int k => if sm62 k then match seqIndex? k xs.length with
      | some j => match xs[j]? with
        | some d => .ok d (ρ.set i (.own (.lst (xs.eraseIdx j)))) U
        | none => .stk
      | none => .stk
      else .stk
    | _, _ => .stk
theorem ePopAt_ap (i : Nat) (m : M D) (ρ : Rho) (U : Urn) : ePopAt i m ρ U = if kOwL ρ[i]? = true then (m ρ U).bind (KPopAt i) else .stk := by
  rw [← isOwnL_ap]
  rfl
theorem KPopAt_nat {i r : Nat} {ρ : Rho} {U : Urn} {xs : List D} (h : ρ[i]? = some (.own (.lst xs))) (hr : r < xs.length) (hl : xs.length < 1000000000) : KPopAt i (.int (r : Int)) ρ U = .ok xs[r] (ρ.set i (.own (.lst (xs.eraseIdx r)))) U := by
  unfold KPopAt
  rw [h]
  show (if sm62 (r : Int) = true then _ else _) = _
  rw [if_pos (sm62_nat (by omega)), seqIx_nat hr]
  show (match xs[r]? with | some d => _ | none => _) = _
  rw [List.getElem?_eq_getElem hr]
namespace S1
open PySem PySem.Spec PyProof.Rows L2
theorem lists_ok : ∀ (n : Nat) {d : D} {U : Urn}, PlD n d → r_l_lists (n + 1) [d] U = .ok (lsF n d) U := by
  have leaf : ∀ (n : Nat) {d : D} {U : Urn}, Leaf d → r_l_lists (n + 1) [d] U = .ok (lsF n d) U := fun n d U h => by
    unfold r_l_lists b_l_lists
    cases d with
    | int i => simp [mkFn_ap]
    | bl i => simp [mkFn_ap]
    | non => simp [mkFn_ap]
    | _ => exact h.elim
  intro n
  induction n with
  | zero => exact fun h => leaf 0 h
  | succ n ih =>
    intro d U h
    rcases h with h | ⟨b, xs, rfl, hx, hl⟩
    · exact leaf _ h
    · have hc : ∀ ρ : Rho, ρ.length = 2 → lcV (.nm 1) [1] tYesM (eCall (r_l_lists (n + 1)) [eVar 1]) xs ρ U = .ok (.lst (xs.map (lsF n))) ρ U := fun ρ hρ => by
        match ρ, hρ with
        | [r0, r1], _ =>
          refine lcV_map (fun x : D => x) (lsF n) xs (List.map_id' xs).symm (fun x hx' => ?_) hl (by simp)
          refine ⟨[r0, .val x], by simp [unAll], ?_⟩
          simp [ih (hx x hx')]
      rw [show r_l_lists (n + 1 + 1) = mkFn 2 (b_l_lists (r_l_lists (n + 1))) from rfl]
      unfold b_l_lists
      simp [mkFn_ap, hc]
theorem m_lists_ok {d : D} {U : Urn} (h : PlD 11 d) : m_l_lists [d] U = .ok (lsF 11 d) U := lists_ok 11 h
def b_l_pick : S :=
  (sSeq (sPar [.nm 3, .nm 4] [((eB1 lstD (.sl 1)), true), ((oLst []), true)])
  (sSeq (sFor (iRg1 (eB2 minI (.ev (eB1 intD (.sl 2))) (.ev (eB1 lenA (.sl 3))))) (.nm 5) (sMut appD 4 (ePopAt 3 (eCall m_l_take [(eVar 0), (eB1 lenA (.sl 3))]))))
  (sRet (eVar 4))))
def m_l_pick : Fn := mkFn 6 b_l_pick
def b_l_of : S :=
  (sRet (eIx (.sl 1) (.ev (eCall m_l_take [(eVar 0), (eB1 lenA (.sl 1))]))))
def m_l_of : Fn := mkFn 2 b_l_of

theorem of_ok {U : Urn} {n : Nat} {b : Bool} {xs : List D} (h : Ud U (n + 1)) (h0 : 0 < xs.length) (h1 : xs.length < 1073741824) : ∃ (x : D) (U' : Urn), x ∈ xs ∧ m_l_of [.urn, sq b xs] U = .ok x U' ∧ Ud U' n := by
  obtain ⟨r, U', hr, e, i⟩ := take_ok h h0 h1
  refine ⟨xs[r], U', List.getElem_mem hr, ?_, i⟩
  unfold m_l_of b_l_of
  simp [mkFn_ap, e, hr]
theorem perm_pop {α : Type} {l : List α} {r : Nat} (h : r < l.length) (acc : List α) : (l.eraseIdx r ++ (acc ++ [l[r]])).Perm (l ++ acc) := by
  have h1 : (l[r] :: l.eraseIdx r).Perm l := by
    rw [List.eraseIdx_eq_take_drop_succ]
    refine List.perm_middle.symm.trans ?_
    rw [← List.drop_eq_getElem_cons h, List.take_append_drop]
  refine List.Perm.trans ?_ (h1.append_right acc)
  refine List.Perm.trans (List.perm_append_comm) ?_
  simp only [List.append_assoc, List.singleton_append, List.cons_append]
  refine List.perm_middle.trans (List.Perm.cons _ List.perm_append_comm)
theorem pick_ok {U : Urn} {n : Nat} {xs : List D} {k : Nat} (h : Ud U (n + k)) (hk : k ≤ xs.length) (hl : xs.length < 1000000) : ∃ (ys zs : List D) (U' : Urn), m_l_pick [.urn, .lst xs, .int k] U = .ok (.lst ys) U' ∧ ys.length = k ∧ (zs ++ ys).Perm xs ∧ Ud U' n := by
  have lp := for_inv (tg := .nm 5) (b := sMut appD 4 (ePopAt 3 (eCall m_l_take [(eVar 0), (eB1 lenA (.sl 3))]))) (ds := rgD 0 k) (fun (i : Nat) => D.int (i : Int))
    (fun j ρ U => ∃ pool found r5, ρ = [.val .urn, .val (.lst xs), .val (.int k), .own (.lst pool), .own (.lst found), r5] ∧ pool.length = xs.length - j ∧ found.length = j ∧ (pool ++ found).Perm xs ∧ Ud U (n + (k - j)))
    (List.range k) (rgD_map k) (ρ := [.val .urn, .val (.lst xs), .val (.int k), .own (.lst xs), .own (.lst []), .un]) (U := U)
    ⟨xs, [], .un, rfl, rfl, rfl, by rw [List.append_nil], h⟩ (fun j i ρ U hi ⟨pool, found, r5, e, hp, hf, pm, ud⟩ => by
      have hj : j < k := by
        have := (List.getElem?_eq_some_iff.mp hi).1
        simpa using this
      subst e
      have ud : Ud U (n + (k - (j + 1)) + 1) := by rw [show n + (k - (j + 1)) + 1 = n + (k - j) by omega]; exact ud
      obtain ⟨r, U', hr, e, i'⟩ := take_ok ud (k := pool.length) (by omega) (by omega)
      refine ⟨[.val .urn, .val (.lst xs), .val (.int k), .own (.lst pool), .own (.lst found), .val (.int i)], [.val .urn, .val (.lst xs), .val (.int k), .own (.lst (pool.eraseIdx r)), .own (.lst (found ++ [pool[r]])), .val (.int i)], U', by simp, ?_, _, _, _, rfl, ?_, ?_, ?_, i'⟩
      · have hf2 : found.length < 16777216 := by omega
        have hq := KPopAt_nat (i := 3) (U := U') (ρ := [.val .urn, .val (.lst xs), .val (.int k), .own (.lst pool), .own (.lst found), .val (.int i)]) rfl hr (by omega)
        simp [ePopAt_ap, e, hq, hf2]
      · rw [List.length_eraseIdx_of_lt hr]; omega
      · simp [hf]
      · exact (perm_pop hr found).trans pm)
  obtain ⟨ρ', U', e, pool, found, r5, rfl, hp, hf, pm, ud⟩ := lp
  rw [List.length_range] at hp hf ud
  refine ⟨found, pool, U', ?_, hf, pm, ud.mono (by omega)⟩
  have hm : minI (.int k) (.int xs.length) = some (.int k) := by
    show some (D.int (if (xs.length : Int) < k then (xs.length : Int) else k)) = _
    rw [if_neg (by omega)]
  have hr := fun ρ U => KRg1_nat (k := k) (by omega) ρ U
  unfold m_l_pick b_l_pick
  simp [mkFn_ap, hm, hr, e]
end S1
end VL

set_option maxRecDepth 100000
set_option maxHeartbeats 4000000
/-! VLT: the script's cells, the box. -/
namespace VL
open PySem PySem.Spec PyProof.Rows L2
theorem cut_map {α β : Type} (f : α → β) (xs : List α) (lo hi : Option Int) : cut (xs.map f) lo hi = (cut xs lo hi).map f := by
  unfold cut
  rw [List.length_map, ← List.map_drop, ← List.map_take]
@[simp] theorem slS_scr (K : PySem.W.Frag) (ns : List Int) (lo hi : Option Int) : slS K (.scr K ns) lo hi = some (.lst ((cut ns lo hi).map D.int)) := by
  rw [← cut_map]
  simp only [slS, if_true]
def KOrO (b : M D) : D → M D := fun d ρ U => match d with
  | .lst [] => b ρ U
  | .lst xs => .ok (.lst xs) ρ U
  | _ => .stk
@[simp] theorem KOrO_nil (b : M D) (ρ : Rho) (U : Urn) : KOrO b (.lst []) ρ U = b ρ U := id rfl
@[simp] theorem KOrO_cons (b : M D) (x : D) (xs : List D) (ρ : Rho) (U : Urn) : KOrO b (.lst (x :: xs)) ρ U = .ok (.lst (x :: xs)) ρ U := id rfl
theorem KOrO_ne (b : M D) (xs : List D) (h : xs ≠ []) (ρ : Rho) (U : Urn) : KOrO b (.lst xs) ρ U = .ok (.lst xs) ρ U := by
  cases xs with
  | nil => exact absurd rfl h
  | cons x xs => rfl
@[simp] theorem oOr_ap (a b : M D) (ρ : Rho) (U : Urn) : oOr a b ρ U = (a ρ U).bind (KOrO b) := id rfl
theorem putIx_nat {xs : List D} {k : Nat} (h : k < xs.length) (v : D) : putIx (.lst xs) (.int k) v = some (.lst (xs.set k v)) := by
  show (ixN xs.length (k : Int)).map _ = _
  unfold ixN
  rw [if_pos (by omega), if_pos (by omega)]
  rfl
namespace S1
noncomputable def b_l_cells (K : PySem.W.Frag) : S :=
  (sSeq (sSetO 2 (oOr (eB1 lstD (.ev (eSl (slS K) (.sl 0) pNone (pInt (eVar 1))))) (oLst [(eC (.int 0))])))
  (sSeq (sFor (iEn (eSl (slS K) (.sl 0) (pInt (eVar 1)) (pInt (eC (.int 63))))) (.tp [3, 4]) (sSeq (sSet 5 (eBin modI (.ev (eB1 intD (.sl 3))) (.sl 1)))
  (sIx 2 (eVar 5) (eBin addA (.ev (eIx (.sl 2) (.sl 5))) (.ev (eBin mulA (.sl 4) (.ev (eBin addA (.sl 3) (.ev (eC (.int 2)))))))))))
  (sRet (eVar 2))))
noncomputable def m_l_cells (K : PySem.W.Frag) : Fn := mkFn 6 (b_l_cells K)

theorem cells_ok (K : PySem.W.Frag) (ns : List Int) (hn : ns.length ≤ 63) (top : Nat) (ht : 0 < top) (ht2 : top ≤ 63) (U : Urn) : ∃ cs : List Int, cs ≠ [] ∧ m_l_cells K [.scr K ns, .int top] U = .ok (.lst (cs.map D.int)) U := by
  obtain ⟨c0, hc0⟩ : ∃ c0, c0 = if ns = [] then [0] else cut ns none (some (top : Int)) := ⟨_, rfl⟩
  obtain ⟨rest, hr⟩ : ∃ rest, rest = cut ns (some (top : Int)) (some 63) := ⟨_, rfl⟩
  have hcut : cut ns none (some (top : Int)) = ns.take top := by
    unfold cut
    rw [HT.sIx_none, HT.sIx_nat, List.drop_zero, Nat.sub_zero]
    show ns.take (min top ns.length) = ns.take top
    by_cases h : top ≤ ns.length
    · rw [Nat.min_eq_left h]
    · rw [Nat.min_eq_right (by omega), List.take_length, List.take_of_length_le (by omega)]
  have hc : c0 ≠ [] := by
    rw [hc0]
    by_cases h : ns = []
    · rw [if_pos h]; exact List.cons_ne_nil _ _
    · rw [if_neg h, hcut]
      intro e
      have e1 := congrArg List.length e
      rw [List.length_take, List.length_nil] at e1
      have e2 : ns.length ≠ 0 := fun z => h (List.eq_nil_of_length_eq_zero z)
      omega
  have hrl : rest.length ≤ 63 := by
    rw [hr]; unfold cut; rw [List.length_take, List.length_drop]; omega
  have hlen : rest ≠ [] → c0.length = top := by
    intro h
    have h1 : top < ns.length := by
      apply Decidable.byContradiction
      intro h1
      apply h
      rw [hr]
      unfold cut
      rw [HT.sIx_nat, show min top ns.length = ns.length by omega, List.drop_length, List.take_nil]
    have h2 : ns ≠ [] := fun e => by rw [e] at h1; simp at h1
    rw [hc0, if_neg h2, hcut, List.length_take]
    omega
  have first : oOr (eB1 lstD (.ev (eSl (slS K) (.sl 0) pNone (pInt (eVar 1))))) (oLst [(eC (.int 0))]) [.val (.scr K ns), .val (.int top), .un, .un, .un, .un] U = .ok (.lst (c0.map D.int)) [.val (.scr K ns), .val (.int top), .un, .un, .un, .un] U := by
    by_cases h : ns = []
    · subst h
      rw [hc0]
      simp [cut]
    · have hne : (cut ns none (some (top : Int))).map D.int ≠ [] := by
        rw [if_neg h] at hc0
        rw [← hc0]
        simp [hc]
      have hk := KOrO_ne (oLst [(eC (.int 0))]) _ hne
      rw [hc0, if_neg h]
      simp [hk]
  obtain ⟨ρ', U', e, cs, r3, r4, r5, rfl, hl, rfl⟩ := for_inv (tg := .tp [3, 4]) (b := sSeq (sSet 5 (eBin modI (.ev (eB1 intD (.sl 3))) (.sl 1))) (sIx 2 (eVar 5) (eBin addA (.ev (eIx (.sl 2) (.sl 5))) (.ev (eBin mulA (.sl 4) (.ev (eBin addA (.sl 3) (.ev (eC (.int 2)))))))))) (ds := enD 0 (rest.map D.int)) (fun p : Int × Nat => D.tup [.int (p.2 : Int), .int p.1])
    (fun j ρ V => ∃ cs r3 r4 r5, ρ = [.val (.scr K ns), .val (.int top), .own (.lst (cs.map D.int)), r3, r4, r5] ∧ cs.length = c0.length ∧ V = U) (rest.zipIdx 0) (enD_map D.int rest 0)
    (ρ := [.val (.scr K ns), .val (.int top), .own (.lst (c0.map D.int)), .un, .un, .un]) (U := U) ⟨c0, .un, .un, .un, rfl, rfl, rfl⟩ (fun j x ρ V hj ⟨cs, r3, r4, r5, e, hl, eU⟩ => by
      subst e; subst eU
      obtain ⟨hj1, hj2⟩ := List.getElem?_eq_some_iff.mp hj
      have hj1 : j < rest.length := by simpa using hj1
      obtain ⟨v, i⟩ := x
      have hi : i = j := by
        have := congrArg Prod.snd hj2
        simp at this
        omega
      subst hi
      have hcl : cs.length = top := hl.trans (hlen fun z => by rw [z] at hj1; simp at hj1)
      have fm1 := Int.fmod_nonneg_of_pos (i : Int) (b := (top : Int)) (by omega)
      have fm2 := Int.fmod_lt_of_pos (i : Int) (b := (top : Int)) (by omega)
      obtain ⟨q, hq⟩ : ∃ q : Nat, (q : Int) = (i : Int).fmod top := ⟨((i : Int).fmod top).toNat, by omega⟩
      have hqc : q < cs.length := by omega
      have t0 : top ≠ 0 := by omega
      have cm : CMul v ((i : Int) + 2) := .inr (by omega)
      have hp := fun w => putIx_nat (xs := cs.map D.int) (k := q) (by simpa using hqc) (.int w)
      refine ⟨[.val (.scr K ns), .val (.int top), .own (.lst (cs.map D.int)), .val (.int i), .val (.int v), r5], [.val (.scr K ns), .val (.int top), .own (.lst ((cs.set q (cs[q] + v * ((i : Int) + 2))).map D.int)), .val (.int i), .val (.int v), .val (.int q)], V, by simp, ?_, _, _, _, _, rfl, by rw [List.length_set]; exact hl, rfl⟩
      simp [t0, ← hq, mulA_int cm, hqc, hp, List.map_set])
  refine ⟨cs, fun z => hc (List.eq_nil_of_length_eq_zero (by rw [← hl, z]; rfl)), ?_⟩
  have h63 : ((63 : Nat) : Int) = 63 := rfl
  unfold m_l_cells b_l_cells
  rw [mkFn_ap]
  simp only [List.map_cons, List.map_nil, List.length_cons, List.length_nil, sSeq_ap, sSetO_ap]
  rw [show ([Sl.val (D.scr K ns), Sl.val (D.int top)] ++ List.replicate (6 - (0 + 1 + 1)) Sl.un : Rho) = [.val (.scr K ns), .val (.int top), .un, .un, .un, .un] from rfl, first]
  simp [← hr, e]
def b_l_box : S :=
  (sSeq (sSet 2 (eIf (tOf (eBin ltI (.sl 1) (.ev (eB1 lenA (.sl 0))))) (eIx (.sl 0) (.sl 1)) (eC (.int 0))))
  (sRet (oLst [(eBin mulA (.ev (eB1 absD (.sl 2))) (.ev (eB1 intD (.ev (eBin geI (.ev (eB1 absD (.sl 2))) (.ev (eBin powI (.ev (eC (.int 10))) (.ev (eC (.int 18)))))))))), (eBin addA (.ev (eBin addA (.ev (eBin modI (.ev (eB1 intD (.sl 2))) (.ev (eC (.int 2305843009213693951))))) (.ev (eBin mulA (.ev (eC (.int 39373))) (.sl 1))))) (.ev (eC (.int 3174011)))), (eC (.int 0))])))
def m_l_box : Fn := mkFn 3 b_l_box

theorem box_ok (cs : List Int) (k : Nat) (U : Urn) : ∃ a b : Int, 0 ≤ a ∧ m_l_box [.lst (cs.map D.int), .int k] U = .ok (.lst [.int a, .int b, .int 0]) U := by
  obtain ⟨c, hc⟩ : ∃ c : Int, c = if k < cs.length then cs[k]?.getD 0 else 0 := ⟨_, rfl⟩
  obtain ⟨ab, hab⟩ : ∃ ab : Int, ab = if c < 0 then -c else c := ⟨_, rfl⟩
  have h1 : 0 ≤ ab := by rw [hab]; split <;> omega
  have first : eIf (tOf (eBin ltI (.sl 1) (.ev (eB1 lenA (.sl 0))))) (eIx (.sl 0) (.sl 1)) (eC (.int 0)) [.val (.lst (cs.map D.int)), .val (.int k), .un] U = .ok (.int c) [.val (.lst (cs.map D.int)), .val (.int k), .un] U := by
    by_cases h : k < cs.length
    · rw [hc]; simp [h]
    · rw [hc]; simp [h]
  have hp : powI (.int 10) (.int 18) = some (.int (10 ^ 18)) := by
    unfold powI
    rw [iiD_int, if_pos ⟨by decide, by decide, by decide⟩]
    rfl
  have hi : ∀ b : Bool, intD (.bl b) = some (.int (if b then 1 else 0)) := fun _ => rfl
  have ha : absD (.int c) = some (.int ab) := by rw [hab]; rfl
  obtain ⟨z, hz⟩ : ∃ z : Int, z = if (10 ^ 18 : Int) ≤ ab then 1 else 0 := ⟨_, rfl⟩
  have hz2 : (if decide ((10 ^ 18 : Int) ≤ ab) = true then (1 : Int) else 0) = z := by rw [hz]; simp
  have z0 : 0 ≤ z ∧ z ≤ 1 := by rw [hz]; split <;> omega
  have cm1 : CMul ab z := .inr (by omega)
  have cm2 : CMul 39373 (k : Int) := .inl (by decide)
  refine ⟨ab * z, c.fmod 2305843009213693951 + 39373 * k + 3174011, Int.mul_nonneg h1 z0.1, ?_⟩
  unfold m_l_box b_l_box
  rw [mkFn_ap]
  simp only [List.map_cons, List.map_nil, List.length_cons, List.length_nil, sSeq_ap, sSet_ap]
  rw [show ([Sl.val (D.lst (cs.map D.int)), Sl.val (D.int k)] ++ List.replicate (3 - (0 + 1 + 1)) Sl.un : Rho) = [.val (.lst (cs.map D.int)), .val (.int k), .un] from rfl, first]
  have e1 : eBin mulA (.ev (eB1 absD (.sl 2))) (.ev (eB1 intD (.ev (eBin geI (.ev (eB1 absD (.sl 2))) (.ev (eBin powI (.ev (eC (.int 10))) (.ev (eC (.int 18))))))))) [.val (.lst (cs.map D.int)), .val (.int k), .val (.int c)] U = .ok (.int (ab * z)) [.val (.lst (cs.map D.int)), .val (.int k), .val (.int c)] U := by
    have hg : geI (.int ab) (.int (10 ^ 18)) = some (.bl (decide ((10 ^ 18 : Int) ≤ ab))) := rfl
    rw [eBin_ee, eB1_sl, look_ap]
    show ((kL1 absD (some (.int c)) _ U).bind _) = _
    rw [kL1_some, ha, kO_some, R.bind_ok, K2e_ap, eB1_ev, eBin_ee, eB1_sl, look_ap]
    show (((((kL1 absD (some (.int c)) _ U).bind _)).bind _).bind _) = _
    rw [kL1_some, ha, kO_some, R.bind_ok, K2e_ap, eBin_ee, eC_ap, R.bind_ok, K2e_ap, eC_ap, R.bind_ok, K2b_ap, hp, kO_some, R.bind_ok, K2b_ap, hg, kO_some, R.bind_ok, K1_ap, hi, kO_some, R.bind_ok, K2b_ap, hz2, mulA_int cm1, kO_some]
  simp [e1, mulA_int cm2]
end S1
end VL

set_option maxRecDepth 100000
set_option maxHeartbeats 4000000
namespace K11
open PySem PySem.Spec PyProof.Rows L2 VL
def topS (i : Nat) : Stmt := PySem.Challenge.pw_placehues_k11_whole_histories_played.main.body.getD i (.Pass ⟨0, 0, 0, 0⟩)
abbrev s_is_number : Stmt := topS 4
theorem sc_is_number : FnScope ["thing"] ["thing"] (defScope s_is_number) := ⟨rfl, rfl, rfl, by decide +kernel, rfl, by decide +kernel, by decide +kernel⟩
def b_is_number : S :=
  (sRet (eAnd (eB1 (isiD [.int]) (.sl 0)) (eNot (eB1 (isiD [.bool]) (.sl 0)))))
def m_is_number : Fn := mkFn 1 b_is_number
theorem ok_is_number {P : Program} {w : World} {K : PySem.W.Frag} {mg : Str → Option Value} {base : Heap} (T : Bi mg) (h : HF K mg "is_number" ["thing"] s_is_number) : FOk P w K mg base 1 "is_number" ["thing"] m_is_number :=
  (fok (k := 0) (m := b_is_number) h sc_is_number fun f cdv A outer hp H E B => (by exact (cs_one (cs_ret (c_and (c_isi (T := .int) (by rfl) T.isinstance (s 0) (ty_nm (by rfl) T.int (by decide +kernel))) (c_one (c_not (c_isi (T := .bool) (by rfl) T.isinstance (s 0) (ty_nm (by rfl) T.bool (by decide +kernel))))))))) :)
abbrev s_is_tuple_of : Stmt := topS 5
theorem sc_is_tuple_of : FnScope ["thing", "many"] ["thing", "many"] (defScope s_is_tuple_of) := ⟨rfl, rfl, rfl, by decide +kernel, rfl, by decide +kernel, by decide +kernel⟩
def b_is_tuple_of : S :=
  (sRet (eAnd (eB1 (isiD [.tuple]) (.sl 0)) (eBin eqD (.ev (eB1 lenA (.sl 0))) (.sl 1))))
def m_is_tuple_of : Fn := mkFn 2 b_is_tuple_of
theorem ok_is_tuple_of {P : Program} {w : World} {K : PySem.W.Frag} {mg : Str → Option Value} {base : Heap} (T : Bi mg) (h : HF K mg "is_tuple_of" ["thing", "many"] s_is_tuple_of) : FOk P w K mg base 1 "is_tuple_of" ["thing", "many"] m_is_tuple_of :=
  (fok (k := 0) (m := b_is_tuple_of) h sc_is_tuple_of fun f cdv A outer hp H E B => (by exact (cs_one (cs_ret (c_and (c_isi (T := .tuple) (by rfl) T.isinstance (s 0) (ty_nm (by rfl) T.tuple (by decide +kernel))) (c_one (c_cmp (ok_eq B.gd) (cop_ev (c_b1 len_okA (by rfl) T.len PySem.boot_len (s 0))) (s 1) (nomark _))))))) :)
abbrev s_is_below : Stmt := topS 7
theorem sc_is_below : FnScope ["thing", "many"] ["thing", "many"] (defScope s_is_below) := ⟨rfl, rfl, rfl, by decide +kernel, rfl, by decide +kernel, by decide +kernel⟩
def b_is_below : S :=
  (sRet (eAnd (eCall m_is_number [(eVar 0)]) (eChain leI ltI (eC (.int 0)) (eVar 0) (eVar 1))))
def m_is_below : Fn := mkFn 2 b_is_below
theorem ok_is_below {P : Program} {w : World} {K : PySem.W.Frag} {mg : Str → Option Value} {base : Heap} (T : Bi mg) (h : HF K mg "is_below" ["thing", "many"] s_is_below) (h_is_number : FOk P w K mg base 1 "is_number" ["thing"] m_is_number) : FOk P w K mg base 2 "is_below" ["thing", "many"] m_is_below :=
  (fok (k := 1) (m := b_is_below) h sc_is_below fun f cdv A outer hp H E B => (by exact (cs_one (cs_ret (c_and (c_call h_is_number (B.room.mono (by decide)) B.pas (by rfl) (ca_cons (v 0) ca_nil)) (c_one (c_chain ok_le ok_lt c_int (v 0) (v 1))))))) :)
abbrev s_is_map : Stmt := topS 8
theorem sc_is_map : FnScope ["hues", "thing", "own", "letter"] ["hues", "thing"] (defScope s_is_map) := ⟨rfl, rfl, rfl, by decide +kernel, rfl, by decide +kernel, by decide +kernel⟩
def b_is_map : S :=
  (sSeq (sIf (tOrM (tNotM (tOf (eCall m_is_tuple_of [(eVar 1), (eB1 lenA (.sl 0))]))) (tNotM (tOf (eB1 allD (.ev (oLc (iSeq (eVar 1)) (.nm 2) [2] tYesM (eCall m_is_below [(eVar 2), (eB1 lenA (.sl 0))]))))))) (sRet (eC (.bl false))) sNx)
  (sRet (eB1 allD (.ev (oLc (iZip (eVar 1) (eVar 0)) (.tp [2, 3]) [2, 3] tYesM (eBin eqD (.ev (eIx (.sl 0) (.sl 2))) (.sl 3)))))))
def m_is_map : Fn := mkFn 4 b_is_map
theorem ok_is_map {P : Program} {w : World} {K : PySem.W.Frag} {mg : Str → Option Value} {base : Heap} (T : Bi mg) (h : HF K mg "is_map" ["hues", "thing"] s_is_map) (h_is_tuple_of : FOk P w K mg base 1 "is_tuple_of" ["thing", "many"] m_is_tuple_of) (h_is_below : FOk P w K mg base 2 "is_below" ["thing", "many"] m_is_below) : FOk P w K mg base 3 "is_map" ["hues", "thing"] m_is_map :=
  (fok (k := 2) (m := b_is_map) h sc_is_map fun f cdv A outer hp H E B => (by exact (cs_cons (cs_if (CW.ct (cw_or (ct_not (ct_val (c_call h_is_tuple_of (B.room.mono (by decide)) B.pas (by rfl) (ca_cons (v 1) (ca_cons (c_b1 len_okA (by rfl) T.len PySem.boot_len (s 0)) ca_nil))))) (cw_or1 (ct_not (ct_val (c_b1 (all_ok B.gd) (by rfl) T.all (by decide +kernel) (cop_ev (CO.ce (c_lc (own := ([("own", 2)])) B.gd (ci_seq (v 1)) (blkOk_by (N := ["hues", "thing", "own", "letter"]) (sc := defScope s_is_map) (by decide +kernel)) (fun _ _ _ _ _ => (nm 2 B.gd.blk)) (fun _ _ _ _ _ => cts_nil) (fun _ _ _ _ _ => (c_call h_is_below (B.room.mono (by decide)) passL (by rfl) (ca_cons (v 2) (ca_cons (c_b1 len_okA (by rfl) T.len PySem.boot_len (s 0)) ca_nil))))))))))))) (cs_one (cs_ret c_bl)) cs_nil)
  (cs_one (cs_ret (c_b1 (all_ok B.gd) (by rfl) T.all (by decide +kernel) (cop_ev (CO.ce (c_lc (own := ([("own", 2), ("letter", 3)])) B.gd (ci_zip (by rfl) T.zip (ca_cons (v 1) (ca_cons (v 0) ca_nil))) (blkOk_by (N := ["hues", "thing", "own", "letter"]) (sc := defScope s_is_map) (by decide +kernel)) (fun _ _ _ _ _ => (cg_tp B.gd.blk (nmc 2 B.gd.blk (nmc 3 B.gd.blk cgs_nil)))) (fun _ _ _ _ _ => cts_nil) (fun _ _ _ _ _ => (c_cmp (ok_eq B.gd.blk) (cop_ev (c_ix B.gd.blk (s 0) (s 2))) (s 3) (nomark _))))))))))) :)
abbrev s_is_row : Stmt := topS 9
theorem sc_is_row : FnScope ["flags", "hues", "letter", "thing"] ["flags", "hues", "letter", "thing"] (defScope s_is_row) := ⟨rfl, rfl, rfl, by decide +kernel, rfl, by decide +kernel, by decide +kernel⟩
def b_is_row : S :=
  (sSeq (sIf (tOrM (tNotM (tOf (eCall m_is_tuple_of [(eVar 3), (eC (.int 4))]))) (tOrM (tNotM (tOf (eCall m_is_below [(eIx (.sl 3) (.ev (eC (.int 0)))), (eVar 0)]))) (tNotM (tOf (eCall m_is_below [(eIx (.sl 3) (.ev (eC (.int 1)))), (eB1 lenA (.sl 1))]))))) (sRet (eC (.bl false))) sNx)
  (sRet (eAnd (eBin eqD (.ev (eIx (.sl 1) (.ev (eIx (.sl 3) (.ev (eC (.int 1))))))) (.sl 2)) (eAnd (eCall m_is_map [(eVar 1), (eIx (.sl 3) (.ev (eC (.int 2))))]) (eCall m_is_map [(eVar 1), (eIx (.sl 3) (.ev (eC (.int 3))))])))))
def m_is_row : Fn := mkFn 4 b_is_row
theorem ok_is_row {P : Program} {w : World} {K : PySem.W.Frag} {mg : Str → Option Value} {base : Heap} (T : Bi mg) (h : HF K mg "is_row" ["flags", "hues", "letter", "thing"] s_is_row) (h_is_map : FOk P w K mg base 3 "is_map" ["hues", "thing"] m_is_map) (h_is_tuple_of : FOk P w K mg base 1 "is_tuple_of" ["thing", "many"] m_is_tuple_of) (h_is_below : FOk P w K mg base 2 "is_below" ["thing", "many"] m_is_below) : FOk P w K mg base 4 "is_row" ["flags", "hues", "letter", "thing"] m_is_row :=
  (fok (k := 3) (m := b_is_row) h sc_is_row fun f cdv A outer hp H E B => (by exact (cs_cons (cs_if (CW.ct (cw_or (ct_not (ct_val (c_call h_is_tuple_of (B.room.mono (by decide)) B.pas (by rfl) (ca_cons (v 3) (ca_cons c_int ca_nil))))) (cw_or (ct_not (ct_val (c_call h_is_below (B.room.mono (by decide)) B.pas (by rfl) (ca_cons (c_ix B.gd (s 3) (cop_ev c_int)) (ca_cons (v 0) ca_nil))))) (cw_or1 (ct_not (ct_val (c_call h_is_below (B.room.mono (by decide)) B.pas (by rfl) (ca_cons (c_ix B.gd (s 3) (cop_ev c_int)) (ca_cons (c_b1 len_okA (by rfl) T.len PySem.boot_len (s 1)) ca_nil))))))))) (cs_one (cs_ret c_bl)) cs_nil)
  (cs_one (cs_ret (c_and (c_cmp (ok_eq B.gd) (cop_ev (c_ix B.gd (s 1) (cop_ev (c_ix B.gd (s 3) (cop_ev c_int))))) (s 2) (nomark _)) (c_and (c_call h_is_map (B.room.mono (by decide)) B.pas (by rfl) (ca_cons (v 1) (ca_cons (c_ix B.gd (s 3) (cop_ev c_int)) ca_nil))) (c_one (c_call h_is_map (B.room.mono (by decide)) B.pas (by rfl) (ca_cons (v 1) (ca_cons (c_ix B.gd (s 3) (cop_ev c_int)) ca_nil)))))))))) :)
abbrev s_is_of_tuples : Stmt := topS 10
theorem sc_is_of_tuples : FnScope ["thing", "many", "own"] ["thing", "many"] (defScope s_is_of_tuples) := ⟨rfl, rfl, rfl, by decide +kernel, rfl, by decide +kernel, by decide +kernel⟩
def b_is_of_tuples : S :=
  (sRet (eAnd (eCall m_is_tuple_of [(eVar 0), (eVar 1)]) (eB1 allD (.ev (oLc (iSeq (eVar 0)) (.nm 2) [2] tYesM (eB1 (isiD [.tuple]) (.sl 2)))))))
def m_is_of_tuples : Fn := mkFn 3 b_is_of_tuples
theorem ok_is_of_tuples {P : Program} {w : World} {K : PySem.W.Frag} {mg : Str → Option Value} {base : Heap} (T : Bi mg) (h : HF K mg "is_of_tuples" ["thing", "many"] s_is_of_tuples) (h_is_tuple_of : FOk P w K mg base 1 "is_tuple_of" ["thing", "many"] m_is_tuple_of) : FOk P w K mg base 2 "is_of_tuples" ["thing", "many"] m_is_of_tuples :=
  (fok (k := 1) (m := b_is_of_tuples) h sc_is_of_tuples fun f cdv A outer hp H E B => (by exact (cs_one (cs_ret (c_and (c_call h_is_tuple_of (B.room.mono (by decide)) B.pas (by rfl) (ca_cons (v 0) (ca_cons (v 1) ca_nil))) (c_one (c_b1 (all_ok B.gd) (by rfl) T.all (by decide +kernel) (cop_ev (CO.ce (c_lc (own := ([("own", 2)])) B.gd (ci_seq (v 0)) (blkOk_by (N := ["thing", "many", "own"]) (sc := defScope s_is_of_tuples) (by decide +kernel)) (fun _ _ _ _ _ => (nm 2 B.gd.blk)) (fun _ _ _ _ _ => cts_nil) (fun _ _ _ _ _ => (c_isi (T := .tuple) (by rfl) T.isinstance (s 2) (ty_nm (by rfl) T.tuple (by decide +kernel))))))))))))) :)
abbrev s_letters_told : Stmt := topS 11
theorem sc_letters_told : FnScope ["rows"] ["rows"] (defScope s_letters_told) := ⟨rfl, rfl, rfl, by decide +kernel, rfl, by decide +kernel, by decide +kernel⟩
def b_letters_told : S :=
  (sSeq (sIf (tOrM (tNotM (tOf (eB1 (isiD [.tuple]) (.sl 0)))) (tOrM (tOf (eBin eqD (.sl 0) (.ev (eTup [])))) (tOrM (tNotM (tOf (eB1 (isiD [.tuple]) (.ev (eIx (.sl 0) (.ev (eC (.int 0)))))))) (tOf (eBin eqD (.ev (eIx (.sl 0) (.ev (eC (.int 0))))) (.ev (eTup []))))))) (sRet (eC .non)) sNx)
  (sRet (eIf (tOf (eB1 (isiD [.tuple]) (.ev (eIx (.ev (eIx (.sl 0) (.ev (eC (.int 0))))) (.ev (eC (.int 0))))))) (eBin subI (.ev (eB1 lenA (.ev (eIx (.ev (eIx (.sl 0) (.ev (eC (.int 0))))) (.ev (eC (.int 0))))))) (.ev (eC (.int 1)))) (eC .non))))
def m_letters_told : Fn := mkFn 1 b_letters_told
theorem ok_letters_told {P : Program} {w : World} {K : PySem.W.Frag} {mg : Str → Option Value} {base : Heap} (T : Bi mg) (h : HF K mg "letters_told" ["rows"] s_letters_told) : FOk P w K mg base 1 "letters_told" ["rows"] m_letters_told :=
  (fok (k := 0) (m := b_letters_told) h sc_letters_told fun f cdv A outer hp H E B => (by exact (cs_cons (cs_if (CW.ct (cw_or (ct_not (ct_val (c_isi (T := .tuple) (by rfl) T.isinstance (s 0) (ty_nm (by rfl) T.tuple (by decide +kernel))))) (cw_or (ct_cmp (ok_eq B.gd) (s 0) (cop_ev (c_tup ca_nil)) (nomark _)) (cw_or (ct_not (ct_val (c_isi (T := .tuple) (by rfl) T.isinstance (cop_ev (c_ix B.gd (s 0) (cop_ev c_int))) (ty_nm (by rfl) T.tuple (by decide +kernel))))) (cw_or1 (ct_cmp (ok_eq B.gd) (cop_ev (c_ix B.gd (s 0) (cop_ev c_int))) (cop_ev (c_tup ca_nil)) (nomark _))))))) (cs_one (cs_ret c_non)) cs_nil)
  (cs_one (cs_ret (c_if (ct_val (c_isi (T := .tuple) (by rfl) T.isinstance (cop_ev (c_ix B.gd (cop_ev (c_ix B.gd (s 0) (cop_ev c_int))) (cop_ev c_int))) (ty_nm (by rfl) T.tuple (by decide +kernel)))) (c_bin ok_sub (cop_ev (c_b1 len_okA (by rfl) T.len PySem.boot_len (cop_ev (c_ix B.gd (cop_ev (c_ix B.gd (s 0) (cop_ev c_int))) (cop_ev c_int))))) (cop_ev c_int)) c_non))))) :)
abbrev s_is_book : Stmt := topS 12
theorem sc_is_book : FnScope ["thing", "answers", "hues", "begin", "rows", "letters", "lines", "line", "own", "letter", "row"] ["thing"] (defScope s_is_book) := ⟨rfl, rfl, rfl, by decide +kernel, rfl, by decide +kernel, by decide +kernel⟩
def b_is_book : S :=
  (sSeq (sIf (tOrM (tNotM (tOf (eCall m_is_tuple_of [(eVar 0), (eC (.int 4))]))) (tNotM (tOf (eB1 allD (.ev (oLc (iSeq (eVar 0)) (.nm 8) [8] tYesM (eAnd (eB1 (isiD [.tuple]) (.sl 8)) (eBin neD (.sl 8) (.ev (eTup [])))))))))) (sRet (eC (.bl false))) sNx)
  (sSeq (sUnp [1, 2, 3, 4] (eVar 0))
  (sSeq (sSet 5 (eCall m_letters_told [(eVar 4)]))
  (sSeq (sIf (tOrM (tOf (eBin isND (.sl 5) (.ev (eC .non)))) (tOrM (tOf (eBin ltI (.sl 5) (.ev (eC (.int 1))))) (tNotM (tOf (eB1 allD (.ev (oLc (iSeq (eVar 1)) (.nm 8) [8] tYesM (eB1 (isiD [.bool]) (.sl 8))))))))) (sRet (eC (.bl false))) sNx)
  (sSeq (sIf (tOrM (tNotM (tOf (eB1 allD (.ev (oLc (iSeq (eVar 2)) (.nm 8) [8] tYesM (eCall m_is_below [(eVar 8), (eBin addA (.sl 5) (.ev (eC (.int 1))))])))))) (tNotM (tOf (eCall m_is_tuple_of [(eVar 3), (eC (.int 2))])))) (sRet (eC (.bl false))) sNx)
  (sSeq (sIf (tOrM (tNotM (tOf (eCall m_is_below [(eIx (.sl 3) (.ev (eC (.int 0)))), (eB1 lenA (.sl 1))]))) (tOrM (tNotM (tOf (eCall m_is_below [(eIx (.sl 3) (.ev (eC (.int 1)))), (eB1 lenA (.sl 2))]))) (tOf (eBin neD (.ev (eIx (.sl 2) (.ev (eIx (.sl 3) (.ev (eC (.int 1))))))) (.ev (eC (.int 0))))))) (sRet (eC (.bl false))) sNx)
  (sSeq (sIf (tOrM (tNotM (tOf (eCall m_is_of_tuples [(eVar 4), (eB1 lenA (.sl 1))]))) (tNotM (tOf (eB1 allD (.ev (oLc (iSeq (eVar 4)) (.nm 8) [8] tYesM (eCall m_is_of_tuples [(eVar 8), (eB1 lenA (.sl 2))]))))))) (sRet (eC (.bl false))) sNx)
  (sSeq (sFor (iSeq (eVar 4)) (.nm 6) (sFor (iSeq (eVar 6)) (.nm 7) (sSeq (sIf (tOf (eBin neD (.ev (eB1 lenA (.sl 7))) (.ev (eBin addA (.sl 5) (.ev (eC (.int 1))))))) (sRet (eC (.bl false))) sNx)
  (sIf (tNotM (tOf (eB1 allD (.ev (oLc (iEn (eVar 7)) (.tp [9, 10]) [9, 10] tYesM (eCall m_is_row [(eB1 lenA (.sl 1)), (eVar 2), (eVar 9), (eVar 10)])))))) (sRet (eC (.bl false))) sNx))))
  (sRet (eC (.bl true)))))))))))
def m_is_book : Fn := mkFn 11 b_is_book
theorem ok_is_book {P : Program} {w : World} {K : PySem.W.Frag} {mg : Str → Option Value} {base : Heap} (T : Bi mg) (h : HF K mg "is_book" ["thing"] s_is_book) (h_letters_told : FOk P w K mg base 1 "letters_told" ["rows"] m_letters_told) (h_is_tuple_of : FOk P w K mg base 1 "is_tuple_of" ["thing", "many"] m_is_tuple_of) (h_is_below : FOk P w K mg base 2 "is_below" ["thing", "many"] m_is_below) (h_is_of_tuples : FOk P w K mg base 2 "is_of_tuples" ["thing", "many"] m_is_of_tuples) (h_is_row : FOk P w K mg base 4 "is_row" ["flags", "hues", "letter", "thing"] m_is_row) : FOk P w K mg base 5 "is_book" ["thing"] m_is_book :=
  (fok (k := 4) (m := b_is_book) h sc_is_book fun f cdv A outer hp H E B => (by exact (cs_cons (cs_if (CW.ct (cw_or (ct_not (ct_val (c_call h_is_tuple_of (B.room.mono (by decide)) B.pas (by rfl) (ca_cons (v 0) (ca_cons c_int ca_nil))))) (cw_or1 (ct_not (ct_val (c_b1 (all_ok B.gd) (by rfl) T.all (by decide +kernel) (cop_ev (CO.ce (c_lc (own := ([("own", 8)])) B.gd (ci_seq (v 0)) (blkOk_by (N := ["thing", "answers", "hues", "begin", "rows", "letters", "lines", "line", "own", "letter", "row"]) (sc := defScope s_is_book) (by decide +kernel)) (fun _ _ _ _ _ => (nm 8 B.gd.blk)) (fun _ _ _ _ _ => cts_nil) (fun _ _ _ _ _ => (c_and (c_isi (T := .tuple) (by rfl) T.isinstance (s 8) (ty_nm (by rfl) T.tuple (by decide +kernel))) (c_one (c_cmp (ok_ne B.gd.blk) (s 8) (cop_ev (c_tup ca_nil)) (nomark _)))))))))))))) (cs_one (cs_ret c_bl)) cs_nil)
  (cs_cons (cs_unp B.gd (nmc 1 B.gd (nmc 2 B.gd (nmc 3 B.gd (nmc 4 B.gd cgs_nil)))) (v 0))
  (cs_cons (set 5 B.gd (c_call h_letters_told (B.room.mono (by decide)) B.pas (by rfl) (ca_cons (v 4) ca_nil)))
  (cs_cons (cs_if (CW.ct (cw_or (ct_cmp ok_isN (s 5) (cop_ev c_non) (nomark _)) (cw_or (ct_cmp ok_lt (s 5) (cop_ev c_int) (nomark _)) (cw_or1 (ct_not (ct_val (c_b1 (all_ok B.gd) (by rfl) T.all (by decide +kernel) (cop_ev (CO.ce (c_lc (own := ([("own", 8)])) B.gd (ci_seq (v 1)) (blkOk_by (N := ["thing", "answers", "hues", "begin", "rows", "letters", "lines", "line", "own", "letter", "row"]) (sc := defScope s_is_book) (by decide +kernel)) (fun _ _ _ _ _ => (nm 8 B.gd.blk)) (fun _ _ _ _ _ => cts_nil) (fun _ _ _ _ _ => (c_isi (T := .bool) (by rfl) T.isinstance (s 8) (ty_nm (by rfl) T.bool (by decide +kernel)))))))))))))) (cs_one (cs_ret c_bl)) cs_nil)
  (cs_cons (cs_if (CW.ct (cw_or (ct_not (ct_val (c_b1 (all_ok B.gd) (by rfl) T.all (by decide +kernel) (cop_ev (CO.ce (c_lc (own := ([("own", 8)])) B.gd (ci_seq (v 2)) (blkOk_by (N := ["thing", "answers", "hues", "begin", "rows", "letters", "lines", "line", "own", "letter", "row"]) (sc := defScope s_is_book) (by decide +kernel)) (fun _ _ _ _ _ => (nm 8 B.gd.blk)) (fun _ _ _ _ _ => cts_nil) (fun _ _ _ _ _ => (c_call h_is_below (B.room.mono (by decide)) passL (by rfl) (ca_cons (v 8) (ca_cons (c_bin ok_addA (s 5) (cop_ev c_int)) ca_nil)))))))))) (cw_or1 (ct_not (ct_val (c_call h_is_tuple_of (B.room.mono (by decide)) B.pas (by rfl) (ca_cons (v 3) (ca_cons c_int ca_nil)))))))) (cs_one (cs_ret c_bl)) cs_nil)
  (cs_cons (cs_if (CW.ct (cw_or (ct_not (ct_val (c_call h_is_below (B.room.mono (by decide)) B.pas (by rfl) (ca_cons (c_ix B.gd (s 3) (cop_ev c_int)) (ca_cons (c_b1 len_okA (by rfl) T.len PySem.boot_len (s 1)) ca_nil))))) (cw_or (ct_not (ct_val (c_call h_is_below (B.room.mono (by decide)) B.pas (by rfl) (ca_cons (c_ix B.gd (s 3) (cop_ev c_int)) (ca_cons (c_b1 len_okA (by rfl) T.len PySem.boot_len (s 2)) ca_nil))))) (cw_or1 (ct_cmp (ok_ne B.gd) (cop_ev (c_ix B.gd (s 2) (cop_ev (c_ix B.gd (s 3) (cop_ev c_int))))) (cop_ev c_int) (nomark _)))))) (cs_one (cs_ret c_bl)) cs_nil)
  (cs_cons (cs_if (CW.ct (cw_or (ct_not (ct_val (c_call h_is_of_tuples (B.room.mono (by decide)) B.pas (by rfl) (ca_cons (v 4) (ca_cons (c_b1 len_okA (by rfl) T.len PySem.boot_len (s 1)) ca_nil))))) (cw_or1 (ct_not (ct_val (c_b1 (all_ok B.gd) (by rfl) T.all (by decide +kernel) (cop_ev (CO.ce (c_lc (own := ([("own", 8)])) B.gd (ci_seq (v 4)) (blkOk_by (N := ["thing", "answers", "hues", "begin", "rows", "letters", "lines", "line", "own", "letter", "row"]) (sc := defScope s_is_book) (by decide +kernel)) (fun _ _ _ _ _ => (nm 8 B.gd.blk)) (fun _ _ _ _ _ => cts_nil) (fun _ _ _ _ _ => (c_call h_is_of_tuples (B.room.mono (by decide)) passL (by rfl) (ca_cons (v 8) (ca_cons (c_b1 len_okA (by rfl) T.len PySem.boot_len (s 2)) ca_nil))))))))))))) (cs_one (cs_ret c_bl)) cs_nil)
  (cs_cons (cs_for B.gd B.own (ci_seq (v 4)) (nm 6 B.gd) (cs_one (cs_for B.gd B.own (ci_seq (v 6)) (nm 7 B.gd) (cs_cons (cs_if (ct_cmp (ok_ne B.gd) (cop_ev (c_b1 len_okA (by rfl) T.len PySem.boot_len (s 7))) (cop_ev (c_bin ok_addA (s 5) (cop_ev c_int))) (nomark _)) (cs_one (cs_ret c_bl)) cs_nil)
  (cs_one (cs_if (ct_not (ct_val (c_b1 (all_ok B.gd) (by rfl) T.all (by decide +kernel) (cop_ev (CO.ce (c_lc (own := ([("letter", 9), ("row", 10)])) B.gd (ci_enum (by rfl) T.enumerate (v 7)) (blkOk_by (N := ["thing", "answers", "hues", "begin", "rows", "letters", "lines", "line", "own", "letter", "row"]) (sc := defScope s_is_book) (by decide +kernel)) (fun _ _ _ _ _ => (cg_tp B.gd.blk (nmc 9 B.gd.blk (nmc 10 B.gd.blk cgs_nil)))) (fun _ _ _ _ _ => cts_nil) (fun _ _ _ _ _ => (c_call h_is_row (B.room.mono (by decide)) passL (by rfl) (ca_cons (c_b1 len_okA (by rfl) T.len PySem.boot_len (s 1)) (ca_cons (v 2) (ca_cons (v 9) (ca_cons (v 10) ca_nil)))))))))))) (cs_one (cs_ret c_bl)) cs_nil))))))
  (cs_one (cs_ret c_bl))))))))))) :)
abbrev s_is_stand : Stmt := topS 13
theorem sc_is_stand : FnScope ["book", "thing", "hue"] ["book", "thing"] (defScope s_is_stand) := ⟨rfl, rfl, rfl, by decide +kernel, rfl, by decide +kernel, by decide +kernel⟩
def b_is_stand : S :=
  (sSeq (sIf (tOrM (tNotM (tOf (eCall m_is_tuple_of [(eVar 1), (eC (.int 2))]))) (tNotM (tOf (eCall m_is_below [(eIx (.sl 1) (.ev (eC (.int 0)))), (eB1 lenA (.ev (eIx (.sl 0) (.ev (eC (.int 0))))))])))) (sRet (eC (.bl false))) sNx)
  (sSeq (sIf (tOrM (tNotM (tOf (eB1 (isiD [.tuple]) (.ev (eIx (.sl 1) (.ev (eC (.int 1)))))))) (tOf (eBin eqD (.ev (eIx (.sl 1) (.ev (eC (.int 1))))) (.ev (eTup []))))) (sRet (eC (.bl false))) sNx)
  (sRet (eB1 allD (.ev (oLc (iSeq (eIx (.sl 1) (.ev (eC (.int 1))))) (.nm 2) [2] tYesM (eCall m_is_below [(eVar 2), (eB1 lenA (.ev (eIx (.sl 0) (.ev (eC (.int 1))))))])))))))
def m_is_stand : Fn := mkFn 3 b_is_stand
theorem ok_is_stand {P : Program} {w : World} {K : PySem.W.Frag} {mg : Str → Option Value} {base : Heap} (T : Bi mg) (h : HF K mg "is_stand" ["book", "thing"] s_is_stand) (h_is_tuple_of : FOk P w K mg base 1 "is_tuple_of" ["thing", "many"] m_is_tuple_of) (h_is_below : FOk P w K mg base 2 "is_below" ["thing", "many"] m_is_below) : FOk P w K mg base 3 "is_stand" ["book", "thing"] m_is_stand :=
  (fok (k := 2) (m := b_is_stand) h sc_is_stand fun f cdv A outer hp H E B => (by exact (cs_cons (cs_if (CW.ct (cw_or (ct_not (ct_val (c_call h_is_tuple_of (B.room.mono (by decide)) B.pas (by rfl) (ca_cons (v 1) (ca_cons c_int ca_nil))))) (cw_or1 (ct_not (ct_val (c_call h_is_below (B.room.mono (by decide)) B.pas (by rfl) (ca_cons (c_ix B.gd (s 1) (cop_ev c_int)) (ca_cons (c_b1 len_okA (by rfl) T.len PySem.boot_len (cop_ev (c_ix B.gd (s 0) (cop_ev c_int)))) ca_nil)))))))) (cs_one (cs_ret c_bl)) cs_nil)
  (cs_cons (cs_if (CW.ct (cw_or (ct_not (ct_val (c_isi (T := .tuple) (by rfl) T.isinstance (cop_ev (c_ix B.gd (s 1) (cop_ev c_int))) (ty_nm (by rfl) T.tuple (by decide +kernel))))) (cw_or1 (ct_cmp (ok_eq B.gd) (cop_ev (c_ix B.gd (s 1) (cop_ev c_int))) (cop_ev (c_tup ca_nil)) (nomark _))))) (cs_one (cs_ret c_bl)) cs_nil)
  (cs_one (cs_ret (c_b1 (all_ok B.gd) (by rfl) T.all (by decide +kernel) (cop_ev (CO.ce (c_lc (own := ([("hue", 2)])) B.gd (ci_seq (c_ix B.gd (s 1) (cop_ev c_int))) (blkOk_by (N := ["book", "thing", "hue"]) (sc := defScope s_is_stand) (by decide +kernel)) (fun _ _ _ _ _ => (nm 2 B.gd.blk)) (fun _ _ _ _ _ => cts_nil) (fun _ _ _ _ _ => (c_call h_is_below (B.room.mono (by decide)) passL (by rfl) (ca_cons (v 2) (ca_cons (c_b1 len_okA (by rfl) T.len PySem.boot_len (cop_ev (c_ix B.gd.blk (s 0) (cop_ev c_int)))) ca_nil))))))))))))) :)
abbrev s_letters_of : Stmt := topS 14
theorem sc_letters_of : FnScope ["book"] ["book"] (defScope s_letters_of) := ⟨rfl, rfl, rfl, by decide +kernel, rfl, by decide +kernel, by decide +kernel⟩
def b_letters_of : S :=
  (sRet (eBin subI (.ev (eB1 lenA (.ev (eIx (.ev (eIx (.ev (eIx (.sl 0) (.ev (eC (.int 3))))) (.ev (eC (.int 0))))) (.ev (eC (.int 0))))))) (.ev (eC (.int 1)))))
def m_letters_of : Fn := mkFn 1 b_letters_of
theorem ok_letters_of {P : Program} {w : World} {K : PySem.W.Frag} {mg : Str → Option Value} {base : Heap} (T : Bi mg) (h : HF K mg "letters_of" ["book"] s_letters_of) : FOk P w K mg base 1 "letters_of" ["book"] m_letters_of :=
  (fok (k := 0) (m := b_letters_of) h sc_letters_of fun f cdv A outer hp H E B => (by exact (cs_one (cs_ret (c_bin ok_sub (cop_ev (c_b1 len_okA (by rfl) T.len PySem.boot_len (cop_ev (c_ix B.gd (cop_ev (c_ix B.gd (cop_ev (c_ix B.gd (s 0) (cop_ev c_int))) (cop_ev c_int))) (cop_ev c_int))))) (cop_ev c_int))))) :)
abbrev s_hues_for : Stmt := topS 15
theorem sc_hues_for : FnScope ["book", "letter", "hue", "own"] ["book", "letter"] (defScope s_hues_for) := ⟨rfl, rfl, rfl, by decide +kernel, rfl, by decide +kernel, by decide +kernel⟩
def b_hues_for : S :=
  (sSeq (sIf (tOf (eBin gtI (.sl 1) (.ev (eCall m_letters_of [(eVar 0)])))) (fun _ _ => .stk) sNx)
  (sRet (eB1 tupD (.ev (oLc (iEn (eIx (.sl 0) (.ev (eC (.int 1))))) (.tp [2, 3]) [2, 3] (tOf (eBin eqD (.sl 3) (.sl 1))) (eVar 2))))))
def m_hues_for : Fn := mkFn 4 b_hues_for
theorem ok_hues_for {P : Program} {w : World} {K : PySem.W.Frag} {mg : Str → Option Value} {base : Heap} (T : Bi mg) (h : HF K mg "hues_for" ["book", "letter"] s_hues_for) (h_letters_of : FOk P w K mg base 1 "letters_of" ["book"] m_letters_of) : FOk P w K mg base 2 "hues_for" ["book", "letter"] m_hues_for :=
  (fok (k := 1) (m := b_hues_for) h sc_hues_for fun f cdv A outer hp H E B => (by exact (cs_cons (cs_if (ct_cmp ok_gt (s 1) (cop_ev (c_call h_letters_of (B.room.mono (by decide)) B.pas (by rfl) (ca_cons (v 0) ca_nil))) (nomark _)) (cs_one cs_never) cs_nil)
  (cs_one (cs_ret (c_ty1 tuple_ok (by rfl) T.tuple (by decide +kernel) (cop_ev (CO.ce (c_lc (own := ([("hue", 2), ("own", 3)])) B.gd (ci_enum (by rfl) T.enumerate (c_ix B.gd (s 0) (cop_ev c_int))) (blkOk_by (N := ["book", "letter", "hue", "own"]) (sc := defScope s_hues_for) (by decide +kernel)) (fun _ _ _ _ _ => (cg_tp B.gd.blk (nmc 2 B.gd.blk (nmc 3 B.gd.blk cgs_nil)))) (fun _ _ _ _ _ => (cts_one (ct_cmp (ok_eq B.gd.blk) (s 3) (s 1) (nomark _)))) (fun _ _ _ _ _ => (v 2)))))))))) :)
abbrev s_begun : Stmt := topS 16
theorem sc_begun : FnScope ["book", "many"] ["book", "many"] (defScope s_begun) := ⟨rfl, rfl, rfl, by decide +kernel, rfl, by decide +kernel, by decide +kernel⟩
def b_begun : S :=
  (sRet (eTup [(eIx (.ev (eIx (.sl 0) (.ev (eC (.int 2))))) (.ev (eC (.int 0)))), (eBin mulA (.ev (eTup [(eIx (.ev (eIx (.sl 0) (.ev (eC (.int 2))))) (.ev (eC (.int 1))))])) (.sl 1))]))
def m_begun : Fn := mkFn 2 b_begun
theorem ok_begun {P : Program} {w : World} {K : PySem.W.Frag} {mg : Str → Option Value} {base : Heap} (T : Bi mg) (h : HF K mg "begun" ["book", "many"] s_begun) : FOk P w K mg base 1 "begun" ["book", "many"] m_begun :=
  (fok (k := 0) (m := b_begun) h sc_begun fun f cdv A outer hp H E B => (by exact (cs_one (cs_ret (c_tup (ca_cons (c_ix B.gd (cop_ev (c_ix B.gd (s 0) (cop_ev c_int))) (cop_ev c_int)) (ca_cons (c_bin ok_mulA (cop_ev (c_tup (ca_cons (c_ix B.gd (cop_ev (c_ix B.gd (s 0) (cop_ev c_int))) (cop_ev c_int)) ca_nil))) (s 1)) ca_nil)))))) :)
abbrev s_turned_to : Stmt := topS 17
theorem sc_turned_to : FnScope ["book", "stand", "change", "flag", "hues", "place", "letter", "later", "hue", "left", "right", "found", "own"] ["book", "stand", "change"] (defScope s_turned_to) := ⟨rfl, rfl, rfl, by decide +kernel, rfl, by decide +kernel, by decide +kernel⟩
def b_turned_to : S :=
  (sSeq (sUnp [3, 4] (eVar 1))
  (sSeq (sUnp [5, 6] (eVar 2))
  (sSeq (sUnp [7, 8, 9, 10] (eIx (.ev (eIx (.ev (eIx (.ev (eIx (.sl 0) (.ev (eC (.int 3))))) (.sl 3))) (.ev (eIx (.sl 4) (.sl 5))))) (.sl 6)))
  (sSeq (sSet 11 (eBin addA (.ev (eBin addA (.ev (oLc (iSeq (eSl slA (.sl 4) pNone (pInt (eVar 5)))) (.nm 12) [12] tYesM (eIx (.sl 9) (.sl 12)))) (.ev (oLst [(eVar 8)])))) (.ev (oLc (iSeq (eSl slA (.sl 4) (pInt (eBin addA (.sl 5) (.ev (eC (.int 1))))) pNone)) (.nm 12) [12] tYesM (eIx (.sl 10) (.sl 12))))))
  (sRet (eTup [(eVar 7), (eB1 tupD (.sl 11))]))))))
def m_turned_to : Fn := mkFn 13 b_turned_to
theorem ok_turned_to {P : Program} {w : World} {K : PySem.W.Frag} {mg : Str → Option Value} {base : Heap} (T : Bi mg) (h : HF K mg "turned_to" ["book", "stand", "change"] s_turned_to) : FOk P w K mg base 1 "turned_to" ["book", "stand", "change"] m_turned_to :=
  (fok (k := 0) (m := b_turned_to) h sc_turned_to fun f cdv A outer hp H E B => (by exact (cs_cons (cs_unp B.gd (nmc 3 B.gd (nmc 4 B.gd cgs_nil)) (v 1))
  (cs_cons (cs_unp B.gd (nmc 5 B.gd (nmc 6 B.gd cgs_nil)) (v 2))
  (cs_cons (cs_unp B.gd (nmc 7 B.gd (nmc 8 B.gd (nmc 9 B.gd (nmc 10 B.gd cgs_nil)))) (c_ix B.gd (cop_ev (c_ix B.gd (cop_ev (c_ix B.gd (cop_ev (c_ix B.gd (s 0) (cop_ev c_int))) (s 3))) (cop_ev (c_ix B.gd (s 4) (s 5))))) (s 6)))
  (cs_cons (set 11 B.gd (c_bin ok_addA (cop_ev (c_bin ok_addA (cop_ev (CO.ce (c_lc (own := ([("own", 12)])) B.gd (ci_seq (c_slA (s 4) cp_none (cp_int (v 5)))) (blkOk_by (N := ["book", "stand", "change", "flag", "hues", "place", "letter", "later", "hue", "left", "right", "found", "own"]) (sc := defScope s_turned_to) (by decide +kernel)) (fun _ _ _ _ _ => (nm 12 B.gd.blk)) (fun _ _ _ _ _ => cts_nil) (fun _ _ _ _ _ => (c_ix B.gd.blk (s 9) (s 12)))))) (cop_ev (CO.ce (c_lst (ca_cons (v 8) ca_nil)))))) (cop_ev (CO.ce (c_lc (own := ([("own", 12)])) B.gd (ci_seq (c_slA (s 4) (cp_int (c_bin ok_addA (s 5) (cop_ev c_int))) cp_none)) (blkOk_by (N := ["book", "stand", "change", "flag", "hues", "place", "letter", "later", "hue", "left", "right", "found", "own"]) (sc := defScope s_turned_to) (by decide +kernel)) (fun _ _ _ _ _ => (nm 12 B.gd.blk)) (fun _ _ _ _ _ => cts_nil) (fun _ _ _ _ _ => (c_ix B.gd.blk (s 10) (s 12))))))))
  (cs_one (cs_ret (c_tup (ca_cons (v 7) (ca_cons (c_ty1 tuple_ok (by rfl) T.tuple (by decide +kernel) (s 11)) ca_nil)))))))))) :)
abbrev s_turned : Stmt := topS 18
theorem sc_turned : FnScope ["book", "stand", "change"] ["book", "stand", "change"] (defScope s_turned) := ⟨rfl, rfl, rfl, by decide +kernel, rfl, by decide +kernel, by decide +kernel⟩
def b_turned : S :=
  (sSeq (sIf (tNotM (tOf (eChain leI ltI (eC (.int 0)) (eIx (.sl 2) (.ev (eC (.int 0)))) (eB1 lenA (.ev (eIx (.sl 1) (.ev (eC (.int 1))))))))) (fun _ _ => .stk) sNx)
  (sSeq (sIf (tOf (eBin gtI (.ev (eIx (.sl 2) (.ev (eC (.int 1))))) (.ev (eCall m_letters_of [(eVar 0)])))) (fun _ _ => .stk) sNx)
  (sRet (eCall m_turned_to [(eVar 0), (eVar 1), (eVar 2)]))))
def m_turned : Fn := mkFn 3 b_turned
theorem ok_turned {P : Program} {w : World} {K : PySem.W.Frag} {mg : Str → Option Value} {base : Heap} (T : Bi mg) (h : HF K mg "turned" ["book", "stand", "change"] s_turned) (h_turned_to : FOk P w K mg base 1 "turned_to" ["book", "stand", "change"] m_turned_to) (h_letters_of : FOk P w K mg base 1 "letters_of" ["book"] m_letters_of) : FOk P w K mg base 2 "turned" ["book", "stand", "change"] m_turned :=
  (fok (k := 1) (m := b_turned) h sc_turned fun f cdv A outer hp H E B => (by exact (cs_cons (cs_if (ct_not (ct_chain ok_le ok_lt c_int (c_ix B.gd (s 2) (cop_ev c_int)) (c_b1 len_okA (by rfl) T.len PySem.boot_len (cop_ev (c_ix B.gd (s 1) (cop_ev c_int)))))) (cs_one cs_never) cs_nil)
  (cs_cons (cs_if (ct_cmp ok_gt (cop_ev (c_ix B.gd (s 2) (cop_ev c_int))) (cop_ev (c_call h_letters_of (B.room.mono (by decide)) B.pas (by rfl) (ca_cons (v 0) ca_nil))) (nomark _)) (cs_one cs_never) cs_nil)
  (cs_one (cs_ret (c_call h_turned_to (B.room.mono (by decide)) B.pas (by rfl) (ca_cons (v 0) (ca_cons (v 1) (ca_cons (v 2) ca_nil))))))))) :)
abbrev s_stands_along : Stmt := topS 19
theorem sc_stands_along : FnScope ["book", "history", "found", "change", "_", "letter"] ["book", "history"] (defScope s_stands_along) := ⟨rfl, rfl, rfl, by decide +kernel, rfl, by decide +kernel, by decide +kernel⟩
def b_stands_along : S :=
  (sSeq (sIf (tNotM (tOf (eB1 allD (.ev (oLc (iSeq (eIx (.sl 1) (.ev (eC (.int 1))))) (.tp [4, 5]) [4, 5] tYesM (eBin leI (.sl 5) (.ev (eCall m_letters_of [(eVar 0)])))))))) (fun _ _ => .stk) sNx)
  (sSeq (sSetO 2 (oLst [(eCall m_begun [(eVar 0), (eIx (.sl 1) (.ev (eC (.int 0))))])]))
  (sSeq (sFor (iSeq (eIx (.sl 1) (.ev (eC (.int 1))))) (.nm 3) (sMut appD 2 (eCall m_turned_to [(eVar 0), (eIx (.sl 2) (.ev (eNeg (eC (.int 1))))), (eVar 3)])))
  (sRet (eVar 2)))))
def m_stands_along : Fn := mkFn 6 b_stands_along
theorem ok_stands_along {P : Program} {w : World} {K : PySem.W.Frag} {mg : Str → Option Value} {base : Heap} (T : Bi mg) (h : HF K mg "stands_along" ["book", "history"] s_stands_along) (h_begun : FOk P w K mg base 1 "begun" ["book", "many"] m_begun) (h_turned_to : FOk P w K mg base 1 "turned_to" ["book", "stand", "change"] m_turned_to) (h_letters_of : FOk P w K mg base 1 "letters_of" ["book"] m_letters_of) : FOk P w K mg base 2 "stands_along" ["book", "history"] m_stands_along :=
  (fok (k := 1) (m := b_stands_along) h sc_stands_along fun f cdv A outer hp H E B => (by exact (cs_cons (cs_if (ct_not (ct_val (c_b1 (all_ok B.gd) (by rfl) T.all (by decide +kernel) (cop_ev (CO.ce (c_lc (own := ([("_", 4), ("letter", 5)])) B.gd (ci_seq (c_ix B.gd (s 1) (cop_ev c_int))) (blkOk_by (N := ["book", "history", "found", "change", "_", "letter"]) (sc := defScope s_stands_along) (by decide +kernel)) (fun _ _ _ _ _ => (cg_tp B.gd.blk (nmc 4 B.gd.blk (nmc 5 B.gd.blk cgs_nil)))) (fun _ _ _ _ _ => cts_nil) (fun _ _ _ _ _ => (c_cmp ok_le (s 5) (cop_ev (c_call h_letters_of (B.room.mono (by decide)) passL (by rfl) (ca_cons (v 0) ca_nil))) (nomark _))))))))) (cs_one cs_never) cs_nil)
  (cs_cons (setO 2 B.gd (c_lst (ca_cons (c_call h_begun (B.room.mono (by decide)) B.pas (by rfl) (ca_cons (v 0) (ca_cons (c_ix B.gd (s 1) (cop_ev c_int)) ca_nil))) ca_nil)))
  (cs_cons (cs_for B.gd B.own (ci_seq (c_ix B.gd (s 1) (cop_ev c_int))) (nm 3 B.gd) (cs_one (app 2 B.gd (c_call h_turned_to (B.room.mono (by decide)) B.pas (by rfl) (ca_cons (v 0) (ca_cons (c_ix B.gd (s 2) (cop_ev (c_neg c_int))) (ca_cons (v 3) ca_nil)))))))
  (cs_one (cs_ret (v 2))))))) :)
abbrev s_stand_behind : Stmt := topS 20
theorem sc_stand_behind : FnScope ["book", "history"] ["book", "history"] (defScope s_stand_behind) := ⟨rfl, rfl, rfl, by decide +kernel, rfl, by decide +kernel, by decide +kernel⟩
def b_stand_behind : S :=
  (sRet (eIx (.ev (eCall m_stands_along [(eVar 0), (eVar 1)])) (.ev (eNeg (eC (.int 1))))))
def m_stand_behind : Fn := mkFn 2 b_stand_behind
theorem ok_stand_behind {P : Program} {w : World} {K : PySem.W.Frag} {mg : Str → Option Value} {base : Heap} (T : Bi mg) (h : HF K mg "stand_behind" ["book", "history"] s_stand_behind) (h_stands_along : FOk P w K mg base 2 "stands_along" ["book", "history"] m_stands_along) : FOk P w K mg base 3 "stand_behind" ["book", "history"] m_stand_behind :=
  (fok (k := 2) (m := b_stand_behind) h sc_stand_behind fun f cdv A outer hp H E B => (by exact (cs_one (cs_ret (c_ix B.gd (cop_ev (c_call h_stands_along (B.room.mono (by decide)) B.pas (by rfl) (ca_cons (v 0) (ca_cons (v 1) ca_nil)))) (cop_ev (c_neg c_int)))))) :)
abbrev s_answer : Stmt := topS 21
theorem sc_answer : FnScope ["book", "history"] ["book", "history"] (defScope s_answer) := ⟨rfl, rfl, rfl, by decide +kernel, rfl, by decide +kernel, by decide +kernel⟩
def b_answer : S :=
  (sRet (eIx (.ev (eIx (.sl 0) (.ev (eC (.int 0))))) (.ev (eIx (.ev (eCall m_stand_behind [(eVar 0), (eVar 1)])) (.ev (eC (.int 0)))))))
def m_answer : Fn := mkFn 2 b_answer
theorem ok_answer {P : Program} {w : World} {K : PySem.W.Frag} {mg : Str → Option Value} {base : Heap} (T : Bi mg) (h : HF K mg "answer" ["book", "history"] s_answer) (h_stand_behind : FOk P w K mg base 3 "stand_behind" ["book", "history"] m_stand_behind) : FOk P w K mg base 4 "answer" ["book", "history"] m_answer :=
  (fok (k := 3) (m := b_answer) h sc_answer fun f cdv A outer hp H E B => (by exact (cs_one (cs_ret (c_ix B.gd (cop_ev (c_ix B.gd (s 0) (cop_ev c_int))) (cop_ev (c_ix B.gd (cop_ev (c_call h_stand_behind (B.room.mono (by decide)) B.pas (by rfl) (ca_cons (v 0) (ca_cons (v 1) ca_nil)))) (cop_ev c_int))))))) :)
abbrev s_flags_along : Stmt := topS 22
theorem sc_flags_along : FnScope ["book", "history", "stand"] ["book", "history"] (defScope s_flags_along) := ⟨rfl, rfl, rfl, by decide +kernel, rfl, by decide +kernel, by decide +kernel⟩
def b_flags_along : S :=
  (sRet (eB1 tupD (.ev (oLc (iSeq (eCall m_stands_along [(eVar 0), (eVar 1)])) (.nm 2) [2] tYesM (eIx (.sl 2) (.ev (eC (.int 0))))))))
def m_flags_along : Fn := mkFn 3 b_flags_along
theorem ok_flags_along {P : Program} {w : World} {K : PySem.W.Frag} {mg : Str → Option Value} {base : Heap} (T : Bi mg) (h : HF K mg "flags_along" ["book", "history"] s_flags_along) (h_stands_along : FOk P w K mg base 2 "stands_along" ["book", "history"] m_stands_along) : FOk P w K mg base 3 "flags_along" ["book", "history"] m_flags_along :=
  (fok (k := 2) (m := b_flags_along) h sc_flags_along fun f cdv A outer hp H E B => (by exact (cs_one (cs_ret (c_ty1 tuple_ok (by rfl) T.tuple (by decide +kernel) (cop_ev (CO.ce (c_lc (own := ([("stand", 2)])) B.gd (ci_seq (c_call h_stands_along (B.room.mono (by decide)) B.pas (by rfl) (ca_cons (v 0) (ca_cons (v 1) ca_nil)))) (blkOk_by (N := ["book", "history", "stand"]) (sc := defScope s_flags_along) (by decide +kernel)) (fun _ _ _ _ _ => (nm 2 B.gd.blk)) (fun _ _ _ _ _ => cts_nil) (fun _ _ _ _ _ => (c_ix B.gd.blk (s 2) (cop_ev c_int)))))))))) :)
abbrev s_hues_along : Stmt := topS 23
theorem sc_hues_along : FnScope ["book", "history", "place", "stands", "stand"] ["book", "history", "place"] (defScope s_hues_along) := ⟨rfl, rfl, rfl, by decide +kernel, rfl, by decide +kernel, by decide +kernel⟩
def b_hues_along : S :=
  (sSeq (sSet 3 (eCall m_stands_along [(eVar 0), (eVar 1)]))
  (sSeq (sIf (tNotM (tOf (eChain leI ltI (eC (.int 0)) (eVar 2) (eIx (.sl 1) (.ev (eC (.int 0))))))) (fun _ _ => .stk) sNx)
  (sRet (eB1 tupD (.ev (oLc (iSeq (eVar 3)) (.nm 4) [4] tYesM (eIx (.ev (eIx (.sl 4) (.ev (eC (.int 1))))) (.sl 2))))))))
def m_hues_along : Fn := mkFn 5 b_hues_along
theorem ok_hues_along {P : Program} {w : World} {K : PySem.W.Frag} {mg : Str → Option Value} {base : Heap} (T : Bi mg) (h : HF K mg "hues_along" ["book", "history", "place"] s_hues_along) (h_stands_along : FOk P w K mg base 2 "stands_along" ["book", "history"] m_stands_along) : FOk P w K mg base 3 "hues_along" ["book", "history", "place"] m_hues_along :=
  (fok (k := 2) (m := b_hues_along) h sc_hues_along fun f cdv A outer hp H E B => (by exact (cs_cons (set 3 B.gd (c_call h_stands_along (B.room.mono (by decide)) B.pas (by rfl) (ca_cons (v 0) (ca_cons (v 1) ca_nil))))
  (cs_cons (cs_if (ct_not (ct_chain ok_le ok_lt c_int (v 2) (c_ix B.gd (s 1) (cop_ev c_int)))) (cs_one cs_never) cs_nil)
  (cs_one (cs_ret (c_ty1 tuple_ok (by rfl) T.tuple (by decide +kernel) (cop_ev (CO.ce (c_lc (own := ([("stand", 4)])) B.gd (ci_seq (v 3)) (blkOk_by (N := ["book", "history", "place", "stands", "stand"]) (sc := defScope s_hues_along) (by decide +kernel)) (fun _ _ _ _ _ => (nm 4 B.gd.blk)) (fun _ _ _ _ _ => cts_nil) (fun _ _ _ _ _ => (c_ix B.gd.blk (cop_ev (c_ix B.gd.blk (s 4) (cop_ev c_int))) (s 2)))))))))))) :)
abbrev s_text_of : Stmt := topS 24
theorem sc_text_of : FnScope ["book", "stand", "hue"] ["book", "stand"] (defScope s_text_of) := ⟨rfl, rfl, rfl, by decide +kernel, rfl, by decide +kernel, by decide +kernel⟩
def b_text_of : S :=
  (sRet (eB1 tupD (.ev (oLc (iSeq (eIx (.sl 1) (.ev (eC (.int 1))))) (.nm 2) [2] tYesM (eIx (.ev (eIx (.sl 0) (.ev (eC (.int 1))))) (.sl 2))))))
def m_text_of : Fn := mkFn 3 b_text_of
theorem ok_text_of {P : Program} {w : World} {K : PySem.W.Frag} {mg : Str → Option Value} {base : Heap} (T : Bi mg) (h : HF K mg "text_of" ["book", "stand"] s_text_of) : FOk P w K mg base 1 "text_of" ["book", "stand"] m_text_of :=
  (fok (k := 0) (m := b_text_of) h sc_text_of fun f cdv A outer hp H E B => (by exact (cs_one (cs_ret (c_ty1 tuple_ok (by rfl) T.tuple (by decide +kernel) (cop_ev (CO.ce (c_lc (own := ([("hue", 2)])) B.gd (ci_seq (c_ix B.gd (s 1) (cop_ev c_int))) (blkOk_by (N := ["book", "stand", "hue"]) (sc := defScope s_text_of) (by decide +kernel)) (fun _ _ _ _ _ => (nm 2 B.gd.blk)) (fun _ _ _ _ _ => cts_nil) (fun _ _ _ _ _ => (c_ix B.gd.blk (cop_ev (c_ix B.gd.blk (s 0) (cop_ev c_int))) (s 2)))))))))) :)
abbrev s_text_behind : Stmt := topS 26
theorem sc_text_behind : FnScope ["history", "many", "changes", "text", "place", "letter"] ["history"] (defScope s_text_behind) := ⟨rfl, rfl, rfl, by decide +kernel, rfl, by decide +kernel, by decide +kernel⟩
def b_text_behind : S :=
  (sSeq (sUnp [1, 2] (eVar 0))
  (sSeq (sSetO 3 (eBin mulL (.ev (oLst [(eC (.int 0))])) (.sl 1)))
  (sSeq (sFor (iSeq (eVar 2)) (.tp [4, 5]) (sIx 3 (eVar 4) (eVar 5)))
  (sRet (eB1 tupD (.sl 3))))))
def m_text_behind : Fn := mkFn 6 b_text_behind
theorem ok_text_behind {P : Program} {w : World} {K : PySem.W.Frag} {mg : Str → Option Value} {base : Heap} (T : Bi mg) (h : HF K mg "text_behind" ["history"] s_text_behind) : FOk P w K mg base 1 "text_behind" ["history"] m_text_behind :=
  (fok (k := 0) (m := b_text_behind) h sc_text_behind fun f cdv A outer hp H E B => (by exact (cs_cons (cs_unp B.gd (nmc 1 B.gd (nmc 2 B.gd cgs_nil)) (v 0))
  (cs_cons (setO 3 B.gd (c_binO new_mulL (cop_ev (CO.ce (c_lst (ca_cons c_int ca_nil)))) (s 1)))
  (cs_cons (cs_for B.gd B.own (ci_seq (v 2)) (cg_tp B.gd (nmc 4 B.gd (nmc 5 B.gd cgs_nil))) (cs_one (cs_ix (i := 3) B.gd rfl (by first | exact Or.inl rfl | exact Or.inr (Or.inl rfl)) (v 4) (v 5))))
  (cs_one (cs_ret (c_ty1 tuple_ok (by rfl) T.tuple (by decide +kernel) (s 3)))))))) :)
abbrev s_l_box : Stmt := topS 28
theorem sc_l_box : FnScope ["_law_script", "_law_k", "_law_cell"] ["_law_script", "_law_k"] (defScope s_l_box) := ⟨rfl, rfl, rfl, by decide +kernel, rfl, by decide +kernel, by decide +kernel⟩
def b_l_box : S :=
  (sSeq (sSet 2 (eIf (tOf (eBin ltI (.sl 1) (.ev (eB1 lenA (.sl 0))))) (eIx (.sl 0) (.sl 1)) (eC (.int 0))))
  (sRet (oLst [(eBin mulA (.ev (eB1 absD (.sl 2))) (.ev (eB1 intD (.ev (eBin geI (.ev (eB1 absD (.sl 2))) (.ev (eBin powI (.ev (eC (.int 10))) (.ev (eC (.int 18)))))))))), (eBin addA (.ev (eBin addA (.ev (eBin modI (.ev (eB1 intD (.sl 2))) (.ev (eC (.int 2305843009213693951))))) (.ev (eBin mulA (.ev (eC (.int 39373))) (.sl 1))))) (.ev (eC (.int 3174011)))), (eC (.int 0))])))
def m_l_box : Fn := mkFn 3 b_l_box
theorem ok_l_box {P : Program} {w : World} {K : PySem.W.Frag} {mg : Str → Option Value} {base : Heap} (T : Bi mg) (h : HF K mg "_law_box" ["_law_script", "_law_k"] s_l_box) : FOkO P w K mg base 1 "_law_box" ["_law_script", "_law_k"] m_l_box :=
  fokO h sc_l_box (fun f cdv A outer hp H E B => (by exact (cso_cons (set 2 B.gd (c_if (ct_cmp ok_lt (s 1) (cop_ev (c_b1 len_okA (by rfl) T.len PySem.boot_len (s 0))) (nomark _)) (c_ix B.gd (s 0) (s 1)) c_int))
  (cso_ret (c_lst (ca_cons (c_bin ok_mulA (cop_ev (c_b1 abs_ok (by rfl) T.abs (by decide +kernel) (s 2))) (cop_ev (c_ty1 int_ok (by rfl) T.int (by decide +kernel) (cop_ev (c_cmp ok_ge (cop_ev (c_b1 abs_ok (by rfl) T.abs (by decide +kernel) (s 2))) (cop_ev (c_bin ok_pow (cop_ev c_int) (cop_ev c_int))) (nomark _)))))) (ca_cons (c_bin ok_addA (cop_ev (c_bin ok_addA (cop_ev (c_bin ok_mod (cop_ev (c_ty1 int_ok (by rfl) T.int (by decide +kernel) (s 2))) (cop_ev c_int))) (cop_ev (c_bin ok_mulA (cop_ev c_int) (s 1))))) (cop_ev c_int)) (ca_cons c_int ca_nil)))))))) (by repeat' first | exact sRet_ret _ | exact sSet_nx _ _ | refine sSeq_ret ?_ ?_)
abbrev s_l_take : Stmt := topS 29
theorem sc_l_take : FnScope ["_law_urn", "_law_low_so", "_law_drawn", "_law_once", "_law_far", "_law_twice"] ["_law_urn", "_law_low_so"] (defScope s_l_take) := ⟨rfl, rfl, rfl, by decide +kernel, rfl, by decide +kernel, by decide +kernel⟩
def b_l_take : S :=
  (sSeq (sIf (tOf (eBin gtI (.ev (eUix 0 0)) (.ev (eC (.int 0))))) (sSeq (sSet 2 (eBin modI (.ev (eB1 intD (.ev (eUix 0 0)))) (.sl 1)))
  (sSeq (sUix 0 0 (eBin fdivI (.ev (eUix 0 0)) (.sl 1)))
  (sRet (eVar 2)))) sNx)
  (sSeq (sUix 0 2 (eBin addA (.ev (eUix 0 2)) (.ev (eC (.int 1)))))
  (sSeq (sSet 3 (eBin modI (.ev (eB1 intD (.ev (eBin mulA (.ev (eBin addA (.ev (eUix 0 1)) (.ev (eBin mulA (.ev (eC (.int 48271))) (.ev (eUix 0 2)))))) (.ev (eBin addA (.ev (eC (.int 39373))) (.ev (eUix 0 2)))))))) (.ev (eC (.int 2147483647)))))
  (sSeq (sSet 4 (eBin addA (.ev (eBin modI (.ev (eB1 intD (.sl 3))) (.ev (eC (.int 40009))))) (.ev (eC (.int 7)))))
  (sSeq (sSet 5 (eBin modI (.ev (eB1 intD (.ev (eBin mulA (.ev (eBin addA (.ev (eBin addA (.sl 3) (.ev (eUix 0 2)))) (.ev (eBin fdivI (.ev (eUix 0 1)) (.ev (eC (.int 1000003))))))) (.sl 4))))) (.ev (eC (.int 2147483629)))))
  (sRet (eBin modI (.ev (eB1 intD (.ev (eBin fdivI (.ev (eBin modI (.ev (eB1 intD (.ev (eBin addA (.ev (eBin mulA (.sl 5) (.ev (eC (.int 48271))))) (.sl 3))))) (.ev (eC (.int 2147483587))))) (.ev (eC (.int 64))))))) (.sl 1))))))))
def m_l_take : Fn := mkFn 6 b_l_take
theorem ok_l_take {P : Program} {w : World} {K : PySem.W.Frag} {mg : Str → Option Value} {base : Heap} (T : Bi mg) (h : HF K mg "_law_take" ["_law_urn", "_law_low_so"] s_l_take) : FOk P w K mg base 1 "_law_take" ["_law_urn", "_law_low_so"] m_l_take :=
  (fok (k := 0) (m := b_l_take) h sc_l_take fun f cdv A outer hp H E B => (by exact (cs_cons (cs_if (ct_cmp ok_gt (cop_ev (uix 0 0)) (cop_ev c_int) (nomark _)) (cs_cons (set 2 B.gd (c_bin ok_mod (cop_ev (c_ty1 int_ok (by rfl) T.int (by decide +kernel) (cop_ev (uix 0 0)))) (s 1)))
  (cs_cons (cs_uix (i := 0) (k := 0) B.gd (by decide) rfl (by first | exact Or.inl rfl | exact Or.inr (Or.inl rfl)) (c_bin ok_fdiv (cop_ev (uix 0 0)) (s 1)))
  (cs_one (cs_ret (v 2))))) cs_nil)
  (cs_cons (cs_uix (i := 0) (k := 2) B.gd (by decide) rfl (by first | exact Or.inl rfl | exact Or.inr (Or.inl rfl)) (c_bin ok_addA (cop_ev (uix 0 2)) (cop_ev c_int)))
  (cs_cons (set 3 B.gd (c_bin ok_mod (cop_ev (c_ty1 int_ok (by rfl) T.int (by decide +kernel) (cop_ev (c_bin ok_mulA (cop_ev (c_bin ok_addA (cop_ev (uix 0 1)) (cop_ev (c_bin ok_mulA (cop_ev c_int) (cop_ev (uix 0 2)))))) (cop_ev (c_bin ok_addA (cop_ev c_int) (cop_ev (uix 0 2)))))))) (cop_ev c_int)))
  (cs_cons (set 4 B.gd (c_bin ok_addA (cop_ev (c_bin ok_mod (cop_ev (c_ty1 int_ok (by rfl) T.int (by decide +kernel) (s 3))) (cop_ev c_int))) (cop_ev c_int)))
  (cs_cons (set 5 B.gd (c_bin ok_mod (cop_ev (c_ty1 int_ok (by rfl) T.int (by decide +kernel) (cop_ev (c_bin ok_mulA (cop_ev (c_bin ok_addA (cop_ev (c_bin ok_addA (s 3) (cop_ev (uix 0 2)))) (cop_ev (c_bin ok_fdiv (cop_ev (uix 0 1)) (cop_ev c_int))))) (s 4))))) (cop_ev c_int)))
  (cs_one (cs_ret (c_bin ok_mod (cop_ev (c_ty1 int_ok (by rfl) T.int (by decide +kernel) (cop_ev (c_bin ok_fdiv (cop_ev (c_bin ok_mod (cop_ev (c_ty1 int_ok (by rfl) T.int (by decide +kernel) (cop_ev (c_bin ok_addA (cop_ev (c_bin ok_mulA (s 5) (cop_ev c_int))) (s 3))))) (cop_ev c_int))) (cop_ev c_int))))) (s 1)))))))))) :)
abbrev s_l_cells : Stmt := topS 30
theorem sc_l_cells : FnScope ["_law_script", "_law_top", "_law_cells_here", "_law_k", "_law_cell", "_law_at_so"] ["_law_script", "_law_top"] (defScope s_l_cells) := ⟨rfl, rfl, rfl, by decide +kernel, rfl, by decide +kernel, by decide +kernel⟩
noncomputable def b_l_cells (K : PySem.W.Frag) : S :=
  (sSeq (sSetO 2 (oOr (eB1 lstD (.ev (eSl (slS K) (.sl 0) pNone (pInt (eVar 1))))) (oLst [(eC (.int 0))])))
  (sSeq (sFor (iEn (eSl (slS K) (.sl 0) (pInt (eVar 1)) (pInt (eC (.int 63))))) (.tp [3, 4]) (sSeq (sSet 5 (eBin modI (.ev (eB1 intD (.sl 3))) (.sl 1)))
  (sIx 2 (eVar 5) (eBin addA (.ev (eIx (.sl 2) (.sl 5))) (.ev (eBin mulA (.sl 4) (.ev (eBin addA (.sl 3) (.ev (eC (.int 2)))))))))))
  (sRet (eVar 2))))
noncomputable def m_l_cells (K : PySem.W.Frag) : Fn := mkFn 6 (b_l_cells K)
theorem ok_l_cells {P : Program} {w : World} {K : PySem.W.Frag} {mg : Str → Option Value} {base : Heap} (T : Bi mg) (h : HF K mg "_law_cells" ["_law_script", "_law_top"] s_l_cells) : FOk P w K mg base 1 "_law_cells" ["_law_script", "_law_top"] (m_l_cells K) :=
  (fok (k := 0) (m := (b_l_cells K)) h sc_l_cells fun f cdv A outer hp H E B => (by exact (cs_cons (setO 2 B.gd (c_orO (c_ty1N list_ok (by rfl) T.list (by decide +kernel) (cop_ev (CO.ce (c_slS (s 0) cp_none (cp_int (v 1)))))) (c_oneO (c_lst (ca_cons c_int ca_nil)))))
  (cs_cons (cs_for B.gd B.own (ci_enum (by rfl) T.enumerate (CO.ce (c_slS (s 0) (cp_int (v 1)) (cp_int c_int)))) (cg_tp B.gd (nmc 3 B.gd (nmc 4 B.gd cgs_nil))) (cs_cons (set 5 B.gd (c_bin ok_mod (cop_ev (c_ty1 int_ok (by rfl) T.int (by decide +kernel) (s 3))) (s 1)))
  (cs_one (cs_ix (i := 2) B.gd rfl (by first | exact Or.inl rfl | exact Or.inr (Or.inl rfl)) (v 5) (c_bin ok_addA (cop_ev (c_ix B.gd (s 2) (s 5))) (cop_ev (c_bin ok_mulA (s 4) (cop_ev (c_bin ok_addA (s 3) (cop_ev c_int))))))))))
  (cs_one (cs_ret (v 2)))))) :)
abbrev s_l_lists : Stmt := topS 31
theorem sc_l_lists : FnScope ["_law_matter", "_law_own"] ["_law_matter"] (defScope s_l_lists) := ⟨rfl, rfl, rfl, by decide +kernel, rfl, by decide +kernel, by decide +kernel⟩
def b_l_lists (r : Fn) : S :=
  (sRet (eIf (tOf (eB1 (isiD [.list, .tuple]) (.sl 0))) (oLc (iSeq (eVar 0)) (.nm 1) [1] tYesM (eCall r [(eVar 1)])) (eVar 0)))
def r_l_lists : Nat → Fn
  | 0 => fun _ _ => .stk
  | n + 1 => mkFn 2 (b_l_lists (r_l_lists n))
def m_l_lists : Fn := r_l_lists 12
theorem okr_l_lists {P : Program} {w : World} {K : PySem.W.Frag} {mg : Str → Option Value} {base : Heap} (T : Bi mg) (h : HF K mg "_law_lists" ["_law_matter"] s_l_lists) : ∀ n, FOk P w K mg base (0 + n) "_law_lists" ["_law_matter"] (r_l_lists n)
  | 0 => (fok_stk h).mono (by omega)
  | n + 1 => by
    have h_l_lists : FOk P w K mg base (0 + n) "_law_lists" ["_law_matter"] (r_l_lists n) := okr_l_lists T h n
    exact fok h sc_l_lists fun f cdv A outer hp H E B => (by exact (cs_one (cs_ret (c_if (ct_val (c_isi2 (T1 := .list) (T2 := .tuple) (by rfl) T.isinstance (s 0) (ty_nm (by rfl) T.list (by decide +kernel)) (ty_nm (by rfl) T.tuple (by decide +kernel)))) (CO.ce (c_lc (own := ([("_law_own", 1)])) B.gd (ci_seq (v 0)) (blkOk_by (N := ["_law_matter", "_law_own"]) (sc := defScope s_l_lists) (by decide +kernel)) (fun _ _ _ _ _ => (nm 1 B.gd.blk)) (fun _ _ _ _ _ => cts_nil) (fun _ _ _ _ _ => (c_call h_l_lists (B.room.mono (by first | exact Nat.le_refl _ | (simp only [Nat.add_eq]; omega))) passL (by rfl) (ca_cons (v 1) ca_nil))))) (v 0)))))
theorem ok_l_lists {P : Program} {w : World} {K : PySem.W.Frag} {mg : Str → Option Value} {base : Heap} (T : Bi mg) (h : HF K mg "_law_lists" ["_law_matter"] s_l_lists) : FOk P w K mg base 12 "_law_lists" ["_law_matter"] m_l_lists := okr_l_lists T h 12
abbrev s_l_same : Stmt := topS 32
theorem sc_l_same : FnScope ["_law_got", "_law_goal", "_law_mine_so", "_law_own"] ["_law_got", "_law_goal"] (defScope s_l_same) := ⟨rfl, rfl, rfl, by decide +kernel, rfl, by decide +kernel, by decide +kernel⟩
def b_l_same (r : Fn) : S :=
  (sSeq (sIf (tOf (eB1 (isiD [.list, .tuple]) (.sl 1))) (sSeq (sIf (tOrM (tOf (eBin neD (.ev (eB1 (isiD [.list]) (.sl 0))) (.ev (eB1 (isiD [.list]) (.sl 1))))) (tOf (eBin neD (.ev (eB1 (isiD [.tuple]) (.sl 0))) (.ev (eB1 (isiD [.tuple]) (.sl 1)))))) (sRet (eC (.bl false))) sNx)
  (sRet (eAnd (eBin eqD (.ev (eB1 lenA (.sl 0))) (.ev (eB1 lenA (.sl 1)))) (eB1 allD (.ev (oLc (iZip (eVar 0) (eVar 1)) (.tp [2, 3]) [2, 3] tYesM (eCall r [(eVar 2), (eVar 3)]))))))) sNx)
  (sSeq (sIf (tOrM (tOf (eBin isND (.sl 1) (.ev (eC .non)))) (tOf (eB1 (isiD [.bool, .str]) (.sl 1)))) (sRet (eAnd (eBin eqD (.sl 0) (.sl 1)) (eAnd (eBin eqD (.ev (eB1 (isiD [.bool]) (.sl 0))) (.ev (eB1 (isiD [.bool]) (.sl 1)))) (eBin eqD (.ev (eBin isND (.sl 0) (.ev (eC .non)))) (.ev (eBin isND (.sl 1) (.ev (eC .non)))))))) sNx)
  (sRet (eAnd (eB1 (isiD [.int]) (.sl 0)) (eAnd (eNot (eB1 (isiD [.bool]) (.sl 0))) (eBin eqD (.sl 0) (.sl 1)))))))
def r_l_same : Nat → Fn
  | 0 => fun _ _ => .stk
  | n + 1 => mkFn 4 (b_l_same (r_l_same n))
def m_l_same : Fn := r_l_same 12
theorem okr_l_same {P : Program} {w : World} {K : PySem.W.Frag} {mg : Str → Option Value} {base : Heap} (T : Bi mg) (h : HF K mg "_law_same" ["_law_got", "_law_goal"] s_l_same) : ∀ n, FOk P w K mg base (0 + n) "_law_same" ["_law_got", "_law_goal"] (r_l_same n)
  | 0 => (fok_stk h).mono (by omega)
  | n + 1 => by
    have h_l_same : FOk P w K mg base (0 + n) "_law_same" ["_law_got", "_law_goal"] (r_l_same n) := okr_l_same T h n
    exact fok h sc_l_same fun f cdv A outer hp H E B => (by exact (cs_cons (cs_if (ct_val (c_isi2 (T1 := .list) (T2 := .tuple) (by rfl) T.isinstance (s 1) (ty_nm (by rfl) T.list (by decide +kernel)) (ty_nm (by rfl) T.tuple (by decide +kernel)))) (cs_cons (cs_if (CW.ct (cw_or (ct_cmp (ok_ne B.gd) (cop_ev (c_isi (T := .list) (by rfl) T.isinstance (s 0) (ty_nm (by rfl) T.list (by decide +kernel)))) (cop_ev (c_isi (T := .list) (by rfl) T.isinstance (s 1) (ty_nm (by rfl) T.list (by decide +kernel)))) (nomark _)) (cw_or1 (ct_cmp (ok_ne B.gd) (cop_ev (c_isi (T := .tuple) (by rfl) T.isinstance (s 0) (ty_nm (by rfl) T.tuple (by decide +kernel)))) (cop_ev (c_isi (T := .tuple) (by rfl) T.isinstance (s 1) (ty_nm (by rfl) T.tuple (by decide +kernel)))) (nomark _))))) (cs_one (cs_ret c_bl)) cs_nil)
  (cs_one (cs_ret (c_and (c_cmp (ok_eq B.gd) (cop_ev (c_b1 len_okA (by rfl) T.len PySem.boot_len (s 0))) (cop_ev (c_b1 len_okA (by rfl) T.len PySem.boot_len (s 1))) (nomark _)) (c_one (c_b1 (all_ok B.gd) (by rfl) T.all (by decide +kernel) (cop_ev (CO.ce (c_lc (own := ([("_law_mine_so", 2), ("_law_own", 3)])) B.gd (ci_zip (by rfl) T.zip (ca_cons (v 0) (ca_cons (v 1) ca_nil))) (blkOk_by (N := ["_law_got", "_law_goal", "_law_mine_so", "_law_own"]) (sc := defScope s_l_same) (by decide +kernel)) (fun _ _ _ _ _ => (cg_tp B.gd.blk (nmc 2 B.gd.blk (nmc 3 B.gd.blk cgs_nil)))) (fun _ _ _ _ _ => cts_nil) (fun _ _ _ _ _ => (c_call h_l_same (B.room.mono (by first | exact Nat.le_refl _ | (simp only [Nat.add_eq]; omega))) passL (by rfl) (ca_cons (v 2) (ca_cons (v 3) ca_nil))))))))))))) cs_nil)
  (cs_cons (cs_if (CW.ct (cw_or (ct_cmp ok_isN (s 1) (cop_ev c_non) (nomark _)) (cw_or1 (ct_val (c_isi2 (T1 := .bool) (T2 := .str) (by rfl) T.isinstance (s 1) (ty_nm (by rfl) T.bool (by decide +kernel)) (ty_nm (by rfl) T.str (by decide +kernel))))))) (cs_one (cs_ret (c_and (c_cmp (ok_eq B.gd) (s 0) (s 1) (nomark _)) (c_and (c_cmp (ok_eq B.gd) (cop_ev (c_isi (T := .bool) (by rfl) T.isinstance (s 0) (ty_nm (by rfl) T.bool (by decide +kernel)))) (cop_ev (c_isi (T := .bool) (by rfl) T.isinstance (s 1) (ty_nm (by rfl) T.bool (by decide +kernel)))) (nomark _)) (c_one (c_cmp (ok_eq B.gd) (cop_ev (c_cmp ok_isN (s 0) (cop_ev c_non) (nomark _))) (cop_ev (c_cmp ok_isN (s 1) (cop_ev c_non) (nomark _))) (nomark _))))))) cs_nil)
  (cs_one (cs_ret (c_and (c_isi (T := .int) (by rfl) T.isinstance (s 0) (ty_nm (by rfl) T.int (by decide +kernel))) (c_and (c_not (c_isi (T := .bool) (by rfl) T.isinstance (s 0) (ty_nm (by rfl) T.bool (by decide +kernel)))) (c_one (c_cmp (ok_eq B.gd) (s 0) (s 1) (nomark _))))))))))
theorem ok_l_same {P : Program} {w : World} {K : PySem.W.Frag} {mg : Str → Option Value} {base : Heap} (T : Bi mg) (h : HF K mg "_law_same" ["_law_got", "_law_goal"] s_l_same) : FOk P w K mg base 12 "_law_same" ["_law_got", "_law_goal"] m_l_same := okr_l_same T h 12
abbrev s_l_pick : Stmt := topS 33
theorem sc_l_pick : FnScope ["_law_urn", "_law_goods", "_law_count", "_law_pool", "_law_found", "_law_lap"] ["_law_urn", "_law_goods", "_law_count"] (defScope s_l_pick) := ⟨rfl, rfl, rfl, by decide +kernel, rfl, by decide +kernel, by decide +kernel⟩
def b_l_pick : S :=
  (sSeq (sPar [.nm 3, .nm 4] [((eB1 lstD (.sl 1)), true), ((oLst []), true)])
  (sSeq (sFor (iRg1 (eB2 minI (.ev (eB1 intD (.sl 2))) (.ev (eB1 lenA (.sl 3))))) (.nm 5) (sMut appD 4 (ePopAt 3 (eCall m_l_take [(eVar 0), (eB1 lenA (.sl 3))]))))
  (sRet (eVar 4))))
def m_l_pick : Fn := mkFn 6 b_l_pick
theorem ok_l_pick {P : Program} {w : World} {K : PySem.W.Frag} {mg : Str → Option Value} {base : Heap} (T : Bi mg) (h : HF K mg "_law_pick" ["_law_urn", "_law_goods", "_law_count"] s_l_pick) (h_l_take : FOk P w K mg base 1 "_law_take" ["_law_urn", "_law_low_so"] m_l_take) : FOk P w K mg base 2 "_law_pick" ["_law_urn", "_law_goods", "_law_count"] m_l_pick :=
  (fok (k := 1) (m := b_l_pick) h sc_l_pick fun f cdv A outer hp H E B => (by exact (cs_cons (cs_par2 (i := 3) (j := 4) B.gd rfl rfl (by decide) rfl rfl (cm_own (c_ty1N list_ok (by rfl) T.list (by decide +kernel) (s 1)) (cm_own (c_lst ca_nil) cm_nil)) (by rfl))
  (cs_cons (cs_for B.gd B.own (ci_rg1 (by rfl) T.range (c_b2 (min_ok B.gd) (by rfl) T.min (by decide +kernel) (cop_ev (c_ty1 int_ok (by rfl) T.int (by decide +kernel) (s 2))) (cop_ev (c_b1 len_okA (by rfl) T.len PySem.boot_len (s 3))))) (nm 5 B.gd) (cs_one (app 4 B.gd (popAt 3 B.gd (c_call h_l_take (B.room.mono (by decide)) B.pas (by rfl) (ca_cons (v 0) (ca_cons (c_b1 len_okA (by rfl) T.len PySem.boot_len (s 3)) ca_nil)))))))
  (cs_one (cs_ret (v 4)))))) :)
abbrev s_l_of : Stmt := topS 34
theorem sc_l_of : FnScope ["_law_urn", "_law_goods"] ["_law_urn", "_law_goods"] (defScope s_l_of) := ⟨rfl, rfl, rfl, by decide +kernel, rfl, by decide +kernel, by decide +kernel⟩
def b_l_of : S :=
  (sRet (eIx (.sl 1) (.ev (eCall m_l_take [(eVar 0), (eB1 lenA (.sl 1))]))))
def m_l_of : Fn := mkFn 2 b_l_of
theorem ok_l_of {P : Program} {w : World} {K : PySem.W.Frag} {mg : Str → Option Value} {base : Heap} (T : Bi mg) (h : HF K mg "_law_of" ["_law_urn", "_law_goods"] s_l_of) (h_l_take : FOk P w K mg base 1 "_law_take" ["_law_urn", "_law_low_so"] m_l_take) : FOk P w K mg base 2 "_law_of" ["_law_urn", "_law_goods"] m_l_of :=
  (fok (k := 1) (m := b_l_of) h sc_l_of fun f cdv A outer hp H E B => (by exact (cs_one (cs_ret (c_ix B.gd (s 1) (cop_ev (c_call h_l_take (B.room.mono (by decide)) B.pas (by rfl) (ca_cons (v 0) (ca_cons (c_b1 len_okA (by rfl) T.len PySem.boot_len (s 1)) ca_nil)))))))) :)
abbrev s_l_own_map : Stmt := topS 35
theorem sc_l_own_map : FnScope ["_law_urn", "_law_hues", "_law_found", "_law_letter", "_law_goods", "_law_k", "_law_own"] ["_law_urn", "_law_hues"] (defScope s_l_own_map) := ⟨rfl, rfl, rfl, by decide +kernel, rfl, by decide +kernel, by decide +kernel⟩
def b_l_own_map : S :=
  (sSeq (sSetO 2 (oLst []))
  (sSeq (sFor (iSeq (eVar 1)) (.nm 3) (sSeq (sSet 4 (oLc (iEn (eVar 1)) (.tp [5, 6]) [5, 6] (tOf (eBin eqD (.sl 6) (.sl 3))) (eVar 5)))
  (sMut appD 2 (eCall m_l_of [(eVar 0), (eVar 4)]))))
  (sRet (eB1 tupD (.sl 2)))))
def m_l_own_map : Fn := mkFn 7 b_l_own_map
theorem ok_l_own_map {P : Program} {w : World} {K : PySem.W.Frag} {mg : Str → Option Value} {base : Heap} (T : Bi mg) (h : HF K mg "_law_own_map" ["_law_urn", "_law_hues"] s_l_own_map) (h_l_of : FOk P w K mg base 2 "_law_of" ["_law_urn", "_law_goods"] m_l_of) : FOk P w K mg base 3 "_law_own_map" ["_law_urn", "_law_hues"] m_l_own_map :=
  (fok (k := 2) (m := b_l_own_map) h sc_l_own_map fun f cdv A outer hp H E B => (by exact (cs_cons (setO 2 B.gd (c_lst ca_nil))
  (cs_cons (cs_for B.gd B.own (ci_seq (v 1)) (nm 3 B.gd) (cs_cons (cs_setLc (i := 4) (own := ([("_law_k", 5), ("_law_own", 6)])) B.gd rfl rfl rfl rfl (by decide +kernel) (ci_enum (by rfl) T.enumerate (v 1)) (blkOk_by (N := ["_law_urn", "_law_hues", "_law_found", "_law_letter", "_law_goods", "_law_k", "_law_own"]) (sc := defScope s_l_own_map) (by decide +kernel)) (fun _ _ _ _ _ => (cg_tp B.gd.blk (nmc 5 B.gd.blk (nmc 6 B.gd.blk cgs_nil)))) (fun _ _ _ _ _ => (cts_one (ct_cmp (ok_eq B.gd.blk) (s 6) (s 3) (nomark _)))) (fun _ _ _ _ _ => (v 5)))
  (cs_one (app 2 B.gd (c_call h_l_of (B.room.mono (by decide)) B.pas (by rfl) (ca_cons (v 0) (ca_cons (v 4) ca_nil)))))))
  (cs_one (cs_ret (c_ty1 tuple_ok (by rfl) T.tuple (by decide +kernel) (s 2))))))) :)
abbrev s_l_book : Stmt := topS 36
theorem sc_l_book : FnScope ["_law_urn", "_law_letters", "_law_flags", "_law_hues", "_law_letter", "_law_rows", "_law_flag", "_law_lines", "_law_hue", "_law_line", "_law_new", "_law_begin", "_law_k", "_law_own"] ["_law_urn"] (defScope s_l_book) := ⟨rfl, rfl, rfl, by decide +kernel, rfl, by decide +kernel, by decide +kernel⟩
def b_l_book : S :=
  (sSeq (sPar [.nm 1, .nm 2] [((eBin addA (.ev (eC (.int 1))) (.ev (eCall m_l_take [(eVar 0), (eC (.int 2))]))), false), ((eBin addA (.ev (eC (.int 1))) (.ev (eCall m_l_take [(eVar 0), (eC (.int 3))]))), false)])
  (sSeq (sSet 3 (oLst []))
  (sSeq (sFor (iRg1 (eBin addA (.sl 1) (.ev (eC (.int 1))))) (.nm 4) (sSet 3 (eBin addA (.sl 3) (.ev (eBin mulA (.ev (oLst [(eVar 4)])) (.ev (eBin addA (.ev (eC (.int 1))) (.ev (eCall m_l_take [(eVar 0), (eC (.int 2))])))))))))
  (sSeq (sSet 3 (eCall m_l_pick [(eVar 0), (eVar 3), (eB1 lenA (.sl 3))]))
  (sSeq (sSetO 5 (oLst []))
  (sSeq (sFor (iRg1 (eVar 2)) (.nm 6) (sSeq (sSetO 7 (oLst []))
  (sSeq (sFor (iSeq (eVar 3)) (.nm 8) (sSeq (sSetO 9 (oLst []))
  (sSeq (sFor (iRg1 (eBin addA (.sl 1) (.ev (eC (.int 1))))) (.nm 4) (sSeq (sSet 10 (eCall m_l_of [(eVar 0), (oLc (iEn (eVar 3)) (.tp [12, 13]) [12, 13] (tOf (eBin eqD (.sl 13) (.sl 4))) (eVar 12))]))
  (sMut appD 9 (eTup [(eCall m_l_take [(eVar 0), (eVar 2)]), (eVar 10), (eCall m_l_own_map [(eVar 0), (eVar 3)]), (eCall m_l_own_map [(eVar 0), (eVar 3)])]))))
  (sMut appD 7 (eB1 tupD (.sl 9))))))
  (sMut appD 5 (eB1 tupD (.sl 7))))))
  (sSeq (sSet 11 (eTup [(eCall m_l_take [(eVar 0), (eVar 2)]), (eCall m_l_of [(eVar 0), (oLc (iEn (eVar 3)) (.tp [12, 13]) [12, 13] (tOf (eBin eqD (.sl 13) (.ev (eC (.int 0))))) (eVar 12))])]))
  (sRet (eTup [(eB1 tupD (.ev (oLc (iRg1 (eVar 2)) (.nm 6) [6] tYesM (eBin eqD (.ev (eCall m_l_take [(eVar 0), (eC (.int 2))])) (.ev (eC (.int 0))))))), (eB1 tupD (.sl 3)), (eVar 11), (eB1 tupD (.sl 5))])))))))))
def m_l_book : Fn := mkFn 14 b_l_book
theorem ok_l_book {P : Program} {w : World} {K : PySem.W.Frag} {mg : Str → Option Value} {base : Heap} (T : Bi mg) (h : HF K mg "_law_book" ["_law_urn"] s_l_book) (h_l_pick : FOk P w K mg base 2 "_law_pick" ["_law_urn", "_law_goods", "_law_count"] m_l_pick) (h_l_take : FOk P w K mg base 1 "_law_take" ["_law_urn", "_law_low_so"] m_l_take) (h_l_of : FOk P w K mg base 2 "_law_of" ["_law_urn", "_law_goods"] m_l_of) (h_l_own_map : FOk P w K mg base 3 "_law_own_map" ["_law_urn", "_law_hues"] m_l_own_map) : FOk P w K mg base 4 "_law_book" ["_law_urn"] m_l_book :=
  (fok (k := 3) (m := b_l_book) h sc_l_book fun f cdv A outer hp H E B => (by exact (cs_cons (cs_par2 (i := 1) (j := 2) B.gd rfl rfl (by decide) rfl rfl (cm_val (c_bin ok_addA (cop_ev c_int) (cop_ev (c_call h_l_take (B.room.mono (by decide)) B.pas (by rfl) (ca_cons (v 0) (ca_cons c_int ca_nil))))) (cm_val (c_bin ok_addA (cop_ev c_int) (cop_ev (c_call h_l_take (B.room.mono (by decide)) B.pas (by rfl) (ca_cons (v 0) (ca_cons c_int ca_nil))))) cm_nil)) (by rfl))
  (cs_cons (set 3 B.gd (CO.ce (c_lst ca_nil)))
  (cs_cons (cs_for B.gd B.own (ci_rg1 (by rfl) T.range (c_bin ok_addA (s 1) (cop_ev c_int))) (nm 4 B.gd) (cs_one (set 3 B.gd (c_bin ok_addA (s 3) (cop_ev (c_bin ok_mulA (cop_ev (CO.ce (c_lst (ca_cons (v 4) ca_nil)))) (cop_ev (c_bin ok_addA (cop_ev c_int) (cop_ev (c_call h_l_take (B.room.mono (by decide)) B.pas (by rfl) (ca_cons (v 0) (ca_cons c_int ca_nil))))))))))))
  (cs_cons (set 3 B.gd (c_call h_l_pick (B.room.mono (by decide)) B.pas (by rfl) (ca_cons (v 0) (ca_cons (v 3) (ca_cons (c_b1 len_okA (by rfl) T.len PySem.boot_len (s 3)) ca_nil)))))
  (cs_cons (setO 5 B.gd (c_lst ca_nil))
  (cs_cons (cs_for B.gd B.own (ci_rg1 (by rfl) T.range (v 2)) (nm 6 B.gd) (cs_cons (setO 7 B.gd (c_lst ca_nil))
  (cs_cons (cs_for B.gd B.own (ci_seq (v 3)) (nm 8 B.gd) (cs_cons (setO 9 B.gd (c_lst ca_nil))
  (cs_cons (cs_for B.gd B.own (ci_rg1 (by rfl) T.range (c_bin ok_addA (s 1) (cop_ev c_int))) (nm 4 B.gd) (cs_cons (set 10 B.gd (c_call h_l_of (B.room.mono (by decide)) B.pas (by rfl) (ca_cons (v 0) (ca_cons (CO.ce (c_lc (own := ([("_law_k", 12), ("_law_own", 13)])) B.gd (ci_enum (by rfl) T.enumerate (v 3)) (blkOk_by (N := ["_law_urn", "_law_letters", "_law_flags", "_law_hues", "_law_letter", "_law_rows", "_law_flag", "_law_lines", "_law_hue", "_law_line", "_law_new", "_law_begin", "_law_k", "_law_own"]) (sc := defScope s_l_book) (by decide +kernel)) (fun _ _ _ _ _ => (cg_tp B.gd.blk (nmc 12 B.gd.blk (nmc 13 B.gd.blk cgs_nil)))) (fun _ _ _ _ _ => (cts_one (ct_cmp (ok_eq B.gd.blk) (s 13) (s 4) (nomark _)))) (fun _ _ _ _ _ => (v 12)))) ca_nil))))
  (cs_one (app 9 B.gd (c_tup (ca_cons (c_call h_l_take (B.room.mono (by decide)) B.pas (by rfl) (ca_cons (v 0) (ca_cons (v 2) ca_nil))) (ca_cons (v 10) (ca_cons (c_call h_l_own_map (B.room.mono (by decide)) B.pas (by rfl) (ca_cons (v 0) (ca_cons (v 3) ca_nil))) (ca_cons (c_call h_l_own_map (B.room.mono (by decide)) B.pas (by rfl) (ca_cons (v 0) (ca_cons (v 3) ca_nil))) ca_nil)))))))))
  (cs_one (app 7 B.gd (c_ty1 tuple_ok (by rfl) T.tuple (by decide +kernel) (s 9)))))))
  (cs_one (app 5 B.gd (c_ty1 tuple_ok (by rfl) T.tuple (by decide +kernel) (s 7)))))))
  (cs_cons (set 11 B.gd (c_tup (ca_cons (c_call h_l_take (B.room.mono (by decide)) B.pas (by rfl) (ca_cons (v 0) (ca_cons (v 2) ca_nil))) (ca_cons (c_call h_l_of (B.room.mono (by decide)) B.pas (by rfl) (ca_cons (v 0) (ca_cons (CO.ce (c_lc (own := ([("_law_k", 12), ("_law_own", 13)])) B.gd (ci_enum (by rfl) T.enumerate (v 3)) (blkOk_by (N := ["_law_urn", "_law_letters", "_law_flags", "_law_hues", "_law_letter", "_law_rows", "_law_flag", "_law_lines", "_law_hue", "_law_line", "_law_new", "_law_begin", "_law_k", "_law_own"]) (sc := defScope s_l_book) (by decide +kernel)) (fun _ _ _ _ _ => (cg_tp B.gd.blk (nmc 12 B.gd.blk (nmc 13 B.gd.blk cgs_nil)))) (fun _ _ _ _ _ => (cts_one (ct_cmp (ok_eq B.gd.blk) (s 13) (cop_ev c_int) (nomark _)))) (fun _ _ _ _ _ => (v 12)))) ca_nil))) ca_nil))))
  (cs_one (cs_ret (c_tup (ca_cons (c_ty1 tuple_ok (by rfl) T.tuple (by decide +kernel) (cop_ev (CO.ce (c_lc (own := ([("_law_flag", 6)])) B.gd (ci_rg1 (by rfl) T.range (v 2)) (blkOk_by (N := ["_law_urn", "_law_letters", "_law_flags", "_law_hues", "_law_letter", "_law_rows", "_law_flag", "_law_lines", "_law_hue", "_law_line", "_law_new", "_law_begin", "_law_k", "_law_own"]) (sc := defScope s_l_book) (by decide +kernel)) (fun _ _ _ _ _ => (nm 6 B.gd.blk)) (fun _ _ _ _ _ => cts_nil) (fun _ _ _ _ _ => (c_cmp (ok_eq B.gd.blk) (cop_ev (c_call h_l_take (B.room.mono (by decide)) passL (by rfl) (ca_cons (v 0) (ca_cons c_int ca_nil)))) (cop_ev c_int) (nomark _))))))) (ca_cons (c_ty1 tuple_ok (by rfl) T.tuple (by decide +kernel) (s 3)) (ca_cons (v 11) (ca_cons (c_ty1 tuple_ok (by rfl) T.tuple (by decide +kernel) (s 5)) ca_nil))))))))))))))) :)
abbrev s_l_turned : Stmt := topS 37
theorem sc_l_turned : FnScope ["_law_book_here", "_law_stand", "_law_change", "_law_row", "_law_found", "_law_place", "_law_hue"] ["_law_book_here", "_law_stand", "_law_change"] (defScope s_l_turned) := ⟨rfl, rfl, rfl, by decide +kernel, rfl, by decide +kernel, by decide +kernel⟩
def b_l_turned : S :=
  (sSeq (sSet 3 (eIx (.ev (eIx (.ev (eIx (.ev (eIx (.sl 0) (.ev (eC (.int 3))))) (.ev (eIx (.sl 1) (.ev (eC (.int 0))))))) (.ev (eIx (.ev (eIx (.sl 1) (.ev (eC (.int 1))))) (.ev (eIx (.sl 2) (.ev (eC (.int 0))))))))) (.ev (eIx (.sl 2) (.ev (eC (.int 1)))))))
  (sSeq (sSetO 4 (oLst []))
  (sSeq (sFor (iEn (eIx (.sl 1) (.ev (eC (.int 1))))) (.tp [5, 6]) (sIf (tOf (eBin eqD (.sl 5) (.ev (eIx (.sl 2) (.ev (eC (.int 0))))))) (sMut appD 4 (eIx (.sl 3) (.ev (eC (.int 1))))) (sMut appD 4 (eIx (.ev (eIx (.sl 3) (.ev (eIf (tOf (eBin ltI (.sl 5) (.ev (eIx (.sl 2) (.ev (eC (.int 0))))))) (eC (.int 2)) (eC (.int 3)))))) (.sl 6)))))
  (sRet (eTup [(eIx (.sl 3) (.ev (eC (.int 0)))), (eB1 tupD (.sl 4))])))))
def m_l_turned : Fn := mkFn 7 b_l_turned
theorem ok_l_turned {P : Program} {w : World} {K : PySem.W.Frag} {mg : Str → Option Value} {base : Heap} (T : Bi mg) (h : HF K mg "_law_turned" ["_law_book_here", "_law_stand", "_law_change"] s_l_turned) : FOk P w K mg base 1 "_law_turned" ["_law_book_here", "_law_stand", "_law_change"] m_l_turned :=
  (fok (k := 0) (m := b_l_turned) h sc_l_turned fun f cdv A outer hp H E B => (by exact (cs_cons (set 3 B.gd (c_ix B.gd (cop_ev (c_ix B.gd (cop_ev (c_ix B.gd (cop_ev (c_ix B.gd (s 0) (cop_ev c_int))) (cop_ev (c_ix B.gd (s 1) (cop_ev c_int))))) (cop_ev (c_ix B.gd (cop_ev (c_ix B.gd (s 1) (cop_ev c_int))) (cop_ev (c_ix B.gd (s 2) (cop_ev c_int))))))) (cop_ev (c_ix B.gd (s 2) (cop_ev c_int)))))
  (cs_cons (setO 4 B.gd (c_lst ca_nil))
  (cs_cons (cs_for B.gd B.own (ci_enum (by rfl) T.enumerate (c_ix B.gd (s 1) (cop_ev c_int))) (cg_tp B.gd (nmc 5 B.gd (nmc 6 B.gd cgs_nil))) (cs_one (cs_if (ct_cmp (ok_eq B.gd) (s 5) (cop_ev (c_ix B.gd (s 2) (cop_ev c_int))) (nomark _)) (cs_one (app 4 B.gd (c_ix B.gd (s 3) (cop_ev c_int)))) (cs_one (app 4 B.gd (c_ix B.gd (cop_ev (c_ix B.gd (s 3) (cop_ev (c_if (ct_cmp ok_lt (s 5) (cop_ev (c_ix B.gd (s 2) (cop_ev c_int))) (nomark _)) c_int c_int)))) (s 6)))))))
  (cs_one (cs_ret (c_tup (ca_cons (c_ix B.gd (s 3) (cop_ev c_int)) (ca_cons (c_ty1 tuple_ok (by rfl) T.tuple (by decide +kernel) (s 4)) ca_nil))))))))) :)
abbrev s_l_shown : Stmt := topS 38
theorem sc_l_shown : FnScope ["_law_keep", "_law_same_here", "_law_swap", "_law_odd", "_law_lines", "_law_f", "_law_h", "_law_b"] [] (defScope s_l_shown) := ⟨rfl, rfl, rfl, by decide +kernel, rfl, by decide +kernel, by decide +kernel⟩
def b_l_shown : S :=
  (sSeq (sUnp [0, 1, 2] (eTup [(eTup [(eC (.int 0)), (eC (.int 1))]), (eTup [(eC (.int 0)), (eC (.int 1)), (eC (.int 2)), (eC (.int 3))]), (eTup [(eC (.int 1)), (eC (.int 0)), (eC (.int 3)), (eC (.int 2))])]))
  (sSeq (sSet 3 (eTup [(eTup [(eC (.bl false)), (eC (.bl true))]), (eVar 0), (eTup [(eC (.int 0)), (eC (.int 0))]), (eB1 tupD (.ev (oLc (iSeq (eVar 0)) (.nm 5) [5] tYesM (eB1 tupD (.ev (oLc (iSeq (eVar 0)) (.nm 6) [6] tYesM (eB1 tupD (.ev (oLc (iSeq (eVar 0)) (.nm 7) [7] tYesM (eTup [(eBin modI (.ev (eB1 intD (.ev (eBin addA (.ev (eBin addA (.sl 5) (.sl 6))) (.sl 7))))) (.ev (eC (.int 2)))), (eVar 7), (eVar 0), (eVar 0)]))))))))))]))
  (sSeq (sSetO 4 (oLst []))
  (sSeq (sFor (iSeq (eVar 0)) (.nm 5) (sMut appD 4 (eB1 tupD (.ev (oLc (iSeq (eVar 1)) (.nm 6) [6] tYesM (eB1 tupD (.ev (oLc (iSeq (eVar 0)) (.nm 7) [7] tYesM (eTup [(eBin modI (.ev (eB1 intD (.ev (eBin addA (.sl 5) (.ev (eB1 intD (.ev (eBin neD (.ev (eBin fdivI (.sl 6) (.ev (eC (.int 2))))) (.sl 7))))))))) (.ev (eC (.int 2)))), (eBin addA (.ev (eBin mulA (.ev (eC (.int 2))) (.sl 7))) (.ev (eBin modI (.ev (eB1 intD (.sl 6))) (.ev (eC (.int 2)))))), (eVar 1), (eIf (tOf (eBin neD (.ev (eBin fdivI (.sl 6) (.ev (eC (.int 2))))) (.sl 7))) (eVar 2) (eVar 1))])))))))))
  (sRet (eTup [(eVar 3), (eTup [(eTup [(eC (.bl false)), (eC (.bl true))]), (eTup [(eC (.int 0)), (eC (.int 0)), (eC (.int 1)), (eC (.int 1))]), (eTup [(eC (.int 0)), (eC (.int 0))]), (eB1 tupD (.sl 4))])]))))))
def m_l_shown : Fn := mkFn 8 b_l_shown
theorem ok_l_shown {P : Program} {w : World} {K : PySem.W.Frag} {mg : Str → Option Value} {base : Heap} (T : Bi mg) (h : HF K mg "_law_shown" [] s_l_shown) : FOk P w K mg base 1 "_law_shown" [] m_l_shown :=
  (fok (k := 0) (m := b_l_shown) h sc_l_shown fun f cdv A outer hp H E B => (by exact (cs_cons (cs_unp B.gd (nmc 0 B.gd (nmc 1 B.gd (nmc 2 B.gd cgs_nil))) (c_tup (ca_cons (c_tup (ca_cons c_int (ca_cons c_int ca_nil))) (ca_cons (c_tup (ca_cons c_int (ca_cons c_int (ca_cons c_int (ca_cons c_int ca_nil))))) (ca_cons (c_tup (ca_cons c_int (ca_cons c_int (ca_cons c_int (ca_cons c_int ca_nil))))) ca_nil)))))
  (cs_cons (set 3 B.gd (c_tup (ca_cons (c_tup (ca_cons c_bl (ca_cons c_bl ca_nil))) (ca_cons (v 0) (ca_cons (c_tup (ca_cons c_int (ca_cons c_int ca_nil))) (ca_cons (c_ty1 tuple_ok (by rfl) T.tuple (by decide +kernel) (cop_ev (CO.ce (c_lc (own := ([("_law_f", 5)])) B.gd (ci_seq (v 0)) (blkOk_by (N := ["_law_keep", "_law_same_here", "_law_swap", "_law_odd", "_law_lines", "_law_f", "_law_h", "_law_b"]) (sc := defScope s_l_shown) (by decide +kernel)) (fun _ _ _ _ _ => (nm 5 B.gd.blk)) (fun _ _ _ _ _ => cts_nil) (fun _ _ _ _ _ => (c_ty1 tuple_ok (by rfl) T.tuple (by decide +kernel) (cop_ev (CO.ce (c_lc (own := ([("_law_h", 6)])) B.gd.blk (ci_seq (v 0)) (blkOk_by (by rfl)) (fun _ _ _ _ _ => (nm 6 B.gd.blk.blk)) (fun _ _ _ _ _ => cts_nil) (fun _ _ _ _ _ => (c_ty1 tuple_ok (by rfl) T.tuple (by decide +kernel) (cop_ev (CO.ce (c_lc (own := ([("_law_b", 7)])) B.gd.blk.blk (ci_seq (v 0)) (blkOk_by (by rfl)) (fun _ _ _ _ _ => (nm 7 B.gd.blk.blk.blk)) (fun _ _ _ _ _ => cts_nil) (fun _ _ _ _ _ => (c_tup (ca_cons (c_bin ok_mod (cop_ev (c_ty1 int_ok (by rfl) T.int (by decide +kernel) (cop_ev (c_bin ok_addA (cop_ev (c_bin ok_addA (s 5) (s 6))) (s 7))))) (cop_ev c_int)) (ca_cons (v 7) (ca_cons (v 0) (ca_cons (v 0) ca_nil)))))))))))))))))))) ca_nil))))))
  (cs_cons (setO 4 B.gd (c_lst ca_nil))
  (cs_cons (cs_for B.gd B.own (ci_seq (v 0)) (nm 5 B.gd) (cs_one (app 4 B.gd (c_ty1 tuple_ok (by rfl) T.tuple (by decide +kernel) (cop_ev (CO.ce (c_lc (own := ([("_law_h", 6)])) B.gd (ci_seq (v 1)) (blkOk_by (N := ["_law_keep", "_law_same_here", "_law_swap", "_law_odd", "_law_lines", "_law_f", "_law_h", "_law_b"]) (sc := defScope s_l_shown) (by decide +kernel)) (fun _ _ _ _ _ => (nm 6 B.gd.blk)) (fun _ _ _ _ _ => cts_nil) (fun _ _ _ _ _ => (c_ty1 tuple_ok (by rfl) T.tuple (by decide +kernel) (cop_ev (CO.ce (c_lc (own := ([("_law_b", 7)])) B.gd.blk (ci_seq (v 0)) (blkOk_by (by rfl)) (fun _ _ _ _ _ => (nm 7 B.gd.blk.blk)) (fun _ _ _ _ _ => cts_nil) (fun _ _ _ _ _ => (c_tup (ca_cons (c_bin ok_mod (cop_ev (c_ty1 int_ok (by rfl) T.int (by decide +kernel) (cop_ev (c_bin ok_addA (s 5) (cop_ev (c_ty1 int_ok (by rfl) T.int (by decide +kernel) (cop_ev (c_cmp (ok_ne B.gd.blk.blk) (cop_ev (c_bin ok_fdiv (s 6) (cop_ev c_int))) (s 7) (nomark _))))))))) (cop_ev c_int)) (ca_cons (c_bin ok_addA (cop_ev (c_bin ok_mulA (cop_ev c_int) (s 7))) (cop_ev (c_bin ok_mod (cop_ev (c_ty1 int_ok (by rfl) T.int (by decide +kernel) (s 6))) (cop_ev c_int)))) (ca_cons (v 1) (ca_cons (c_if (ct_cmp (ok_ne B.gd.blk.blk) (cop_ev (c_bin ok_fdiv (s 6) (cop_ev c_int))) (s 7) (nomark _)) (v 2) (v 1)) ca_nil))))))))))))))))))
  (cs_one (cs_ret (c_tup (ca_cons (v 3) (ca_cons (c_tup (ca_cons (c_tup (ca_cons c_bl (ca_cons c_bl ca_nil))) (ca_cons (c_tup (ca_cons c_int (ca_cons c_int (ca_cons c_int (ca_cons c_int ca_nil))))) (ca_cons (c_tup (ca_cons c_int (ca_cons c_int ca_nil))) (ca_cons (c_ty1 tuple_ok (by rfl) T.tuple (by decide +kernel) (s 4)) ca_nil))))) ca_nil)))))))))) :)
abbrev s_l_played : Stmt := topS 39
theorem sc_l_played : FnScope ["_law_book_here", "_law_many", "_law_changes", "_law_found", "_law_change"] ["_law_book_here", "_law_many", "_law_changes"] (defScope s_l_played) := ⟨rfl, rfl, rfl, by decide +kernel, rfl, by decide +kernel, by decide +kernel⟩
def b_l_played : S :=
  (sSeq (sSetO 3 (oLst [(eTup [(eIx (.ev (eIx (.sl 0) (.ev (eC (.int 2))))) (.ev (eC (.int 0)))), (eBin mulA (.ev (eTup [(eIx (.ev (eIx (.sl 0) (.ev (eC (.int 2))))) (.ev (eC (.int 1))))])) (.sl 1))])]))
  (sSeq (sFor (iSeq (eVar 2)) (.nm 4) (sMut appD 3 (eCall m_l_turned [(eVar 0), (eIx (.sl 3) (.ev (eNeg (eC (.int 1))))), (eVar 4)])))
  (sRet (eVar 3))))
def m_l_played : Fn := mkFn 5 b_l_played
theorem ok_l_played {P : Program} {w : World} {K : PySem.W.Frag} {mg : Str → Option Value} {base : Heap} (T : Bi mg) (h : HF K mg "_law_played" ["_law_book_here", "_law_many", "_law_changes"] s_l_played) (h_l_turned : FOk P w K mg base 1 "_law_turned" ["_law_book_here", "_law_stand", "_law_change"] m_l_turned) : FOk P w K mg base 2 "_law_played" ["_law_book_here", "_law_many", "_law_changes"] m_l_played :=
  (fok (k := 1) (m := b_l_played) h sc_l_played fun f cdv A outer hp H E B => (by exact (cs_cons (setO 3 B.gd (c_lst (ca_cons (c_tup (ca_cons (c_ix B.gd (cop_ev (c_ix B.gd (s 0) (cop_ev c_int))) (cop_ev c_int)) (ca_cons (c_bin ok_mulA (cop_ev (c_tup (ca_cons (c_ix B.gd (cop_ev (c_ix B.gd (s 0) (cop_ev c_int))) (cop_ev c_int)) ca_nil))) (s 1)) ca_nil))) ca_nil)))
  (cs_cons (cs_for B.gd B.own (ci_seq (v 2)) (nm 4 B.gd) (cs_one (app 3 B.gd (c_call h_l_turned (B.room.mono (by decide)) B.pas (by rfl) (ca_cons (v 0) (ca_cons (c_ix B.gd (s 3) (cop_ev (c_neg c_int))) (ca_cons (v 4) ca_nil)))))))
  (cs_one (cs_ret (v 3)))))) :)
abbrev s_l_text : Stmt := topS 40
theorem sc_l_text : FnScope ["_law_many", "_law_changes", "_law_found", "_law_place", "_law_letter"] ["_law_many", "_law_changes"] (defScope s_l_text) := ⟨rfl, rfl, rfl, by decide +kernel, rfl, by decide +kernel, by decide +kernel⟩
def b_l_text : S :=
  (sSeq (sSetO 2 (eBin mulL (.ev (oLst [(eC (.int 0))])) (.sl 0)))
  (sSeq (sFor (iSeq (eVar 1)) (.tp [3, 4]) (sIx 2 (eVar 3) (eVar 4)))
  (sRet (eB1 tupD (.sl 2)))))
def m_l_text : Fn := mkFn 5 b_l_text
theorem ok_l_text {P : Program} {w : World} {K : PySem.W.Frag} {mg : Str → Option Value} {base : Heap} (T : Bi mg) (h : HF K mg "_law_text" ["_law_many", "_law_changes"] s_l_text) : FOk P w K mg base 1 "_law_text" ["_law_many", "_law_changes"] m_l_text :=
  (fok (k := 0) (m := b_l_text) h sc_l_text fun f cdv A outer hp H E B => (by exact (cs_cons (setO 2 B.gd (c_binO new_mulL (cop_ev (CO.ce (c_lst (ca_cons c_int ca_nil)))) (s 0)))
  (cs_cons (cs_for B.gd B.own (ci_seq (v 1)) (cg_tp B.gd (nmc 3 B.gd (nmc 4 B.gd cgs_nil))) (cs_one (cs_ix (i := 2) B.gd rfl (by first | exact Or.inl rfl | exact Or.inr (Or.inl rfl)) (v 3) (v 4))))
  (cs_one (cs_ret (c_ty1 tuple_ok (by rfl) T.tuple (by decide +kernel) (s 2))))))) :)
abbrev s_l_right : Stmt := topS 41
theorem sc_l_right : FnScope ["_law_urn", "_law_book_here", "_law_many", "_law_letters", "_law_changes", "_law_history", "_law_soft", "_law_stands", "_law_place", "_law_flags", "_law_hues", "_law_got", "_law_due", "_law_stand", "_law_change", "_law_near", "_law_other", "_law_one", "_law_two", "_law_lap", "_law_own", "_law_letter", "_law_k"] ["_law_urn"] (defScope s_l_right) := ⟨rfl, rfl, rfl, by decide +kernel, rfl, by decide +kernel, by decide +kernel⟩
def b_l_right : S :=
  (sSeq (sPar [.nm 1, .nm 2] [((eCall m_l_book [(eVar 0)]), false), ((eBin addA (.ev (eC (.int 1))) (.ev (eCall m_l_take [(eVar 0), (eC (.int 5))]))), false)])
  (sSeq (sSet 3 (eBin subI (.ev (eB1 lenA (.ev (eIx (.ev (eIx (.ev (eIx (.sl 1) (.ev (eC (.int 3))))) (.ev (eC (.int 0))))) (.ev (eC (.int 0))))))) (.ev (eC (.int 1)))))
  (sSeq (sSet 4 (eB1 tupD (.ev (oLc (iRg1 (eCall m_l_take [(eVar 0), (eC (.int 10))])) (.nm 19) [19] tYesM (eTup [(eCall m_l_take [(eVar 0), (eVar 2)]), (eCall m_l_take [(eVar 0), (eBin addA (.sl 3) (.ev (eC (.int 1))))])])))))
  (sSeq (sPar [.nm 5, .nm 6] [((eTup [(eVar 2), (eVar 4)]), false), ((eCall m_l_lists [(eVar 1)]), false)])
  (sSeq (sPar [.nm 7, .nm 8] [((eCall m_l_played [(eVar 1), (eVar 2), (eVar 4)]), false), ((eCall m_l_take [(eVar 0), (eVar 2)]), false)])
  (sSeq (sPar [.nm 9, .nm 10] [((eB1 tupD (.ev (oLc (iSeq (eVar 7)) (.nm 20) [20] tYesM (eIx (.sl 20) (.ev (eC (.int 0))))))), false), ((eB1 tupD (.ev (oLc (iSeq (eVar 7)) (.nm 20) [20] tYesM (eIx (.ev (eIx (.sl 20) (.ev (eC (.int 1))))) (.sl 8))))), false)])
  (sSeq (sSet 11 (oLst [(eCall m_is_book [(eVar 1)]), (eCall m_begun [(eVar 6), (eVar 2)]), (eCall m_stand_behind [(eVar 1), (eVar 5)]), (eCall m_stand_behind [(eVar 6), (oLst [(eVar 2), (eCall m_l_lists [(eVar 4)])])])]))
  (sSeq (sSet 12 (oLst [(eC (.bl true)), (eIx (.sl 7) (.ev (eC (.int 0)))), (eIx (.sl 7) (.ev (eNeg (eC (.int 1))))), (eIx (.sl 7) (.ev (eNeg (eC (.int 1)))))]))
  (sSeq (sSet 11 (eBin addA (.sl 11) (.ev (oLst [(eCall m_flags_along [(eVar 1), (eVar 5)]), (eCall m_flags_along [(eVar 6), (eCall m_l_lists [(eVar 5)])]), (eCall m_hues_along [(eVar 1), (eVar 5), (eVar 8)]), (eCall m_answer [(eVar 6), (eVar 5)])]))))
  (sSeq (sSet 12 (eBin addA (.sl 12) (.ev (oLst [(eVar 9), (eVar 9), (eVar 10), (eIx (.ev (eIx (.sl 1) (.ev (eC (.int 0))))) (.ev (eIx (.sl 9) (.ev (eNeg (eC (.int 1)))))))]))))
  (sSeq (sSet 11 (eBin addA (.sl 11) (.ev (oLst [(eCall m_text_of [(eVar 1), (eIx (.sl 7) (.ev (eNeg (eC (.int 1)))))]), (eCall m_text_of [(eVar 6), (eCall m_l_lists [(eIx (.sl 7) (.ev (eNeg (eC (.int 1)))))])]), (eCall m_text_behind [(eVar 5)]), (eCall m_letters_of [(eVar 6)])]))))
  (sSeq (sSet 12 (eBin addA (.ev (eBin addA (.sl 12) (.ev (eBin mulA (.ev (oLst [(eCall m_l_text [(eVar 2), (eVar 4)])])) (.ev (eC (.int 3))))))) (.ev (oLst [(eVar 3)]))))
  (sSeq (sSet 11 (eBin addA (.sl 11) (.ev (oLst [(oLc (iRg1 (eBin addA (.sl 3) (.ev (eC (.int 1))))) (.nm 21) [21] tYesM (eCall m_hues_for [(eVar 1), (eVar 21)])), (oLc (iSeq (eVar 7)) (.nm 20) [20] tYesM (eCall m_is_stand [(eVar 1), (eVar 20)]))]))))
  (sSeq (sSet 12 (eBin addA (.sl 12) (.ev (oLst [(oLc (iRg1 (eBin addA (.sl 3) (.ev (eC (.int 1))))) (.nm 21) [21] tYesM (eB1 tupD (.ev (oLc (iEn (eIx (.sl 1) (.ev (eC (.int 1))))) (.tp [22, 20]) [22, 20] (tOf (eBin eqD (.sl 20) (.sl 21))) (eVar 22))))), (eBin mulA (.ev (oLst [(eC (.bl true))])) (.ev (eB1 lenA (.sl 7))))]))))
  (sSeq (sIf (tNotM (tOf (eCall m_l_same [(eVar 11), (eVar 12)]))) (sRet (eC (.bl false))) sNx)
  (sSeq (sSet 13 (eTup [(eCall m_l_take [(eVar 0), (eB1 lenA (.ev (eIx (.sl 1) (.ev (eC (.int 0))))))]), (eB1 tupD (.ev (oLc (iRg1 (eVar 2)) (.nm 19) [19] tYesM (eCall m_l_take [(eVar 0), (eB1 lenA (.ev (eIx (.sl 1) (.ev (eC (.int 1))))))]))))]))
  (sSeq (sSet 14 (eTup [(eVar 8), (eCall m_l_take [(eVar 0), (eBin addA (.sl 3) (.ev (eC (.int 1))))])]))
  (sSeq (sSet 15 (eCall m_l_take [(eVar 0), (eVar 2)]))
  (sSeq (sSet 16 (eTup [(eIx (.sl 13) (.ev (eC (.int 0)))), (eB1 tupD (.ev (oLc (iEn (eIx (.sl 13) (.ev (eC (.int 1))))) (.tp [22, 20]) [22, 20] tYesM (eIf (tOf (eBin inDn (.sl 22) (.ev (eTup [(eVar 8), (eVar 15)])))) (eVar 20) (eCall m_l_take [(eVar 0), (eB1 lenA (.ev (eIx (.sl 1) (.ev (eC (.int 1))))))])))))]))
  (sSeq (sPar [.nm 17, .nm 18] [((eCall m_turned [(eVar 1), (eVar 13), (eVar 14)]), false), ((eCall m_turned [(eVar 6), (eCall m_l_lists [(eVar 16)]), (eB1 lstD (.sl 14))]), false)])
  (sSeq (sIf (tNotM (tOf (eCall m_l_same [(oLst [(eVar 17), (eVar 18)]), (oLst [(eCall m_l_turned [(eVar 1), (eVar 13), (eVar 14)]), (eCall m_l_turned [(eVar 1), (eVar 16), (eVar 14)])])]))) (sRet (eC (.bl false))) sNx)
  (sRet (eBin eqD (.ev (eTup [(eIx (.sl 17) (.ev (eC (.int 0)))), (eIx (.ev (eIx (.sl 17) (.ev (eC (.int 1))))) (.sl 15))])) (.ev (eTup [(eIx (.sl 18) (.ev (eC (.int 0)))), (eIx (.ev (eIx (.sl 18) (.ev (eC (.int 1))))) (.sl 15))])))))))))))))))))))))))))
def m_l_right : Fn := mkFn 23 b_l_right
theorem ok_l_right {P : Program} {w : World} {K : PySem.W.Frag} {mg : Str → Option Value} {base : Heap} (T : Bi mg) (h : HF K mg "_law_right" ["_law_urn"] s_l_right) (h_l_take : FOk P w K mg base 1 "_law_take" ["_law_urn", "_law_low_so"] m_l_take) (h_l_book : FOk P w K mg base 4 "_law_book" ["_law_urn"] m_l_book) (h_l_lists : FOk P w K mg base 12 "_law_lists" ["_law_matter"] m_l_lists) (h_l_played : FOk P w K mg base 2 "_law_played" ["_law_book_here", "_law_many", "_law_changes"] m_l_played) (h_is_book : FOk P w K mg base 5 "is_book" ["thing"] m_is_book) (h_begun : FOk P w K mg base 1 "begun" ["book", "many"] m_begun) (h_stand_behind : FOk P w K mg base 3 "stand_behind" ["book", "history"] m_stand_behind) (h_l_same : FOk P w K mg base 12 "_law_same" ["_law_got", "_law_goal"] m_l_same) (h_turned : FOk P w K mg base 2 "turned" ["book", "stand", "change"] m_turned) (h_flags_along : FOk P w K mg base 3 "flags_along" ["book", "history"] m_flags_along) (h_hues_along : FOk P w K mg base 3 "hues_along" ["book", "history", "place"] m_hues_along) (h_answer : FOk P w K mg base 4 "answer" ["book", "history"] m_answer) (h_text_of : FOk P w K mg base 1 "text_of" ["book", "stand"] m_text_of) (h_text_behind : FOk P w K mg base 1 "text_behind" ["history"] m_text_behind) (h_letters_of : FOk P w K mg base 1 "letters_of" ["book"] m_letters_of) (h_hues_for : FOk P w K mg base 2 "hues_for" ["book", "letter"] m_hues_for) (h_is_stand : FOk P w K mg base 3 "is_stand" ["book", "thing"] m_is_stand) (h_l_turned : FOk P w K mg base 1 "_law_turned" ["_law_book_here", "_law_stand", "_law_change"] m_l_turned) (h_l_text : FOk P w K mg base 1 "_law_text" ["_law_many", "_law_changes"] m_l_text) : FOk P w K mg base 13 "_law_right" ["_law_urn"] m_l_right :=
  (fok (k := 12) (m := b_l_right) h sc_l_right fun f cdv A outer hp H E B => (by exact (cs_cons (cs_parT B.gd (pnm 1 B.gd (pnm 2 B.gd cp_nil)) (cm_val (c_call h_l_book (B.room.mono (by decide)) B.pas (by rfl) (ca_cons (v 0) ca_nil)) (cm_val (c_bin ok_addA (cop_ev c_int) (cop_ev (c_call h_l_take (B.room.mono (by decide)) B.pas (by rfl) (ca_cons (v 0) (ca_cons c_int ca_nil))))) cm_nil)))
  (cs_cons (set 3 B.gd (c_bin ok_sub (cop_ev (c_b1 len_okA (by rfl) T.len PySem.boot_len (cop_ev (c_ix B.gd (cop_ev (c_ix B.gd (cop_ev (c_ix B.gd (s 1) (cop_ev c_int))) (cop_ev c_int))) (cop_ev c_int))))) (cop_ev c_int)))
  (cs_cons (set 4 B.gd (c_ty1 tuple_ok (by rfl) T.tuple (by decide +kernel) (cop_ev (CO.ce (c_lc (own := ([("_law_lap", 19)])) B.gd (ci_rg1 (by rfl) T.range (c_call h_l_take (B.room.mono (by decide)) B.pas (by rfl) (ca_cons (v 0) (ca_cons c_int ca_nil)))) (blkOk_by (N := ["_law_urn", "_law_book_here", "_law_many", "_law_letters", "_law_changes", "_law_history", "_law_soft", "_law_stands", "_law_place", "_law_flags", "_law_hues", "_law_got", "_law_due", "_law_stand", "_law_change", "_law_near", "_law_other", "_law_one", "_law_two", "_law_lap", "_law_own", "_law_letter", "_law_k"]) (sc := defScope s_l_right) (by decide +kernel)) (fun _ _ _ _ _ => (nm 19 B.gd.blk)) (fun _ _ _ _ _ => cts_nil) (fun _ _ _ _ _ => (c_tup (ca_cons (c_call h_l_take (B.room.mono (by decide)) passL (by rfl) (ca_cons (v 0) (ca_cons (v 2) ca_nil))) (ca_cons (c_call h_l_take (B.room.mono (by decide)) passL (by rfl) (ca_cons (v 0) (ca_cons (c_bin ok_addA (s 3) (cop_ev c_int)) ca_nil))) ca_nil)))))))))
  (cs_cons (cs_par2 (i := 5) (j := 6) B.gd rfl rfl (by decide) rfl rfl (cm_val (c_tup (ca_cons (v 2) (ca_cons (v 4) ca_nil))) (cm_val (c_call h_l_lists (B.room.mono (by decide)) B.pas (by rfl) (ca_cons (v 1) ca_nil)) cm_nil)) (by rfl))
  (cs_cons (cs_parT B.gd (pnm 7 B.gd (pnm 8 B.gd cp_nil)) (cm_val (c_call h_l_played (B.room.mono (by decide)) B.pas (by rfl) (ca_cons (v 1) (ca_cons (v 2) (ca_cons (v 4) ca_nil)))) (cm_val (c_call h_l_take (B.room.mono (by decide)) B.pas (by rfl) (ca_cons (v 0) (ca_cons (v 2) ca_nil))) cm_nil)))
  (cs_cons (cs_par2 (i := 9) (j := 10) B.gd rfl rfl (by decide) rfl rfl (cm_val (c_ty1 tuple_ok (by rfl) T.tuple (by decide +kernel) (cop_ev (CO.ce (c_lc (own := ([("_law_own", 20)])) B.gd (ci_seq (v 7)) (blkOk_by (N := ["_law_urn", "_law_book_here", "_law_many", "_law_letters", "_law_changes", "_law_history", "_law_soft", "_law_stands", "_law_place", "_law_flags", "_law_hues", "_law_got", "_law_due", "_law_stand", "_law_change", "_law_near", "_law_other", "_law_one", "_law_two", "_law_lap", "_law_own", "_law_letter", "_law_k"]) (sc := defScope s_l_right) (by decide +kernel)) (fun _ _ _ _ _ => (nm 20 B.gd.blk)) (fun _ _ _ _ _ => cts_nil) (fun _ _ _ _ _ => (c_ix B.gd.blk (s 20) (cop_ev c_int))))))) (cm_val (c_ty1 tuple_ok (by rfl) T.tuple (by decide +kernel) (cop_ev (CO.ce (c_lc (own := ([("_law_own", 20)])) B.gd (ci_seq (v 7)) (blkOk_by (N := ["_law_urn", "_law_book_here", "_law_many", "_law_letters", "_law_changes", "_law_history", "_law_soft", "_law_stands", "_law_place", "_law_flags", "_law_hues", "_law_got", "_law_due", "_law_stand", "_law_change", "_law_near", "_law_other", "_law_one", "_law_two", "_law_lap", "_law_own", "_law_letter", "_law_k"]) (sc := defScope s_l_right) (by decide +kernel)) (fun _ _ _ _ _ => (nm 20 B.gd.blk)) (fun _ _ _ _ _ => cts_nil) (fun _ _ _ _ _ => (c_ix B.gd.blk (cop_ev (c_ix B.gd.blk (s 20) (cop_ev c_int))) (s 8))))))) cm_nil)) (by rfl))
  (cs_cons (set 11 B.gd (CO.ce (c_lst (ca_cons (c_call h_is_book (B.room.mono (by decide)) B.pas (by rfl) (ca_cons (v 1) ca_nil)) (ca_cons (c_call h_begun (B.room.mono (by decide)) B.pas (by rfl) (ca_cons (v 6) (ca_cons (v 2) ca_nil))) (ca_cons (c_call h_stand_behind (B.room.mono (by decide)) B.pas (by rfl) (ca_cons (v 1) (ca_cons (v 5) ca_nil))) (ca_cons (c_call h_stand_behind (B.room.mono (by decide)) B.pas (by rfl) (ca_cons (v 6) (ca_cons (CO.ce (c_lst (ca_cons (v 2) (ca_cons (c_call h_l_lists (B.room.mono (by decide)) B.pas (by rfl) (ca_cons (v 4) ca_nil)) ca_nil)))) ca_nil))) ca_nil)))))))
  (cs_cons (set 12 B.gd (CO.ce (c_lst (ca_cons c_bl (ca_cons (c_ix B.gd (s 7) (cop_ev c_int)) (ca_cons (c_ix B.gd (s 7) (cop_ev (c_neg c_int))) (ca_cons (c_ix B.gd (s 7) (cop_ev (c_neg c_int))) ca_nil)))))))
  (cs_cons (set 11 B.gd (c_bin ok_addA (s 11) (cop_ev (CO.ce (c_lst (ca_cons (c_call h_flags_along (B.room.mono (by decide)) B.pas (by rfl) (ca_cons (v 1) (ca_cons (v 5) ca_nil))) (ca_cons (c_call h_flags_along (B.room.mono (by decide)) B.pas (by rfl) (ca_cons (v 6) (ca_cons (c_call h_l_lists (B.room.mono (by decide)) B.pas (by rfl) (ca_cons (v 5) ca_nil)) ca_nil))) (ca_cons (c_call h_hues_along (B.room.mono (by decide)) B.pas (by rfl) (ca_cons (v 1) (ca_cons (v 5) (ca_cons (v 8) ca_nil)))) (ca_cons (c_call h_answer (B.room.mono (by decide)) B.pas (by rfl) (ca_cons (v 6) (ca_cons (v 5) ca_nil))) ca_nil)))))))))
  (cs_cons (set 12 B.gd (c_bin ok_addA (s 12) (cop_ev (CO.ce (c_lst (ca_cons (v 9) (ca_cons (v 9) (ca_cons (v 10) (ca_cons (c_ix B.gd (cop_ev (c_ix B.gd (s 1) (cop_ev c_int))) (cop_ev (c_ix B.gd (s 9) (cop_ev (c_neg c_int))))) ca_nil)))))))))
  (cs_cons (set 11 B.gd (c_bin ok_addA (s 11) (cop_ev (CO.ce (c_lst (ca_cons (c_call h_text_of (B.room.mono (by decide)) B.pas (by rfl) (ca_cons (v 1) (ca_cons (c_ix B.gd (s 7) (cop_ev (c_neg c_int))) ca_nil))) (ca_cons (c_call h_text_of (B.room.mono (by decide)) B.pas (by rfl) (ca_cons (v 6) (ca_cons (c_call h_l_lists (B.room.mono (by decide)) B.pas (by rfl) (ca_cons (c_ix B.gd (s 7) (cop_ev (c_neg c_int))) ca_nil)) ca_nil))) (ca_cons (c_call h_text_behind (B.room.mono (by decide)) B.pas (by rfl) (ca_cons (v 5) ca_nil)) (ca_cons (c_call h_letters_of (B.room.mono (by decide)) B.pas (by rfl) (ca_cons (v 6) ca_nil)) ca_nil)))))))))
  (cs_cons (set 12 B.gd (c_bin ok_addA (cop_ev (c_bin ok_addA (s 12) (cop_ev (c_bin ok_mulA (cop_ev (CO.ce (c_lst (ca_cons (c_call h_l_text (B.room.mono (by decide)) B.pas (by rfl) (ca_cons (v 2) (ca_cons (v 4) ca_nil))) ca_nil)))) (cop_ev c_int))))) (cop_ev (CO.ce (c_lst (ca_cons (v 3) ca_nil))))))
  (cs_cons (set 11 B.gd (c_bin ok_addA (s 11) (cop_ev (CO.ce (c_lst (ca_cons (CO.ce (c_lc (own := ([("_law_letter", 21)])) B.gd (ci_rg1 (by rfl) T.range (c_bin ok_addA (s 3) (cop_ev c_int))) (blkOk_by (N := ["_law_urn", "_law_book_here", "_law_many", "_law_letters", "_law_changes", "_law_history", "_law_soft", "_law_stands", "_law_place", "_law_flags", "_law_hues", "_law_got", "_law_due", "_law_stand", "_law_change", "_law_near", "_law_other", "_law_one", "_law_two", "_law_lap", "_law_own", "_law_letter", "_law_k"]) (sc := defScope s_l_right) (by decide +kernel)) (fun _ _ _ _ _ => (nm 21 B.gd.blk)) (fun _ _ _ _ _ => cts_nil) (fun _ _ _ _ _ => (c_call h_hues_for (B.room.mono (by decide)) passL (by rfl) (ca_cons (v 1) (ca_cons (v 21) ca_nil)))))) (ca_cons (CO.ce (c_lc (own := ([("_law_own", 20)])) B.gd (ci_seq (v 7)) (blkOk_by (N := ["_law_urn", "_law_book_here", "_law_many", "_law_letters", "_law_changes", "_law_history", "_law_soft", "_law_stands", "_law_place", "_law_flags", "_law_hues", "_law_got", "_law_due", "_law_stand", "_law_change", "_law_near", "_law_other", "_law_one", "_law_two", "_law_lap", "_law_own", "_law_letter", "_law_k"]) (sc := defScope s_l_right) (by decide +kernel)) (fun _ _ _ _ _ => (nm 20 B.gd.blk)) (fun _ _ _ _ _ => cts_nil) (fun _ _ _ _ _ => (c_call h_is_stand (B.room.mono (by decide)) passL (by rfl) (ca_cons (v 1) (ca_cons (v 20) ca_nil)))))) ca_nil)))))))
  (cs_cons (set 12 B.gd (c_bin ok_addA (s 12) (cop_ev (CO.ce (c_lst (ca_cons (CO.ce (c_lc (own := ([("_law_letter", 21)])) B.gd (ci_rg1 (by rfl) T.range (c_bin ok_addA (s 3) (cop_ev c_int))) (blkOk_by (N := ["_law_urn", "_law_book_here", "_law_many", "_law_letters", "_law_changes", "_law_history", "_law_soft", "_law_stands", "_law_place", "_law_flags", "_law_hues", "_law_got", "_law_due", "_law_stand", "_law_change", "_law_near", "_law_other", "_law_one", "_law_two", "_law_lap", "_law_own", "_law_letter", "_law_k"]) (sc := defScope s_l_right) (by decide +kernel)) (fun _ _ _ _ _ => (nm 21 B.gd.blk)) (fun _ _ _ _ _ => cts_nil) (fun _ _ _ _ _ => (c_ty1 tuple_ok (by rfl) T.tuple (by decide +kernel) (cop_ev (CO.ce (c_lc (own := ([("_law_k", 22), ("_law_own", 20)])) B.gd.blk (ci_enum (by rfl) T.enumerate (c_ix B.gd.blk (s 1) (cop_ev c_int))) (blkOk_by (by rfl)) (fun _ _ _ _ _ => (cg_tp B.gd.blk.blk (nmc 22 B.gd.blk.blk (nmc 20 B.gd.blk.blk cgs_nil)))) (fun _ _ _ _ _ => (cts_one (ct_cmp (ok_eq B.gd.blk.blk) (s 20) (s 21) (nomark _)))) (fun _ _ _ _ _ => (v 22))))))))) (ca_cons (c_bin ok_mulA (cop_ev (CO.ce (c_lst (ca_cons c_bl ca_nil)))) (cop_ev (c_b1 len_okA (by rfl) T.len PySem.boot_len (s 7)))) ca_nil)))))))
  (cs_cons (cs_if (ct_not (ct_val (c_call h_l_same (B.room.mono (by decide)) B.pas (by rfl) (ca_cons (v 11) (ca_cons (v 12) ca_nil))))) (cs_one (cs_ret c_bl)) cs_nil)
  (cs_cons (set 13 B.gd (c_tup (ca_cons (c_call h_l_take (B.room.mono (by decide)) B.pas (by rfl) (ca_cons (v 0) (ca_cons (c_b1 len_okA (by rfl) T.len PySem.boot_len (cop_ev (c_ix B.gd (s 1) (cop_ev c_int)))) ca_nil))) (ca_cons (c_ty1 tuple_ok (by rfl) T.tuple (by decide +kernel) (cop_ev (CO.ce (c_lc (own := ([("_law_lap", 19)])) B.gd (ci_rg1 (by rfl) T.range (v 2)) (blkOk_by (N := ["_law_urn", "_law_book_here", "_law_many", "_law_letters", "_law_changes", "_law_history", "_law_soft", "_law_stands", "_law_place", "_law_flags", "_law_hues", "_law_got", "_law_due", "_law_stand", "_law_change", "_law_near", "_law_other", "_law_one", "_law_two", "_law_lap", "_law_own", "_law_letter", "_law_k"]) (sc := defScope s_l_right) (by decide +kernel)) (fun _ _ _ _ _ => (nm 19 B.gd.blk)) (fun _ _ _ _ _ => cts_nil) (fun _ _ _ _ _ => (c_call h_l_take (B.room.mono (by decide)) passL (by rfl) (ca_cons (v 0) (ca_cons (c_b1 len_okA (by rfl) T.len PySem.boot_len (cop_ev (c_ix B.gd.blk (s 1) (cop_ev c_int)))) ca_nil)))))))) ca_nil))))
  (cs_cons (set 14 B.gd (c_tup (ca_cons (v 8) (ca_cons (c_call h_l_take (B.room.mono (by decide)) B.pas (by rfl) (ca_cons (v 0) (ca_cons (c_bin ok_addA (s 3) (cop_ev c_int)) ca_nil))) ca_nil))))
  (cs_cons (set 15 B.gd (c_call h_l_take (B.room.mono (by decide)) B.pas (by rfl) (ca_cons (v 0) (ca_cons (v 2) ca_nil))))
  (cs_cons (set 16 B.gd (c_tup (ca_cons (c_ix B.gd (s 13) (cop_ev c_int)) (ca_cons (c_ty1 tuple_ok (by rfl) T.tuple (by decide +kernel) (cop_ev (CO.ce (c_lc (own := ([("_law_k", 22), ("_law_own", 20)])) B.gd (ci_enum (by rfl) T.enumerate (c_ix B.gd (s 13) (cop_ev c_int))) (blkOk_by (N := ["_law_urn", "_law_book_here", "_law_many", "_law_letters", "_law_changes", "_law_history", "_law_soft", "_law_stands", "_law_place", "_law_flags", "_law_hues", "_law_got", "_law_due", "_law_stand", "_law_change", "_law_near", "_law_other", "_law_one", "_law_two", "_law_lap", "_law_own", "_law_letter", "_law_k"]) (sc := defScope s_l_right) (by decide +kernel)) (fun _ _ _ _ _ => (cg_tp B.gd.blk (nmc 22 B.gd.blk (nmc 20 B.gd.blk cgs_nil)))) (fun _ _ _ _ _ => cts_nil) (fun _ _ _ _ _ => (c_if (ct_cmp (ok_in B.gd.blk) (s 22) (cop_ev (c_tup (ca_cons (v 8) (ca_cons (v 15) ca_nil)))) (by rfl)) (v 20) (c_call h_l_take (B.room.mono (by decide)) passL (by rfl) (ca_cons (v 0) (ca_cons (c_b1 len_okA (by rfl) T.len PySem.boot_len (cop_ev (c_ix B.gd.blk (s 1) (cop_ev c_int)))) ca_nil))))))))) ca_nil))))
  (cs_cons (cs_par2 (i := 17) (j := 18) B.gd rfl rfl (by decide) rfl rfl (cm_val (c_call h_turned (B.room.mono (by decide)) B.pas (by rfl) (ca_cons (v 1) (ca_cons (v 13) (ca_cons (v 14) ca_nil)))) (cm_val (c_call h_turned (B.room.mono (by decide)) B.pas (by rfl) (ca_cons (v 6) (ca_cons (c_call h_l_lists (B.room.mono (by decide)) B.pas (by rfl) (ca_cons (v 16) ca_nil)) (ca_cons (CO.ce (c_ty1N list_ok (by rfl) T.list (by decide +kernel) (s 14))) ca_nil)))) cm_nil)) (by rfl))
  (cs_cons (cs_if (ct_not (ct_val (c_call h_l_same (B.room.mono (by decide)) B.pas (by rfl) (ca_cons (CO.ce (c_lst (ca_cons (v 17) (ca_cons (v 18) ca_nil)))) (ca_cons (CO.ce (c_lst (ca_cons (c_call h_l_turned (B.room.mono (by decide)) B.pas (by rfl) (ca_cons (v 1) (ca_cons (v 13) (ca_cons (v 14) ca_nil)))) (ca_cons (c_call h_l_turned (B.room.mono (by decide)) B.pas (by rfl) (ca_cons (v 1) (ca_cons (v 16) (ca_cons (v 14) ca_nil)))) ca_nil)))) ca_nil))))) (cs_one (cs_ret c_bl)) cs_nil)
  (cs_one (cs_ret (c_cmp (ok_eq B.gd) (cop_ev (c_tup (ca_cons (c_ix B.gd (s 17) (cop_ev c_int)) (ca_cons (c_ix B.gd (cop_ev (c_ix B.gd (s 17) (cop_ev c_int))) (s 15)) ca_nil)))) (cop_ev (c_tup (ca_cons (c_ix B.gd (s 18) (cop_ev c_int)) (ca_cons (c_ix B.gd (cop_ev (c_ix B.gd (s 18) (cop_ev c_int))) (s 15)) ca_nil)))) (nomark _)))))))))))))))))))))))))) :)
abbrev s_l_by_hand_right : Stmt := topS 42
theorem sc_l_by_hand_right : FnScope ["_law_odd", "_law_sides", "_law_up", "_law_full", "_law_got", "_law_due"] [] (defScope s_l_by_hand_right) := ⟨rfl, rfl, rfl, by decide +kernel, rfl, by decide +kernel, by decide +kernel⟩
def b_l_by_hand_right : S :=
  (sSeq (sUnp [0, 1] (eCall m_l_shown []))
  (sSeq (sUnp [2, 3] (eTup [(eTup [(eC (.int 3)), (eTup [(eTup [(eC (.int 0)), (eC (.int 1))]), (eTup [(eC (.int 2)), (eC (.int 1))]), (eTup [(eC (.int 0)), (eC (.int 0))])])]), (eTup [(eC (.int 3)), (eTup [(eTup [(eC (.int 2)), (eC (.int 1))]), (eTup [(eC (.int 0)), (eC (.int 1))]), (eTup [(eC (.int 1)), (eC (.int 1))])])])]))
  (sSeq (sSet 4 (oLst [(eCall m_flags_along [(eVar 0), (eVar 2)]), (eCall m_answer [(eVar 0), (eVar 2)]), (eCall m_stand_behind [(eVar 1), (eVar 3)]), (eCall m_hues_along [(eVar 1), (eVar 3), (eC (.int 2))]), (eCall m_text_of [(eVar 1), (eTup [(eC (.int 1)), (eTup [(eC (.int 2)), (eC (.int 3)), (eC (.int 2))])])])]))
  (sSeq (sSet 5 (oLst [(eTup [(eC (.int 0)), (eC (.int 1)), (eC (.int 0)), (eC (.int 1))]), (eC (.bl true)), (eTup [(eC (.int 1)), (eTup [(eC (.int 2)), (eC (.int 3)), (eC (.int 2))])]), (eTup [(eC (.int 0)), (eC (.int 2)), (eC (.int 3)), (eC (.int 2))]), (eTup [(eC (.int 1)), (eC (.int 1)), (eC (.int 1))])]))
  (sSeq (sSet 4 (eBin addA (.sl 4) (.ev (oLst [(eCall m_turned [(eVar 1), (eTup [(eC (.int 1)), (eTup [(eC (.int 2)), (eC (.int 3)), (eC (.int 2))])]), (eTup [(eC (.int 0)), (eC (.int 0))])]), (eCall m_turned [(eVar 1), (eTup [(eC (.int 0)), (eTup [(eC (.int 1)), (eC (.int 3))])]), (eTup [(eC (.int 1)), (eC (.int 0))])]), (eCall m_hues_for [(eVar 1), (eC (.int 1))])]))))
  (sRet (eCall m_l_same [(eVar 4), (eBin addA (.sl 5) (.ev (oLst [(eTup [(eC (.int 0)), (eTup [(eC (.int 0)), (eC (.int 2)), (eC (.int 3))])]), (eTup [(eC (.int 1)), (eTup [(eC (.int 1)), (eC (.int 1))])]), (eTup [(eC (.int 2)), (eC (.int 3))])])))])))))))
def m_l_by_hand_right : Fn := mkFn 6 b_l_by_hand_right
theorem ok_l_by_hand_right {P : Program} {w : World} {K : PySem.W.Frag} {mg : Str → Option Value} {base : Heap} (T : Bi mg) (h : HF K mg "_law_by_hand_right" [] s_l_by_hand_right) (h_l_shown : FOk P w K mg base 1 "_law_shown" [] m_l_shown) (h_l_same : FOk P w K mg base 12 "_law_same" ["_law_got", "_law_goal"] m_l_same) (h_flags_along : FOk P w K mg base 3 "flags_along" ["book", "history"] m_flags_along) (h_answer : FOk P w K mg base 4 "answer" ["book", "history"] m_answer) (h_stand_behind : FOk P w K mg base 3 "stand_behind" ["book", "history"] m_stand_behind) (h_hues_along : FOk P w K mg base 3 "hues_along" ["book", "history", "place"] m_hues_along) (h_text_of : FOk P w K mg base 1 "text_of" ["book", "stand"] m_text_of) (h_turned : FOk P w K mg base 2 "turned" ["book", "stand", "change"] m_turned) (h_hues_for : FOk P w K mg base 2 "hues_for" ["book", "letter"] m_hues_for) : FOk P w K mg base 13 "_law_by_hand_right" [] m_l_by_hand_right :=
  (fok (k := 12) (m := b_l_by_hand_right) h sc_l_by_hand_right fun f cdv A outer hp H E B => (by exact (cs_cons (cs_unp B.gd (nmc 0 B.gd (nmc 1 B.gd cgs_nil)) (c_call0 h_l_shown (B.room.mono (by decide)) B.pas (by rfl)))
  (cs_cons (cs_unp B.gd (nmc 2 B.gd (nmc 3 B.gd cgs_nil)) (c_tup (ca_cons (c_tup (ca_cons c_int (ca_cons (c_tup (ca_cons (c_tup (ca_cons c_int (ca_cons c_int ca_nil))) (ca_cons (c_tup (ca_cons c_int (ca_cons c_int ca_nil))) (ca_cons (c_tup (ca_cons c_int (ca_cons c_int ca_nil))) ca_nil)))) ca_nil))) (ca_cons (c_tup (ca_cons c_int (ca_cons (c_tup (ca_cons (c_tup (ca_cons c_int (ca_cons c_int ca_nil))) (ca_cons (c_tup (ca_cons c_int (ca_cons c_int ca_nil))) (ca_cons (c_tup (ca_cons c_int (ca_cons c_int ca_nil))) ca_nil)))) ca_nil))) ca_nil))))
  (cs_cons (set 4 B.gd (CO.ce (c_lst (ca_cons (c_call h_flags_along (B.room.mono (by decide)) B.pas (by rfl) (ca_cons (v 0) (ca_cons (v 2) ca_nil))) (ca_cons (c_call h_answer (B.room.mono (by decide)) B.pas (by rfl) (ca_cons (v 0) (ca_cons (v 2) ca_nil))) (ca_cons (c_call h_stand_behind (B.room.mono (by decide)) B.pas (by rfl) (ca_cons (v 1) (ca_cons (v 3) ca_nil))) (ca_cons (c_call h_hues_along (B.room.mono (by decide)) B.pas (by rfl) (ca_cons (v 1) (ca_cons (v 3) (ca_cons c_int ca_nil)))) (ca_cons (c_call h_text_of (B.room.mono (by decide)) B.pas (by rfl) (ca_cons (v 1) (ca_cons (c_tup (ca_cons c_int (ca_cons (c_tup (ca_cons c_int (ca_cons c_int (ca_cons c_int ca_nil)))) ca_nil))) ca_nil))) ca_nil))))))))
  (cs_cons (set 5 B.gd (CO.ce (c_lst (ca_cons (c_tup (ca_cons c_int (ca_cons c_int (ca_cons c_int (ca_cons c_int ca_nil))))) (ca_cons c_bl (ca_cons (c_tup (ca_cons c_int (ca_cons (c_tup (ca_cons c_int (ca_cons c_int (ca_cons c_int ca_nil)))) ca_nil))) (ca_cons (c_tup (ca_cons c_int (ca_cons c_int (ca_cons c_int (ca_cons c_int ca_nil))))) (ca_cons (c_tup (ca_cons c_int (ca_cons c_int (ca_cons c_int ca_nil)))) ca_nil))))))))
  (cs_cons (set 4 B.gd (c_bin ok_addA (s 4) (cop_ev (CO.ce (c_lst (ca_cons (c_call h_turned (B.room.mono (by decide)) B.pas (by rfl) (ca_cons (v 1) (ca_cons (c_tup (ca_cons c_int (ca_cons (c_tup (ca_cons c_int (ca_cons c_int (ca_cons c_int ca_nil)))) ca_nil))) (ca_cons (c_tup (ca_cons c_int (ca_cons c_int ca_nil))) ca_nil)))) (ca_cons (c_call h_turned (B.room.mono (by decide)) B.pas (by rfl) (ca_cons (v 1) (ca_cons (c_tup (ca_cons c_int (ca_cons (c_tup (ca_cons c_int (ca_cons c_int ca_nil))) ca_nil))) (ca_cons (c_tup (ca_cons c_int (ca_cons c_int ca_nil))) ca_nil)))) (ca_cons (c_call h_hues_for (B.room.mono (by decide)) B.pas (by rfl) (ca_cons (v 1) (ca_cons c_int ca_nil))) ca_nil))))))))
  (cs_one (cs_ret (c_call h_l_same (B.room.mono (by decide)) B.pas (by rfl) (ca_cons (v 4) (ca_cons (c_bin ok_addA (s 5) (cop_ev (CO.ce (c_lst (ca_cons (c_tup (ca_cons c_int (ca_cons (c_tup (ca_cons c_int (ca_cons c_int (ca_cons c_int ca_nil)))) ca_nil))) (ca_cons (c_tup (ca_cons c_int (ca_cons (c_tup (ca_cons c_int (ca_cons c_int ca_nil))) ca_nil))) (ca_cons (c_tup (ca_cons c_int (ca_cons c_int ca_nil))) ca_nil))))))) ca_nil))))))))))) :)
abbrev s_law : Stmt := topS 43
theorem sc_law : FnScope ["_law_script"] ["_law_script"] (defScope s_law) := ⟨rfl, rfl, rfl, by decide +kernel, rfl, by decide +kernel, by decide +kernel⟩
noncomputable def b_law (K : PySem.W.Frag) : S :=
  (sRet (eAnd (eCall m_l_by_hand_right []) (eCallU m_l_right (eCall m_l_box [(eCall (m_l_cells K) [(eVar 0), (eC (.int 1))]), (eC (.int 0))]))))
noncomputable def m_law (K : PySem.W.Frag) : Fn := mkFn 1 (b_law K)
theorem ok_law {P : Program} {w : World} {K : PySem.W.Frag} {mg : Str → Option Value} {base : Heap} {f0 : Addr} {fd0 : FuncData} (T : Bi mg) (F : Fun K "law" "law" s_law f0 fd0) (hg : mg "law" = some (.ref f0)) (hb : Binds K fd0 ["_law_script"] []) (h_l_by_hand_right : FOk P w K mg base 13 "_law_by_hand_right" [] m_l_by_hand_right) (h_l_right : FOk P w K mg base 13 "_law_right" ["_law_urn"] m_l_right) (h_l_box : FOkO P w K mg base 1 "_law_box" ["_law_script", "_law_k"] m_l_box) (h_l_cells : FOk P w K mg base 1 "_law_cells" ["_law_script", "_law_top"] (m_l_cells K)) : FnOk P w K mg base (L2.CX P w) 14 f0 fd0 ["_law_script"] (spV (m_law K)) :=
  (fokL (k := 13) (m := b_law K) F hg hb sc_law fun f cdv A outer hp H E B => (by exact (cs_one (cs_ret (c_and (c_call0 h_l_by_hand_right (B.room.mono (by decide)) B.pas (by rfl)) (c_one (c_callU h_l_right (B.room.mono (by decide)) B.pas (by rfl) (c_callO h_l_box (B.room.mono (by decide)) B.pas (by rfl) (ca_cons (c_call h_l_cells (B.room.mono (by decide)) B.pas (by rfl) (ca_cons (v 0) (ca_cons c_int ca_nil))) (ca_cons c_int ca_nil))))))))) :)
theorem law_binds {K : PySem.W.Frag} {f0 : Addr} {fd0 : FuncData} (F : Fun K "law" "law" s_law f0 fd0) {s : Shared} {v : Value} : BindsTo s fd0 ⟨[v], []⟩ [("_law_script", v)] := by
  obtain ⟨oc, od, kV, doc, pm, an, cdv, ct, osl, rfl, lk, hcd⟩ := F.ex
  exact .of_eq rfl
theorem law_top {P : Program} {w : World} {K : PySem.W.Frag} {mg : Str → Option Value} {fa : Addr} (T : Bi mg) (H_is_number : HF K mg "is_number" ["thing"] s_is_number) (H_is_tuple_of : HF K mg "is_tuple_of" ["thing", "many"] s_is_tuple_of) (H_is_below : HF K mg "is_below" ["thing", "many"] s_is_below) (H_is_map : HF K mg "is_map" ["hues", "thing"] s_is_map) (H_is_row : HF K mg "is_row" ["flags", "hues", "letter", "thing"] s_is_row) (H_is_of_tuples : HF K mg "is_of_tuples" ["thing", "many"] s_is_of_tuples) (H_letters_told : HF K mg "letters_told" ["rows"] s_letters_told) (H_is_book : HF K mg "is_book" ["thing"] s_is_book) (H_is_stand : HF K mg "is_stand" ["book", "thing"] s_is_stand) (H_letters_of : HF K mg "letters_of" ["book"] s_letters_of) (H_hues_for : HF K mg "hues_for" ["book", "letter"] s_hues_for) (H_begun : HF K mg "begun" ["book", "many"] s_begun) (H_turned_to : HF K mg "turned_to" ["book", "stand", "change"] s_turned_to) (H_turned : HF K mg "turned" ["book", "stand", "change"] s_turned) (H_stands_along : HF K mg "stands_along" ["book", "history"] s_stands_along) (H_stand_behind : HF K mg "stand_behind" ["book", "history"] s_stand_behind) (H_answer : HF K mg "answer" ["book", "history"] s_answer) (H_flags_along : HF K mg "flags_along" ["book", "history"] s_flags_along) (H_hues_along : HF K mg "hues_along" ["book", "history", "place"] s_hues_along) (H_text_of : HF K mg "text_of" ["book", "stand"] s_text_of) (H_text_behind : HF K mg "text_behind" ["history"] s_text_behind) (H_l_box : HF K mg "_law_box" ["_law_script", "_law_k"] s_l_box) (H_l_take : HF K mg "_law_take" ["_law_urn", "_law_low_so"] s_l_take) (H_l_cells : HF K mg "_law_cells" ["_law_script", "_law_top"] s_l_cells) (H_l_lists : HF K mg "_law_lists" ["_law_matter"] s_l_lists) (H_l_same : HF K mg "_law_same" ["_law_got", "_law_goal"] s_l_same) (H_l_pick : HF K mg "_law_pick" ["_law_urn", "_law_goods", "_law_count"] s_l_pick) (H_l_of : HF K mg "_law_of" ["_law_urn", "_law_goods"] s_l_of) (H_l_own_map : HF K mg "_law_own_map" ["_law_urn", "_law_hues"] s_l_own_map) (H_l_book : HF K mg "_law_book" ["_law_urn"] s_l_book) (H_l_turned : HF K mg "_law_turned" ["_law_book_here", "_law_stand", "_law_change"] s_l_turned) (H_l_shown : HF K mg "_law_shown" [] s_l_shown) (H_l_played : HF K mg "_law_played" ["_law_book_here", "_law_many", "_law_changes"] s_l_played) (H_l_text : HF K mg "_law_text" ["_law_many", "_law_changes"] s_l_text) (H_l_right : HF K mg "_law_right" ["_law_urn"] s_l_right) (H_l_by_hand_right : HF K mg "_law_by_hand_right" [] s_l_by_hand_right) (HL : HF K mg "law" ["_law_script"] s_law) (hfa : mg "law" = some (.ref fa)) :
    ∃ fd : FuncData, (∀ (s : Shared) (v : Value), BindsTo s fd ⟨[v], []⟩ [("_law_script", v)]) ∧ ∀ base : Heap, FnOk P w K mg base (L2.CX P w) 14 fa fd ["_law_script"] (spV (m_law K)) := by
  obtain ⟨f0, fd0, F, hg, hb⟩ := HL
  cases hfa.symm.trans hg
  refine ⟨fd0, fun s v => law_binds F, fun base => ?_⟩
  have o_is_number := ok_is_number (P := P) (w := w) (base := base) T H_is_number
  have o_is_tuple_of := ok_is_tuple_of (P := P) (w := w) (base := base) T H_is_tuple_of
  have o_is_below := ok_is_below (P := P) (w := w) (base := base) T H_is_below o_is_number
  have o_is_map := ok_is_map (P := P) (w := w) (base := base) T H_is_map o_is_tuple_of o_is_below
  have o_is_row := ok_is_row (P := P) (w := w) (base := base) T H_is_row o_is_map o_is_tuple_of o_is_below
  have o_is_of_tuples := ok_is_of_tuples (P := P) (w := w) (base := base) T H_is_of_tuples o_is_tuple_of
  have o_letters_told := ok_letters_told (P := P) (w := w) (base := base) T H_letters_told
  have o_is_book := ok_is_book (P := P) (w := w) (base := base) T H_is_book o_letters_told o_is_tuple_of o_is_below o_is_of_tuples o_is_row
  have o_is_stand := ok_is_stand (P := P) (w := w) (base := base) T H_is_stand o_is_tuple_of o_is_below
  have o_letters_of := ok_letters_of (P := P) (w := w) (base := base) T H_letters_of
  have o_hues_for := ok_hues_for (P := P) (w := w) (base := base) T H_hues_for o_letters_of
  have o_begun := ok_begun (P := P) (w := w) (base := base) T H_begun
  have o_turned_to := ok_turned_to (P := P) (w := w) (base := base) T H_turned_to
  have o_turned := ok_turned (P := P) (w := w) (base := base) T H_turned o_turned_to o_letters_of
  have o_stands_along := ok_stands_along (P := P) (w := w) (base := base) T H_stands_along o_begun o_turned_to o_letters_of
  have o_stand_behind := ok_stand_behind (P := P) (w := w) (base := base) T H_stand_behind o_stands_along
  have o_answer := ok_answer (P := P) (w := w) (base := base) T H_answer o_stand_behind
  have o_flags_along := ok_flags_along (P := P) (w := w) (base := base) T H_flags_along o_stands_along
  have o_hues_along := ok_hues_along (P := P) (w := w) (base := base) T H_hues_along o_stands_along
  have o_text_of := ok_text_of (P := P) (w := w) (base := base) T H_text_of
  have o_text_behind := ok_text_behind (P := P) (w := w) (base := base) T H_text_behind
  have o_l_box := ok_l_box (P := P) (w := w) (base := base) T H_l_box
  have o_l_take := ok_l_take (P := P) (w := w) (base := base) T H_l_take
  have o_l_cells := ok_l_cells (P := P) (w := w) (base := base) T H_l_cells
  have o_l_lists := ok_l_lists (P := P) (w := w) (base := base) T H_l_lists
  have o_l_same := ok_l_same (P := P) (w := w) (base := base) T H_l_same
  have o_l_pick := ok_l_pick (P := P) (w := w) (base := base) T H_l_pick o_l_take
  have o_l_of := ok_l_of (P := P) (w := w) (base := base) T H_l_of o_l_take
  have o_l_own_map := ok_l_own_map (P := P) (w := w) (base := base) T H_l_own_map o_l_of
  have o_l_book := ok_l_book (P := P) (w := w) (base := base) T H_l_book o_l_pick o_l_take o_l_of o_l_own_map
  have o_l_turned := ok_l_turned (P := P) (w := w) (base := base) T H_l_turned
  have o_l_shown := ok_l_shown (P := P) (w := w) (base := base) T H_l_shown
  have o_l_played := ok_l_played (P := P) (w := w) (base := base) T H_l_played o_l_turned
  have o_l_text := ok_l_text (P := P) (w := w) (base := base) T H_l_text
  have o_l_right := ok_l_right (P := P) (w := w) (base := base) T H_l_right o_l_take o_l_book o_l_lists o_l_played o_is_book o_begun o_stand_behind o_l_same o_turned o_flags_along o_hues_along o_answer o_text_of o_text_behind o_letters_of o_hues_for o_is_stand o_l_turned o_l_text
  have o_l_by_hand_right := ok_l_by_hand_right (P := P) (w := w) (base := base) T H_l_by_hand_right o_l_shown o_l_same o_flags_along o_answer o_stand_behind o_hues_along o_text_of o_turned o_hues_for
  exact ok_law T F hg hb o_l_by_hand_right o_l_right o_l_box o_l_cells
end K11

set_option maxRecDepth 100000
set_option maxHeartbeats 4000000
namespace K11
open PySem PySem.Spec PyProof.Rows L2 VL
theorem e_take : m_l_take = S1.m_l_take := rfl
theorem e_of : m_l_of = S1.m_l_of := rfl
theorem e_pick : m_l_pick = S1.m_l_pick := rfl
theorem e_same : m_l_same = S1.m_l_same := rfl
theorem e_lists : m_l_lists = S1.m_l_lists := rfl
theorem e_box : m_l_box = S1.m_l_box := rfl
theorem e_cells (K : PySem.W.Frag) : m_l_cells K = S1.m_l_cells K := rfl
theorem hand_ok (U : Urn) : m_l_by_hand_right [] U = FR.ok (.bl true) U := by
  with_unfolding_all rfl
theorem law_of (hr : ∀ a b : Int, 0 ≤ a → ∃ U', m_l_right [.urn] ⟨a, b, 0⟩ = .ok (.bl true) U') (K : PySem.W.Frag) (ns : List Int) (hl : ns.length ≤ 63) (U : Urn) : ∃ U', m_law K [.scr K ns] U = .ok (.bl true) U' := by
  obtain ⟨cs, hcs, ec⟩ := S1.cells_ok K ns hl 1 (by omega) (by omega) U
  obtain ⟨a, b, ha, eb⟩ := S1.box_ok cs 0 U
  obtain ⟨U', er⟩ := hr a b ha
  have ec : m_l_cells K [.scr K ns, .int 1] U = _ := ec
  have eb : m_l_box [.lst (cs.map D.int), .int 0] U = _ := eb
  have hh := hand_ok U
  refine ⟨U, ?_⟩
  have h1 : eCallU m_l_right (eCall m_l_box [(eCall (m_l_cells K) [(eVar 0), (eC (.int 1))]), (eC (.int 0))]) [.val (.scr K ns)] U = .ok (.bl true) [.val (.scr K ns)] U := by
    have h2 : eCall m_l_box [(eCall (m_l_cells K) [(eVar 0), (eC (.int 1))]), (eC (.int 0))] [.val (.scr K ns)] U = .ok (.lst [.int a, .int b, .int 0]) [.val (.scr K ns)] U := by
      simp [ec, eb]
    unfold eCallU
    rw [h2]
    show (match m_l_right [.urn] ⟨a, b, 0⟩ with | .ok (D.bl b) _ => R.ok (D.bl b) [Sl.val (.scr K ns)] U | _ => R.stk) = _
    rw [er]
  unfold m_law b_law
  simp [mkFn_ap, hh, h1]
/-! ### books -/
def nat (n : Nat) : D := .int (n : Int)
def nats (b : Bool) (l : List Nat) : D := sq b (l.map nat)
structure Row where
  f : Nat
  h : Nat
  l : List Nat
  r : List Nat
structure Book where
  ans : List Bool
  hues : List Nat
  bf : Nat
  bh : Nat
  rows : List (List (List Row))
def encRow (b : Bool) (r : Row) : D := sq b [nat r.f, nat r.h, nats b r.l, nats b r.r]
def encBook (b : Bool) (B : Book) : D := sq b [sq b (B.ans.map D.bl), nats b B.hues, sq b [nat B.bf, nat B.bh], sq b (B.rows.map fun ls => sq b (ls.map fun l => sq b (l.map (encRow b))))]
/-- a map of hues: each to one of the same letter -/
def IsMap (hues l : List Nat) : Prop := l.length = hues.length ∧ ∀ i x : Nat, hues[i]? = some x → ∃ y : Nat, l[i]? = some y ∧ hues[y]? = some x
structure Row.Ok (F : Nat) (hues : List Nat) (letter : Nat) (r : Row) : Prop where
  f : r.f < F
  h : hues[r.h]? = some letter
  l : IsMap hues r.l
  r : IsMap hues r.r
structure Book.Ok (L : Nat) (B : Book) : Prop where
  l1 : 1 ≤ L
  l2 : L ≤ 2
  a1 : 1 ≤ B.ans.length
  a2 : B.ans.length ≤ 3
  h2 : B.hues.length ≤ 6
  hl : ∀ x ∈ B.hues, x ≤ L
  bf : B.bf < B.ans.length
  bh : B.hues[B.bh]? = some 0
  rows : B.rows.length = B.ans.length
  lines : ∀ ls ∈ B.rows, ls.length = B.hues.length
  line : ∀ ls ∈ B.rows, ∀ l ∈ ls, l.length = L + 1
  row : ∀ ls ∈ B.rows, ∀ l ∈ ls, ∀ (k : Nat) (r : Row), l[k]? = some r → r.Ok B.ans.length B.hues k
/-! ### drawing a book -/
/-- the places of a letter -/
def idx (hues : List Nat) (x : Nat) : List Nat := ((hues.zipIdx 0).filter fun p => p.1 == x).map (·.2)
theorem mem_idx {hues : List Nat} {x i : Nat} : i ∈ idx hues x ↔ hues[i]? = some x := by
  unfold idx
  simp only [List.mem_map, List.mem_filter]
  constructor
  · rintro ⟨⟨y, j⟩, ⟨h1, h2⟩, rfl⟩
    have := List.mem_zipIdx h1
    obtain ⟨a, b, c⟩ := this
    have e : y = x := by simpa using h2
    subst e
    simp at c
    rw [c, List.getElem?_eq_getElem]
  · intro h
    refine ⟨(x, i), ⟨?_, by simp⟩, rfl⟩
    rw [List.mem_iff_getElem?]
    refine ⟨i, ?_⟩
    rw [List.getElem?_zipIdx, h]
    simp
theorem idx_len (hues : List Nat) (x : Nat) : (idx hues x).length ≤ hues.length := by
  unfold idx
  rw [List.length_map]
  exact Nat.le_trans (List.length_filter_le _ _) (by simp)
/-- the comprehension that finds them -/
theorem idx_lc {k o : Nat} {hues : List Nat} {x : Nat} {ρ : Rho} {U : Urn} {c : M Bool} (hk : k < ρ.length) (ho : o < ρ.length) (hko : k ≠ o) (hl : hues.length ≤ 16777216)
    (hc : ∀ (y : Nat) (ρ' : Rho), ρ'.length = ρ.length → ρ'[o]? = some (.val (nat y)) → (∀ i, i ≠ k → i ≠ o → ρ'[i]? = ρ[i]?) → c ρ' U = .ok (y == x) ρ' U) :
    lcV (.tp [k, o]) [k, o] c (eVar k) (enD 0 (hues.map nat)) ρ U = .ok (.lst ((idx hues x).map nat)) ρ U := by
  have := lcV_filt (tg := .tp [k, o]) (vs := [k, o]) (c := c) (e := eVar k) (ρ := ρ) (U := U) (ds := enD 0 (hues.map nat)) (fun p : Nat × Nat => D.tup [.int (p.2 : Int), nat p.1]) (fun p => p.1 == x) (fun p => nat p.2) (hues.zipIdx 0) (enD_map nat hues 0) ?_ (by simpa using hl) ?_ (by simp [tgIx]) (by simp [hko])
  · rw [this]
    unfold idx
    rw [List.map_map]
    rfl
  · rintro ⟨y, i⟩ _
    have h1 : (unAll [k, o] ρ).length = ρ.length := unAll_len _ _
    obtain ⟨ρ', hρ'⟩ : ∃ ρ', ρ' = ((unAll [k, o] ρ).set k (.val (.int (i : Int)))).set o (.val (nat y)) := ⟨_, rfl⟩
    have g1 : ρ'.length = ρ.length := by rw [hρ']; simp [h1]
    have g2 : ρ'[o]? = some (.val (nat y)) := by rw [hρ', List.getElem?_set_self (by simp [h1, ho])]
    have g3 : ρ'[k]? = some (.val (.int (i : Int))) := by
      rw [hρ', List.getElem?_set_ne (fun e => hko e.symm), List.getElem?_set_self (by simp [h1, hk])]
    have g4 : ∀ j, j ≠ k → j ≠ o → ρ'[j]? = ρ[j]? := fun j a b => by
      rw [hρ', List.getElem?_set_ne (fun e => b e.symm), List.getElem?_set_ne (fun e => a e.symm), unAll_get (by simp [a, b])]
    refine ⟨ρ', ?_, hc y ρ' g1 g2 g4, fun _ => ?_⟩
    · rw [tgM_tp, setsR_cons, if_pos (by rw [h1]; exact hk), setsR_cons, if_pos (by simp [h1, ho]), setsR_nil, hρ']
    · rw [eVar_ap, g3]; rfl
  · intro v hv
    rcases List.mem_cons.mp hv with e | e
    · rw [e]; exact hk
    · rw [List.mem_singleton.mp e]; exact ho
@[simp] theorem eqD_nat (i j : Nat) : eqD (nat i) (nat j) = some (.bl (i == j)) := by
  unfold nat
  rw [eqD_int]
  have : decide ((i : Int) = (j : Int)) = (i == j) := by
    by_cases h : i = j
    · subst h; simp
    · have h2 : ¬ ((i : Int) = (j : Int)) := by omega
      simp [h, h2]
  rw [this]
end K11

set_option maxRecDepth 100000
set_option maxHeartbeats 4000000
namespace K11
open PySem PySem.Spec PyProof.Rows L2 VL
theorem of_idx {U : Urn} {n : Nat} {hues : List Nat} {x : Nat} (hx : x ∈ hues) (hl : hues.length ≤ 1000) (h : Ud U (n + 1)) : ∃ (y : Nat) (U' : Urn), hues[y]? = some x ∧ m_l_of [.urn, .lst ((idx hues x).map nat)] U = .ok (nat y) U' ∧ Ud U' n := by
  obtain ⟨i, hi⟩ := List.mem_iff_getElem?.mp hx
  have h0 : 0 < ((idx hues x).map nat).length := by
    rw [List.length_map]; exact List.length_pos_of_mem (mem_idx.mpr hi)
  have h1 : ((idx hues x).map nat).length < 1073741824 := by
    rw [List.length_map]; have := idx_len hues x; omega
  obtain ⟨d, U', hd, e, u⟩ := S1.of_ok (b := true) h h0 h1
  obtain ⟨y, hy, rfl⟩ := List.mem_map.mp hd
  exact ⟨y, U', mem_idx.mp hy, e, u⟩
theorem own_map_ok {U : Urn} {n : Nat} {hues : List Nat} (hl : hues.length ≤ 1000) (h : Ud U (n + hues.length)) : ∃ (l : List Nat) (U' : Urn), m_l_own_map [.urn, .lst (hues.map nat)] U = .ok (.tup (l.map nat)) U' ∧ IsMap hues l ∧ Ud U' n := by
  obtain ⟨ρ', U', e, found, r3, r4, rfl, hf, hm, ud⟩ := for_inv (tg := .nm 3) (b := sSeq (sSet 4 (oLc (iEn (eVar 1)) (.tp [5, 6]) [5, 6] (tOf (eBin eqD (.sl 6) (.sl 3))) (eVar 5))) (sMut appD 2 (eCall m_l_of [(eVar 0), (eVar 4)])))
    (ds := hues.map nat) nat
    (fun j ρ V => ∃ found r3 r4, ρ = [.val .urn, .val (.lst (hues.map nat)), .own (.lst (found.map nat)), r3, r4, .un, .un] ∧ found.length = j ∧ (∀ i x : Nat, i < j → hues[i]? = some x → ∃ y : Nat, found[i]? = some y ∧ hues[y]? = some x) ∧ Ud V (n + (hues.length - j))) hues rfl
    (ρ := [.val .urn, .val (.lst (hues.map nat)), .own (.lst []), .un, .un, .un, .un]) (U := U) ⟨[], .un, .un, rfl, rfl, fun i x hi => absurd hi (Nat.not_lt_zero _), h⟩ (fun j x ρ V hj ⟨found, r3, r4, e, hf, hm, ud⟩ => by
      subst e
      have hj1 := (List.getElem?_eq_some_iff.mp hj).1
      have ud : Ud V (n + (hues.length - (j + 1)) + 1) := by rw [show n + (hues.length - (j + 1)) + 1 = n + (hues.length - j) by omega]; exact ud
      obtain ⟨y, V', hy, e, ud'⟩ := of_idx (List.mem_of_getElem? hj) hl ud
      have hc := idx_lc (k := 5) (o := 6) (hues := hues) (x := x) (ρ := [.val .urn, .val (.lst (hues.map nat)), .own (.lst (found.map nat)), .val (nat x), r4, .un, .un]) (U := V) (c := tOf (eBin eqD (.sl 6) (.sl 3))) (by simp) (by simp) (by decide) (by omega) (fun y ρ' h1 h2 h3 => by
        have h4 := h3 3 (by decide) (by decide)
        simp [h2, h4])
      refine ⟨[.val .urn, .val (.lst (hues.map nat)), .own (.lst (found.map nat)), .val (nat x), r4, .un, .un], [.val .urn, .val (.lst (hues.map nat)), .own (.lst ((found ++ [y]).map nat)), .val (nat x), .val (.lst ((idx hues x).map nat)), .un, .un], V', by simp, ?_, _, _, _, rfl, by simp [hf], ?_, ud'⟩
      · have hf2 : found.length < 16777216 := by omega
        simp [hc, e, hf2]
      · intro i z hi hz
        by_cases hij : i < j
        · obtain ⟨w, h1, h2⟩ := hm i z hij hz
          exact ⟨w, by rw [List.getElem?_append_left (by omega)]; exact h1, h2⟩
        · have : i = j := by omega
          subst this
          rw [hj] at hz
          cases hz
          exact ⟨y, by rw [List.getElem?_append_right (by omega), hf]; simp, hy⟩)
  refine ⟨found, U', ?_, ⟨hf, fun i x hx => hm i x (List.getElem?_eq_some_iff.mp hx).1 hx⟩, ud.mono (by omega)⟩
  unfold m_l_own_map b_l_own_map
  simp [mkFn_ap, e]
end K11

set_option maxRecDepth 100000
set_option maxHeartbeats 4000000
namespace K11
open PySem PySem.Spec PyProof.Rows L2 VL
theorem orD_none {f g : D → D → Option D} {a b : D} (h : f a b = none) : orD f g a b = g a b := by
  unfold orD; rw [h]
theorem mulL_pos {xs : List D} {k : Int} (h : -(2 ^ 63) ≤ k ∧ k < 2 ^ 63 ∧ xs.length * k.toNat ≤ 16777216) : mulL (.lst xs) (.int k) = some (.lst (List.replicate k.toNat xs).flatten) := by
  unfold mulL
  exact if_pos h
theorem mulA_one (x : D) (m : Nat) (h : m ≤ 1000) : mulA (.lst [x]) (.int m) = some (.lst (List.replicate m x)) := by
  have e : (List.replicate m [x]).flatten = List.replicate m x := by
    induction m with
    | zero => rfl
    | succ m ih => rw [List.replicate_succ, List.flatten_cons, ih (by omega), List.replicate_succ]; rfl
  have e1 : mulA (.lst [x]) (.int m) = mulL (.lst [x]) (.int m) := (orD_none rfl).trans (orD_none rfl)
  rw [e1, mulL_pos ⟨by omega, by omega, by rw [List.length_singleton, Int.toNat_natCast]; omega⟩, Int.toNat_natCast, e]
theorem row_step {U : Urn} {n F k : Nat} {hues : List Nat} (hl : hues.length ≤ 6) (hk : k ∈ hues) (F0 : 0 < F) (F3 : F ≤ 3) (h : Ud U (n + 14)) {ρ0 ρ5 ρ6 ρ7 ρ8 ρ10 ρ11 ρ1 : Sl} {line : List Row} (hz : line.length ≤ 1000) :
    ∃ (r : Row) (ρ10' : Sl) (U' : Urn), (sSeq (sSet 10 (eCall m_l_of [(eVar 0), (oLc (iEn (eVar 3)) (.tp [12, 13]) [12, 13] (tOf (eBin eqD (.sl 13) (.sl 4))) (eVar 12))]))
  (sMut appD 9 (eTup [(eCall m_l_take [(eVar 0), (eVar 2)]), (eVar 10), (eCall m_l_own_map [(eVar 0), (eVar 3)]), (eCall m_l_own_map [(eVar 0), (eVar 3)])]))) [.val .urn, ρ1, .val (.int F), .val (.lst (hues.map nat)), .val (nat k), ρ5, ρ6, ρ7, ρ8, .own (.lst (line.map (encRow false))), ρ10, ρ11, .un, .un] U =
      .ok .nx [.val .urn, ρ1, .val (.int F), .val (.lst (hues.map nat)), .val (nat k), ρ5, ρ6, ρ7, ρ8, .own (.lst ((line ++ [r]).map (encRow false))), ρ10', ρ11, .un, .un] U' ∧ r.Ok F hues k ∧ Ud U' n := by
  obtain ⟨y, U1, hy, e1, u1⟩ := of_idx (n := n + 13) hk (by omega) h
  obtain ⟨f, U2, hf, e2, u2⟩ := S1.take_ok (n := n + 12) u1 F0 (by omega)
  obtain ⟨l, U3, e3, m3, u3⟩ := own_map_ok (n := n + 6) (by omega) (u2.mono (by omega : n + 6 + hues.length ≤ n + 12))
  obtain ⟨r, U4, e4, m4, u4⟩ := own_map_ok (n := n) (by omega) (u3.mono (by omega : n + hues.length ≤ n + 6))
  have hc := idx_lc (k := 12) (o := 13) (hues := hues) (x := k) (ρ := [.val .urn, ρ1, .val (.int F), .val (.lst (hues.map nat)), .val (nat k), ρ5, ρ6, ρ7, ρ8, .own (.lst (line.map (encRow false))), ρ10, ρ11, .un, .un]) (U := U) (c := tOf (eBin eqD (.sl 13) (.sl 4))) (by simp) (by simp) (by decide) (by omega) (fun y ρ' h1 h2 h3 => by
        have h4 := h3 4 (by decide) (by decide)
        simp [h2, h4])
  have e2 : m_l_take [.urn, .int F] U1 = .ok (nat f) U2 := e2
  have hz2 : line.length < 16777216 := by omega
  refine ⟨⟨f, y, l, r⟩, .val (nat y), U4, ?_, ⟨hf, hy, m3, m4⟩, u4⟩
  simp [hc, e1, e2, e3, e4, hz2, encRow, nats]
theorem line_ok {U : Urn} {n F L : Nat} {hues : List Nat} (hl : hues.length ≤ 6) (hk : ∀ k, k ≤ L → k ∈ hues) (hL : L ≤ 2) (F0 : 0 < F) (F3 : F ≤ 3) (h : Ud U (n + 42)) {ρ4 ρ5 ρ6 ρ7 ρ8 ρ10 ρ11 : Sl} {ρ1 : Sl} :
    ∃ (line : List Row) (ρ4' ρ10' : Sl) (U' : Urn), forL (.nm 4) (sSeq (sSet 10 (eCall m_l_of [(eVar 0), (oLc (iEn (eVar 3)) (.tp [12, 13]) [12, 13] (tOf (eBin eqD (.sl 13) (.sl 4))) (eVar 12))]))
  (sMut appD 9 (eTup [(eCall m_l_take [(eVar 0), (eVar 2)]), (eVar 10), (eCall m_l_own_map [(eVar 0), (eVar 3)]), (eCall m_l_own_map [(eVar 0), (eVar 3)])]))) (rgD 0 ((L + 1 : Nat) : Int)) [.val .urn, ρ1, .val (.int F), .val (.lst (hues.map nat)), ρ4, ρ5, ρ6, ρ7, ρ8, .own (.lst []), ρ10, ρ11, .un, .un] U =
      .ok .nx [.val .urn, ρ1, .val (.int F), .val (.lst (hues.map nat)), ρ4', ρ5, ρ6, ρ7, ρ8, .own (.lst (line.map (encRow false))), ρ10', ρ11, .un, .un] U' ∧ line.length = L + 1 ∧ (∀ (k : Nat) (r : Row), line[k]? = some r → r.Ok F hues k) ∧ Ud U' n := by
  obtain ⟨ρ', U', e, line, ρ4', ρ10', rfl, hlen, hr, ud⟩ := for_inv (tg := .nm 4) (b := sSeq (sSet 10 (eCall m_l_of [(eVar 0), (oLc (iEn (eVar 3)) (.tp [12, 13]) [12, 13] (tOf (eBin eqD (.sl 13) (.sl 4))) (eVar 12))]))
  (sMut appD 9 (eTup [(eCall m_l_take [(eVar 0), (eVar 2)]), (eVar 10), (eCall m_l_own_map [(eVar 0), (eVar 3)]), (eCall m_l_own_map [(eVar 0), (eVar 3)])]))) (ds := rgD 0 ((L + 1 : Nat) : Int)) nat
    (fun j ρ V => ∃ line ρ4' ρ10', ρ = [.val .urn, ρ1, .val (.int F), .val (.lst (hues.map nat)), ρ4', ρ5, ρ6, ρ7, ρ8, .own (.lst (line.map (encRow false))), ρ10', ρ11, .un, .un] ∧ line.length = j ∧ (∀ (k : Nat) (r : Row), line[k]? = some r → r.Ok F hues k) ∧ Ud V (n + ((L + 1) - j) * 14))
    (List.range (L + 1)) (rgD_map (L + 1)) (ρ := [.val .urn, ρ1, .val (.int F), .val (.lst (hues.map nat)), ρ4, ρ5, ρ6, ρ7, ρ8, .own (.lst []), ρ10, ρ11, .un, .un]) (U := U) ⟨[], ρ4, ρ10, rfl, rfl, fun k r hk => by simp at hk, h.mono (by omega)⟩ (fun j x ρ V hj ⟨line, ρ4', ρ10', e, hlen, hr, ud⟩ => by
      subst e
      have hj1 := (List.getElem?_eq_some_iff.mp hj).1
      have hx : x = j := by
        have := (List.getElem?_eq_some_iff.mp hj).2
        simpa using this.symm
      subst hx
      have hj1 : x < L + 1 := by simpa using hj1
      obtain ⟨r, ρ10'', V', e1, ok, u⟩ := row_step (n := n + ((L + 1) - (x + 1)) * 14) (ρ0 := .un) (ρ5 := ρ5) (ρ6 := ρ6) (ρ7 := ρ7) (ρ8 := ρ8) (ρ10 := ρ10') (ρ11 := ρ11) (ρ1 := ρ1) (line := line) hl (hk x (by omega)) F0 F3 (ud.mono (by omega)) (by omega)
      refine ⟨_, _, V', by simp, e1, line ++ [r], _, _, rfl, by simp [hlen], ?_, u⟩
      intro k q hq
      by_cases hkl : k < line.length
      · rw [List.getElem?_append_left hkl] at hq; exact hr k q hq
      · have hk2 := (List.getElem?_eq_some_iff.mp hq).1
        have : k = x := by simp at hk2; omega
        subst this
        rw [List.getElem?_append_right (by omega), hlen] at hq
        simp at hq
        exact hq ▸ ok)
  exact ⟨line, ρ4', ρ10', U', e, by simpa using hlen, hr, ud.mono (by omega)⟩
end K11

set_option maxRecDepth 100000
set_option maxHeartbeats 4000000
namespace K11
open PySem PySem.Spec PyProof.Rows L2 VL
structure LineOk (L F : Nat) (hues : List Nat) (line : List Row) : Prop where
  len : line.length = L + 1
  row : ∀ (k : Nat) (r : Row), line[k]? = some r → r.Ok F hues k
def enL (l : List Row) : D := .tup (l.map (encRow false))
def enLs (ls : List (List Row)) : D := .tup (ls.map enL)
theorem lines_ok {U : Urn} {n F L : Nat} {hues : List Nat} (hl : hues.length ≤ 6) (hk : ∀ k, k ≤ L → k ∈ hues) (hL : L ≤ 2) (F0 : 0 < F) (F3 : F ≤ 3) (h : Ud U (n + 252)) {ρ4 ρ5 ρ6 ρ8 ρ9 ρ10 ρ11 : Sl} {L1 : Int} (hL1 : (L : Int) + 1 = L1) :
    ∃ (ls : List (List Row)) (ρ4' ρ8' ρ9' ρ10' : Sl) (U' : Urn), forL (.nm 8) (sSeq (sSetO 9 (oLst [])) (sSeq (sFor (iRg1 (eBin addA (.sl 1) (.ev (eC (.int 1))))) (.nm 4) (sSeq (sSet 10 (eCall m_l_of [(eVar 0), (oLc (iEn (eVar 3)) (.tp [12, 13]) [12, 13] (tOf (eBin eqD (.sl 13) (.sl 4))) (eVar 12))])) (sMut appD 9 (eTup [(eCall m_l_take [(eVar 0), (eVar 2)]), (eVar 10), (eCall m_l_own_map [(eVar 0), (eVar 3)]), (eCall m_l_own_map [(eVar 0), (eVar 3)])])))) (sMut appD 7 (eB1 tupD (.sl 9))))) (hues.map nat) [.val .urn, .val (.int L), .val (.int F), .val (.lst (hues.map nat)), ρ4, ρ5, ρ6, .own (.lst []), ρ8, ρ9, ρ10, ρ11, .un, .un] U =
      .ok .nx [.val .urn, .val (.int L), .val (.int F), .val (.lst (hues.map nat)), ρ4', ρ5, ρ6, .own (.lst (ls.map enL)), ρ8', ρ9', ρ10', ρ11, .un, .un] U' ∧ ls.length = hues.length ∧ (∀ l ∈ ls, LineOk L F hues l) ∧ Ud U' n := by
  obtain ⟨ρ', U', e, ls, ρ4', ρ8', ρ9', ρ10', rfl, hlen, hr, ud⟩ := for_inv (tg := .nm 8) (b := (sSeq (sSetO 9 (oLst [])) (sSeq (sFor (iRg1 (eBin addA (.sl 1) (.ev (eC (.int 1))))) (.nm 4) (sSeq (sSet 10 (eCall m_l_of [(eVar 0), (oLc (iEn (eVar 3)) (.tp [12, 13]) [12, 13] (tOf (eBin eqD (.sl 13) (.sl 4))) (eVar 12))])) (sMut appD 9 (eTup [(eCall m_l_take [(eVar 0), (eVar 2)]), (eVar 10), (eCall m_l_own_map [(eVar 0), (eVar 3)]), (eCall m_l_own_map [(eVar 0), (eVar 3)])])))) (sMut appD 7 (eB1 tupD (.sl 9)))))) (ds := hues.map nat) nat
    (fun j ρ V => ∃ ls ρ4' ρ8' ρ9' ρ10', ρ = [.val .urn, .val (.int L), .val (.int F), .val (.lst (hues.map nat)), ρ4', ρ5, ρ6, .own (.lst (ls.map enL)), ρ8', ρ9', ρ10', ρ11, .un, .un] ∧ ls.length = j ∧ (∀ l ∈ ls, LineOk L F hues l) ∧ Ud V (n + (hues.length - j) * 42))
    hues rfl (ρ := [.val .urn, .val (.int L), .val (.int F), .val (.lst (hues.map nat)), ρ4, ρ5, ρ6, .own (.lst []), ρ8, ρ9, ρ10, ρ11, .un, .un]) (U := U) ⟨[], ρ4, ρ8, ρ9, ρ10, rfl, rfl, fun l hl => (nomatch hl), h.mono (by omega)⟩ (fun j x ρ V hj ⟨ls, ρ4', ρ8', ρ9', ρ10', e, hlen, hr, ud⟩ => by
      subst e
      have hj1 := (List.getElem?_eq_some_iff.mp hj).1
      obtain ⟨line, ρ4'', ρ10'', V', e1, l1, l2, u⟩ := line_ok (n := n + (hues.length - (j + 1)) * 42) (U := V) (ρ1 := .val (.int L)) (ρ4 := ρ4') (ρ5 := ρ5) (ρ6 := ρ6) (ρ7 := .own (.lst (ls.map enL))) (ρ8 := .val (nat x)) (ρ10 := ρ10') (ρ11 := ρ11) hl hk hL F0 F3 (ud.mono (by omega))
      have eL : ((L + 1 : Nat) : Int) = L1 := by omega
      rw [eL] at e1
      have hg := fun ρ U => KRg1_int (j := L1) (by omega) (by omega) ρ U
      have hz : ls.length < 16777216 := by omega
      refine ⟨[.val .urn, .val (.int L), .val (.int F), .val (.lst (hues.map nat)), ρ4', ρ5, ρ6, .own (.lst (ls.map enL)), .val (nat x), ρ9', ρ10', ρ11, .un, .un], [.val .urn, .val (.int L), .val (.int F), .val (.lst (hues.map nat)), ρ4'', ρ5, ρ6, .own (.lst ((ls ++ [line]).map enL)), .val (nat x), .own (.lst (line.map (encRow false))), ρ10'', ρ11, .un, .un], V', by simp, ?_, ls ++ [line], _, _, _, _, rfl, by simp [hlen], ?_, u⟩
      · simp [hL1, hg, e1, hz, enL]
      · intro l hl
        rcases List.mem_append.mp hl with h | h
        · exact hr l h
        · rw [List.mem_singleton.mp h]; exact ⟨l1, l2⟩)
  exact ⟨ls, ρ4', ρ8', ρ9', ρ10', U', e, hlen, hr, ud.mono (by omega)⟩
theorem rows_ok {U : Urn} {n F L : Nat} {hues : List Nat} (hl : hues.length ≤ 6) (hk : ∀ k, k ≤ L → k ∈ hues) (hL : L ≤ 2) (F0 : 0 < F) (F3 : F ≤ 3) (h : Ud U (n + 756)) {ρ4 ρ6 ρ7 ρ8 ρ9 ρ10 ρ11 : Sl} :
    ∃ (rows : List (List (List Row))) (ρ4' ρ6' ρ7' ρ8' ρ9' ρ10' : Sl) (U' : Urn), forL (.nm 6) (sSeq (sSetO 7 (oLst [])) (sSeq (sFor (iSeq (eVar 3)) (.nm 8) (sSeq (sSetO 9 (oLst [])) (sSeq (sFor (iRg1 (eBin addA (.sl 1) (.ev (eC (.int 1))))) (.nm 4) (sSeq (sSet 10 (eCall m_l_of [(eVar 0), (oLc (iEn (eVar 3)) (.tp [12, 13]) [12, 13] (tOf (eBin eqD (.sl 13) (.sl 4))) (eVar 12))])) (sMut appD 9 (eTup [(eCall m_l_take [(eVar 0), (eVar 2)]), (eVar 10), (eCall m_l_own_map [(eVar 0), (eVar 3)]), (eCall m_l_own_map [(eVar 0), (eVar 3)])])))) (sMut appD 7 (eB1 tupD (.sl 9)))))) (sMut appD 5 (eB1 tupD (.sl 7))))) (rgD 0 (F : Int)) [.val .urn, .val (.int L), .val (.int F), .val (.lst (hues.map nat)), ρ4, .own (.lst []), ρ6, ρ7, ρ8, ρ9, ρ10, ρ11, .un, .un] U =
      .ok .nx [.val .urn, .val (.int L), .val (.int F), .val (.lst (hues.map nat)), ρ4', .own (.lst (rows.map enLs)), ρ6', ρ7', ρ8', ρ9', ρ10', ρ11, .un, .un] U' ∧ rows.length = F ∧ (∀ ls ∈ rows, ls.length = hues.length ∧ ∀ l ∈ ls, LineOk L F hues l) ∧ Ud U' n := by
  obtain ⟨ρ', U', e, rows, ρ4', ρ6', ρ7', ρ8', ρ9', ρ10', rfl, hlen, hr, ud⟩ := for_inv (tg := .nm 6) (b := (sSeq (sSetO 7 (oLst [])) (sSeq (sFor (iSeq (eVar 3)) (.nm 8) (sSeq (sSetO 9 (oLst [])) (sSeq (sFor (iRg1 (eBin addA (.sl 1) (.ev (eC (.int 1))))) (.nm 4) (sSeq (sSet 10 (eCall m_l_of [(eVar 0), (oLc (iEn (eVar 3)) (.tp [12, 13]) [12, 13] (tOf (eBin eqD (.sl 13) (.sl 4))) (eVar 12))])) (sMut appD 9 (eTup [(eCall m_l_take [(eVar 0), (eVar 2)]), (eVar 10), (eCall m_l_own_map [(eVar 0), (eVar 3)]), (eCall m_l_own_map [(eVar 0), (eVar 3)])])))) (sMut appD 7 (eB1 tupD (.sl 9)))))) (sMut appD 5 (eB1 tupD (.sl 7)))))) (ds := rgD 0 (F : Int)) nat
    (fun j ρ V => ∃ rows ρ4' ρ6' ρ7' ρ8' ρ9' ρ10', ρ = [.val .urn, .val (.int L), .val (.int F), .val (.lst (hues.map nat)), ρ4', .own (.lst (rows.map enLs)), ρ6', ρ7', ρ8', ρ9', ρ10', ρ11, .un, .un] ∧ rows.length = j ∧ (∀ ls ∈ rows, ls.length = hues.length ∧ ∀ l ∈ ls, LineOk L F hues l) ∧ Ud V (n + (F - j) * 252))
    (List.range F) (rgD_map F) (ρ := [.val .urn, .val (.int L), .val (.int F), .val (.lst (hues.map nat)), ρ4, .own (.lst []), ρ6, ρ7, ρ8, ρ9, ρ10, ρ11, .un, .un]) (U := U) ⟨[], ρ4, ρ6, ρ7, ρ8, ρ9, ρ10, rfl, rfl, fun l hl => (nomatch hl), h.mono (by omega)⟩ (fun j x ρ V hj ⟨rows, ρ4', ρ6', ρ7', ρ8', ρ9', ρ10', e, hlen, hr, ud⟩ => by
      subst e
      have hj1 := (List.getElem?_eq_some_iff.mp hj).1
      have hj1 : j < F := by simpa using hj1
      obtain ⟨L1, hL1⟩ : ∃ L1, (L : Int) + 1 = L1 := ⟨_, rfl⟩
      obtain ⟨ls, a4, a8, a9, a10, V', e1, l1, l2, u⟩ := lines_ok (n := n + (F - (j + 1)) * 252) (U := V) (ρ4 := ρ4') (ρ5 := .own (.lst (rows.map enLs))) (ρ6 := .val (nat x)) (ρ8 := ρ8') (ρ9 := ρ9') (ρ10 := ρ10') (ρ11 := ρ11) hl hk hL F0 F3 (ud.mono (by omega)) hL1
      have hz : rows.length < 16777216 := by omega
      refine ⟨[.val .urn, .val (.int L), .val (.int F), .val (.lst (hues.map nat)), ρ4', .own (.lst (rows.map enLs)), .val (nat x), ρ7', ρ8', ρ9', ρ10', ρ11, .un, .un], [.val .urn, .val (.int L), .val (.int F), .val (.lst (hues.map nat)), a4, .own (.lst ((rows ++ [ls]).map enLs)), .val (nat x), .own (.lst (ls.map enL)), a8, a9, a10, ρ11, .un, .un], V', by simp, ?_, rows ++ [ls], _, _, _, _, _, _, rfl, by simp [hlen], ?_, u⟩
      · simp [e1, hz, enLs]
      · intro l hl
        rcases List.mem_append.mp hl with h | h
        · exact hr l h
        · rw [List.mem_singleton.mp h]; exact ⟨l1, l2⟩)
  exact ⟨rows, ρ4', ρ6', ρ7', ρ8', ρ9', ρ10', U', e, by simpa using hlen, hr, ud.mono (by omega)⟩
/-! the hues -/
theorem hues_ok {U : Urn} {n L : Nat} (hL : L ≤ 2) (h : Ud U (n + 3)) {ρ2 ρ4 ρ5 ρ6 ρ7 ρ8 ρ9 ρ10 ρ11 : Sl} : ∃ (hs : List Nat) (ρ4' : Sl) (U' : Urn),
    forL (.nm 4) (sSet 3 (eBin addA (.sl 3) (.ev (eBin mulA (.ev (oLst [(eVar 4)])) (.ev (eBin addA (.ev (eC (.int 1))) (.ev (eCall m_l_take [(eVar 0), (eC (.int 2))])))))))) (rgD 0 ((L + 1 : Nat) : Int)) [.val .urn, .val (.int L), ρ2, .val (.lst []), ρ4, ρ5, ρ6, ρ7, ρ8, ρ9, ρ10, ρ11, .un, .un] U =
      .ok .nx [.val .urn, .val (.int L), ρ2, .val (.lst (hs.map nat)), ρ4', ρ5, ρ6, ρ7, ρ8, ρ9, ρ10, ρ11, .un, .un] U' ∧ hs.length ≤ 6 ∧ (∀ x ∈ hs, x ≤ L) ∧ (∀ k, k ≤ L → k ∈ hs) ∧ Ud U' n := by
  obtain ⟨ρ', U', e, hs, ρ4', rfl, hlen, hr, hk, ud⟩ := for_inv (tg := .nm 4) (b := (sSet 3 (eBin addA (.sl 3) (.ev (eBin mulA (.ev (oLst [(eVar 4)])) (.ev (eBin addA (.ev (eC (.int 1))) (.ev (eCall m_l_take [(eVar 0), (eC (.int 2))]))))))))) (ds := rgD 0 ((L + 1 : Nat) : Int)) nat
    (fun j ρ V => ∃ hs ρ4', ρ = [.val .urn, .val (.int L), ρ2, .val (.lst (hs.map nat)), ρ4', ρ5, ρ6, ρ7, ρ8, ρ9, ρ10, ρ11, .un, .un] ∧ hs.length ≤ 2 * j ∧ (∀ x ∈ hs, x < j) ∧ (∀ k, k < j → k ∈ hs) ∧ Ud V (n + ((L + 1) - j)))
    (List.range (L + 1)) (rgD_map (L + 1)) (ρ := [.val .urn, .val (.int L), ρ2, .val (.lst []), ρ4, ρ5, ρ6, ρ7, ρ8, ρ9, ρ10, ρ11, .un, .un]) (U := U) ⟨[], ρ4, rfl, by simp, fun x hx => (nomatch hx), fun k hk => absurd hk (Nat.not_lt_zero _), h.mono (by omega)⟩ (fun j x ρ V hj ⟨hs, ρ4', e, hlen, hr, hk, ud⟩ => by
      subst e
      have hj1 := (List.getElem?_eq_some_iff.mp hj).1
      have hx : x = j := by
        have := (List.getElem?_eq_some_iff.mp hj).2
        simpa using this.symm
      subst hx
      have hj1 : x < L + 1 := by simpa using hj1
      obtain ⟨r, V', hr2, e1, u⟩ := S1.take_ok (n := n + ((L + 1) - (x + 1))) (k := 2) (ud.mono (by omega)) (by omega) (by omega)
      have e1 : m_l_take [.urn, .int 2] V = .ok (.int r) V' := e1
      obtain ⟨m, hm⟩ : ∃ m : Nat, (1 : Int) + r = m := ⟨1 + r, by omega⟩
      have hmul := mulA_one (nat x) m (by omega)
      have hz : hs.length + m ≤ 16777216 := by omega
      refine ⟨[.val .urn, .val (.int L), ρ2, .val (.lst (hs.map nat)), .val (nat x), ρ5, ρ6, ρ7, ρ8, ρ9, ρ10, ρ11, .un, .un], [.val .urn, .val (.int L), ρ2, .val (.lst ((hs ++ List.replicate m x).map nat)), .val (nat x), ρ5, ρ6, ρ7, ρ8, ρ9, ρ10, ρ11, .un, .un], V', by simp, ?_, hs ++ List.replicate m x, _, rfl, ?_, ?_, ?_, u⟩
      · simp [e1, hm, hmul, hz]
      · simp; omega
      · intro y hy
        rcases List.mem_append.mp hy with h | h
        · have := hr y h; omega
        · rw [(List.mem_replicate.mp h).2]; omega
      · intro k hk2
        by_cases hkx : k = x
        · subst hkx
          exact List.mem_append_right _ (List.mem_replicate.mpr ⟨by omega, rfl⟩)
        · exact List.mem_append_left _ (hk k (by omega)))
  rw [List.length_range] at hlen hr hk ud
  exact ⟨hs, ρ4', U', e, by omega, fun x hx => by have := hr x hx; omega, fun k h => hk k (by omega), ud.mono (by omega)⟩
def unN : D → Nat
  | .int i => i.toNat
  | _ => 0
theorem perm_nat {ys : List D} {hs : List Nat} (h : ys.Perm (hs.map nat)) : ∃ hs' : List Nat, ys = hs'.map nat ∧ hs'.Perm hs := by
  refine ⟨ys.map unN, ?_, ?_⟩
  · rw [List.map_map]
    refine (List.map_id' ys).symm.trans (List.map_congr_left fun y hy => ?_)
    obtain ⟨x, _, rfl⟩ := List.mem_map.mp (h.mem_iff.mp hy)
    rfl
  · have := h.map unN
    rw [List.map_map] at this
    have e : hs.map (unN ∘ nat) = hs := (List.map_congr_left fun x _ => (rfl : (unN ∘ nat) x = x)).trans (List.map_id' hs)
    rwa [e] at this
theorem pick_all {U : Urn} {n : Nat} {hs : List Nat} (h : Ud U (n + 6)) (hl : hs.length ≤ 6) : ∃ (hs' : List Nat) (U' : Urn), m_l_pick [.urn, .lst (hs.map nat), .int hs.length] U = .ok (.lst (hs'.map nat)) U' ∧ hs'.Perm hs ∧ Ud U' n := by
  obtain ⟨ys, zs, U', e, l, p, u⟩ := S1.pick_ok (n := n) (xs := hs.map nat) (k := hs.length) (h.mono (by omega)) (by simp) (by simp; omega)
  have hz : zs = [] := by
    have := p.length_eq
    simp [l] at this
    exact this
  subst hz
  obtain ⟨hs', rfl, p'⟩ := perm_nat p
  exact ⟨hs', U', e, p', u⟩
/-- THE BOOK that is drawn -/
theorem book_ok {U : Urn} {n : Nat} (h : Ud U (n + 1000)) : ∃ (L : Nat) (B : Book) (U' : Urn), m_l_book [.urn] U = .ok (encBook false B) U' ∧ B.Ok L ∧ Ud U' n := by
  obtain ⟨a, U1, ha, e1, u1⟩ := S1.take_ok (n := n + 999) (k := 2) (h.mono (by omega)) (by omega) (by omega)
  obtain ⟨f, U2, hf, e2, u2⟩ := S1.take_ok (n := n + 998) (k := 3) u1 (by omega) (by omega)
  have e1 : m_l_take [.urn, .int 2] U = .ok (.int a) U1 := e1
  have e2 : m_l_take [.urn, .int 3] U1 = .ok (.int f) U2 := e2
  obtain ⟨L, hL⟩ : ∃ L : Nat, (1 : Int) + a = L := ⟨1 + a, by omega⟩
  obtain ⟨F, hF⟩ : ∃ F : Nat, (1 : Int) + f = F := ⟨1 + f, by omega⟩
  obtain ⟨L1, hL1⟩ : ∃ L1, (L : Int) + 1 = L1 := ⟨_, rfl⟩
  obtain ⟨hs, a4, U3, e3, h1, h2, h3, u3⟩ := hues_ok (n := n + 995) (U := U2) (L := L) (ρ2 := .val (.int F)) (ρ4 := .un) (ρ5 := .un) (ρ6 := .un) (ρ7 := .un) (ρ8 := .un) (ρ9 := .un) (ρ10 := .un) (ρ11 := .un) (by omega) u2
  have eL : ((L + 1 : Nat) : Int) = L1 := by omega
  rw [eL] at e3
  have hg1 := fun ρ U => KRg1_int (j := L1) (by omega) (by omega) ρ U
  have hg2 := fun ρ U => KRg1_nat (k := F) (by omega) ρ U
  obtain ⟨hues, U4, e4, pm, u4⟩ := pick_all (n := n + 989) u3 h1
  have hlen : hues.length = hs.length := pm.length_eq
  have hl6 : hues.length ≤ 6 := by omega
  have hmem : ∀ k, k ≤ L → k ∈ hues := fun k hk => pm.mem_iff.mpr (h3 k hk)
  obtain ⟨rows, b4, b6, b7, b8, b9, b10, U5, e5, r1, r2, u5⟩ := rows_ok (n := n + 233) (U := U4) (F := F) (L := L) (hues := hues) (ρ4 := a4) (ρ6 := .un) (ρ7 := .un) (ρ8 := .un) (ρ9 := .un) (ρ10 := .un) (ρ11 := .un) hl6 hmem (by omega) (by omega) (by omega) u4
  obtain ⟨bf, U6, hbf, e6, u6⟩ := S1.take_ok (n := n + 232) (k := F) u5 (by omega) (by omega)
  have e6 : m_l_take [.urn, .int F] U5 = .ok (nat bf) U6 := e6
  obtain ⟨bh, U7, hbh, e7, u7⟩ := of_idx (n := n + 231) (hmem 0 (by omega)) (by omega) u6
  have hc := idx_lc (k := 12) (o := 13) (hues := hues) (x := 0) (ρ := [.val .urn, .val (.int L), .val (.int F), .val (.lst (hues.map nat)), b4, .own (.lst (rows.map enLs)), b6, b7, b8, b9, b10, .un, .un, .un]) (U := U6) (c := tOf (eBin eqD (.sl 13) (.ev (eC (.int 0))))) (by simp) (by simp) (by decide) (by omega) (fun y ρ' h1 h2 h3 => by
        have h5 : eqD (nat y) (.int 0) = some (.bl (y == 0)) := eqD_nat y 0
        simp [h2, h5])
  obtain ⟨ys, U8, e8, ay, u8⟩ := lcV_draw (tg := .nm 6) (vs := [6]) (e := eBin eqD (.ev (eCall m_l_take [(eVar 0), (eC (.int 2))])) (.ev (eC (.int 0)))) (ρ := [.val .urn, .val (.int L), .val (.int F), .val (.lst (hues.map nat)), b4, .own (.lst (rows.map enLs)), b6, b7, b8, b9, b10, .val (.tup [nat bf, nat bh]), .un, .un]) (U := U7) (ds := rgD 0 (F : Int)) nat (fun U k => Ud U (n + k)) (fun _ y => ∃ b : Bool, y = .bl b ∧ True) (List.range F) (rgD_map F) (fun U k h => h.less) (u7.mono (by rw [List.length_range]; omega))
    (fun x _ U k hu => by
      obtain ⟨r, U', hr, e, u⟩ := S1.take_ok (k := 2) hu (by omega) (by omega)
      have e : m_l_take [.urn, .int 2] U = .ok (.int r) U' := e
      refine ⟨[.val .urn, .val (.int L), .val (.int F), .val (.lst (hues.map nat)), b4, .own (.lst (rows.map enLs)), .val (nat x), b7, b8, b9, b10, .val (.tup [nat bf, nat bh]), .un, .un], .bl (decide ((r : Int) = 0)), U', by simp [unAll], ?_, ⟨_, rfl, trivial⟩, u⟩
      simp only [eBin_ee, eCall_ap, evs_cons, evs_nil, eVar_ap, List.getElem?_cons_zero, kVar_val, R.bind_ok, KEvs_ap, KEvs2_ap, eC_ap, KCall_ap, e, fr_ok, K2e_ap, K2b_ap, eqD_int, kO_some]) (by rw [List.length_range]; omega) (by simp)
  obtain ⟨ans, rfl, an⟩ := ay.ex
  have hal : ans.length = F := by rw [an.len, List.length_range]
  refine ⟨L, ⟨ans, hues, bf, bh, rows⟩, U8, ?_, ?_, u8⟩
  · unfold m_l_book b_l_book
    simp [mkFn_ap, e1, e2, hL, hF, hL1, hg1, hg2, e3, e4, e5, hc, e6, e7, e8]
    rfl
  · exact ⟨by omega, by omega, by show 1 ≤ ans.length; omega, by show ans.length ≤ 3; omega, hl6, fun x hx => h2 x (pm.mem_iff.mp hx), by show bf < ans.length; omega, hbh, by show rows.length = ans.length; omega, fun ls h => (r2 ls h).1, fun ls h l hl => ((r2 ls h).2 l hl).len, fun ls h l hl k r hk => by
      show r.Ok ans.length hues k
      rw [hal]
      exact ((r2 ls h).2 l hl).row k r hk⟩
end K11

set_option maxRecDepth 100000
set_option maxHeartbeats 4000000
namespace K11
open PySem PySem.Spec PyProof.Rows L2 VL
@[simp] theorem tgM_sq (is : List Nat) (b : Bool) (ds : List D) (ρ : Rho) : tgM (.tp is) (sq b ds) ρ = setsR is ds ρ := by cases b <;> rfl
@[simp] theorem ixD_sqn (b : Bool) (xs : List D) (k : Nat) : ixD (sq b xs) (nat k) = xs[k]? := by unfold nat; rw [ixD_sq, VL.atI_nat]
@[simp] theorem ixD_tupn (xs : List D) (k : Nat) : ixD (.tup xs) (nat k) = xs[k]? := by unfold nat; rw [ixD_tup, VL.atI_nat]
@[simp] theorem ixD_lstn (xs : List D) (k : Nat) : ixD (.lst xs) (nat k) = xs[k]? := by unfold nat; rw [ixD_lst, VL.atI_nat]
@[simp] theorem KPI_n (k : Nat) (ρ : Rho) (U : Urn) : KPI (nat k) ρ U = .ok (some (k : Int)) ρ U := id rfl
@[simp] theorem addA_n1 (k : Nat) : addA (nat k) (.int 1) = some (nat (k + 1)) := id rfl
@[simp] theorem addA_1n (k : Nat) : addA (.int 1) (nat k) = some (nat (1 + k)) := by
  show some (D.int (1 + (k : Int))) = some (D.int ((1 + k : Nat) : Int))
  congr 2
@[simp] theorem slA_sq (b : Bool) (xs : List D) (lo hi : Option Int) : slA (sq b xs) lo hi = some (sq b (cut xs lo hi)) := by cases b <;> rfl
theorem cut_to {α : Type} (xs : List α) (p : Nat) : cut xs none (some (p : Int)) = xs.take p := by
  unfold cut
  rw [HT.sIx_none, HT.sIx_nat, List.drop_zero, Nat.sub_zero]
  by_cases h : p ≤ xs.length
  · rw [Nat.min_eq_left h]
  · rw [Nat.min_eq_right (by omega), List.take_length, List.take_of_length_le (by omega)]
theorem cut_from {α : Type} (xs : List α) (p : Nat) : cut xs (some (p : Int)) none = xs.drop p := by
  unfold cut
  rw [HT.sIx_none, HT.sIx_nat]
  by_cases h : p ≤ xs.length
  · rw [Nat.min_eq_left h, List.take_of_length_le (by rw [List.length_drop]; omega)]
  · rw [Nat.min_eq_right (by omega), Nat.sub_self, List.take_zero, List.drop_of_length_le (by omega)]
@[simp] theorem ixD_nn (b : Bool) (l : List Nat) (k : Nat) : ixD (nats b l) (nat k) = l[k]?.map nat := by unfold nats; rw [ixD_sqn, List.getElem?_map]
@[simp] theorem slA_nn (b : Bool) (l : List Nat) (lo hi : Option Int) : slA (nats b l) lo hi = some (nats b (cut l lo hi)) := by unfold nats; rw [slA_sq, cut_map]
@[simp] theorem seqD_nn (b : Bool) (l : List Nat) : seqD (nats b l) = some (l.map nat) := by unfold nats; rw [seqD_sq]
@[simp] theorem lenA_nn (b : Bool) (l : List Nat) : lenA (nats b l) = some (nat l.length) := by unfold nats; rw [lenA_sq, List.length_map]; rfl
theorem cut_from1 {α : Type} (xs : List α) (p : Nat) : cut xs (some ((p : Int) + 1)) none = xs.drop (p + 1) := cut_from xs (p + 1)
/-! ### turning -/
def encS (b : Bool) (st : Nat × List Nat) : D := sq b [nat st.1, nats b st.2]
def encC (b : Bool) (c : Nat × Nat) : D := sq b [nat c.1, nat c.2]
def turnL (r : Row) (p : Nat) (hs : List Nat) : List Nat := (hs.take p).map (fun x => r.l[x]?.getD 0) ++ [r.h] ++ (hs.drop (p + 1)).map (fun x => r.r[x]?.getD 0)
structure At (B : Book) (st : Nat × List Nat) (c : Nat × Nat) (r : Row) : Prop where
  ex : ∃ (ls : List (List Row)) (h : Nat) (line : List Row), B.rows[st.1]? = some ls ∧ st.2[c.1]? = some h ∧ ls[h]? = some line ∧ line[c.2]? = some r
  l : ∀ x ∈ st.2, x < r.l.length
  r : ∀ x ∈ st.2, x < r.r.length
  len : st.2.length ≤ 1000
theorem map_lc {k j : Nat} {b : Bool} {hs m : List Nat} {ρ : Rho} {U : Urn} (hk : k < ρ.length) (hkj : j ≠ k) (hj : ρ[j]? = some (.val (nats b m))) (hm : ∀ x ∈ hs, x < m.length) (hl : hs.length ≤ 16777216) :
    lcV (.nm k) [k] tYesM (eIx (.sl j) (.sl k)) (hs.map nat) ρ U = .ok (.lst ((hs.map fun x => m[x]?.getD 0).map nat)) ρ U := by
  rw [lcV_map (tg := .nm k) (vs := [k]) (e := eIx (.sl j) (.sl k)) (ρ := ρ) (U := U) nat (fun x => nat (m[x]?.getD 0)) hs rfl (fun x hx => ?_) hl (by simp [hk]) (by simp [tgIx]) (by simp)]
  · rw [List.map_map]; rfl
  · have h1 : (unAll [k] ρ).length = ρ.length := unAll_len _ _
    have h2 : ((unAll [k] ρ).set k (.val (nat x)))[j]? = some (.val (nats b m)) := by
      rw [List.getElem?_set_ne (fun e => hkj e.symm), unAll_get (by simp [hkj]), hj]
    have h3 : ((unAll [k] ρ).set k (.val (nat x)))[k]? = some (.val (nat x)) := List.getElem?_set_self (by rw [h1]; exact hk)
    refine ⟨(unAll [k] ρ).set k (.val (nat x)), by rw [tgM_nm, if_pos (by rw [h1]; exact hk)], ?_⟩
    have hx2 := hm x hx
    rw [eIx_ap, eBin_ss, look_ap, look_ap, h2, h3, lkS_val, lkS_val, kSS_some]
    unfold nats
    rw [ixD_sqn, List.getElem?_map, List.getElem?_eq_getElem hx2]
    rfl
theorem turned_to_ok {B : Book} {st : Nat × List Nat} {c : Nat × Nat} {r : Row} (h : At B st c r) (b b1 b2 : Bool) (U : Urn) : m_turned_to [encBook b B, encS b1 st, encC b2 c] U = .ok (.tup [nat r.f, .tup ((turnL r c.1 st.2).map nat)]) U := by
  obtain ⟨f, hs⟩ := st
  obtain ⟨p, l⟩ := c
  obtain ⟨ls, x, line, h1, h2, h3, h4⟩ := h.ex
  have hp : p < hs.length := (List.getElem?_eq_some_iff.mp h2).1
  have hlen := h.len
  have hm1 := fun (ρ : Rho) (h1 : 12 < ρ.length) (h2 : ρ[9]? = some (.val (nats b r.l))) => map_lc (k := 12) (j := 9) (b := b) (hs := hs.take p) (m := r.l) (ρ := ρ) (U := U) h1 (by decide) h2 (fun y hy => h.l y (List.mem_of_mem_take hy)) (by rw [List.length_take]; simp at hlen; omega)
  have hm2 := fun (ρ : Rho) (h1 : 12 < ρ.length) (h2 : ρ[10]? = some (.val (nats b r.r))) => map_lc (k := 12) (j := 10) (b := b) (hs := hs.drop (p + 1)) (m := r.r) (ρ := ρ) (U := U) h1 (by decide) h2 (fun y hy => h.r y (List.mem_of_mem_drop hy)) (by rw [List.length_drop]; simp at hlen; omega)
  simp at hlen h1 h2 h4
  unfold m_turned_to b_turned_to
  have z1 : min p hs.length ≤ 16777215 := by omega
  have z2 : min p hs.length + 1 + (hs.length - (p + 1)) ≤ 16777216 := by omega
  simp [-List.map_take, -List.map_drop, -List.map_map, mkFn_ap, encS, encC, encBook, encRow, h1, h2, h3, h4, cut_to, cut_from, cut_from1, hm1, hm2, turnL, z1, z2]
theorem turnL_len {r : Row} {p : Nat} {hs : List Nat} (h : p < hs.length) : (turnL r p hs).length = hs.length := by
  unfold turnL
  simp
  omega
theorem turnL_get {r : Row} {p j : Nat} {hs : List Nat} {x : Nat} (h : p < hs.length) (hx : hs[j]? = some x) : (turnL r p hs)[j]? = some (if j = p then r.h else if j < p then r.l[x]?.getD 0 else r.r[x]?.getD 0) := by
  unfold turnL
  by_cases h1 : j < p
  · rw [if_neg (by omega), if_pos h1, List.append_assoc, List.getElem?_append_left (by simp; omega), List.getElem?_map, List.getElem?_take_of_lt h1, hx]
    rfl
  · by_cases h2 : j = p
    · subst h2
      rw [if_pos rfl, List.append_assoc, List.getElem?_append_right (by simp; omega)]
      simp [show min j hs.length = j by omega]
    · rw [if_neg h2, if_neg h1, List.getElem?_append_right (by simp; omega)]
      have e : j - ((hs.take p).map (fun x => r.l[x]?.getD 0) ++ [r.h]).length = j - (p + 1) := by simp; omega
      rw [e, List.getElem?_map, List.getElem?_drop, show p + 1 + (j - (p + 1)) = j by omega, hx]
      rfl
theorem l_turned_ok {B : Book} {st : Nat × List Nat} {c : Nat × Nat} {r : Row} (h : At B st c r) (U : Urn) : m_l_turned [encBook false B, encS false st, encC false c] U = .ok (.tup [nat r.f, .tup ((turnL r c.1 st.2).map nat)]) U := by
  obtain ⟨f, hs⟩ := st
  obtain ⟨p, l⟩ := c
  obtain ⟨ls, x, line, h1, h2, h3, h4⟩ := h.ex
  have hp : p < hs.length := (List.getElem?_eq_some_iff.mp h2).1
  have hlen := h.len
  have hml := h.l
  have hmr := h.r
  simp at hlen h1 h2 h4 hml hmr
  obtain ⟨ρ', U', e, r5, r6, rfl, rfl⟩ := for_inv (tg := .tp [5, 6]) (b := sIf (tOf (eBin eqD (.sl 5) (.ev (eIx (.sl 2) (.ev (eC (.int 0))))))) (sMut appD 4 (eIx (.sl 3) (.ev (eC (.int 1))))) (sMut appD 4 (eIx (.ev (eIx (.sl 3) (.ev (eIf (tOf (eBin ltI (.sl 5) (.ev (eIx (.sl 2) (.ev (eC (.int 0))))))) (eC (.int 2)) (eC (.int 3)))))) (.sl 6)))) (ds := enD 0 (hs.map nat)) (fun q : Nat × Nat => D.tup [nat q.2, nat q.1])
    (fun j ρ V => ∃ r5 r6, ρ = [.val (encBook false B), .val (encS false (f, hs)), .val (encC false (p, l)), .val (encRow false r), .own (.lst (((turnL r p hs).take j).map nat)), r5, r6] ∧ V = U) (hs.zipIdx 0) (enD_map nat hs 0)
    (ρ := [.val (encBook false B), .val (encS false (f, hs)), .val (encC false (p, l)), .val (encRow false r), .own (.lst []), .un, .un]) (U := U) ⟨_, _, rfl, rfl⟩ (fun j y ρ V hj ⟨r5, r6, e, eU⟩ => by
      subst e; subst eU
      obtain ⟨y, i⟩ := y
      obtain ⟨hj1, hj2⟩ := List.getElem?_eq_some_iff.mp hj
      have hj1 : j < hs.length := by simpa using hj1
      have hi : i = j := by
        have := congrArg Prod.snd hj2
        simp at this
        omega
      subst hi
      have hy : hs[i]? = some y := by
        have := congrArg Prod.fst hj2
        simp at this
        rw [List.getElem?_eq_getElem hj1, this]
      have hym := List.mem_of_getElem? hy
      have hg := turnL_get (r := r) hp hy
      have hz : min i (turnL r p hs).length < 16777216 := by rw [turnL_len hp]; omega
      have ht : (turnL r p hs).take (i + 1) = (turnL r p hs).take i ++ [if i = p then r.h else if i < p then r.l[y]?.getD 0 else r.r[y]?.getD 0] := by
        rw [List.take_add_one, hg]
        rfl
      have hyl := hml y hym
      have hyr := hmr y hym
      obtain ⟨u, hu⟩ : ∃ u, r.l[y]? = some u := ⟨_, List.getElem?_eq_getElem hyl⟩
      obtain ⟨w, hw⟩ : ∃ w, r.r[y]? = some w := ⟨_, List.getElem?_eq_getElem hyr⟩
      have e1 : eqD (nat i) (nat p) = some (.bl (decide (i = p))) := by rw [eqD_nat]; congr 2
      have e2 : ltI (nat i) (nat p) = some (.bl (decide (i < p))) := by
        show some (D.bl (decide ((i : Int) < (p : Int)))) = _
        congr 2
        simp
      refine ⟨[.val (encBook false B), .val (encS false (f, hs)), .val (encC false (p, l)), .val (encRow false r), .own (.lst (((turnL r p hs).take i).map nat)), .val (nat i), .val (nat y)], [.val (encBook false B), .val (encS false (f, hs)), .val (encC false (p, l)), .val (encRow false r), .own (.lst (((turnL r p hs).take (i + 1)).map nat)), .val (nat i), .val (nat y)], V, by simp, ?_, _, _, rfl, rfl⟩
      rw [ht]
      by_cases hip : i = p
      · subst hip
        simp [-List.map_take, encC, encRow, e1, hz]
      · by_cases hlt : i < p
        · simp [-List.map_take, encC, encRow, e1, e2, hz, hip, hlt, hu, hw]
        · simp [-List.map_take, encC, encRow, e1, e2, hz, hip, hlt, hu, hw])
  have hfin : (turnL r p hs).take (hs.zipIdx 0).length = turnL r p hs := List.take_of_length_le (by rw [turnL_len hp]; simp)
  rw [hfin] at e
  unfold m_l_turned b_l_turned
  have hb : eIx (.ev (eIx (.ev (eIx (.ev (eIx (.sl 0) (.ev (eC (.int 3))))) (.ev (eIx (.sl 1) (.ev (eC (.int 0))))))) (.ev (eIx (.ev (eIx (.sl 1) (.ev (eC (.int 1))))) (.ev (eIx (.sl 2) (.ev (eC (.int 0))))))))) (.ev (eIx (.sl 2) (.ev (eC (.int 1))))) [.val (encBook false B), .val (encS false (f, hs)), .val (encC false (p, l)), .un, .un, .un, .un] U' = .ok (encRow false r) [.val (encBook false B), .val (encS false (f, hs)), .val (encC false (p, l)), .un, .un, .un, .un] U' := by
    simp [encS, encC, encBook, h1, h2, h3, h4]
  simp only [mkFn_ap, List.map_cons, List.map_nil, List.length_cons, List.length_nil, sSeq_ap, sSet_ap]
  rw [show ([Sl.val (encBook false B), Sl.val (encS false (f, hs)), Sl.val (encC false (p, l))] ++ List.replicate (7 - (0 + 1 + 1 + 1)) Sl.un : Rho) = [.val (encBook false B), .val (encS false (f, hs)), .val (encC false (p, l)), .un, .un, .un, .un] from rfl, hb]
  have hen : seqD (nats false hs) = some (hs.map nat) := seqD_nn _ _
  have hs1 : (encS false (f, hs)) = .tup [nat f, nats false hs] := rfl
  have hr1 : encRow false r = .tup [nat r.f, nat r.h, nats false r.l, nats false r.r] := rfl
  rw [hs1, hr1] at e
  rw [hs1, hr1]
  simp [e]
end K11

set_option maxRecDepth 100000
set_option maxHeartbeats 4000000
namespace K11
open PySem PySem.Spec PyProof.Rows L2 VL
structure SOk (B : Book) (M : Nat) (st : Nat × List Nat) : Prop where
  f : st.1 < B.ans.length
  len : st.2.length = M
  h : ∀ x ∈ st.2, x < B.hues.length
structure COk (L M : Nat) (c : Nat × Nat) : Prop where
  p : c.1 < M
  l : c.2 ≤ L
def rowAt (B : Book) (st : Nat × List Nat) (c : Nat × Nat) : Option Row :=
  (B.rows[st.1]?).bind fun ls => (st.2[c.1]?).bind fun h => (ls[h]?).bind fun line => line[c.2]?
def turn (B : Book) (st : Nat × List Nat) (c : Nat × Nat) : Nat × List Nat := match rowAt B st c with
  | some r => (r.f, turnL r c.1 st.2)
  | none => st
theorem map_lt {hues l : List Nat} (h : IsMap hues l) {x y : Nat} (hx : l[x]? = some y) : y < hues.length := by
  have h1 := (List.getElem?_eq_some_iff.mp hx).1
  rw [h.1] at h1
  obtain ⟨z, h2, h3⟩ := h.2 x hues[x] (List.getElem?_eq_getElem h1)
  rw [hx] at h2
  cases h2
  exact (List.getElem?_eq_some_iff.mp h3).1
theorem at_of {B : Book} {L M : Nat} {st : Nat × List Nat} {c : Nat × Nat} (hB : B.Ok L) (hM : M ≤ 1000) (hs : SOk B M st) (hc : COk L M c) : ∃ r, At B st c r ∧ r.Ok B.ans.length B.hues c.2 ∧ turn B st c = (r.f, turnL r c.1 st.2) ∧ SOk B M (turn B st c) := by
  have h1 : st.1 < B.rows.length := by rw [hB.rows]; exact hs.f
  have h2 : c.1 < st.2.length := by rw [hs.len]; exact hc.p
  have hm1 := List.getElem_mem h1
  have h3 : st.2[c.1] < B.rows[st.1].length := by rw [hB.lines _ hm1]; exact hs.h _ (List.getElem_mem h2)
  have hm2 := List.getElem_mem h3
  have h4 : c.2 < B.rows[st.1][st.2[c.1]].length := by rw [hB.line _ hm1 _ hm2]; have := hc.l; omega
  obtain ⟨r, hr⟩ : ∃ r, B.rows[st.1][st.2[c.1]][c.2]? = some r := ⟨_, List.getElem?_eq_getElem h4⟩
  have ok := hB.row _ hm1 _ hm2 _ _ hr
  have hl : ∀ x ∈ st.2, x < r.l.length := fun x hx => by rw [ok.l.1]; exact hs.h x hx
  have hrr : ∀ x ∈ st.2, x < r.r.length := fun x hx => by rw [ok.r.1]; exact hs.h x hx
  have ha : At B st c r := ⟨⟨_, _, _, List.getElem?_eq_getElem h1, List.getElem?_eq_getElem h2, List.getElem?_eq_getElem h3, hr⟩, hl, hrr, by rw [hs.len]; exact hM⟩
  have ht : turn B st c = (r.f, turnL r c.1 st.2) := by
    unfold turn rowAt
    rw [List.getElem?_eq_getElem h1, List.getElem?_eq_getElem h2]
    simp only [Option.bind_some]
    rw [List.getElem?_eq_getElem h3]
    simp only [Option.bind_some]
    rw [hr]
  refine ⟨r, ha, ok, ht, ?_⟩
  rw [ht]
  refine ⟨ok.f, (turnL_len h2).trans hs.len, fun x hx => ?_⟩
  have hx : x ∈ turnL r c.1 st.2 := hx
  obtain ⟨j, hj⟩ := List.mem_iff_getElem?.mp hx
  have hj1 := (List.getElem?_eq_some_iff.mp hj).1
  rw [turnL_len h2] at hj1
  rw [turnL_get h2 (List.getElem?_eq_getElem hj1)] at hj
  have hj := Option.some.inj hj
  have hy := List.getElem_mem hj1
  by_cases e1 : j = c.1
  · rw [if_pos e1] at hj; rw [← hj]; exact (List.getElem?_eq_some_iff.mp ok.h).1
  · rw [if_neg e1] at hj
    by_cases e2 : j < c.1
    · rw [if_pos e2, List.getElem?_eq_getElem (hl _ hy)] at hj
      rw [← hj]; exact map_lt ok.l (List.getElem?_eq_getElem (hl _ hy))
    · rw [if_neg e2, List.getElem?_eq_getElem (hrr _ hy)] at hj
      rw [← hj]; exact map_lt ok.r (List.getElem?_eq_getElem (hrr _ hy))
theorem turned_to_ok' {B : Book} {L M : Nat} {st : Nat × List Nat} {c : Nat × Nat} (hB : B.Ok L) (hM : M ≤ 1000) (hs : SOk B M st) (hc : COk L M c) (b b1 b2 : Bool) (U : Urn) : m_turned_to [encBook b B, encS b1 st, encC b2 c] U = .ok (encS false (turn B st c)) U := by
  obtain ⟨r, ha, _, ht, _⟩ := at_of hB hM hs hc
  rw [turned_to_ok ha, ht]
  rfl
theorem l_turned_ok' {B : Book} {L M : Nat} {st : Nat × List Nat} {c : Nat × Nat} (hB : B.Ok L) (hM : M ≤ 1000) (hs : SOk B M st) (hc : COk L M c) (U : Urn) : m_l_turned [encBook false B, encS false st, encC false c] U = .ok (encS false (turn B st c)) U := by
  obtain ⟨r, ha, _, ht, _⟩ := at_of hB hM hs hc
  rw [l_turned_ok ha, ht]
  rfl
/-! ### along a history -/
def stAt (B : Book) (st : Nat × List Nat) (cs : List (Nat × Nat)) (i : Nat) : Nat × List Nat := (cs.take i).foldl (turn B) st
def stands (B : Book) (st : Nat × List Nat) (cs : List (Nat × Nat)) : List (Nat × List Nat) := (List.range (cs.length + 1)).map (stAt B st cs)
theorem stAt_succ {B : Book} {st : Nat × List Nat} {cs : List (Nat × Nat)} {j : Nat} {c : Nat × Nat} (h : cs[j]? = some c) : stAt B st cs (j + 1) = turn B (stAt B st cs j) c := by
  unfold stAt
  rw [List.take_add_one, h]
  simp
theorem stAt_ok {B : Book} {L M : Nat} {st : Nat × List Nat} {cs : List (Nat × Nat)} (hB : B.Ok L) (hM : M ≤ 1000) (hs : SOk B M st) (hc : ∀ c ∈ cs, COk L M c) : ∀ i, SOk B M (stAt B st cs i)
  | 0 => by unfold stAt; rw [List.take_zero]; exact hs
  | i + 1 => by
    by_cases h : i < cs.length
    · rw [stAt_succ (List.getElem?_eq_getElem h)]
      exact (at_of hB hM (stAt_ok hB hM hs hc i) (hc _ (List.getElem_mem h))).choose_spec.2.2.2
    · have e : stAt B st cs (i + 1) = stAt B st cs i := by
        unfold stAt
        rw [List.take_of_length_le (by omega), List.take_of_length_le (by omega)]
      rw [e]
      exact stAt_ok hB hM hs hc i
def beg (B : Book) (M : Nat) : Nat × List Nat := (B.bf, List.replicate M B.bh)
theorem beg_ok {B : Book} {L M : Nat} (hB : B.Ok L) : SOk B M (beg B M) := by
  refine ⟨hB.bf, by simp [beg], fun x hx => ?_⟩
  rw [(List.mem_replicate.mp hx).2]
  exact (List.getElem?_eq_some_iff.mp hB.bh).1
theorem mulA_tup1 (x : D) (m : Nat) (h0 : 1 ≤ m) (h : m ≤ 1000) : mulA (.tup [x]) (.int m) = some (.tup (List.replicate m x)) := by
  have e : (List.replicate m [x]).flatten = List.replicate m x := by
    clear h0 h
    induction m with
    | zero => rfl
    | succ m ih => rw [List.replicate_succ, List.flatten_cons, ih, List.replicate_succ]; rfl
  have e1 : mulT (.tup [x]) (.int m) = some (.tup (List.replicate m x)) := by
    unfold mulT
    by_cases h1 : m = 1
    · subst h1; rfl
    · show (if (m : Int) = 1 then _ else if [x].length ≠ 0 ∧ 2 ≤ (m : Int) ∧ (m : Int) ≤ 1000 ∧ [x].length ≤ 1000 then some (D.tup (List.replicate (m : Int).toNat [x]).flatten) else none) = _
      rw [if_neg (by omega), if_pos ⟨by simp, by omega, by omega, by simp⟩, Int.toNat_natCast, e]
  unfold mulA
  rw [orD_none rfl]
  unfold orD
  rw [e1]
theorem begun_ok {B : Book} (b : Bool) {M : Nat} (h0 : 1 ≤ M) (h : M ≤ 1000) (U : Urn) : m_begun [encBook b B, nat M] U = .ok (encS false (beg B M)) U := by
  have hm := mulA_tup1 (nat B.bh) M h0 h
  have hm : mulA (.tup [nat B.bh]) (nat M) = _ := hm
  unfold m_begun b_begun
  simp [mkFn_ap, encBook, hm, encS, beg, nats]
theorem letters_of_ok {B : Book} {L : Nat} (hB : B.Ok L) (b : Bool) (U : Urn) : m_letters_of [encBook b B] U = .ok (nat L) U := by
  have h1 : 0 < B.rows.length := by rw [hB.rows]; exact hB.a1
  have hm1 := List.getElem_mem h1
  have h2 : 0 < B.rows[0].length := by
    rw [hB.lines _ hm1]
    have := (List.getElem?_eq_some_iff.mp hB.bh).1
    omega
  have hm2 := List.getElem_mem h2
  have h3 := hB.line _ hm1 _ hm2
  have hs : subI (.int ((L : Int) + 1)) (.int 1) = some (nat L) := by
    show some (D.int ((L : Int) + 1 - 1)) = _
    rw [Int.add_sub_cancel]; rfl
  have g1 : B.rows[0]? = some B.rows[0] := List.getElem?_eq_getElem h1
  have g2 : B.rows[0][0]? = some B.rows[0][0] := List.getElem?_eq_getElem h2
  unfold m_letters_of b_letters_of
  simp [mkFn_ap, encBook, g1, g2, h3, hs]
end K11

set_option maxRecDepth 100000
set_option maxHeartbeats 4000000
namespace K11
open PySem PySem.Spec PyProof.Rows L2 VL
@[simp] theorem leI_n (a b : Nat) : leI (nat a) (nat b) = some (.bl (decide (a ≤ b))) := by
  show some (D.bl (decide ((a : Int) ≤ (b : Int)))) = _
  congr 2
  simp
@[simp] theorem ltI_n (a b : Nat) : ltI (nat a) (nat b) = some (.bl (decide (a < b))) := by
  show some (D.bl (decide ((a : Int) < (b : Int)))) = _
  congr 2
  simp
@[simp] theorem gtI_n (a b : Nat) : gtI (nat a) (nat b) = some (.bl (decide (b < a))) := by
  show some (D.bl (decide ((b : Int) < (a : Int)))) = _
  congr 2
  simp
@[simp] theorem leI_0n (a : Nat) : leI (.int 0) (nat a) = some (.bl true) := by
  show some (D.bl (decide ((0 : Int) ≤ (a : Int)))) = _
  congr 2
def encH (b : Bool) (M : Nat) (cs : List (Nat × Nat)) : D := sq b [nat M, sq b (cs.map (encC b))]
theorem lastL {α β : Type} (f : Nat → α) (g : α → β) (j : Nat) : (((List.range (j + 1)).map f).map g).getLast? = some (g (f j)) := by
  rw [List.range_succ, List.map_append, List.map_append]
  simp
theorem letters_lc {B : Book} {L M : Nat} {b b2 : Bool} {cs : List (Nat × Nat)} {ρ : Rho} {U : Urn} (hB : B.Ok L) (hc : ∀ c ∈ cs, COk L M c) (hl : cs.length ≤ 1000) (h0 : ρ[0]? = some (.val (encBook b B))) (h6 : ρ.length = 6) :
    lcV (.tp [4, 5]) [4, 5] tYesM (eBin leI (.sl 5) (.ev (eCall m_letters_of [(eVar 0)]))) (cs.map (encC b2)) ρ U = .ok (.lst (cs.map fun _ => D.bl true)) ρ U := by
  match ρ, h6 with
  | [r0, r1, r2, r3, r4, r5], _ =>
    simp at h0
    subst h0
    rw [lcV_map (encC b2) (fun _ => D.bl true) cs rfl (fun c hc' => ?_) (by omega) (by simp)]
    refine ⟨[.val (encBook b B), r1, r2, r3, .val (nat c.1), .val (nat c.2)], by simp [unAll, encC], ?_⟩
    simp [letters_of_ok hB, (hc c hc').l]
theorem stands_along_ok {B : Book} {L M : Nat} {cs : List (Nat × Nat)} (hB : B.Ok L) (h0 : 1 ≤ M) (hM : M ≤ 1000) (hc : ∀ c ∈ cs, COk L M c) (hl : cs.length ≤ 1000) (b b2 : Bool) (U : Urn) :
    m_stands_along [encBook b B, encH b2 M cs] U = .ok (.lst ((stands B (beg B M) cs).map (encS false))) U := by
  obtain ⟨ρ', U', e, r3, rfl, rfl⟩ := for_inv (tg := .nm 3) (b := sMut appD 2 (eCall m_turned_to [(eVar 0), (eIx (.sl 2) (.ev (eNeg (eC (.int 1))))), (eVar 3)])) (ds := cs.map (encC b2)) (encC b2)
    (fun j ρ V => ∃ r3, ρ = [.val (encBook b B), .val (encH b2 M cs), .own (.lst (((List.range (j + 1)).map (stAt B (beg B M) cs)).map (encS false))), r3, .un, .un] ∧ V = U) cs rfl
    (ρ := [.val (encBook b B), .val (encH b2 M cs), .own (.lst [encS false (beg B M)]), .un, .un, .un]) (U := U) ⟨.un, rfl, rfl⟩ (fun j c ρ V hj ⟨r3, e, eU⟩ => by
      subst e; subst eU
      have hj1 := (List.getElem?_eq_some_iff.mp hj).1
      have hla := lastL (stAt B (beg B M) cs) (encS false) j
      have ht := turned_to_ok' hB hM (stAt_ok hB hM (beg_ok hB) hc j) (hc c (List.mem_of_getElem? hj)) b false b2 V
      have hz : j + 1 < 16777216 := by omega
      refine ⟨[.val (encBook b B), .val (encH b2 M cs), .own (.lst (((List.range (j + 1)).map (stAt B (beg B M) cs)).map (encS false))), .val (encC b2 c), .un, .un], [.val (encBook b B), .val (encH b2 M cs), .own (.lst (((List.range (j + 1 + 1)).map (stAt B (beg B M) cs)).map (encS false))), .val (encC b2 c), .un, .un], V, by simp, ?_, _, rfl, rfl⟩
      rw [List.range_succ (n := j + 1), List.map_append, List.map_append, List.map_singleton, List.map_singleton, stAt_succ hj]
      simp [-List.map_map, hla, ht, hz])
  have hlc := fun (ρ : Rho) h1 h2 => letters_lc (b := b) (b2 := b2) (ρ := ρ) (U := U') hB hc hl h1 h2
  have hb := begun_ok (B := B) b h0 hM U'
  have hall : allD (.lst (cs.map fun _ => D.bl true)) = some (.bl true) := by
    have := allD_map (fun _ : Nat × Nat => true) cs
    simpa using this
  have hH : encH b2 M cs = sq b2 [nat M, sq b2 (cs.map (encC b2))] := rfl
  unfold m_stands_along b_stands_along
  rw [hH] at e ⊢
  simp [-List.map_map, mkFn_ap, hlc, hall, hb, e, stands]
theorem played_ok {B : Book} {L M : Nat} {cs : List (Nat × Nat)} (hB : B.Ok L) (h0 : 1 ≤ M) (hM : M ≤ 1000) (hc : ∀ c ∈ cs, COk L M c) (hl : cs.length ≤ 1000) (U : Urn) :
    m_l_played [encBook false B, nat M, .tup (cs.map (encC false))] U = .ok (.lst ((stands B (beg B M) cs).map (encS false))) U := by
  obtain ⟨ρ', U', e, r3, rfl, rfl⟩ := for_inv (tg := .nm 4) (b := sMut appD 3 (eCall m_l_turned [(eVar 0), (eIx (.sl 3) (.ev (eNeg (eC (.int 1))))), (eVar 4)])) (ds := cs.map (encC false)) (encC false)
    (fun j ρ V => ∃ r3, ρ = [.val (encBook false B), .val (nat M), .val (.tup (cs.map (encC false))), .own (.lst (((List.range (j + 1)).map (stAt B (beg B M) cs)).map (encS false))), r3] ∧ V = U) cs rfl
    (ρ := [.val (encBook false B), .val (nat M), .val (.tup (cs.map (encC false))), .own (.lst [encS false (beg B M)]), .un]) (U := U) ⟨.un, rfl, rfl⟩ (fun j c ρ V hj ⟨r3, e, eU⟩ => by
      subst e; subst eU
      have hj1 := (List.getElem?_eq_some_iff.mp hj).1
      have hla := lastL (stAt B (beg B M) cs) (encS false) j
      have ht := l_turned_ok' hB hM (stAt_ok hB hM (beg_ok hB) hc j) (hc c (List.mem_of_getElem? hj)) V
      have hz : j + 1 < 16777216 := by omega
      refine ⟨[.val (encBook false B), .val (nat M), .val (.tup (cs.map (encC false))), .own (.lst (((List.range (j + 1)).map (stAt B (beg B M) cs)).map (encS false))), .val (encC false c)], [.val (encBook false B), .val (nat M), .val (.tup (cs.map (encC false))), .own (.lst (((List.range (j + 1 + 1)).map (stAt B (beg B M) cs)).map (encS false))), .val (encC false c)], V, by simp, ?_, _, rfl, rfl⟩
      rw [List.range_succ (n := j + 1), List.map_append, List.map_append, List.map_singleton, List.map_singleton, stAt_succ hj]
      simp [-List.map_map, hla, ht, hz])
  have hm := mulA_tup1 (nat B.bh) M h0 hM
  have hm : mulA (.tup [nat B.bh]) (nat M) = _ := hm
  have hbg : D.tup [nat B.bf, D.tup (List.replicate M (nat B.bh))] = encS false (beg B M) := by simp [encS, beg, nats]
  have hk : encBook false B = .tup [.tup (B.ans.map D.bl), nats false B.hues, .tup [nat B.bf, nat B.bh], .tup (B.rows.map fun ls => .tup (ls.map fun l => .tup (l.map (encRow false))))] := rfl
  unfold m_l_played b_l_played
  rw [hk] at e ⊢
  simp [-List.map_map, mkFn_ap, hm, hbg, e, stands]
end K11

set_option maxRecDepth 100000
set_option maxHeartbeats 4000000
namespace K11
open PySem PySem.Spec PyProof.Rows L2 VL
theorem stands_last {B : Book} {st : Nat × List Nat} {cs : List (Nat × Nat)} {β : Type} (g : Nat × List Nat → β) : ((stands B st cs).map g).getLast? = some (g (stAt B st cs cs.length)) := lastL _ _ _
theorem stands_len {B : Book} {st : Nat × List Nat} {cs : List (Nat × Nat)} : (stands B st cs).length = cs.length + 1 := by simp [stands]
theorem stands_ok {B : Book} {L M : Nat} {cs : List (Nat × Nat)} (hB : B.Ok L) (hM : M ≤ 1000) (hc : ∀ c ∈ cs, COk L M c) : ∀ s ∈ stands B (beg B M) cs, SOk B M s := fun s hs => by
  obtain ⟨i, _, rfl⟩ := List.mem_map.mp hs
  exact stAt_ok hB hM (beg_ok hB) hc i
section
variable {B : Book} {L M : Nat} {cs : List (Nat × Nat)} (hB : B.Ok L) (h0 : 1 ≤ M) (hM : M ≤ 1000) (hc : ∀ c ∈ cs, COk L M c) (hl : cs.length ≤ 1000) (b b2 : Bool) (U : Urn)
include hB h0 hM hc hl
theorem stand_behind_ok : m_stand_behind [encBook b B, encH b2 M cs] U = .ok (encS false (stAt B (beg B M) cs cs.length)) U := by
  have h1 := stands_along_ok hB h0 hM hc hl b b2 U
  have h2 := stands_last (B := B) (st := beg B M) (cs := cs) (encS false)
  unfold m_stand_behind b_stand_behind
  simp [-List.map_map, mkFn_ap, h1, h2]
theorem answer_ok : ∃ x, B.ans[(stAt B (beg B M) cs cs.length).1]? = some x ∧ m_answer [encBook b B, encH b2 M cs] U = .ok (.bl x) U := by
  have h1 := stand_behind_ok hB h0 hM hc hl b b2 U
  have h2 := (stAt_ok hB hM (beg_ok hB) hc cs.length).f
  refine ⟨_, List.getElem?_eq_getElem h2, ?_⟩
  have hk : encBook b B = sq b [sq b (B.ans.map D.bl), nats b B.hues, sq b [nat B.bf, nat B.bh], sq b (B.rows.map fun ls => sq b (ls.map fun l => sq b (l.map (encRow b))))] := rfl
  have hs : ∀ s, encS false s = .tup [nat s.1, nats false s.2] := fun _ => rfl
  unfold m_answer b_answer
  rw [hk] at h1 ⊢
  simp [-List.map_map, mkFn_ap, h1, hs, h2]
theorem flags_along_ok : m_flags_along [encBook b B, encH b2 M cs] U = .ok (.tup ((stands B (beg B M) cs).map fun s => nat s.1)) U := by
  have h1 := stands_along_ok hB h0 hM hc hl b b2 U
  have hlc := lcV_map (tg := .nm 2) (vs := [2]) (e := eIx (.sl 2) (.ev (eC (.int 0)))) (ρ := [.val (encBook b B), .val (encH b2 M cs), .un]) (U := U) (encS false) (fun s => nat s.1) (stands B (beg B M) cs) rfl (fun s _ => ⟨[.val (encBook b B), .val (encH b2 M cs), .val (encS false s)], by simp [unAll], by simp [encS]⟩) (by rw [stands_len]; omega) (by simp)
  unfold m_flags_along b_flags_along
  simp [-List.map_map, mkFn_ap, h1, hlc]
theorem hues_along_ok {q : Nat} (hq : q < M) : m_hues_along [encBook b B, encH b2 M cs, nat q] U = .ok (.tup ((stands B (beg B M) cs).map fun s => nat (s.2[q]?.getD 0))) U := by
  have h1 := stands_along_ok hB h0 hM hc hl b b2 U
  have hlc := lcV_map (tg := .nm 4) (vs := [4]) (e := eIx (.ev (eIx (.sl 4) (.ev (eC (.int 1))))) (.sl 2)) (ρ := [.val (encBook b B), .val (encH b2 M cs), .val (nat q), .val (.lst ((stands B (beg B M) cs).map (encS false))), .un]) (U := U) (encS false) (fun s => nat (s.2[q]?.getD 0)) (stands B (beg B M) cs) rfl (fun s hs => by
    have h2 : q < s.2.length := by rw [(stands_ok hB hM hc s hs).len]; exact hq
    exact ⟨[.val (encBook b B), .val (encH b2 M cs), .val (nat q), .val (.lst ((stands B (beg B M) cs).map (encS false))), .val (encS false s)], by simp [unAll], by simp [encS, h2]⟩) (by rw [stands_len]; omega) (by simp)
  have hH : encH b2 M cs = sq b2 [nat M, sq b2 (cs.map (encC b2))] := rfl
  unfold m_hues_along b_hues_along
  rw [hH] at h1 hlc ⊢
  simp [-List.map_map, mkFn_ap, h1, hlc, hq]
end
theorem text_of_ok {B : Book} {M : Nat} {st : Nat × List Nat} (hs : SOk B M st) (hM : M ≤ 1000) (b b1 : Bool) (U : Urn) : m_text_of [encBook b B, encS b1 st] U = .ok (.tup (st.2.map fun h => nat (B.hues[h]?.getD 0))) U := by
  have hlc := lcV_map (tg := .nm 2) (vs := [2]) (e := eIx (.ev (eIx (.sl 0) (.ev (eC (.int 1))))) (.sl 2)) (ρ := [.val (encBook b B), .val (encS b1 st), .un]) (U := U) nat (fun h => nat (B.hues[h]?.getD 0)) st.2 rfl (fun h hh => by
    have h2 := hs.h h hh
    exact ⟨[.val (encBook b B), .val (encS b1 st), .val (nat h)], by simp [unAll], by simp [encBook, h2]⟩) (by rw [hs.len]; omega) (by simp)
  have hS : encS b1 st = sq b1 [nat st.1, nats b1 st.2] := rfl
  unfold m_text_of b_text_of
  rw [hS] at hlc ⊢
  simp [-List.map_map, mkFn_ap, hlc]
def texts (M : Nat) (cs : List (Nat × Nat)) : List Nat := cs.foldl (fun t c => t.set c.1 c.2) (List.replicate M 0)
def txt (M : Nat) (cs : List (Nat × Nat)) (i : Nat) : List Nat := texts M (cs.take i)
theorem txt_succ {M : Nat} {cs : List (Nat × Nat)} {j : Nat} {c : Nat × Nat} (h : cs[j]? = some c) : txt M cs (j + 1) = (txt M cs j).set c.1 c.2 := by
  unfold txt texts
  rw [List.take_add_one, h]
  simp
theorem txt_len {M : Nat} {cs : List (Nat × Nat)} : ∀ i, (txt M cs i).length = M := by
  have : ∀ (l : List (Nat × Nat)) (t : List Nat), (l.foldl (fun t c => t.set c.1 c.2) t).length = t.length := fun l => by
    induction l with
    | nil => intro t; rfl
    | cons c l ih => intro t; rw [List.foldl_cons, ih, List.length_set]
  intro i
  unfold txt texts
  rw [this, List.length_replicate]
theorem putIx_n {xs : List D} {k : Nat} (h : k < xs.length) (v : D) : putIx (.lst xs) (nat k) v = some (.lst (xs.set k v)) := putIx_nat h v
theorem mulL_one (x : D) (m : Nat) (h : m ≤ 1000) : mulL (.lst [x]) (nat m) = some (.lst (List.replicate m x)) := (((orD_none rfl).trans (orD_none rfl)).symm).trans (mulA_one x m h)
theorem text_behind_ok {L M : Nat} {cs : List (Nat × Nat)} (hM : M ≤ 1000) (hc : ∀ c ∈ cs, COk L M c) (b : Bool) (U : Urn) : m_text_behind [encH b M cs] U = .ok (.tup ((txt M cs cs.length).map nat)) U := by
  obtain ⟨ρ', U', e, r4, r5, rfl, rfl⟩ := for_inv (tg := .tp [4, 5]) (b := sIx 3 (eVar 4) (eVar 5)) (ds := cs.map (encC b)) (encC b)
    (fun j ρ V => ∃ r4 r5, ρ = [.val (encH b M cs), .val (nat M), .val (sq b (cs.map (encC b))), .own (.lst ((txt M cs j).map nat)), r4, r5] ∧ V = U) cs rfl
    (ρ := [.val (encH b M cs), .val (nat M), .val (sq b (cs.map (encC b))), .own (.lst (List.replicate M (.int 0))), .un, .un]) (U := U) ⟨.un, .un, by simp [txt, texts, nat], rfl⟩ (fun j c ρ V hj ⟨r4, r5, e, eU⟩ => by
      subst e; subst eU
      have hp := (hc c (List.mem_of_getElem? hj)).p
      have hx := putIx_n (xs := (txt M cs j).map nat) (k := c.1) (by rw [List.length_map, txt_len]; exact hp) (nat c.2)
      refine ⟨[.val (encH b M cs), .val (nat M), .val (sq b (cs.map (encC b))), .own (.lst ((txt M cs j).map nat)), .val (nat c.1), .val (nat c.2)], [.val (encH b M cs), .val (nat M), .val (sq b (cs.map (encC b))), .own (.lst ((txt M cs (j + 1)).map nat)), .val (nat c.1), .val (nat c.2)], V, by simp [encC], ?_, _, _, rfl, rfl⟩
      rw [txt_succ hj, List.map_set]
      simp [hx])
  have hm := mulL_one (.int 0) M hM
  have hH : encH b M cs = sq b [nat M, sq b (cs.map (encC b))] := rfl
  unfold m_text_behind b_text_behind
  rw [hH] at e ⊢
  simp [-List.map_map, mkFn_ap, hm, e]
theorem l_text_ok {L M : Nat} {cs : List (Nat × Nat)} (hM : M ≤ 1000) (hc : ∀ c ∈ cs, COk L M c) (U : Urn) : m_l_text [nat M, .tup (cs.map (encC false))] U = .ok (.tup ((txt M cs cs.length).map nat)) U := by
  obtain ⟨ρ', U', e, r4, r5, rfl, rfl⟩ := for_inv (tg := .tp [3, 4]) (b := sIx 2 (eVar 3) (eVar 4)) (ds := cs.map (encC false)) (encC false)
    (fun j ρ V => ∃ r4 r5, ρ = [.val (nat M), .val (.tup (cs.map (encC false))), .own (.lst ((txt M cs j).map nat)), r4, r5] ∧ V = U) cs rfl
    (ρ := [.val (nat M), .val (.tup (cs.map (encC false))), .own (.lst (List.replicate M (.int 0))), .un, .un]) (U := U) ⟨.un, .un, by simp [txt, texts, nat], rfl⟩ (fun j c ρ V hj ⟨r4, r5, e, eU⟩ => by
      subst e; subst eU
      have hp := (hc c (List.mem_of_getElem? hj)).p
      have hx := putIx_n (xs := (txt M cs j).map nat) (k := c.1) (by rw [List.length_map, txt_len]; exact hp) (nat c.2)
      refine ⟨[.val (nat M), .val (.tup (cs.map (encC false))), .own (.lst ((txt M cs j).map nat)), .val (nat c.1), .val (nat c.2)], [.val (nat M), .val (.tup (cs.map (encC false))), .own (.lst ((txt M cs (j + 1)).map nat)), .val (nat c.1), .val (nat c.2)], V, by simp [encC], ?_, _, _, rfl, rfl⟩
      rw [txt_succ hj, List.map_set]
      simp [hx])
  have hm := mulL_one (.int 0) M hM
  unfold m_l_text b_l_text
  simp [-List.map_map, mkFn_ap, hm, e]
theorem hues_for_ok {B : Book} {L : Nat} (hB : B.Ok L) {k : Nat} (hk : k ≤ L) (b : Bool) (U : Urn) : m_hues_for [encBook b B, nat k] U = .ok (.tup ((idx B.hues k).map nat)) U := by
  have hc := idx_lc (k := 2) (o := 3) (hues := B.hues) (x := k) (ρ := [.val (encBook b B), .val (nat k), .un, .un]) (U := U) (c := tOf (eBin eqD (.sl 3) (.sl 1))) (by simp) (by simp) (by decide) (by have := hB.h2; omega) (fun y ρ' h1 h2 h3 => by
        have h4 := h3 1 (by decide) (by decide)
        simp [h2, h4])
  have hl := letters_of_ok hB b U
  have hnk : ¬ L < k := by omega
  have hx : eIx (.sl 0) (.ev (eC (.int 1))) [.val (encBook b B), .val (nat k), .un, .un] U = .ok (nats b B.hues) [.val (encBook b B), .val (nat k), .un, .un] U := by simp [encBook]
  have hx : iEn (eIx (.sl 0) (.ev (eC (.int 1)))) [.val (encBook b B), .val (nat k), .un, .un] U = .ok (enD 0 (B.hues.map nat)) [.val (encBook b B), .val (nat k), .un, .un] U := by rw [iEn_ap, hx]; simp
  have hx : oLc (iEn (eIx (.sl 0) (.ev (eC (.int 1))))) (.tp [2, 3]) [2, 3] (tOf (eBin eqD (.sl 3) (.sl 1))) (eVar 2) [.val (encBook b B), .val (nat k), .un, .un] U = .ok (.lst ((idx B.hues k).map nat)) [.val (encBook b B), .val (nat k), .un, .un] U := by rw [oLc_ap, hx, R.bind_ok, hc]
  unfold m_hues_for b_hues_for
  simp only [mkFn_ap, List.map_cons, List.map_nil, List.length_cons, List.length_nil, sSeq_ap, sRet_ap, sIf_ap]
  rw [show ([Sl.val (encBook b B), Sl.val (nat k)] ++ List.replicate (4 - (0 + 1 + 1)) Sl.un : Rho) = [.val (encBook b B), .val (nat k), .un, .un] from rfl]
  have ht : tOf (eBin gtI (.sl 1) (.ev (eCall m_letters_of [(eVar 0)]))) [.val (encBook b B), .val (nat k), .un, .un] U = .ok false [.val (encBook b B), .val (nat k), .un, .un] U := by simp [hl, hnk]
  rw [ht, R.bind_ok, KIf_ap, if_neg Bool.false_ne_true, sNx_ap, R.bind_ok, KSeq_nx, sRet_ap, eB1_ev, hx]
  simp
end K11

set_option maxRecDepth 100000
set_option maxHeartbeats 4000000
namespace K11
open PySem PySem.Spec PyProof.Rows L2 VL
theorem all_lc {k : Nat} {e : M D} {xs : List D} {ρ : Rho} {U : Urn} (hk : k < ρ.length) (hl : xs.length ≤ 16777216) (h : ∀ x ∈ xs, e ((unAll [k] ρ).set k (.val x)) U = .ok (.bl true) ((unAll [k] ρ).set k (.val x)) U) :
    lcV (.nm k) [k] tYesM e xs ρ U = .ok (.lst (xs.map fun _ => D.bl true)) ρ U :=
  lcV_map (fun x => x) (fun _ => D.bl true) xs (List.map_id' xs).symm (fun x hx => ⟨_, by rw [tgM_nm, if_pos (by rw [unAll_len]; exact hk)], h x hx⟩) hl (by simp [hk]) (by simp [tgIx]) (by simp)
@[simp] theorem allD_true {α : Type} (xs : List α) : allD (.lst (xs.map fun _ => D.bl true)) = some (.bl true) := by
  have := allD_map (fun _ : α => true) xs
  simpa using this
/-! equality with the empty tuple -/
theorem pd_pl : ∀ (n : Nat) {d : D}, PlD n d → ∃ p, D.pd d = some p ∧ p.canLay0 = true ∧ p.depth ≤ n := by
  have leaf : ∀ (n : Nat) {d : D}, Leaf d → ∃ p, D.pd d = some p ∧ p.canLay0 = true ∧ p.depth ≤ n := fun n d h => by
    cases d with
    | int i => exact ⟨_, rfl, rfl, Nat.zero_le _⟩
    | bl i => exact ⟨_, rfl, rfl, Nat.zero_le _⟩
    | non => exact ⟨_, rfl, rfl, Nat.zero_le _⟩
    | _ => exact h.elim
  intro n
  induction n with
  | zero => exact fun h => leaf 0 h
  | succ n ih =>
    intro d h
    rcases h with h | ⟨b, xs, rfl, hx, hl⟩
    · exact leaf _ h
    · have hall : ∀ xs : List D, (∀ x ∈ xs, PlD n x) → ∃ ps, pdAll xs = some ps ∧ PyData.canLayAll0 ps = true ∧ PyData.depthAll ps ≤ n := fun xs => by
        induction xs with
        | nil => exact fun _ => ⟨[], rfl, rfl, Nat.zero_le _⟩
        | cons x xs ihx =>
          intro h
          obtain ⟨p, h1, h2, h3⟩ := ih (h x List.mem_cons_self)
          obtain ⟨ps, g1, g2, g3⟩ := ihx fun y hy => h y (List.mem_cons_of_mem _ hy)
          refine ⟨p :: ps, by simp only [pdAll, h1, g1], ?_, ?_⟩
          · show (p.canLay0 && PyData.canLayAll0 ps) = true
            rw [h2, g2]; rfl
          · show max p.depth (PyData.depthAll ps) ≤ n
            omega
      obtain ⟨ps, h1, h2, h3⟩ := hall xs hx
      cases b with
      | true => exact ⟨.list ps, by show (pdAll xs).map _ = _; rw [h1]; rfl, h2, by show PyData.depthAll ps + 1 ≤ _; omega⟩
      | false => exact ⟨.tuple ps, by show (pdAll xs).map _ = _; rw [h1]; rfl, h2, by show PyData.depthAll ps + 1 ≤ _; omega⟩
theorem eqP_emp {x : D} {xs : List D} {n : Nat} (h : PlD n (.tup (x :: xs))) (hn : n ≤ 60) : eqP (.tup (x :: xs)) (.tup []) = some false := by
  obtain ⟨p, h1, h2, h3⟩ := pd_pl n h
  have hs : SeqAt.shaped p = true := by
    unfold SeqAt.shaped
    rw [h2]
    simp
    omega
  have h4 := h1
  simp only [D.pd] at h4
  cases q : pdAll (x :: xs) with
  | none => rw [q] at h4; cases h4
  | some ps =>
    rw [q] at h4
    cases h4
    have hps : ps ≠ [] := by
      intro e
      subst e
      simp only [pdAll] at q
      split at q <;> cases q
    unfold eqP
    rw [h1]
    have e2 : D.pd (.tup []) = some (.tuple []) := rfl
    rw [e2]
    show (if (SeqAt.shaped (.tuple ps) && SeqAt.shaped (.tuple [])) = true then some (PyData.eqv (.tuple ps) (.tuple [])) else none) = _
    rw [if_pos (by rw [hs]; rfl)]
    cases ps with
    | nil => exact absurd rfl hps
    | cons a b => rfl
theorem eqD_emp {xs : List D} {n : Nat} (h0 : xs ≠ []) (h : PlD n (.tup xs)) (hn : n ≤ 60) : eqD (.tup xs) (.tup []) = some (.bl false) := by
  cases xs with
  | nil => exact absurd rfl h0
  | cons x xs => unfold eqD; rw [eqP_emp h hn]; rfl
theorem neD_emp {xs : List D} {n : Nat} (h0 : xs ≠ []) (h : PlD n (.tup xs)) (hn : n ≤ 60) : neD (.tup xs) (.tup []) = some (.bl true) := by
  cases xs with
  | nil => exact absurd rfl h0
  | cons x xs => unfold neD; rw [eqP_emp h hn]; rfl
theorem pl_nat (n k : Nat) : PlD n (nat k) := PlD.int n k
theorem pl_nats {b : Bool} {l : List Nat} (n : Nat) (h : l.length ≤ 16777216) : PlD (n + 1) (nats b l) := by
  unfold nats
  exact PlD.sq (fun x hx => by obtain ⟨y, _, rfl⟩ := List.mem_map.mp hx; exact pl_nat n y) (by simpa using h)
/-! ### the judges -/
@[simp] theorem isi_i_n (k : Nat) : isiD [.int] (nat k) = some (.bl true) := id rfl
@[simp] theorem isi_b_n (k : Nat) : isiD [.bool] (nat k) = some (.bl false) := id rfl
@[simp] theorem is_below_ok (k n : Nat) (U : Urn) : m_is_below [nat k, nat n] U = .ok (.bl (decide (k < n))) U := by
  have h : m_is_number [nat k] U = .ok (.bl true) U := by
    unfold m_is_number b_is_number
    simp [mkFn_ap]
  unfold m_is_below b_is_below
  simp [mkFn_ap, h]
@[simp] theorem is_tuple_of_ok (xs : List D) (n : Nat) (U : Urn) : m_is_tuple_of [.tup xs, nat n] U = .ok (.bl (decide (xs.length = n))) U := by
  have h : eqD (.int (xs.length : Int)) (nat n) = some (.bl (decide (xs.length = n))) := by
    show eqD (nat xs.length) (nat n) = _
    rw [eqD_nat]
    congr 2
  unfold m_is_tuple_of b_is_tuple_of
  simp [mkFn_ap, h]
@[simp] theorem is_tuple_2 (xs : List D) (U : Urn) : m_is_tuple_of [.tup xs, .int 2] U = .ok (.bl (decide (xs.length = 2))) U := is_tuple_of_ok xs 2 U
@[simp] theorem is_tuple_4 (xs : List D) (U : Urn) : m_is_tuple_of [.tup xs, .int 4] U = .ok (.bl (decide (xs.length = 4))) U := is_tuple_of_ok xs 4 U
theorem nats_f (l : List Nat) : nats false l = .tup (l.map nat) := id rfl
theorem is_map_ok {hues l : List Nat} (h : IsMap hues l) (hl : hues.length ≤ 1000) (U : Urn) : m_is_map [nats false hues, nats false l] U = .ok (.bl true) U := by
  have hl2 := h.1
  have h1 := all_lc (k := 2) (e := eCall m_is_below [(eVar 2), (eB1 lenA (.sl 0))]) (xs := l.map nat) (ρ := [.val (nats false hues), .val (nats false l), .un, .un]) (U := U) (by simp) (by rw [List.length_map]; omega) (fun x hx => by
    obtain ⟨y, hy, rfl⟩ := List.mem_map.mp hx
    obtain ⟨i, hi⟩ := List.mem_iff_getElem?.mp hy
    have := map_lt h hi
    simp [unAll, this])
  have hz : zipP [nats false l, nats false hues] = some ((l.zip hues).map fun p => D.tup [nat p.1, nat p.2]) := by
    show some (zpD (l.map nat) (hues.map nat)) = _
    rw [zpD_map]
  have h2 := lcV_map (tg := .tp [2, 3]) (vs := [2, 3]) (e := eBin eqD (.ev (eIx (.sl 0) (.sl 2))) (.sl 3)) (ρ := [.val (nats false hues), .val (nats false l), .un, .un]) (U := U) (fun p : Nat × Nat => D.tup [nat p.1, nat p.2]) (fun _ => D.bl true) (l.zip hues) rfl (fun p hp => by
    obtain ⟨i, hi⟩ := List.mem_iff_getElem?.mp hp
    rw [List.getElem?_zip_eq_some] at hi
    obtain ⟨y, h3, h4⟩ := h.2 i p.2 hi.2
    rw [hi.1] at h3
    cases h3
    exact ⟨[.val (nats false hues), .val (nats false l), .val (nat p.1), .val (nat p.2)], by simp [unAll], by simp [h4]⟩) (by rw [List.length_zip]; omega) (by simp)
  have ht : m_is_tuple_of [nats false l, nat hues.length] U = .ok (.bl true) U := by
    rw [nats_f, is_tuple_of_ok, List.length_map, hl2]
    simp
  unfold m_is_map b_is_map
  simp [-List.map_map, -List.map_const, mkFn_ap, ht, h1, hz, h2]
theorem is_row_ok {F k : Nat} {hues : List Nat} {r : Row} (h : r.Ok F hues k) (hl : hues.length ≤ 1000) (U : Urn) : m_is_row [nat F, nats false hues, nat k, encRow false r] U = .ok (.bl true) U := by
  have h1 := is_map_ok h.l hl U
  have h2 := is_map_ok h.r hl U
  have h3 := h.f
  have h4 := h.h
  have h5 := (List.getElem?_eq_some_iff.mp h.h).1
  unfold m_is_row b_is_row
  simp [mkFn_ap, encRow, h1, h2, h3, h4, h5]
  exact (List.getElem?_eq_some_iff.mp h.h).2
theorem is_stand_ok {B : Book} {M : Nat} {st : Nat × List Nat} (hs : SOk B M st) (h0 : 1 ≤ M) (hM : M ≤ 1000) (U : Urn) : m_is_stand [encBook false B, encS false st] U = .ok (.bl true) U := by
  have hl := hs.len
  have h1 := all_lc (k := 2) (e := eCall m_is_below [(eVar 2), (eB1 lenA (.ev (eIx (.sl 0) (.ev (eC (.int 1))))))]) (xs := st.2.map nat) (ρ := [.val (encBook false B), .val (encS false st), .un]) (U := U) (by simp) (by rw [List.length_map]; omega) (fun x hx => by
    obtain ⟨y, hy, rfl⟩ := List.mem_map.mp hx
    have := hs.h y hy
    simp [unAll, encBook, this])
  have hne : st.2.map nat ≠ [] := fun e => by
    have := congrArg List.length e
    simp at this
    rw [this] at hl
    simp at hl
    omega
  have he := eqD_emp (n := 1) hne (pl_nats (b := false) 0 (by omega)) (by omega)
  have hf := hs.f
  have hS : encS false st = .tup [nat st.1, .tup (st.2.map nat)] := rfl
  have hk : encBook false B = .tup [.tup (B.ans.map D.bl), nats false B.hues, .tup [nat B.bf, nat B.bh], .tup (B.rows.map fun ls => .tup (ls.map fun l => .tup (l.map (encRow false))))] := rfl
  have hbl : m_is_below [nat st.1, .int (B.ans.length : Int)] U = .ok (.bl true) U := by
    have h := is_below_ok st.1 B.ans.length U
    rw [decide_eq_true hf] at h
    exact h
  unfold m_is_stand b_is_stand
  rw [hS, hk] at h1 ⊢
  simp [-List.map_map, -List.map_const, mkFn_ap, h1, he, hf, hbl]
end K11

set_option maxRecDepth 100000
set_option maxHeartbeats 4000000
namespace K11
open PySem PySem.Spec PyProof.Rows L2 VL
theorem enL_f (l : List Row) : enL l = .tup (l.map (encRow false)) := id rfl
theorem enLs_f (ls : List (List Row)) : enLs ls = .tup (ls.map enL) := id rfl
theorem book_f (B : Book) : encBook false B = .tup [.tup (B.ans.map D.bl), nats false B.hues, .tup [nat B.bf, nat B.bh], .tup (B.rows.map enLs)] := id rfl
theorem pl_row (n : Nat) {r : Row} (h1 : r.l.length ≤ 1000) (h2 : r.r.length ≤ 1000) (b : Bool) : PlD (n + 2) (encRow b r) := by
  unfold encRow
  refine PlD.sq (fun x hx => ?_) (by simp)
  simp only [List.mem_cons, List.not_mem_nil, or_false] at hx
  rcases hx with e | e | e | e <;> rw [e]
  · exact pl_nat _ _
  · exact pl_nat _ _
  · exact pl_nats _ (by omega)
  · exact pl_nats _ (by omega)
theorem pl_book {B : Book} {L : Nat} (hB : B.Ok L) (b : Bool) : PlD 6 (encBook b B) := by
  have hh := hB.h2
  have ha := hB.a2
  have hr := hB.rows
  have h2 := hB.l2
  unfold encBook
  refine PlD.sq (fun x hx => ?_) (by simp)
  simp only [List.mem_cons, List.not_mem_nil, or_false] at hx
  rcases hx with e | e | e | e <;> rw [e]
  · refine PlD.sq (fun y hy => ?_) (by simp; omega)
    obtain ⟨z, _, rfl⟩ := List.mem_map.mp hy
    exact PlD.bl _ _
  · exact pl_nats _ (by omega)
  · refine PlD.sq (fun y hy => ?_) (by simp)
    simp only [List.mem_cons, List.not_mem_nil, or_false] at hy
    rcases hy with e | e <;> rw [e] <;> exact pl_nat _ _
  · refine PlD.sq (fun y hy => ?_) (by simp; omega)
    obtain ⟨ls, h3, rfl⟩ := List.mem_map.mp hy
    refine PlD.sq (fun y hy => ?_) (by simp; rw [hB.lines ls h3]; omega)
    obtain ⟨l, h4, rfl⟩ := List.mem_map.mp hy
    refine PlD.sq (fun y hy => ?_) (by simp; rw [hB.line ls h3 l h4]; omega)
    obtain ⟨r, h5, rfl⟩ := List.mem_map.mp hy
    obtain ⟨k, h6⟩ := List.mem_iff_getElem?.mp h5
    have ok := hB.row ls h3 l h4 k r h6
    exact pl_row 0 (by rw [ok.l.1]; omega) (by rw [ok.r.1]; omega) b
theorem letters_told_ok {B : Book} {L : Nat} (hB : B.Ok L) (U : Urn) : m_letters_told [.tup (B.rows.map enLs)] U = .ok (nat L) U := by
  have h1 : 0 < B.rows.length := by rw [hB.rows]; exact hB.a1
  have hm1 := List.getElem_mem h1
  have h2 : 0 < B.rows[0].length := by
    rw [hB.lines _ hm1]
    have := (List.getElem?_eq_some_iff.mp hB.bh).1
    omega
  have hm2 := List.getElem_mem h2
  have h3 := hB.line _ hm1 _ hm2
  have hs : subI (.int ((L : Int) + 1)) (.int 1) = some (nat L) := by
    show some (D.int ((L : Int) + 1 - 1)) = _
    rw [Int.add_sub_cancel]; rfl
  have g1 : B.rows[0]? = some B.rows[0] := List.getElem?_eq_getElem h1
  have g2 : B.rows[0][0]? = some B.rows[0][0] := List.getElem?_eq_getElem h2
  have hpl : PlD 5 (.tup (B.rows.map enLs)) := by
    have := pl_book hB false
    rw [book_f] at this
    rcases this with h | ⟨b, xs, e, h, _⟩
    · exact h.elim
    · cases b with
      | true => cases e
      | false => cases e; exact h _ (by simp)
  have hpl2 : PlD 4 (enLs B.rows[0]) := by
    rcases hpl with h | ⟨b, xs, e, h, _⟩
    · exact h.elim
    · cases b with
      | true => cases e
      | false => cases e; exact h _ (List.mem_map.mpr ⟨_, hm1, rfl⟩)
  have e1 := eqD_emp (n := 5) (fun e => by have := congrArg List.length e; simp at this; rw [this] at h1; simp at h1) hpl (by omega)
  have e2 := eqD_emp (n := 4) (xs := B.rows[0].map enL) (fun e => by have := congrArg List.length e; simp at this; rw [this] at h2; simp at h2) hpl2 (by omega)
  unfold m_letters_told b_letters_told
  simp [-List.map_map, mkFn_ap, e1, g1, g2, h3, hs, enLs_f, e2, enL_f]
theorem is_of_tuples_ok (xs : List (List D)) (n : Nat) (h : xs.length = n) (hl : xs.length ≤ 1000) (U : Urn) : m_is_of_tuples [.tup (xs.map D.tup), nat n] U = .ok (.bl true) U := by
  have h1 := all_lc (k := 2) (e := eB1 (isiD [.tuple]) (.sl 2)) (xs := xs.map D.tup) (ρ := [.val (.tup (xs.map D.tup)), .val (nat n), .un]) (U := U) (by simp) (by rw [List.length_map]; omega) (fun x hx => by
    obtain ⟨y, hy, rfl⟩ := List.mem_map.mp hx
    simp [unAll])
  unfold m_is_of_tuples b_is_of_tuples
  simp [-List.map_map, -List.map_const, mkFn_ap, h1, h]
end K11

set_option maxRecDepth 100000
set_option maxHeartbeats 4000000
namespace K11
open PySem PySem.Spec PyProof.Rows L2 VL
theorem pl_sub {n : Nat} {xs : List D} (h : PlD (n + 1) (.tup xs)) : ∀ x ∈ xs, PlD n x := by
  rcases h with h | ⟨b, ys, e, h, _⟩
  · exact h.elim
  · cases b with
    | true => cases e
    | false => cases e; exact h
theorem is_book_ok {B : Book} {L : Nat} (hB : B.Ok L) (U : Urn) : m_is_book [encBook false B] U = .ok (.bl true) U := by
  have hh := hB.h2
  have ha1 := hB.a1
  have ha := hB.a2
  have hr := hB.rows
  have h2 := hB.l2
  have hH : 1 ≤ B.hues.length := by
    have := (List.getElem?_eq_some_iff.mp hB.bh).1
    omega
  have hpl := pl_book hB false
  rw [book_f] at hpl
  have hsub := pl_sub hpl
  have n1 := neD_emp (n := 5) (xs := B.ans.map D.bl) (fun e => by have := congrArg List.length e; simp at this; rw [this] at ha1; simp at ha1) (hsub _ (by simp)) (by omega)
  have n2 := neD_emp (n := 5) (xs := B.hues.map nat) (fun e => by have := congrArg List.length e; simp at this; rw [this] at hH; simp at hH) (hsub _ (by simp [nats_f])) (by omega)
  have n3 := neD_emp (n := 5) (xs := [nat B.bf, nat B.bh]) (by simp) (hsub _ (by simp)) (by omega)
  have n4 := neD_emp (n := 5) (xs := B.rows.map enLs) (fun e => by have := congrArg List.length e; simp at this; rw [this] at hr; simp at hr; omega) (hsub _ (by simp)) (by omega)
  have c1 := all_lc (k := 8) (e := eAnd (eB1 (isiD [.tuple]) (.sl 8)) (eBin neD (.sl 8) (.ev (eTup [])))) (xs := [.tup (B.ans.map D.bl), .tup (B.hues.map nat), .tup [nat B.bf, nat B.bh], .tup (B.rows.map enLs)]) (ρ := [.val (encBook false B), .un, .un, .un, .un, .un, .un, .un, .un, .un, .un]) (U := U) (by simp) (by simp) (fun x hx => by
    simp only [List.mem_cons, List.not_mem_nil, or_false] at hx
    rcases hx with e | e | e | e <;> rw [e] <;> simp [unAll, n1, n2, n3, n4])
  have hlt := letters_told_ok hB U
  obtain ⟨S, hS⟩ : ∃ S : Rho, S = [.val (encBook false B), .val (.tup (B.ans.map D.bl)), .val (.tup (B.hues.map nat)), .val (.tup [nat B.bf, nat B.bh]), .val (.tup (B.rows.map enLs)), .val (nat L), .un, .un, .un, .un, .un] := ⟨_, rfl⟩
  have c2 := all_lc (k := 8) (e := eB1 (isiD [.bool]) (.sl 8)) (xs := B.ans.map D.bl) (ρ := S) (U := U) (by simp [hS]) (by simp; omega) (fun x hx => by
    obtain ⟨y, hy, rfl⟩ := List.mem_map.mp hx
    simp [hS, unAll])
  have c3 := all_lc (k := 8) (e := eCall m_is_below [(eVar 8), (eBin addA (.sl 5) (.ev (eC (.int 1))))]) (xs := B.hues.map nat) (ρ := S) (U := U) (by simp [hS]) (by simp; omega) (fun x hx => by
    obtain ⟨y, hy, rfl⟩ := List.mem_map.mp hx
    have := hB.hl y hy
    have : y < L + 1 := by omega
    simp [hS, unAll, this])
  have c4 := all_lc (k := 8) (e := eCall m_is_of_tuples [(eVar 8), (eB1 lenA (.sl 2))]) (xs := B.rows.map enLs) (ρ := S) (U := U) (by simp [hS]) (by simp; omega) (fun x hx => by
    obtain ⟨ls, hls, rfl⟩ := List.mem_map.mp hx
    have e := is_of_tuples_ok (ls.map fun l => l.map (encRow false)) B.hues.length (by rw [List.length_map]; exact hB.lines ls hls) (by rw [List.length_map, hB.lines ls hls]; omega) U
    rw [List.map_map] at e
    have e : m_is_of_tuples [enLs ls, .int (B.hues.length : Int)] U = .ok (.bl true) U := e
    simp [hS, unAll, e])
  have c0 : m_is_of_tuples [.tup (B.rows.map enLs), .int (B.ans.length : Int)] U = .ok (.bl true) U := by
    have e := is_of_tuples_ok (B.rows.map fun ls => ls.map enL) B.ans.length (by rw [List.length_map]; exact hr) (by rw [List.length_map, hr]; omega) U
    rw [List.map_map] at e
    exact e
  -- the loops
  have inner : ∀ ls ∈ B.rows, ∀ r6 r7 : Sl, ∃ r7', forL (.nm 7) (sSeq (sIf (tOf (eBin neD (.ev (eB1 lenA (.sl 7))) (.ev (eBin addA (.sl 5) (.ev (eC (.int 1))))))) (sRet (eC (.bl false))) sNx)
  (sIf (tNotM (tOf (eB1 allD (.ev (oLc (iEn (eVar 7)) (.tp [9, 10]) [9, 10] tYesM (eCall m_is_row [(eB1 lenA (.sl 1)), (eVar 2), (eVar 9), (eVar 10)])))))) (sRet (eC (.bl false))) sNx)) (ls.map enL) [.val (encBook false B), .val (.tup (B.ans.map D.bl)), .val (.tup (B.hues.map nat)), .val (.tup [nat B.bf, nat B.bh]), .val (.tup (B.rows.map enLs)), .val (nat L), r6, r7, .un, .un, .un] U =
      .ok .nx [.val (encBook false B), .val (.tup (B.ans.map D.bl)), .val (.tup (B.hues.map nat)), .val (.tup [nat B.bf, nat B.bh]), .val (.tup (B.rows.map enLs)), .val (nat L), r6, r7', .un, .un, .un] U := fun ls hls r6 r7 => by
    obtain ⟨ρ', U', e, r7', rfl, rfl⟩ := for_inv (tg := .nm 7) (b := sSeq (sIf (tOf (eBin neD (.ev (eB1 lenA (.sl 7))) (.ev (eBin addA (.sl 5) (.ev (eC (.int 1))))))) (sRet (eC (.bl false))) sNx)
  (sIf (tNotM (tOf (eB1 allD (.ev (oLc (iEn (eVar 7)) (.tp [9, 10]) [9, 10] tYesM (eCall m_is_row [(eB1 lenA (.sl 1)), (eVar 2), (eVar 9), (eVar 10)])))))) (sRet (eC (.bl false))) sNx)) (ds := ls.map enL) enL
      (fun j ρ V => ∃ r7', ρ = [.val (encBook false B), .val (.tup (B.ans.map D.bl)), .val (.tup (B.hues.map nat)), .val (.tup [nat B.bf, nat B.bh]), .val (.tup (B.rows.map enLs)), .val (nat L), r6, r7', .un, .un, .un] ∧ V = U) ls rfl
      (ρ := [.val (encBook false B), .val (.tup (B.ans.map D.bl)), .val (.tup (B.hues.map nat)), .val (.tup [nat B.bf, nat B.bh]), .val (.tup (B.rows.map enLs)), .val (nat L), r6, r7, .un, .un, .un]) (U := U) ⟨r7, rfl, rfl⟩ (fun j l ρ V hj ⟨r7', e, eU⟩ => by
        subst e; subst eU
        have hl := List.mem_of_getElem? hj
        have hlen := hB.line ls hls l hl
        have hne : neD (.int (l.length : Int)) (nat (L + 1)) = some (.bl false) := by
          rw [hlen]
          show neD (.int ((L + 1 : Nat) : Int)) (.int ((L + 1 : Nat) : Int)) = _
          rw [neD_int]; simp
        have hrow := lcV_map (tg := .tp [9, 10]) (vs := [9, 10]) (e := eCall m_is_row [(eB1 lenA (.sl 1)), (eVar 2), (eVar 9), (eVar 10)]) (ds := enD 0 (l.map (encRow false))) (ρ := [.val (encBook false B), .val (.tup (B.ans.map D.bl)), .val (.tup (B.hues.map nat)), .val (.tup [nat B.bf, nat B.bh]), .val (.tup (B.rows.map enLs)), .val (nat L), r6, .val (.tup (l.map (encRow false))), .un, .un, .un]) (U := V) (fun p : Row × Nat => D.tup [nat p.2, encRow false p.1]) (fun _ => D.bl true) (l.zipIdx 0) (enD_map (encRow false) l 0) (fun p hp => by
          obtain ⟨r, i⟩ := p
          have hri : l[i]? = some r := by
            obtain ⟨k, hk⟩ := List.mem_iff_getElem?.mp hp
            rw [List.getElem?_zipIdx] at hk
            cases q : l[k]? with
            | none => rw [q] at hk; cases hk
            | some w => rw [q] at hk; cases hk; simpa using q
          have e := is_row_ok (hB.row ls hls l hl i r hri) (by omega) V
          rw [nats_f] at e
          have e : m_is_row [.int (B.ans.length : Int), .tup (B.hues.map nat), nat i, encRow false r] V = _ := e
          refine ⟨[.val (encBook false B), .val (.tup (B.ans.map D.bl)), .val (.tup (B.hues.map nat)), .val (.tup [nat B.bf, nat B.bh]), .val (.tup (B.rows.map enLs)), .val (nat L), r6, .val (.tup (l.map (encRow false))), .un, .val (nat i), .val (encRow false r)], by simp [unAll], ?_⟩
          simp [e]) (by simp; omega) (by simp)
        refine ⟨[.val (encBook false B), .val (.tup (B.ans.map D.bl)), .val (.tup (B.hues.map nat)), .val (.tup [nat B.bf, nat B.bh]), .val (.tup (B.rows.map enLs)), .val (nat L), r6, .val (enL l), .un, .un, .un], [.val (encBook false B), .val (.tup (B.ans.map D.bl)), .val (.tup (B.hues.map nat)), .val (.tup [nat B.bf, nat B.bh]), .val (.tup (B.rows.map enLs)), .val (nat L), r6, .val (enL l), .un, .un, .un], V, by simp, ?_, _, rfl, rfl⟩
        rw [enL_f]
        simp [-List.map_map, -List.map_const, hne, hrow])
    exact ⟨r7', e⟩
  obtain ⟨ρ', U', e, r6, r7, rfl, rfl⟩ := for_inv (tg := .nm 6) (b := sFor (iSeq (eVar 6)) (.nm 7) (sSeq (sIf (tOf (eBin neD (.ev (eB1 lenA (.sl 7))) (.ev (eBin addA (.sl 5) (.ev (eC (.int 1))))))) (sRet (eC (.bl false))) sNx)
  (sIf (tNotM (tOf (eB1 allD (.ev (oLc (iEn (eVar 7)) (.tp [9, 10]) [9, 10] tYesM (eCall m_is_row [(eB1 lenA (.sl 1)), (eVar 2), (eVar 9), (eVar 10)])))))) (sRet (eC (.bl false))) sNx))) (ds := B.rows.map enLs) enLs
    (fun j ρ V => ∃ r6 r7, ρ = [.val (encBook false B), .val (.tup (B.ans.map D.bl)), .val (.tup (B.hues.map nat)), .val (.tup [nat B.bf, nat B.bh]), .val (.tup (B.rows.map enLs)), .val (nat L), r6, r7, .un, .un, .un] ∧ V = U) B.rows rfl
    (ρ := [.val (encBook false B), .val (.tup (B.ans.map D.bl)), .val (.tup (B.hues.map nat)), .val (.tup [nat B.bf, nat B.bh]), .val (.tup (B.rows.map enLs)), .val (nat L), .un, .un, .un, .un, .un]) (U := U) ⟨.un, .un, rfl, rfl⟩ (fun j ls ρ V hj ⟨r6, r7, e, eU⟩ => by
      subst e; subst eU
      have hls := List.mem_of_getElem? hj
      obtain ⟨r7', e⟩ := inner ls hls (.val (enLs ls)) r7
      refine ⟨[.val (encBook false B), .val (.tup (B.ans.map D.bl)), .val (.tup (B.hues.map nat)), .val (.tup [nat B.bf, nat B.bh]), .val (.tup (B.rows.map enLs)), .val (nat L), .val (enLs ls), r7, .un, .un, .un], [.val (encBook false B), .val (.tup (B.ans.map D.bl)), .val (.tup (B.hues.map nat)), .val (.tup [nat B.bf, nat B.bh]), .val (.tup (B.rows.map enLs)), .val (nat L), .val (enLs ls), r7', .un, .un, .un], V, by simp, ?_, _, _, rfl, rfl⟩
      have hq : seqD (enLs ls) = some (ls.map enL) := rfl
      simp [-List.map_map, hq, e])
  have b1 : m_is_below [nat B.bf, .int (B.ans.length : Int)] U' = .ok (.bl true) U' := by
    have h := is_below_ok B.bf B.ans.length U'
    rw [decide_eq_true hB.bf] at h
    exact h
  have b2 : m_is_below [nat B.bh, .int (B.hues.length : Int)] U' = .ok (.bl true) U' := by
    have h := is_below_ok B.bh B.hues.length U'
    rw [decide_eq_true (List.getElem?_eq_some_iff.mp hB.bh).1] at h
    exact h
  have b3 : neD (nat 0) (.int 0) = some (.bl false) := rfl
  have b4 : isND (nat L) .non = some (.bl false) := rfl
  have b5 : ltI (nat L) (.int 1) = some (.bl false) := by
    show some (D.bl (decide ((L : Int) < 1))) = _
    have := hB.l1
    congr 2
    simp
    omega
  have hbh := hB.bh
  have a4 : allD (.lst [.bl true, .bl true, .bl true, .bl true]) = some (.bl true) := rfl
  rw [hS] at c2 c3 c4
  unfold m_is_book b_is_book
  rw [book_f, nats_f] at c1 c2 c3 c4 e ⊢
  simp [-List.map_map, -List.map_const, mkFn_ap, c1, hlt, c2, c3, c4, c0, e, b1, b2, b3, b4, b5, hbh, a4]
end K11

set_option maxRecDepth 100000
set_option maxHeartbeats 4000000
namespace K11
open PySem PySem.Spec PyProof.Rows L2 VL
/-! the hues tell the text -/
def read (B : Book) (hs : List Nat) : List Nat := hs.map fun h => B.hues[h]?.getD 0
theorem map_keeps {hues l : List Nat} (h : IsMap hues l) {x : Nat} (hx : x < hues.length) : hues[l[x]?.getD 0]?.getD 0 = hues[x]?.getD 0 := by
  obtain ⟨y, h1, h2⟩ := h.2 x _ (List.getElem?_eq_getElem hx)
  rw [h1, List.getElem?_eq_getElem hx]
  show hues[y]?.getD 0 = _
  rw [h2]
theorem read_turn {B : Book} {L M : Nat} {st : Nat × List Nat} {c : Nat × Nat} (hB : B.Ok L) (hM : M ≤ 1000) (hs : SOk B M st) (hc : COk L M c) : read B (turn B st c).2 = (read B st.2).set c.1 c.2 := by
  obtain ⟨r, ha, ok, ht, _⟩ := at_of hB hM hs hc
  have h2 : c.1 < st.2.length := by rw [hs.len]; exact hc.p
  rw [ht]
  unfold read
  apply List.ext_getElem?
  intro j
  rw [List.getElem?_map]
  by_cases hj : j < st.2.length
  · rw [turnL_get h2 (List.getElem?_eq_getElem hj)]
    have hm := hs.h _ (List.getElem_mem hj)
    by_cases e1 : j = c.1
    · subst e1
      rw [if_pos rfl, List.getElem?_set_self (by rw [List.length_map]; exact hj)]
      show some (B.hues[r.h]?.getD 0) = _
      rw [ok.h]; rfl
    · rw [if_neg e1, List.getElem?_set_ne (fun e => e1 e.symm), List.getElem?_map, List.getElem?_eq_getElem hj]
      by_cases e2 : j < c.1
      · rw [if_pos e2]
        show some (B.hues[r.l[st.2[j]]?.getD 0]?.getD 0) = some (B.hues[st.2[j]]?.getD 0)
        rw [map_keeps ok.l hm]
      · rw [if_neg e2]
        show some (B.hues[r.r[st.2[j]]?.getD 0]?.getD 0) = some (B.hues[st.2[j]]?.getD 0)
        rw [map_keeps ok.r hm]
  · have hl : (turnL r c.1 st.2).length = st.2.length := turnL_len h2
    rw [List.getElem?_eq_none (by show (turnL r c.1 st.2).length ≤ j; omega), List.getElem?_eq_none (by rw [List.length_set, List.length_map]; omega)]
    rfl
theorem read_stAt {B : Book} {L M : Nat} {cs : List (Nat × Nat)} (hB : B.Ok L) (hM : M ≤ 1000) (hc : ∀ c ∈ cs, COk L M c) : ∀ i, i ≤ cs.length → read B (stAt B (beg B M) cs i).2 = txt M cs i
  | 0, _ => by
    unfold stAt txt texts read
    rw [List.take_zero]
    show (List.replicate M B.bh).map _ = List.replicate M 0
    rw [List.map_replicate, hB.bh]
    rfl
  | i + 1, h => by
    have hi : i < cs.length := by omega
    have e := List.getElem?_eq_getElem hi
    rw [stAt_succ e, txt_succ e, read_turn hB hM (stAt_ok hB hM (beg_ok hB) hc i) (hc _ (List.getElem_mem hi)), read_stAt hB hM hc i (by omega)]
/-! lists of things -/
theorem lsF_nat (n k : Nat) : lsF n (nat k) = nat k := lsF_int n k
theorem lsF_nats (n : Nat) (b : Bool) (l : List Nat) : lsF (n + 1) (nats b l) = nats true l := by
  unfold nats
  rw [lsF_sq, List.map_map]
  show D.lst _ = D.lst _
  congr 1
  exact List.map_congr_left fun x _ => lsF_nat n x
theorem lsF_row (n : Nat) (r : Row) (b : Bool) : lsF (n + 2) (encRow b r) = encRow true r := by
  unfold encRow
  rw [lsF_sq]
  simp only [List.map_cons, List.map_nil, lsF_nat, lsF_nats, sq_t]
theorem lsF_book (B : Book) (b : Bool) : lsF 11 (encBook b B) = encBook true B := by
  unfold encBook
  rw [lsF_sq]
  simp only [List.map_cons, List.map_nil, lsF_nats, lsF_sq, List.map_map, sq_t, lsF_nat]
  have h1 : (lsF 9 ∘ D.bl) = D.bl := by funext x; exact lsF_bl _ _
  have h2 : (lsF 9 ∘ fun ls : List (List Row) => sq b (ls.map fun l => sq b (l.map (encRow b)))) = fun ls => D.lst (ls.map fun l => D.lst (l.map (encRow true))) := by
    funext ls
    show lsF 9 (sq b _) = _
    rw [lsF_sq, List.map_map]
    congr 1
    refine List.map_congr_left fun l _ => ?_
    show lsF 8 (sq b _) = _
    rw [lsF_sq, List.map_map]
    congr 1
    refine List.map_congr_left fun r _ => ?_
    exact lsF_row 5 r b
  rw [h1, h2]
theorem lsF_c (n : Nat) (b : Bool) (c : Nat × Nat) : lsF (n + 1) (encC b c) = encC true c := by
  unfold encC
  rw [lsF_sq]
  simp only [List.map_cons, List.map_nil, lsF_nat, sq_t]
theorem lsF_s (n : Nat) (b : Bool) (s : Nat × List Nat) : lsF (n + 2) (encS b s) = encS true s := by
  unfold encS
  rw [lsF_sq]
  simp only [List.map_cons, List.map_nil, lsF_nat, lsF_nats, sq_t]
theorem lists_book {B : Book} {L : Nat} (hB : B.Ok L) (U : Urn) : m_l_lists [encBook false B] U = .ok (encBook true B) U := by
  rw [e_lists, S1.m_lists_ok ((pl_book hB false).mono (by omega)), lsF_book]
theorem pl_c (n : Nat) (b : Bool) (c : Nat × Nat) : PlD (n + 1) (encC b c) := by
  unfold encC
  refine PlD.sq (fun x hx => ?_) (by simp)
  simp only [List.mem_cons, List.not_mem_nil, or_false] at hx
  rcases hx with e | e <;> rw [e] <;> exact pl_nat _ _
theorem pl_s (n : Nat) (b : Bool) (s : Nat × List Nat) (h : s.2.length ≤ 1000) : PlD (n + 2) (encS b s) := by
  unfold encS
  refine PlD.sq (fun x hx => ?_) (by simp)
  simp only [List.mem_cons, List.not_mem_nil, or_false] at hx
  rcases hx with e | e <;> rw [e]
  · exact pl_nat _ _
  · exact pl_nats _ (by omega)
theorem pl_cs (n : Nat) (b : Bool) (cs : List (Nat × Nat)) (h : cs.length ≤ 1000) : PlD (n + 2) (sq b (cs.map (encC b))) := by
  refine PlD.sq (fun x hx => ?_) (by rw [List.length_map]; omega)
  obtain ⟨c, _, rfl⟩ := List.mem_map.mp hx
  exact pl_c n b c
theorem lists_cs {cs : List (Nat × Nat)} (h : cs.length ≤ 1000) (U : Urn) : m_l_lists [.tup (cs.map (encC false))] U = .ok (.lst (cs.map (encC true))) U := by
  have e := S1.m_lists_ok (U := U) ((pl_cs 0 false cs h).mono (by omega : 2 ≤ 11))
  rw [sq_f, lsF_tup, List.map_map] at e
  rw [e_lists, e]
  congr 2
theorem lists_s {s : Nat × List Nat} (h : s.2.length ≤ 1000) (U : Urn) : m_l_lists [encS false s] U = .ok (encS true s) U := by
  rw [e_lists, S1.m_lists_ok ((pl_s 0 false s h).mono (by omega)), lsF_s]
theorem lists_h {M : Nat} {cs : List (Nat × Nat)} (h : cs.length ≤ 1000) (U : Urn) : m_l_lists [encH false M cs] U = .ok (encH true M cs) U := by
  have hp : PlD 3 (encH false M cs) := by
    unfold encH
    refine PlD.sq (fun x hx => ?_) (by simp)
    simp only [List.mem_cons, List.not_mem_nil, or_false] at hx
    rcases hx with e | e <;> rw [e]
    · exact pl_nat _ _
    · exact pl_cs 0 false cs h
  rw [e_lists, S1.m_lists_ok (hp.mono (by omega))]
  unfold encH
  rw [lsF_sq]
  simp only [List.map_cons, List.map_nil, lsF_nat, lsF_sq, List.map_map, sq_t]
  have : (lsF 9 ∘ encC false) = encC true := by funext c; exact lsF_c 8 false c
  rw [this]
/-! turned, with its tests -/
theorem turned_ok {B : Book} {L M : Nat} {st : Nat × List Nat} {c : Nat × Nat} (hB : B.Ok L) (hM : M ≤ 1000) (hs : SOk B M st) (hc : COk L M c) (b b1 b2 : Bool) (U : Urn) : m_turned [encBook b B, encS b1 st, encC b2 c] U = .ok (encS false (turn B st c)) U := by
  have h1 := turned_to_ok' hB hM hs hc b b1 b2 U
  have h2 := letters_of_ok hB b U
  have h3 : c.1 < st.2.length := by rw [hs.len]; exact hc.p
  have h4 : ¬ L < c.2 := by have := hc.l; omega
  have hS : encS b1 st = sq b1 [nat st.1, nats b1 st.2] := rfl
  have hC : encC b2 c = sq b2 [nat c.1, nat c.2] := rfl
  unfold m_turned b_turned
  rw [hS, hC] at h1 ⊢
  simp [mkFn_ap, h1, h2, h3, h4]
theorem eqD_pair (a b c d : Nat) : eqD (.tup [nat a, nat b]) (.tup [nat c, nat d]) = some (.bl (((a : Int) == (c : Int)) && (((b : Int) == (d : Int)) && true))) := id rfl
theorem inD_pair (k a b : Nat) : inDn (nat k) (.tup [nat a, nat b]) = some (.bl (((a : Int) == (k : Int)) || (((b : Int) == (k : Int)) || false))) := id rfl
end K11

set_option maxRecDepth 100000
set_option maxHeartbeats 4000000
namespace K11
open PySem PySem.Spec PyProof.Rows L2 VL
theorem take_n {U : Urn} {n k : Nat} (h : Ud U (n + 1)) (h0 : 0 < k) (h1 : k < 1000) : ∃ (r : Nat) (U' : Urn), r < k ∧ m_l_take [.urn, nat k] U = .ok (nat r) U' ∧ Ud U' n := S1.take_ok h h0 (by omega)
theorem KRg1_n {k : Nat} (h : k < 1000000) (ρ : Rho) (U : Urn) : KRg1 (nat k) ρ U = .ok (rgD 0 k) ρ U := KRg1_nat (by omega) ρ U
theorem bools_mul {α : Type} (xs : List α) (h : xs.length ≤ 1000) : mulA (.lst [.bl true]) (.int xs.length) = some (.lst (xs.map fun _ => D.bl true)) := by
  rw [mulA_one _ _ h, List.map_const']
theorem All2.get {α β : Type} {P : α → β → Prop} : ∀ {xs : List α} {ys : List β} {i : Nat} {x : α}, All2 P xs ys → xs[i]? = some x → ∃ y, ys[i]? = some y ∧ P x y
  | _, _, _, _, .nil, h => by simp at h
  | _, _, 0, _, .cons p _, h => by simp at h; subst h; exact ⟨_, rfl, p⟩
  | _, _, i + 1, x, .cons _ q, h => by
    obtain ⟨y, h1, h2⟩ := All2.get (i := i) (x := x) q (by simpa using h)
    exact ⟨y, by simpa using h1, h2⟩
theorem row_some {B : Book} {L M : Nat} {st : Nat × List Nat} {c : Nat × Nat} {r : Row} (hB : B.Ok L) (hM : M ≤ 1000) (hs : SOk B M st) (hc : COk L M c) (ht : At B st c r) : rowAt B st c = some r := by
  obtain ⟨ls, h, line, h1, h2, h3, h4⟩ := ht.ex
  unfold rowAt
  rw [h1, h2]
  simp only [Option.bind_some]
  rw [h3]
  exact h4
theorem right_ok (a b : Int) (ha : 0 ≤ a) : ∃ U', m_l_right [.urn] ⟨a, b, 0⟩ = .ok (.bl true) U' := by
  have ud0 : Ud ⟨a, b, 0⟩ (1100 + 1000) := ⟨ha, Int.le_refl 0, by show (0 : Int) + ((1100 + 1000 : Nat) : Int) ≤ 2 ^ 40; decide⟩
  obtain ⟨U0, hU0⟩ : ∃ U0 : Urn, U0 = ⟨a, b, 0⟩ := ⟨_, rfl⟩
  rw [← hU0] at ud0 ⊢
  obtain ⟨L, B, U1, hbk, hB, ud1⟩ := book_ok ud0
  obtain ⟨m0, U2, hm0, ht1, ud2⟩ := take_n (n := 1099) (k := 5) ud1 (by omega) (by omega)
  have ht1 : m_l_take [.urn, .int 5] U1 = .ok (nat m0) U2 := ht1
  obtain ⟨M, hM⟩ : ∃ M, 1 + m0 = M := ⟨_, rfl⟩
  have hM0 : 1 ≤ M := by omega
  have hM1 : M ≤ 5 := by omega
  have hM2 : M ≤ 1000 := by omega
  have x0 : ixD (encBook false B) (.int 0) = some (.tup (B.ans.map D.bl)) := rfl
  have x1 : ixD (encBook false B) (.int 1) = some (nats false B.hues) := rfl
  have x3 : ixD (encBook false B) (.int 3) = some (.tup (B.rows.map enLs)) := rfl
  have h1 : 0 < B.rows.length := by rw [hB.rows]; exact hB.a1
  have hm1 := List.getElem_mem h1
  have h2 : 0 < B.rows[0].length := by
    rw [hB.lines _ hm1]
    have := (List.getElem?_eq_some_iff.mp hB.bh).1
    omega
  have hm2 := List.getElem_mem h2
  have g3 := hB.line _ hm1 _ hm2
  have g1 : B.rows[0]? = some B.rows[0] := List.getElem?_eq_getElem h1
  have g2 : B.rows[0][0]? = some B.rows[0][0] := List.getElem?_eq_getElem h2
  have hsub : subI (.int ((L : Int) + 1)) (.int 1) = some (nat L) := by
    show some (D.int ((L : Int) + 1 - 1)) = _
    rw [Int.add_sub_cancel]; rfl
  have hL2 := hB.l2
  obtain ⟨n0, U3, hn0, ht2, ud3⟩ := take_n (n := 1098) (k := 10) ud2 (by omega) (by omega)
  have ht2 : m_l_take [.urn, .int 10] U2 = .ok (nat n0) U3 := ht2
  have hg0 := fun ρ U => KRg1_n (k := n0) (by omega) ρ U

  have s0 : (sPar [.nm 1, .nm 2] [((eCall m_l_book [(eVar 0)]), false), ((eBin addA (.ev (eC (.int 1))) (.ev (eCall m_l_take [(eVar 0), (eC (.int 5))]))), false)]) [.val .urn, .un, .un, .un, .un, .un, .un, .un, .un, .un, .un, .un, .un, .un, .un, .un, .un, .un, .un, .un, .un, .un, .un] U0 = .ok .nx [.val .urn, .val (encBook false B), .val (nat M), .un, .un, .un, .un, .un, .un, .un, .un, .un, .un, .un, .un, .un, .un, .un, .un, .un, .un, .un, .un] U2 := by
    simp [-List.map_map, -List.map_const, hbk, ht1, hM]
  have s1 : (sSet 3 (eBin subI (.ev (eB1 lenA (.ev (eIx (.ev (eIx (.ev (eIx (.sl 1) (.ev (eC (.int 3))))) (.ev (eC (.int 0))))) (.ev (eC (.int 0))))))) (.ev (eC (.int 1))))) [.val .urn, .val (encBook false B), .val (nat M), .un, .un, .un, .un, .un, .un, .un, .un, .un, .un, .un, .un, .un, .un, .un, .un, .un, .un, .un, .un] U2 = .ok .nx [.val .urn, .val (encBook false B), .val (nat M), .val (nat L), .un, .un, .un, .un, .un, .un, .un, .un, .un, .un, .un, .un, .un, .un, .un, .un, .un, .un, .un] U2 := by
    simp [-List.map_map, -List.map_const, x3, g1, enLs_f, g2, enL_f, g3, hsub]
  obtain ⟨ys, U4, hdr, hys, ud4⟩ := lcV_draw (tg := .nm 19) (vs := [19]) (e := eTup [(eCall m_l_take [(eVar 0), (eVar 2)]), (eCall m_l_take [(eVar 0), (eBin addA (.sl 3) (.ev (eC (.int 1))))])]) (ρ := [.val .urn, .val (encBook false B), .val (nat M), .val (nat L), .un, .un, .un, .un, .un, .un, .un, .un, .un, .un, .un, .un, .un, .un, .un, .un, .un, .un, .un]) (U := U3) (ds := rgD 0 (n0 : Int)) nat (fun U k => Ud U (1050 + 2 * k)) (fun _ y => ∃ c, y = encC false c ∧ COk L M c) (List.range n0) (rgD_map n0) (fun U k h => h.mono (by omega)) (ud3.mono (by rw [List.length_range]; omega)) (fun x _ U k hu => by
    obtain ⟨p, V1, hp, e1, u1⟩ := take_n (n := 1050 + 2 * k + 1) (k := M) hu (by omega) (by omega)
    obtain ⟨l, V2, hl, e2, u2⟩ := take_n (n := 1050 + 2 * k) (k := L + 1) u1 (by omega) (by omega)
    refine ⟨[.val .urn, .val (encBook false B), .val (nat M), .val (nat L), .un, .un, .un, .un, .un, .un, .un, .un, .un, .un, .un, .un, .un, .un, .un, .val (nat x), .un, .un, .un], encC false (p, l), V2, by simp [unAll], ?_, ⟨_, rfl, ⟨hp, by show l ≤ L; omega⟩⟩, u2⟩
    simp [e1, e2, encC]) (by rw [List.length_range]; omega) (by simp)
  obtain ⟨cs, rfl, hcs⟩ := hys.ex
  have hcl : cs.length = n0 := by rw [hcs.len, List.length_range]
  have hc : ∀ c ∈ cs, COk L M c := hcs.right (Q := COk L M) (fun _ _ h => h)
  have hcl2 : cs.length ≤ 1000 := by omega

  have s2 : (sSet 4 (eB1 tupD (.ev (oLc (iRg1 (eCall m_l_take [(eVar 0), (eC (.int 10))])) (.nm 19) [19] tYesM (eTup [(eCall m_l_take [(eVar 0), (eVar 2)]), (eCall m_l_take [(eVar 0), (eBin addA (.sl 3) (.ev (eC (.int 1))))])]))))) [.val .urn, .val (encBook false B), .val (nat M), .val (nat L), .un, .un, .un, .un, .un, .un, .un, .un, .un, .un, .un, .un, .un, .un, .un, .un, .un, .un, .un] U2 = .ok .nx [.val .urn, .val (encBook false B), .val (nat M), .val (nat L), .val (.tup (cs.map (encC false))), .un, .un, .un, .un, .un, .un, .un, .un, .un, .un, .un, .un, .un, .un, .un, .un, .un, .un] U4 := by
    simp [-List.map_map, -List.map_const, ht2, hg0, hdr]
  have hlb := lists_book hB U4
  have s3 : (sPar [.nm 5, .nm 6] [((eTup [(eVar 2), (eVar 4)]), false), ((eCall m_l_lists [(eVar 1)]), false)]) [.val .urn, .val (encBook false B), .val (nat M), .val (nat L), .val (.tup (cs.map (encC false))), .un, .un, .un, .un, .un, .un, .un, .un, .un, .un, .un, .un, .un, .un, .un, .un, .un, .un] U4 = .ok .nx [.val .urn, .val (encBook false B), .val (nat M), .val (nat L), .val (.tup (cs.map (encC false))), .val (encH false M cs), .val (encBook true B), .un, .un, .un, .un, .un, .un, .un, .un, .un, .un, .un, .un, .un, .un, .un, .un] U4 := by
    simp [-List.map_map, -List.map_const, hlb]
    rfl
  have hpl := played_ok hB hM0 hM2 hc hcl2 U4
  obtain ⟨q, U5, hq, ht3, ud5⟩ := take_n (n := 1049) (k := M) (ud4.mono (by omega)) (by omega) (by omega)
  obtain ⟨SS, hSS⟩ : ∃ SS, SS = stands B (beg B M) cs := ⟨_, rfl⟩
  obtain ⟨la, hla⟩ : ∃ la, la = stAt B (beg B M) cs cs.length := ⟨_, rfl⟩
  have hSl : SS.length ≤ 1000 := by rw [hSS, stands_len]; omega
  have hSo : ∀ s ∈ SS, SOk B M s := by rw [hSS]; exact stands_ok hB hM2 hc
  have hS0 : SS[0]? = some (beg B M) := by rw [hSS]; simp [stands, stAt]
  have hS9 : SS.getLast? = some la := by
    have := stands_last (B := B) (st := beg B M) (cs := cs) (fun s => s)
    rw [List.map_id'] at this
    rw [hSS, hla, this]
  have hlo : SOk B M la := by rw [hla]; exact stAt_ok hB hM2 (beg_ok hB) hc _
  rw [← hSS] at hpl

  have s4 : (sPar [.nm 7, .nm 8] [((eCall m_l_played [(eVar 1), (eVar 2), (eVar 4)]), false), ((eCall m_l_take [(eVar 0), (eVar 2)]), false)]) [.val .urn, .val (encBook false B), .val (nat M), .val (nat L), .val (.tup (cs.map (encC false))), .val (encH false M cs), .val (encBook true B), .un, .un, .un, .un, .un, .un, .un, .un, .un, .un, .un, .un, .un, .un, .un, .un] U4 = .ok .nx [.val .urn, .val (encBook false B), .val (nat M), .val (nat L), .val (.tup (cs.map (encC false))), .val (encH false M cs), .val (encBook true B), .val (.lst (SS.map (encS false))), .val (nat q), .un, .un, .un, .un, .un, .un, .un, .un, .un, .un, .un, .un, .un, .un] U5 := by
    simp [-List.map_map, -List.map_const, hpl, ht3]
  have cF := lcV_map (tg := .nm 20) (vs := [20]) (e := eIx (.sl 20) (.ev (eC (.int 0)))) (ρ := [.val .urn, .val (encBook false B), .val (nat M), .val (nat L), .val (.tup (cs.map (encC false))), .val (encH false M cs), .val (encBook true B), .val (.lst (SS.map (encS false))), .val (nat q), .un, .un, .un, .un, .un, .un, .un, .un, .un, .un, .un, .un, .un, .un]) (U := U5) (encS false) (fun s => nat s.1) SS rfl (fun s _ => ⟨[.val .urn, .val (encBook false B), .val (nat M), .val (nat L), .val (.tup (cs.map (encC false))), .val (encH false M cs), .val (encBook true B), .val (.lst (SS.map (encS false))), .val (nat q), .un, .un, .un, .un, .un, .un, .un, .un, .un, .un, .un, .val (encS false s), .un, .un], by simp [unAll], by simp [encS]⟩) (by omega) (by simp)
  have cH := lcV_map (tg := .nm 20) (vs := [20]) (e := eIx (.ev (eIx (.sl 20) (.ev (eC (.int 1))))) (.sl 8)) (ρ := [.val .urn, .val (encBook false B), .val (nat M), .val (nat L), .val (.tup (cs.map (encC false))), .val (encH false M cs), .val (encBook true B), .val (.lst (SS.map (encS false))), .val (nat q), .un, .un, .un, .un, .un, .un, .un, .un, .un, .un, .un, .un, .un, .un]) (U := U5) (encS false) (fun s => nat (s.2[q]?.getD 0)) SS rfl (fun s hs => by
    have h2 : q < s.2.length := by rw [(hSo s hs).len]; exact hq
    exact ⟨[.val .urn, .val (encBook false B), .val (nat M), .val (nat L), .val (.tup (cs.map (encC false))), .val (encH false M cs), .val (encBook true B), .val (.lst (SS.map (encS false))), .val (nat q), .un, .un, .un, .un, .un, .un, .un, .un, .un, .un, .un, .val (encS false s), .un, .un], by simp [unAll], by simp [encS, h2]⟩) (by omega) (by simp)

  have s5 : (sPar [.nm 9, .nm 10] [((eB1 tupD (.ev (oLc (iSeq (eVar 7)) (.nm 20) [20] tYesM (eIx (.sl 20) (.ev (eC (.int 0))))))), false), ((eB1 tupD (.ev (oLc (iSeq (eVar 7)) (.nm 20) [20] tYesM (eIx (.ev (eIx (.sl 20) (.ev (eC (.int 1))))) (.sl 8))))), false)]) [.val .urn, .val (encBook false B), .val (nat M), .val (nat L), .val (.tup (cs.map (encC false))), .val (encH false M cs), .val (encBook true B), .val (.lst (SS.map (encS false))), .val (nat q), .un, .un, .un, .un, .un, .un, .un, .un, .un, .un, .un, .un, .un, .un] U5 = .ok .nx [.val .urn, .val (encBook false B), .val (nat M), .val (nat L), .val (.tup (cs.map (encC false))), .val (encH false M cs), .val (encBook true B), .val (.lst (SS.map (encS false))), .val (nat q), .val (.tup (SS.map fun s => nat s.1)), .val (.tup (SS.map fun s => nat (s.2[q]?.getD 0))), .un, .un, .un, .un, .un, .un, .un, .un, .un, .un, .un, .un] U5 := by
    simp [-List.map_map, -List.map_const, cF, cH]
  have k1 := is_book_ok hB U5
  have k2 := begun_ok (B := B) true hM0 hM2 U5
  have k3 := stand_behind_ok hB hM0 hM2 hc hcl2 false false U5
  have k4 := stand_behind_ok hB hM0 hM2 hc hcl2 true true U5
  have k4 : m_stand_behind [encBook true B, .lst [nat M, .lst (cs.map (encC true))]] U5 = _ := k4
  have k5 := lists_cs hcl2 U5
  rw [← hla] at k3 k4

  have s6 : (sSet 11 (oLst [(eCall m_is_book [(eVar 1)]), (eCall m_begun [(eVar 6), (eVar 2)]), (eCall m_stand_behind [(eVar 1), (eVar 5)]), (eCall m_stand_behind [(eVar 6), (oLst [(eVar 2), (eCall m_l_lists [(eVar 4)])])])])) [.val .urn, .val (encBook false B), .val (nat M), .val (nat L), .val (.tup (cs.map (encC false))), .val (encH false M cs), .val (encBook true B), .val (.lst (SS.map (encS false))), .val (nat q), .val (.tup (SS.map fun s => nat s.1)), .val (.tup (SS.map fun s => nat (s.2[q]?.getD 0))), .un, .un, .un, .un, .un, .un, .un, .un, .un, .un, .un, .un] U5 = .ok .nx [.val .urn, .val (encBook false B), .val (nat M), .val (nat L), .val (.tup (cs.map (encC false))), .val (encH false M cs), .val (encBook true B), .val (.lst (SS.map (encS false))), .val (nat q), .val (.tup (SS.map fun s => nat s.1)), .val (.tup (SS.map fun s => nat (s.2[q]?.getD 0))), .val (.lst [.bl true, encS false (beg B M), encS false la, encS false la]), .un, .un, .un, .un, .un, .un, .un, .un, .un, .un, .un] U5 := by
    simp [-List.map_map, -List.map_const, k1, k2, k3, k4, k5]
  have s7 : (sSet 12 (oLst [(eC (.bl true)), (eIx (.sl 7) (.ev (eC (.int 0)))), (eIx (.sl 7) (.ev (eNeg (eC (.int 1))))), (eIx (.sl 7) (.ev (eNeg (eC (.int 1)))))])) [.val .urn, .val (encBook false B), .val (nat M), .val (nat L), .val (.tup (cs.map (encC false))), .val (encH false M cs), .val (encBook true B), .val (.lst (SS.map (encS false))), .val (nat q), .val (.tup (SS.map fun s => nat s.1)), .val (.tup (SS.map fun s => nat (s.2[q]?.getD 0))), .val (.lst [.bl true, encS false (beg B M), encS false la, encS false la]), .un, .un, .un, .un, .un, .un, .un, .un, .un, .un, .un] U5 = .ok .nx [.val .urn, .val (encBook false B), .val (nat M), .val (nat L), .val (.tup (cs.map (encC false))), .val (encH false M cs), .val (encBook true B), .val (.lst (SS.map (encS false))), .val (nat q), .val (.tup (SS.map fun s => nat s.1)), .val (.tup (SS.map fun s => nat (s.2[q]?.getD 0))), .val (.lst [.bl true, encS false (beg B M), encS false la, encS false la]), .val (.lst [.bl true, encS false (beg B M), encS false la, encS false la]), .un, .un, .un, .un, .un, .un, .un, .un, .un, .un] U5 := by
    simp [-List.map_map, -List.map_const, hS0, hS9]
  have k6 := flags_along_ok hB hM0 hM2 hc hcl2 false false U5
  have k7 := flags_along_ok hB hM0 hM2 hc hcl2 true true U5
  have k8 := hues_along_ok hB hM0 hM2 hc hcl2 false false U5 hq
  obtain ⟨x, hx, k9⟩ := answer_ok hB hM0 hM2 hc hcl2 true false U5
  have k10 := lists_h (M := M) hcl2 U5
  rw [← hSS] at k6 k7 k8
  rw [← hla] at hx

  have s8 : (sSet 11 (eBin addA (.sl 11) (.ev (oLst [(eCall m_flags_along [(eVar 1), (eVar 5)]), (eCall m_flags_along [(eVar 6), (eCall m_l_lists [(eVar 5)])]), (eCall m_hues_along [(eVar 1), (eVar 5), (eVar 8)]), (eCall m_answer [(eVar 6), (eVar 5)])])))) [.val .urn, .val (encBook false B), .val (nat M), .val (nat L), .val (.tup (cs.map (encC false))), .val (encH false M cs), .val (encBook true B), .val (.lst (SS.map (encS false))), .val (nat q), .val (.tup (SS.map fun s => nat s.1)), .val (.tup (SS.map fun s => nat (s.2[q]?.getD 0))), .val (.lst [.bl true, encS false (beg B M), encS false la, encS false la]), .val (.lst [.bl true, encS false (beg B M), encS false la, encS false la]), .un, .un, .un, .un, .un, .un, .un, .un, .un, .un] U5 = .ok .nx [.val .urn, .val (encBook false B), .val (nat M), .val (nat L), .val (.tup (cs.map (encC false))), .val (encH false M cs), .val (encBook true B), .val (.lst (SS.map (encS false))), .val (nat q), .val (.tup (SS.map fun s => nat s.1)), .val (.tup (SS.map fun s => nat (s.2[q]?.getD 0))), .val (.lst [.bl true, encS false (beg B M), encS false la, encS false la, .tup (SS.map fun s => nat s.1), .tup (SS.map fun s => nat s.1), .tup (SS.map fun s => nat (s.2[q]?.getD 0)), .bl x]), .val (.lst [.bl true, encS false (beg B M), encS false la, encS false la]), .un, .un, .un, .un, .un, .un, .un, .un, .un, .un] U5 := by
    simp [-List.map_map, -List.map_const, k6, k7, k8, k9, k10]
  have s9 : (sSet 12 (eBin addA (.sl 12) (.ev (oLst [(eVar 9), (eVar 9), (eVar 10), (eIx (.ev (eIx (.sl 1) (.ev (eC (.int 0))))) (.ev (eIx (.sl 9) (.ev (eNeg (eC (.int 1)))))))])))) [.val .urn, .val (encBook false B), .val (nat M), .val (nat L), .val (.tup (cs.map (encC false))), .val (encH false M cs), .val (encBook true B), .val (.lst (SS.map (encS false))), .val (nat q), .val (.tup (SS.map fun s => nat s.1)), .val (.tup (SS.map fun s => nat (s.2[q]?.getD 0))), .val (.lst [.bl true, encS false (beg B M), encS false la, encS false la, .tup (SS.map fun s => nat s.1), .tup (SS.map fun s => nat s.1), .tup (SS.map fun s => nat (s.2[q]?.getD 0)), .bl x]), .val (.lst [.bl true, encS false (beg B M), encS false la, encS false la]), .un, .un, .un, .un, .un, .un, .un, .un, .un, .un] U5 = .ok .nx [.val .urn, .val (encBook false B), .val (nat M), .val (nat L), .val (.tup (cs.map (encC false))), .val (encH false M cs), .val (encBook true B), .val (.lst (SS.map (encS false))), .val (nat q), .val (.tup (SS.map fun s => nat s.1)), .val (.tup (SS.map fun s => nat (s.2[q]?.getD 0))), .val (.lst [.bl true, encS false (beg B M), encS false la, encS false la, .tup (SS.map fun s => nat s.1), .tup (SS.map fun s => nat s.1), .tup (SS.map fun s => nat (s.2[q]?.getD 0)), .bl x]), .val (.lst [.bl true, encS false (beg B M), encS false la, encS false la, .tup (SS.map fun s => nat s.1), .tup (SS.map fun s => nat s.1), .tup (SS.map fun s => nat (s.2[q]?.getD 0)), .bl x]), .un, .un, .un, .un, .un, .un, .un, .un, .un, .un] U5 := by
    simp [-List.map_map, -List.map_const, x0, hS9, hx]
  have rt : la.2.map (fun h => nat (B.hues[h]?.getD 0)) = (txt M cs cs.length).map nat := by
    rw [← read_stAt hB hM2 hc cs.length (Nat.le_refl _), ← hla]
    unfold read
    rw [List.map_map]; rfl
  have k11 := text_of_ok hlo hM2 false false U5
  have k12 := text_of_ok hlo hM2 true true U5
  rw [rt] at k11 k12
  have k13 := text_behind_ok hM2 hc false U5
  have k14 := letters_of_ok hB true U5
  have k15 := lists_s (s := la) (by rw [hlo.len]; omega) U5
  have k16 := l_text_ok hM2 hc U5
  have k17 : mulA (.lst [.tup ((txt M cs cs.length).map nat)]) (.int 3) = some (.lst [.tup ((txt M cs cs.length).map nat), .tup ((txt M cs cs.length).map nat), .tup ((txt M cs cs.length).map nat)]) := mulA_one _ 3 (by omega)

  have s10 : (sSet 11 (eBin addA (.sl 11) (.ev (oLst [(eCall m_text_of [(eVar 1), (eIx (.sl 7) (.ev (eNeg (eC (.int 1)))))]), (eCall m_text_of [(eVar 6), (eCall m_l_lists [(eIx (.sl 7) (.ev (eNeg (eC (.int 1)))))])]), (eCall m_text_behind [(eVar 5)]), (eCall m_letters_of [(eVar 6)])])))) [.val .urn, .val (encBook false B), .val (nat M), .val (nat L), .val (.tup (cs.map (encC false))), .val (encH false M cs), .val (encBook true B), .val (.lst (SS.map (encS false))), .val (nat q), .val (.tup (SS.map fun s => nat s.1)), .val (.tup (SS.map fun s => nat (s.2[q]?.getD 0))), .val (.lst [.bl true, encS false (beg B M), encS false la, encS false la, .tup (SS.map fun s => nat s.1), .tup (SS.map fun s => nat s.1), .tup (SS.map fun s => nat (s.2[q]?.getD 0)), .bl x]), .val (.lst [.bl true, encS false (beg B M), encS false la, encS false la, .tup (SS.map fun s => nat s.1), .tup (SS.map fun s => nat s.1), .tup (SS.map fun s => nat (s.2[q]?.getD 0)), .bl x]), .un, .un, .un, .un, .un, .un, .un, .un, .un, .un] U5 = .ok .nx [.val .urn, .val (encBook false B), .val (nat M), .val (nat L), .val (.tup (cs.map (encC false))), .val (encH false M cs), .val (encBook true B), .val (.lst (SS.map (encS false))), .val (nat q), .val (.tup (SS.map fun s => nat s.1)), .val (.tup (SS.map fun s => nat (s.2[q]?.getD 0))), .val (.lst [.bl true, encS false (beg B M), encS false la, encS false la, .tup (SS.map fun s => nat s.1), .tup (SS.map fun s => nat s.1), .tup (SS.map fun s => nat (s.2[q]?.getD 0)), .bl x, .tup ((txt M cs cs.length).map nat), .tup ((txt M cs cs.length).map nat), .tup ((txt M cs cs.length).map nat), nat L]), .val (.lst [.bl true, encS false (beg B M), encS false la, encS false la, .tup (SS.map fun s => nat s.1), .tup (SS.map fun s => nat s.1), .tup (SS.map fun s => nat (s.2[q]?.getD 0)), .bl x]), .un, .un, .un, .un, .un, .un, .un, .un, .un, .un] U5 := by
    simp [-List.map_map, -List.map_const, hS9, k11, k12, k13, k14, k15]
  have s11 : (sSet 12 (eBin addA (.ev (eBin addA (.sl 12) (.ev (eBin mulA (.ev (oLst [(eCall m_l_text [(eVar 2), (eVar 4)])])) (.ev (eC (.int 3))))))) (.ev (oLst [(eVar 3)])))) [.val .urn, .val (encBook false B), .val (nat M), .val (nat L), .val (.tup (cs.map (encC false))), .val (encH false M cs), .val (encBook true B), .val (.lst (SS.map (encS false))), .val (nat q), .val (.tup (SS.map fun s => nat s.1)), .val (.tup (SS.map fun s => nat (s.2[q]?.getD 0))), .val (.lst [.bl true, encS false (beg B M), encS false la, encS false la, .tup (SS.map fun s => nat s.1), .tup (SS.map fun s => nat s.1), .tup (SS.map fun s => nat (s.2[q]?.getD 0)), .bl x, .tup ((txt M cs cs.length).map nat), .tup ((txt M cs cs.length).map nat), .tup ((txt M cs cs.length).map nat), nat L]), .val (.lst [.bl true, encS false (beg B M), encS false la, encS false la, .tup (SS.map fun s => nat s.1), .tup (SS.map fun s => nat s.1), .tup (SS.map fun s => nat (s.2[q]?.getD 0)), .bl x]), .un, .un, .un, .un, .un, .un, .un, .un, .un, .un] U5 = .ok .nx [.val .urn, .val (encBook false B), .val (nat M), .val (nat L), .val (.tup (cs.map (encC false))), .val (encH false M cs), .val (encBook true B), .val (.lst (SS.map (encS false))), .val (nat q), .val (.tup (SS.map fun s => nat s.1)), .val (.tup (SS.map fun s => nat (s.2[q]?.getD 0))), .val (.lst [.bl true, encS false (beg B M), encS false la, encS false la, .tup (SS.map fun s => nat s.1), .tup (SS.map fun s => nat s.1), .tup (SS.map fun s => nat (s.2[q]?.getD 0)), .bl x, .tup ((txt M cs cs.length).map nat), .tup ((txt M cs cs.length).map nat), .tup ((txt M cs cs.length).map nat), nat L]), .val (.lst [.bl true, encS false (beg B M), encS false la, encS false la, .tup (SS.map fun s => nat s.1), .tup (SS.map fun s => nat s.1), .tup (SS.map fun s => nat (s.2[q]?.getD 0)), .bl x, .tup ((txt M cs cs.length).map nat), .tup ((txt M cs cs.length).map nat), .tup ((txt M cs cs.length).map nat), nat L]), .un, .un, .un, .un, .un, .un, .un, .un, .un, .un] U5 := by
    simp [-List.map_map, -List.map_const, k16, k17]
  obtain ⟨L1, hL1⟩ : ∃ L1, L + 1 = L1 := ⟨_, rfl⟩
  have hg1 := fun ρ U => KRg1_n (k := L1) (by omega) ρ U
  have cA := lcV_map (tg := .nm 21) (vs := [21]) (e := eCall m_hues_for [(eVar 1), (eVar 21)]) (ds := rgD 0 (L1 : Int)) (ρ := [.val .urn, .val (encBook false B), .val (nat M), .val (nat L), .val (.tup (cs.map (encC false))), .val (encH false M cs), .val (encBook true B), .val (.lst (SS.map (encS false))), .val (nat q), .val (.tup (SS.map fun s => nat s.1)), .val (.tup (SS.map fun s => nat (s.2[q]?.getD 0))), .val (.lst [.bl true, encS false (beg B M), encS false la, encS false la, .tup (SS.map fun s => nat s.1), .tup (SS.map fun s => nat s.1), .tup (SS.map fun s => nat (s.2[q]?.getD 0)), .bl x, .tup ((txt M cs cs.length).map nat), .tup ((txt M cs cs.length).map nat), .tup ((txt M cs cs.length).map nat), nat L]), .val (.lst [.bl true, encS false (beg B M), encS false la, encS false la, .tup (SS.map fun s => nat s.1), .tup (SS.map fun s => nat s.1), .tup (SS.map fun s => nat (s.2[q]?.getD 0)), .bl x, .tup ((txt M cs cs.length).map nat), .tup ((txt M cs cs.length).map nat), .tup ((txt M cs cs.length).map nat), nat L]), .un, .un, .un, .un, .un, .un, .un, .un, .un, .un]) (U := U5) nat (fun k => .tup ((idx B.hues k).map nat)) (List.range L1) (rgD_map L1) (fun k hk => by
    have hk : k ≤ L := by have := List.mem_range.mp hk; omega
    have e := hues_for_ok hB hk false U5
    exact ⟨[.val .urn, .val (encBook false B), .val (nat M), .val (nat L), .val (.tup (cs.map (encC false))), .val (encH false M cs), .val (encBook true B), .val (.lst (SS.map (encS false))), .val (nat q), .val (.tup (SS.map fun s => nat s.1)), .val (.tup (SS.map fun s => nat (s.2[q]?.getD 0))), .val (.lst [.bl true, encS false (beg B M), encS false la, encS false la, .tup (SS.map fun s => nat s.1), .tup (SS.map fun s => nat s.1), .tup (SS.map fun s => nat (s.2[q]?.getD 0)), .bl x, .tup ((txt M cs cs.length).map nat), .tup ((txt M cs cs.length).map nat), .tup ((txt M cs cs.length).map nat), nat L]), .val (.lst [.bl true, encS false (beg B M), encS false la, encS false la, .tup (SS.map fun s => nat s.1), .tup (SS.map fun s => nat s.1), .tup (SS.map fun s => nat (s.2[q]?.getD 0)), .bl x, .tup ((txt M cs cs.length).map nat), .tup ((txt M cs cs.length).map nat), .tup ((txt M cs cs.length).map nat), nat L]), .un, .un, .un, .un, .un, .un, .un, .un, .val (nat k), .un], by simp [unAll], by simp [e]⟩) (by simp; omega) (by simp)
  have cB := lcV_map (tg := .nm 20) (vs := [20]) (e := eCall m_is_stand [(eVar 1), (eVar 20)]) (ρ := [.val .urn, .val (encBook false B), .val (nat M), .val (nat L), .val (.tup (cs.map (encC false))), .val (encH false M cs), .val (encBook true B), .val (.lst (SS.map (encS false))), .val (nat q), .val (.tup (SS.map fun s => nat s.1)), .val (.tup (SS.map fun s => nat (s.2[q]?.getD 0))), .val (.lst [.bl true, encS false (beg B M), encS false la, encS false la, .tup (SS.map fun s => nat s.1), .tup (SS.map fun s => nat s.1), .tup (SS.map fun s => nat (s.2[q]?.getD 0)), .bl x, .tup ((txt M cs cs.length).map nat), .tup ((txt M cs cs.length).map nat), .tup ((txt M cs cs.length).map nat), nat L]), .val (.lst [.bl true, encS false (beg B M), encS false la, encS false la, .tup (SS.map fun s => nat s.1), .tup (SS.map fun s => nat s.1), .tup (SS.map fun s => nat (s.2[q]?.getD 0)), .bl x, .tup ((txt M cs cs.length).map nat), .tup ((txt M cs cs.length).map nat), .tup ((txt M cs cs.length).map nat), nat L]), .un, .un, .un, .un, .un, .un, .un, .un, .un, .un]) (U := U5) (encS false) (fun _ => D.bl true) SS rfl (fun s hs => by
    have e := is_stand_ok (hSo s hs) hM0 hM2 U5
    exact ⟨[.val .urn, .val (encBook false B), .val (nat M), .val (nat L), .val (.tup (cs.map (encC false))), .val (encH false M cs), .val (encBook true B), .val (.lst (SS.map (encS false))), .val (nat q), .val (.tup (SS.map fun s => nat s.1)), .val (.tup (SS.map fun s => nat (s.2[q]?.getD 0))), .val (.lst [.bl true, encS false (beg B M), encS false la, encS false la, .tup (SS.map fun s => nat s.1), .tup (SS.map fun s => nat s.1), .tup (SS.map fun s => nat (s.2[q]?.getD 0)), .bl x, .tup ((txt M cs cs.length).map nat), .tup ((txt M cs cs.length).map nat), .tup ((txt M cs cs.length).map nat), nat L]), .val (.lst [.bl true, encS false (beg B M), encS false la, encS false la, .tup (SS.map fun s => nat s.1), .tup (SS.map fun s => nat s.1), .tup (SS.map fun s => nat (s.2[q]?.getD 0)), .bl x, .tup ((txt M cs cs.length).map nat), .tup ((txt M cs cs.length).map nat), .tup ((txt M cs cs.length).map nat), nat L]), .un, .un, .un, .un, .un, .un, .un, .val (encS false s), .un, .un], by simp [unAll], by simp [e]⟩) (by omega) (by simp)

  have s12 : (sSet 11 (eBin addA (.sl 11) (.ev (oLst [(oLc (iRg1 (eBin addA (.sl 3) (.ev (eC (.int 1))))) (.nm 21) [21] tYesM (eCall m_hues_for [(eVar 1), (eVar 21)])), (oLc (iSeq (eVar 7)) (.nm 20) [20] tYesM (eCall m_is_stand [(eVar 1), (eVar 20)]))])))) [.val .urn, .val (encBook false B), .val (nat M), .val (nat L), .val (.tup (cs.map (encC false))), .val (encH false M cs), .val (encBook true B), .val (.lst (SS.map (encS false))), .val (nat q), .val (.tup (SS.map fun s => nat s.1)), .val (.tup (SS.map fun s => nat (s.2[q]?.getD 0))), .val (.lst [.bl true, encS false (beg B M), encS false la, encS false la, .tup (SS.map fun s => nat s.1), .tup (SS.map fun s => nat s.1), .tup (SS.map fun s => nat (s.2[q]?.getD 0)), .bl x, .tup ((txt M cs cs.length).map nat), .tup ((txt M cs cs.length).map nat), .tup ((txt M cs cs.length).map nat), nat L]), .val (.lst [.bl true, encS false (beg B M), encS false la, encS false la, .tup (SS.map fun s => nat s.1), .tup (SS.map fun s => nat s.1), .tup (SS.map fun s => nat (s.2[q]?.getD 0)), .bl x, .tup ((txt M cs cs.length).map nat), .tup ((txt M cs cs.length).map nat), .tup ((txt M cs cs.length).map nat), nat L]), .un, .un, .un, .un, .un, .un, .un, .un, .un, .un] U5 = .ok .nx [.val .urn, .val (encBook false B), .val (nat M), .val (nat L), .val (.tup (cs.map (encC false))), .val (encH false M cs), .val (encBook true B), .val (.lst (SS.map (encS false))), .val (nat q), .val (.tup (SS.map fun s => nat s.1)), .val (.tup (SS.map fun s => nat (s.2[q]?.getD 0))), .val (.lst [.bl true, encS false (beg B M), encS false la, encS false la, .tup (SS.map fun s => nat s.1), .tup (SS.map fun s => nat s.1), .tup (SS.map fun s => nat (s.2[q]?.getD 0)), .bl x, .tup ((txt M cs cs.length).map nat), .tup ((txt M cs cs.length).map nat), .tup ((txt M cs cs.length).map nat), nat L, .lst ((List.range L1).map fun k => .tup ((idx B.hues k).map nat)), .lst (SS.map fun _ => D.bl true)]), .val (.lst [.bl true, encS false (beg B M), encS false la, encS false la, .tup (SS.map fun s => nat s.1), .tup (SS.map fun s => nat s.1), .tup (SS.map fun s => nat (s.2[q]?.getD 0)), .bl x, .tup ((txt M cs cs.length).map nat), .tup ((txt M cs cs.length).map nat), .tup ((txt M cs cs.length).map nat), nat L]), .un, .un, .un, .un, .un, .un, .un, .un, .un, .un] U5 := by
    simp [-List.map_map, -List.map_const, hL1, hg1, cA, cB]
  have cC := lcV_map (tg := .nm 21) (vs := [21]) (e := eB1 tupD (.ev (oLc (iEn (eIx (.sl 1) (.ev (eC (.int 1))))) (.tp [22, 20]) [22, 20] (tOf (eBin eqD (.sl 20) (.sl 21))) (eVar 22)))) (ds := rgD 0 (L1 : Int)) (ρ := [.val .urn, .val (encBook false B), .val (nat M), .val (nat L), .val (.tup (cs.map (encC false))), .val (encH false M cs), .val (encBook true B), .val (.lst (SS.map (encS false))), .val (nat q), .val (.tup (SS.map fun s => nat s.1)), .val (.tup (SS.map fun s => nat (s.2[q]?.getD 0))), .val (.lst [.bl true, encS false (beg B M), encS false la, encS false la, .tup (SS.map fun s => nat s.1), .tup (SS.map fun s => nat s.1), .tup (SS.map fun s => nat (s.2[q]?.getD 0)), .bl x, .tup ((txt M cs cs.length).map nat), .tup ((txt M cs cs.length).map nat), .tup ((txt M cs cs.length).map nat), nat L, .lst ((List.range L1).map fun k => .tup ((idx B.hues k).map nat)), .lst (SS.map fun _ => D.bl true)]), .val (.lst [.bl true, encS false (beg B M), encS false la, encS false la, .tup (SS.map fun s => nat s.1), .tup (SS.map fun s => nat s.1), .tup (SS.map fun s => nat (s.2[q]?.getD 0)), .bl x, .tup ((txt M cs cs.length).map nat), .tup ((txt M cs cs.length).map nat), .tup ((txt M cs cs.length).map nat), nat L]), .un, .un, .un, .un, .un, .un, .un, .un, .un, .un]) (U := U5) nat (fun k => .tup ((idx B.hues k).map nat)) (List.range L1) (rgD_map L1) (fun k hk => by
    have e := idx_lc (k := 22) (o := 20) (hues := B.hues) (x := k) (ρ := [.val .urn, .val (encBook false B), .val (nat M), .val (nat L), .val (.tup (cs.map (encC false))), .val (encH false M cs), .val (encBook true B), .val (.lst (SS.map (encS false))), .val (nat q), .val (.tup (SS.map fun s => nat s.1)), .val (.tup (SS.map fun s => nat (s.2[q]?.getD 0))), .val (.lst [.bl true, encS false (beg B M), encS false la, encS false la, .tup (SS.map fun s => nat s.1), .tup (SS.map fun s => nat s.1), .tup (SS.map fun s => nat (s.2[q]?.getD 0)), .bl x, .tup ((txt M cs cs.length).map nat), .tup ((txt M cs cs.length).map nat), .tup ((txt M cs cs.length).map nat), nat L, .lst ((List.range L1).map fun k => .tup ((idx B.hues k).map nat)), .lst (SS.map fun _ => D.bl true)]), .val (.lst [.bl true, encS false (beg B M), encS false la, encS false la, .tup (SS.map fun s => nat s.1), .tup (SS.map fun s => nat s.1), .tup (SS.map fun s => nat (s.2[q]?.getD 0)), .bl x, .tup ((txt M cs cs.length).map nat), .tup ((txt M cs cs.length).map nat), .tup ((txt M cs cs.length).map nat), nat L]), .un, .un, .un, .un, .un, .un, .un, .un, .val (nat k), .un]) (U := U5) (c := tOf (eBin eqD (.sl 20) (.sl 21))) (by simp) (by simp) (by decide) (by have := hB.h2; omega) (fun y ρ' h1 h2 h3 => by
        have h4 := h3 21 (by decide) (by decide)
        simp [h2, h4])
    exact ⟨[.val .urn, .val (encBook false B), .val (nat M), .val (nat L), .val (.tup (cs.map (encC false))), .val (encH false M cs), .val (encBook true B), .val (.lst (SS.map (encS false))), .val (nat q), .val (.tup (SS.map fun s => nat s.1)), .val (.tup (SS.map fun s => nat (s.2[q]?.getD 0))), .val (.lst [.bl true, encS false (beg B M), encS false la, encS false la, .tup (SS.map fun s => nat s.1), .tup (SS.map fun s => nat s.1), .tup (SS.map fun s => nat (s.2[q]?.getD 0)), .bl x, .tup ((txt M cs cs.length).map nat), .tup ((txt M cs cs.length).map nat), .tup ((txt M cs cs.length).map nat), nat L, .lst ((List.range L1).map fun k => .tup ((idx B.hues k).map nat)), .lst (SS.map fun _ => D.bl true)]), .val (.lst [.bl true, encS false (beg B M), encS false la, encS false la, .tup (SS.map fun s => nat s.1), .tup (SS.map fun s => nat s.1), .tup (SS.map fun s => nat (s.2[q]?.getD 0)), .bl x, .tup ((txt M cs cs.length).map nat), .tup ((txt M cs cs.length).map nat), .tup ((txt M cs cs.length).map nat), nat L]), .un, .un, .un, .un, .un, .un, .un, .un, .val (nat k), .un], by simp [unAll], by simp [x1, e]⟩) (by simp; omega) (by simp)
  have kM := bools_mul SS hSl

  have s13 : (sSet 12 (eBin addA (.sl 12) (.ev (oLst [(oLc (iRg1 (eBin addA (.sl 3) (.ev (eC (.int 1))))) (.nm 21) [21] tYesM (eB1 tupD (.ev (oLc (iEn (eIx (.sl 1) (.ev (eC (.int 1))))) (.tp [22, 20]) [22, 20] (tOf (eBin eqD (.sl 20) (.sl 21))) (eVar 22))))), (eBin mulA (.ev (oLst [(eC (.bl true))])) (.ev (eB1 lenA (.sl 7))))])))) [.val .urn, .val (encBook false B), .val (nat M), .val (nat L), .val (.tup (cs.map (encC false))), .val (encH false M cs), .val (encBook true B), .val (.lst (SS.map (encS false))), .val (nat q), .val (.tup (SS.map fun s => nat s.1)), .val (.tup (SS.map fun s => nat (s.2[q]?.getD 0))), .val (.lst [.bl true, encS false (beg B M), encS false la, encS false la, .tup (SS.map fun s => nat s.1), .tup (SS.map fun s => nat s.1), .tup (SS.map fun s => nat (s.2[q]?.getD 0)), .bl x, .tup ((txt M cs cs.length).map nat), .tup ((txt M cs cs.length).map nat), .tup ((txt M cs cs.length).map nat), nat L, .lst ((List.range L1).map fun k => .tup ((idx B.hues k).map nat)), .lst (SS.map fun _ => D.bl true)]), .val (.lst [.bl true, encS false (beg B M), encS false la, encS false la, .tup (SS.map fun s => nat s.1), .tup (SS.map fun s => nat s.1), .tup (SS.map fun s => nat (s.2[q]?.getD 0)), .bl x, .tup ((txt M cs cs.length).map nat), .tup ((txt M cs cs.length).map nat), .tup ((txt M cs cs.length).map nat), nat L]), .un, .un, .un, .un, .un, .un, .un, .un, .un, .un] U5 = .ok .nx [.val .urn, .val (encBook false B), .val (nat M), .val (nat L), .val (.tup (cs.map (encC false))), .val (encH false M cs), .val (encBook true B), .val (.lst (SS.map (encS false))), .val (nat q), .val (.tup (SS.map fun s => nat s.1)), .val (.tup (SS.map fun s => nat (s.2[q]?.getD 0))), .val (.lst [.bl true, encS false (beg B M), encS false la, encS false la, .tup (SS.map fun s => nat s.1), .tup (SS.map fun s => nat s.1), .tup (SS.map fun s => nat (s.2[q]?.getD 0)), .bl x, .tup ((txt M cs cs.length).map nat), .tup ((txt M cs cs.length).map nat), .tup ((txt M cs cs.length).map nat), nat L, .lst ((List.range L1).map fun k => .tup ((idx B.hues k).map nat)), .lst (SS.map fun _ => D.bl true)]), .val (.lst [.bl true, encS false (beg B M), encS false la, encS false la, .tup (SS.map fun s => nat s.1), .tup (SS.map fun s => nat s.1), .tup (SS.map fun s => nat (s.2[q]?.getD 0)), .bl x, .tup ((txt M cs cs.length).map nat), .tup ((txt M cs cs.length).map nat), .tup ((txt M cs cs.length).map nat), nat L, .lst ((List.range L1).map fun k => .tup ((idx B.hues k).map nat)), .lst (SS.map fun _ => D.bl true)]), .un, .un, .un, .un, .un, .un, .un, .un, .un, .un] U5 := by
    simp [-List.map_map, -List.map_const, hL1, hg1, cC, kM]
  have pn : ∀ (n : Nat) (f : Nat × List Nat → Nat), PlD (n + 1) (.tup (SS.map fun s => nat (f s))) := fun n f => PlD.tup (fun y hy => by
    obtain ⟨z, _, rfl⟩ := List.mem_map.mp hy
    exact pl_nat _ _) (by rw [List.length_map]; omega)
  have pt : PlD 10 (.tup ((txt M cs cs.length).map nat)) := pl_nats (b := false) 9 (by rw [txt_len]; omega)
  have hpG : PlD 11 (.lst [.bl true, encS false (beg B M), encS false la, encS false la, .tup (SS.map fun s => nat s.1), .tup (SS.map fun s => nat s.1), .tup (SS.map fun s => nat (s.2[q]?.getD 0)), .bl x, .tup ((txt M cs cs.length).map nat), .tup ((txt M cs cs.length).map nat), .tup ((txt M cs cs.length).map nat), nat L, .lst ((List.range L1).map fun k => .tup ((idx B.hues k).map nat)), .lst (SS.map fun _ => D.bl true)]) := by
    refine PlD.lst (fun y hy => ?_) (by simp)
    simp only [List.mem_cons, List.not_mem_nil, or_false] at hy
    rcases hy with e | e | e | e | e | e | e | e | e | e | e | e | e | e <;> rw [e]
    · exact PlD.bl _ _
    · exact pl_s _ _ _ (by simp [beg]; omega)
    · exact pl_s _ _ _ (by rw [hlo.len]; omega)
    · exact pl_s _ _ _ (by rw [hlo.len]; omega)
    · exact pn _ _
    · exact pn _ _
    · exact pn _ _
    · exact PlD.bl _ _
    · exact pt
    · exact pt
    · exact pt
    · exact pl_nat _ _
    · refine PlD.lst (fun z hz => ?_) (by simp; omega)
      obtain ⟨k, _, rfl⟩ := List.mem_map.mp hz
      have := idx_len B.hues k
      have := hB.h2
      exact pl_nats (b := false) _ (by omega)
    · refine PlD.lst (fun z hz => ?_) (by rw [List.length_map]; omega)
      obtain ⟨k, _, rfl⟩ := List.mem_map.mp hz
      exact PlD.bl _ _
  have kS := S1.m_same_refl (U := U5) hpG
  rw [← e_same] at kS

  have s14 : (sIf (tNotM (tOf (eCall m_l_same [(eVar 11), (eVar 12)]))) (sRet (eC (.bl false))) sNx) [.val .urn, .val (encBook false B), .val (nat M), .val (nat L), .val (.tup (cs.map (encC false))), .val (encH false M cs), .val (encBook true B), .val (.lst (SS.map (encS false))), .val (nat q), .val (.tup (SS.map fun s => nat s.1)), .val (.tup (SS.map fun s => nat (s.2[q]?.getD 0))), .val (.lst [.bl true, encS false (beg B M), encS false la, encS false la, .tup (SS.map fun s => nat s.1), .tup (SS.map fun s => nat s.1), .tup (SS.map fun s => nat (s.2[q]?.getD 0)), .bl x, .tup ((txt M cs cs.length).map nat), .tup ((txt M cs cs.length).map nat), .tup ((txt M cs cs.length).map nat), nat L, .lst ((List.range L1).map fun k => .tup ((idx B.hues k).map nat)), .lst (SS.map fun _ => D.bl true)]), .val (.lst [.bl true, encS false (beg B M), encS false la, encS false la, .tup (SS.map fun s => nat s.1), .tup (SS.map fun s => nat s.1), .tup (SS.map fun s => nat (s.2[q]?.getD 0)), .bl x, .tup ((txt M cs cs.length).map nat), .tup ((txt M cs cs.length).map nat), .tup ((txt M cs cs.length).map nat), nat L, .lst ((List.range L1).map fun k => .tup ((idx B.hues k).map nat)), .lst (SS.map fun _ => D.bl true)]), .un, .un, .un, .un, .un, .un, .un, .un, .un, .un] U5 = .ok .nx [.val .urn, .val (encBook false B), .val (nat M), .val (nat L), .val (.tup (cs.map (encC false))), .val (encH false M cs), .val (encBook true B), .val (.lst (SS.map (encS false))), .val (nat q), .val (.tup (SS.map fun s => nat s.1)), .val (.tup (SS.map fun s => nat (s.2[q]?.getD 0))), .val (.lst [.bl true, encS false (beg B M), encS false la, encS false la, .tup (SS.map fun s => nat s.1), .tup (SS.map fun s => nat s.1), .tup (SS.map fun s => nat (s.2[q]?.getD 0)), .bl x, .tup ((txt M cs cs.length).map nat), .tup ((txt M cs cs.length).map nat), .tup ((txt M cs cs.length).map nat), nat L, .lst ((List.range L1).map fun k => .tup ((idx B.hues k).map nat)), .lst (SS.map fun _ => D.bl true)]), .val (.lst [.bl true, encS false (beg B M), encS false la, encS false la, .tup (SS.map fun s => nat s.1), .tup (SS.map fun s => nat s.1), .tup (SS.map fun s => nat (s.2[q]?.getD 0)), .bl x, .tup ((txt M cs cs.length).map nat), .tup ((txt M cs cs.length).map nat), .tup ((txt M cs cs.length).map nat), nat L, .lst ((List.range L1).map fun k => .tup ((idx B.hues k).map nat)), .lst (SS.map fun _ => D.bl true)]), .un, .un, .un, .un, .un, .un, .un, .un, .un, .un] U5 := by
    simp [-List.map_map, -List.map_const, kS]
  obtain ⟨f1, U6, hf1, e13a, ud6⟩ := take_n (n := 1048) (k := B.ans.length) ud5 (by have := hB.a1; omega) (by have := hB.a2; omega)
  have e13a : m_l_take [.urn, .int (B.ans.length : Int)] U5 = .ok (nat f1) U6 := e13a
  have hgM := fun ρ U => KRg1_n (k := M) (by omega) ρ U
  have hH0 : 0 < B.hues.length := by
    have := (List.getElem?_eq_some_iff.mp hB.bh).1
    omega
  have hH6 := hB.h2
  obtain ⟨ys, U7, hdr2, hys, ud7⟩ := lcV_draw (tg := .nm 19) (vs := [19]) (e := eCall m_l_take [(eVar 0), (eB1 lenA (.ev (eIx (.sl 1) (.ev (eC (.int 1))))))]) (ρ := [.val .urn, .val (encBook false B), .val (nat M), .val (nat L), .val (.tup (cs.map (encC false))), .val (encH false M cs), .val (encBook true B), .val (.lst (SS.map (encS false))), .val (nat q), .val (.tup (SS.map fun s => nat s.1)), .val (.tup (SS.map fun s => nat (s.2[q]?.getD 0))), .val (.lst [.bl true, encS false (beg B M), encS false la, encS false la, .tup (SS.map fun s => nat s.1), .tup (SS.map fun s => nat s.1), .tup (SS.map fun s => nat (s.2[q]?.getD 0)), .bl x, .tup ((txt M cs cs.length).map nat), .tup ((txt M cs cs.length).map nat), .tup ((txt M cs cs.length).map nat), nat L, .lst ((List.range L1).map fun k => .tup ((idx B.hues k).map nat)), .lst (SS.map fun _ => D.bl true)]), .val (.lst [.bl true, encS false (beg B M), encS false la, encS false la, .tup (SS.map fun s => nat s.1), .tup (SS.map fun s => nat s.1), .tup (SS.map fun s => nat (s.2[q]?.getD 0)), .bl x, .tup ((txt M cs cs.length).map nat), .tup ((txt M cs cs.length).map nat), .tup ((txt M cs cs.length).map nat), nat L, .lst ((List.range L1).map fun k => .tup ((idx B.hues k).map nat)), .lst (SS.map fun _ => D.bl true)]), .un, .un, .un, .un, .un, .un, .un, .un, .un, .un]) (U := U6) (ds := rgD 0 (M : Int)) nat (fun U k => Ud U (900 + k)) (fun _ y => ∃ h, y = nat h ∧ h < B.hues.length) (List.range M) (rgD_map M) (fun U k h => h.mono (by omega)) (ud6.mono (by rw [List.length_range]; omega)) (fun x9 _ U k hu => by
    obtain ⟨h, V1, hh, e1, u1⟩ := take_n (n := 900 + k) (k := B.hues.length) hu hH0 (by omega)
    refine ⟨[.val .urn, .val (encBook false B), .val (nat M), .val (nat L), .val (.tup (cs.map (encC false))), .val (encH false M cs), .val (encBook true B), .val (.lst (SS.map (encS false))), .val (nat q), .val (.tup (SS.map fun s => nat s.1)), .val (.tup (SS.map fun s => nat (s.2[q]?.getD 0))), .val (.lst [.bl true, encS false (beg B M), encS false la, encS false la, .tup (SS.map fun s => nat s.1), .tup (SS.map fun s => nat s.1), .tup (SS.map fun s => nat (s.2[q]?.getD 0)), .bl x, .tup ((txt M cs cs.length).map nat), .tup ((txt M cs cs.length).map nat), .tup ((txt M cs cs.length).map nat), nat L, .lst ((List.range L1).map fun k => .tup ((idx B.hues k).map nat)), .lst (SS.map fun _ => D.bl true)]), .val (.lst [.bl true, encS false (beg B M), encS false la, encS false la, .tup (SS.map fun s => nat s.1), .tup (SS.map fun s => nat s.1), .tup (SS.map fun s => nat (s.2[q]?.getD 0)), .bl x, .tup ((txt M cs cs.length).map nat), .tup ((txt M cs cs.length).map nat), .tup ((txt M cs cs.length).map nat), nat L, .lst ((List.range L1).map fun k => .tup ((idx B.hues k).map nat)), .lst (SS.map fun _ => D.bl true)]), .un, .un, .un, .un, .un, .un, .val (nat x9), .un, .un, .un], nat h, V1, by simp [unAll], ?_, ⟨_, rfl, hh⟩, u1⟩
    simp [x1, e1]) (by rw [List.length_range]; omega) (by simp)
  obtain ⟨hs1, rfl, hhs⟩ := hys.ex
  have hl1 : hs1.length = M := by rw [hhs.len, List.length_range]
  have hh1 : ∀ h ∈ hs1, h < B.hues.length := hhs.right (Q := fun h => h < B.hues.length) (fun _ _ h => h)
  have so1 : SOk B M (f1, hs1) := ⟨hf1, hl1, hh1⟩

  have s15 : (sSet 13 (eTup [(eCall m_l_take [(eVar 0), (eB1 lenA (.ev (eIx (.sl 1) (.ev (eC (.int 0))))))]), (eB1 tupD (.ev (oLc (iRg1 (eVar 2)) (.nm 19) [19] tYesM (eCall m_l_take [(eVar 0), (eB1 lenA (.ev (eIx (.sl 1) (.ev (eC (.int 1))))))]))))])) [.val .urn, .val (encBook false B), .val (nat M), .val (nat L), .val (.tup (cs.map (encC false))), .val (encH false M cs), .val (encBook true B), .val (.lst (SS.map (encS false))), .val (nat q), .val (.tup (SS.map fun s => nat s.1)), .val (.tup (SS.map fun s => nat (s.2[q]?.getD 0))), .val (.lst [.bl true, encS false (beg B M), encS false la, encS false la, .tup (SS.map fun s => nat s.1), .tup (SS.map fun s => nat s.1), .tup (SS.map fun s => nat (s.2[q]?.getD 0)), .bl x, .tup ((txt M cs cs.length).map nat), .tup ((txt M cs cs.length).map nat), .tup ((txt M cs cs.length).map nat), nat L, .lst ((List.range L1).map fun k => .tup ((idx B.hues k).map nat)), .lst (SS.map fun _ => D.bl true)]), .val (.lst [.bl true, encS false (beg B M), encS false la, encS false la, .tup (SS.map fun s => nat s.1), .tup (SS.map fun s => nat s.1), .tup (SS.map fun s => nat (s.2[q]?.getD 0)), .bl x, .tup ((txt M cs cs.length).map nat), .tup ((txt M cs cs.length).map nat), .tup ((txt M cs cs.length).map nat), nat L, .lst ((List.range L1).map fun k => .tup ((idx B.hues k).map nat)), .lst (SS.map fun _ => D.bl true)]), .un, .un, .un, .un, .un, .un, .un, .un, .un, .un] U5 = .ok .nx [.val .urn, .val (encBook false B), .val (nat M), .val (nat L), .val (.tup (cs.map (encC false))), .val (encH false M cs), .val (encBook true B), .val (.lst (SS.map (encS false))), .val (nat q), .val (.tup (SS.map fun s => nat s.1)), .val (.tup (SS.map fun s => nat (s.2[q]?.getD 0))), .val (.lst [.bl true, encS false (beg B M), encS false la, encS false la, .tup (SS.map fun s => nat s.1), .tup (SS.map fun s => nat s.1), .tup (SS.map fun s => nat (s.2[q]?.getD 0)), .bl x, .tup ((txt M cs cs.length).map nat), .tup ((txt M cs cs.length).map nat), .tup ((txt M cs cs.length).map nat), nat L, .lst ((List.range L1).map fun k => .tup ((idx B.hues k).map nat)), .lst (SS.map fun _ => D.bl true)]), .val (.lst [.bl true, encS false (beg B M), encS false la, encS false la, .tup (SS.map fun s => nat s.1), .tup (SS.map fun s => nat s.1), .tup (SS.map fun s => nat (s.2[q]?.getD 0)), .bl x, .tup ((txt M cs cs.length).map nat), .tup ((txt M cs cs.length).map nat), .tup ((txt M cs cs.length).map nat), nat L, .lst ((List.range L1).map fun k => .tup ((idx B.hues k).map nat)), .lst (SS.map fun _ => D.bl true)]), .val (encS false (f1, hs1)), .un, .un, .un, .un, .un, .un, .un, .un, .un] U7 := by
    simp [-List.map_map, -List.map_const, x0, e13a, hgM, hdr2]
    rfl
  obtain ⟨l1, U8, hl1b, e14, ud8⟩ := take_n (n := 899) (k := L + 1) (ud7.mono (by omega)) (by omega) (by omega)

  have s16 : (sSet 14 (eTup [(eVar 8), (eCall m_l_take [(eVar 0), (eBin addA (.sl 3) (.ev (eC (.int 1))))])])) [.val .urn, .val (encBook false B), .val (nat M), .val (nat L), .val (.tup (cs.map (encC false))), .val (encH false M cs), .val (encBook true B), .val (.lst (SS.map (encS false))), .val (nat q), .val (.tup (SS.map fun s => nat s.1)), .val (.tup (SS.map fun s => nat (s.2[q]?.getD 0))), .val (.lst [.bl true, encS false (beg B M), encS false la, encS false la, .tup (SS.map fun s => nat s.1), .tup (SS.map fun s => nat s.1), .tup (SS.map fun s => nat (s.2[q]?.getD 0)), .bl x, .tup ((txt M cs cs.length).map nat), .tup ((txt M cs cs.length).map nat), .tup ((txt M cs cs.length).map nat), nat L, .lst ((List.range L1).map fun k => .tup ((idx B.hues k).map nat)), .lst (SS.map fun _ => D.bl true)]), .val (.lst [.bl true, encS false (beg B M), encS false la, encS false la, .tup (SS.map fun s => nat s.1), .tup (SS.map fun s => nat s.1), .tup (SS.map fun s => nat (s.2[q]?.getD 0)), .bl x, .tup ((txt M cs cs.length).map nat), .tup ((txt M cs cs.length).map nat), .tup ((txt M cs cs.length).map nat), nat L, .lst ((List.range L1).map fun k => .tup ((idx B.hues k).map nat)), .lst (SS.map fun _ => D.bl true)]), .val (encS false (f1, hs1)), .un, .un, .un, .un, .un, .un, .un, .un, .un] U7 = .ok .nx [.val .urn, .val (encBook false B), .val (nat M), .val (nat L), .val (.tup (cs.map (encC false))), .val (encH false M cs), .val (encBook true B), .val (.lst (SS.map (encS false))), .val (nat q), .val (.tup (SS.map fun s => nat s.1)), .val (.tup (SS.map fun s => nat (s.2[q]?.getD 0))), .val (.lst [.bl true, encS false (beg B M), encS false la, encS false la, .tup (SS.map fun s => nat s.1), .tup (SS.map fun s => nat s.1), .tup (SS.map fun s => nat (s.2[q]?.getD 0)), .bl x, .tup ((txt M cs cs.length).map nat), .tup ((txt M cs cs.length).map nat), .tup ((txt M cs cs.length).map nat), nat L, .lst ((List.range L1).map fun k => .tup ((idx B.hues k).map nat)), .lst (SS.map fun _ => D.bl true)]), .val (.lst [.bl true, encS false (beg B M), encS false la, encS false la, .tup (SS.map fun s => nat s.1), .tup (SS.map fun s => nat s.1), .tup (SS.map fun s => nat (s.2[q]?.getD 0)), .bl x, .tup ((txt M cs cs.length).map nat), .tup ((txt M cs cs.length).map nat), .tup ((txt M cs cs.length).map nat), nat L, .lst ((List.range L1).map fun k => .tup ((idx B.hues k).map nat)), .lst (SS.map fun _ => D.bl true)]), .val (encS false (f1, hs1)), .val (encC false (q, l1)), .un, .un, .un, .un, .un, .un, .un, .un] U8 := by
    simp [-List.map_map, -List.map_const, e14, encC]
  obtain ⟨nr, U9, hnr, e15, ud9⟩ := take_n (n := 898) (k := M) ud8 (by omega) (by omega)

  have s17 : (sSet 15 (eCall m_l_take [(eVar 0), (eVar 2)])) [.val .urn, .val (encBook false B), .val (nat M), .val (nat L), .val (.tup (cs.map (encC false))), .val (encH false M cs), .val (encBook true B), .val (.lst (SS.map (encS false))), .val (nat q), .val (.tup (SS.map fun s => nat s.1)), .val (.tup (SS.map fun s => nat (s.2[q]?.getD 0))), .val (.lst [.bl true, encS false (beg B M), encS false la, encS false la, .tup (SS.map fun s => nat s.1), .tup (SS.map fun s => nat s.1), .tup (SS.map fun s => nat (s.2[q]?.getD 0)), .bl x, .tup ((txt M cs cs.length).map nat), .tup ((txt M cs cs.length).map nat), .tup ((txt M cs cs.length).map nat), nat L, .lst ((List.range L1).map fun k => .tup ((idx B.hues k).map nat)), .lst (SS.map fun _ => D.bl true)]), .val (.lst [.bl true, encS false (beg B M), encS false la, encS false la, .tup (SS.map fun s => nat s.1), .tup (SS.map fun s => nat s.1), .tup (SS.map fun s => nat (s.2[q]?.getD 0)), .bl x, .tup ((txt M cs cs.length).map nat), .tup ((txt M cs cs.length).map nat), .tup ((txt M cs cs.length).map nat), nat L, .lst ((List.range L1).map fun k => .tup ((idx B.hues k).map nat)), .lst (SS.map fun _ => D.bl true)]), .val (encS false (f1, hs1)), .val (encC false (q, l1)), .un, .un, .un, .un, .un, .un, .un, .un] U8 = .ok .nx [.val .urn, .val (encBook false B), .val (nat M), .val (nat L), .val (.tup (cs.map (encC false))), .val (encH false M cs), .val (encBook true B), .val (.lst (SS.map (encS false))), .val (nat q), .val (.tup (SS.map fun s => nat s.1)), .val (.tup (SS.map fun s => nat (s.2[q]?.getD 0))), .val (.lst [.bl true, encS false (beg B M), encS false la, encS false la, .tup (SS.map fun s => nat s.1), .tup (SS.map fun s => nat s.1), .tup (SS.map fun s => nat (s.2[q]?.getD 0)), .bl x, .tup ((txt M cs cs.length).map nat), .tup ((txt M cs cs.length).map nat), .tup ((txt M cs cs.length).map nat), nat L, .lst ((List.range L1).map fun k => .tup ((idx B.hues k).map nat)), .lst (SS.map fun _ => D.bl true)]), .val (.lst [.bl true, encS false (beg B M), encS false la, encS false la, .tup (SS.map fun s => nat s.1), .tup (SS.map fun s => nat s.1), .tup (SS.map fun s => nat (s.2[q]?.getD 0)), .bl x, .tup ((txt M cs cs.length).map nat), .tup ((txt M cs cs.length).map nat), .tup ((txt M cs cs.length).map nat), nat L, .lst ((List.range L1).map fun k => .tup ((idx B.hues k).map nat)), .lst (SS.map fun _ => D.bl true)]), .val (encS false (f1, hs1)), .val (encC false (q, l1)), .val (nat nr), .un, .un, .un, .un, .un, .un, .un] U9 := by
    simp [-List.map_map, -List.map_const, e15]
  obtain ⟨ys, U10, hdr3, hys, ud10⟩ := lcV_draw (tg := .tp [22, 20]) (vs := [22, 20]) (e := eIf (tOf (eBin inDn (.sl 22) (.ev (eTup [(eVar 8), (eVar 15)])))) (eVar 20) (eCall m_l_take [(eVar 0), (eB1 lenA (.ev (eIx (.sl 1) (.ev (eC (.int 1))))))])) (ρ := [.val .urn, .val (encBook false B), .val (nat M), .val (nat L), .val (.tup (cs.map (encC false))), .val (encH false M cs), .val (encBook true B), .val (.lst (SS.map (encS false))), .val (nat q), .val (.tup (SS.map fun s => nat s.1)), .val (.tup (SS.map fun s => nat (s.2[q]?.getD 0))), .val (.lst [.bl true, encS false (beg B M), encS false la, encS false la, .tup (SS.map fun s => nat s.1), .tup (SS.map fun s => nat s.1), .tup (SS.map fun s => nat (s.2[q]?.getD 0)), .bl x, .tup ((txt M cs cs.length).map nat), .tup ((txt M cs cs.length).map nat), .tup ((txt M cs cs.length).map nat), nat L, .lst ((List.range L1).map fun k => .tup ((idx B.hues k).map nat)), .lst (SS.map fun _ => D.bl true)]), .val (.lst [.bl true, encS false (beg B M), encS false la, encS false la, .tup (SS.map fun s => nat s.1), .tup (SS.map fun s => nat s.1), .tup (SS.map fun s => nat (s.2[q]?.getD 0)), .bl x, .tup ((txt M cs cs.length).map nat), .tup ((txt M cs cs.length).map nat), .tup ((txt M cs cs.length).map nat), nat L, .lst ((List.range L1).map fun k => .tup ((idx B.hues k).map nat)), .lst (SS.map fun _ => D.bl true)]), .val (encS false (f1, hs1)), .val (encC false (q, l1)), .val (nat nr), .un, .un, .un, .un, .un, .un, .un]) (U := U9) (ds := enD 0 (hs1.map nat)) (fun p : Nat × Nat => D.tup [nat p.2, nat p.1]) (fun U k => Ud U (700 + k)) (fun p y => ∃ h, y = nat h ∧ (h < B.hues.length ∧ (p.2 = q ∨ p.2 = nr → h = p.1))) (hs1.zipIdx 0) (enD_map nat hs1 0) (fun U k h => h.mono (by omega)) (ud9.mono (by simp; omega)) (fun p hp U k hu => by
    obtain ⟨w, i⟩ := p
    obtain ⟨h, V1, hh, e1, u1⟩ := take_n (n := 700 + k) (k := B.hues.length) hu hH0 (by omega)
    have hw : w < B.hues.length := by
      have := List.mem_zipIdx hp
      obtain ⟨_, h2, h3⟩ := this
      rw [h3]
      exact hh1 _ (List.getElem_mem _)
    by_cases hi : i = q ∨ i = nr
    · refine ⟨[.val .urn, .val (encBook false B), .val (nat M), .val (nat L), .val (.tup (cs.map (encC false))), .val (encH false M cs), .val (encBook true B), .val (.lst (SS.map (encS false))), .val (nat q), .val (.tup (SS.map fun s => nat s.1)), .val (.tup (SS.map fun s => nat (s.2[q]?.getD 0))), .val (.lst [.bl true, encS false (beg B M), encS false la, encS false la, .tup (SS.map fun s => nat s.1), .tup (SS.map fun s => nat s.1), .tup (SS.map fun s => nat (s.2[q]?.getD 0)), .bl x, .tup ((txt M cs cs.length).map nat), .tup ((txt M cs cs.length).map nat), .tup ((txt M cs cs.length).map nat), nat L, .lst ((List.range L1).map fun k => .tup ((idx B.hues k).map nat)), .lst (SS.map fun _ => D.bl true)]), .val (.lst [.bl true, encS false (beg B M), encS false la, encS false la, .tup (SS.map fun s => nat s.1), .tup (SS.map fun s => nat s.1), .tup (SS.map fun s => nat (s.2[q]?.getD 0)), .bl x, .tup ((txt M cs cs.length).map nat), .tup ((txt M cs cs.length).map nat), .tup ((txt M cs cs.length).map nat), nat L, .lst ((List.range L1).map fun k => .tup ((idx B.hues k).map nat)), .lst (SS.map fun _ => D.bl true)]), .val (encS false (f1, hs1)), .val (encC false (q, l1)), .val (nat nr), .un, .un, .un, .un, .val (nat w), .un, .val (nat i)], nat w, U, by simp [unAll], ?_, ⟨_, rfl, hw, fun _ => rfl⟩, hu.mono (by omega)⟩
      have e2 : inDn (nat i) (.tup [nat q, nat nr]) = some (.bl true) := by
        rw [inD_pair]
        rcases hi with hi | hi <;> simp [hi]
      simp [e2]
    · refine ⟨[.val .urn, .val (encBook false B), .val (nat M), .val (nat L), .val (.tup (cs.map (encC false))), .val (encH false M cs), .val (encBook true B), .val (.lst (SS.map (encS false))), .val (nat q), .val (.tup (SS.map fun s => nat s.1)), .val (.tup (SS.map fun s => nat (s.2[q]?.getD 0))), .val (.lst [.bl true, encS false (beg B M), encS false la, encS false la, .tup (SS.map fun s => nat s.1), .tup (SS.map fun s => nat s.1), .tup (SS.map fun s => nat (s.2[q]?.getD 0)), .bl x, .tup ((txt M cs cs.length).map nat), .tup ((txt M cs cs.length).map nat), .tup ((txt M cs cs.length).map nat), nat L, .lst ((List.range L1).map fun k => .tup ((idx B.hues k).map nat)), .lst (SS.map fun _ => D.bl true)]), .val (.lst [.bl true, encS false (beg B M), encS false la, encS false la, .tup (SS.map fun s => nat s.1), .tup (SS.map fun s => nat s.1), .tup (SS.map fun s => nat (s.2[q]?.getD 0)), .bl x, .tup ((txt M cs cs.length).map nat), .tup ((txt M cs cs.length).map nat), .tup ((txt M cs cs.length).map nat), nat L, .lst ((List.range L1).map fun k => .tup ((idx B.hues k).map nat)), .lst (SS.map fun _ => D.bl true)]), .val (encS false (f1, hs1)), .val (encC false (q, l1)), .val (nat nr), .un, .un, .un, .un, .val (nat w), .un, .val (nat i)], nat h, V1, by simp [unAll], ?_, ⟨_, rfl, hh, fun z => absurd z hi⟩, u1⟩
      have e2 : inDn (nat i) (.tup [nat q, nat nr]) = some (.bl false) := by
        rw [inD_pair]
        have z1 : ¬ (q : Int) = i := by omega
        have z2 : ¬ (nr : Int) = i := by omega
        simp [z1, z2]
      simp [e2, x1, e1]) (by simp; omega) (by simp)
  obtain ⟨hs2, rfl, hhs2⟩ := hys.ex
  have hl2 : hs2.length = M := by rw [hhs2.len, List.length_zipIdx, hl1]
  have hh2 : ∀ h ∈ hs2, h < B.hues.length := hhs2.right (Q := fun h => h < B.hues.length) (fun _ _ h => h.1)
  have so2 : SOk B M (f1, hs2) := ⟨hf1, hl2, hh2⟩
  have hsame2 : ∀ i, (i = q ∨ i = nr) → hs2[i]? = hs1[i]? := fun i hi => by
    have hiM : i < hs1.length := by rw [hl1]; rcases hi with e | e <;> omega
    obtain ⟨y, h1, _, h2⟩ := All2.get (i := i) (x := (hs1[i], i)) hhs2 (by rw [List.getElem?_zipIdx, List.getElem?_eq_getElem hiM]; simp)
    rw [h1, h2 hi, List.getElem?_eq_getElem hiM]

  have y0 : ixD (encS false (f1, hs1)) (.int 0) = some (nat f1) := rfl
  have y1 : ixD (encS false (f1, hs1)) (.int 1) = some (nats false hs1) := rfl
  have s18 : (sSet 16 (eTup [(eIx (.sl 13) (.ev (eC (.int 0)))), (eB1 tupD (.ev (oLc (iEn (eIx (.sl 13) (.ev (eC (.int 1))))) (.tp [22, 20]) [22, 20] tYesM (eIf (tOf (eBin inDn (.sl 22) (.ev (eTup [(eVar 8), (eVar 15)])))) (eVar 20) (eCall m_l_take [(eVar 0), (eB1 lenA (.ev (eIx (.sl 1) (.ev (eC (.int 1))))))])))))])) [.val .urn, .val (encBook false B), .val (nat M), .val (nat L), .val (.tup (cs.map (encC false))), .val (encH false M cs), .val (encBook true B), .val (.lst (SS.map (encS false))), .val (nat q), .val (.tup (SS.map fun s => nat s.1)), .val (.tup (SS.map fun s => nat (s.2[q]?.getD 0))), .val (.lst [.bl true, encS false (beg B M), encS false la, encS false la, .tup (SS.map fun s => nat s.1), .tup (SS.map fun s => nat s.1), .tup (SS.map fun s => nat (s.2[q]?.getD 0)), .bl x, .tup ((txt M cs cs.length).map nat), .tup ((txt M cs cs.length).map nat), .tup ((txt M cs cs.length).map nat), nat L, .lst ((List.range L1).map fun k => .tup ((idx B.hues k).map nat)), .lst (SS.map fun _ => D.bl true)]), .val (.lst [.bl true, encS false (beg B M), encS false la, encS false la, .tup (SS.map fun s => nat s.1), .tup (SS.map fun s => nat s.1), .tup (SS.map fun s => nat (s.2[q]?.getD 0)), .bl x, .tup ((txt M cs cs.length).map nat), .tup ((txt M cs cs.length).map nat), .tup ((txt M cs cs.length).map nat), nat L, .lst ((List.range L1).map fun k => .tup ((idx B.hues k).map nat)), .lst (SS.map fun _ => D.bl true)]), .val (encS false (f1, hs1)), .val (encC false (q, l1)), .val (nat nr), .un, .un, .un, .un, .un, .un, .un] U9 = .ok .nx [.val .urn, .val (encBook false B), .val (nat M), .val (nat L), .val (.tup (cs.map (encC false))), .val (encH false M cs), .val (encBook true B), .val (.lst (SS.map (encS false))), .val (nat q), .val (.tup (SS.map fun s => nat s.1)), .val (.tup (SS.map fun s => nat (s.2[q]?.getD 0))), .val (.lst [.bl true, encS false (beg B M), encS false la, encS false la, .tup (SS.map fun s => nat s.1), .tup (SS.map fun s => nat s.1), .tup (SS.map fun s => nat (s.2[q]?.getD 0)), .bl x, .tup ((txt M cs cs.length).map nat), .tup ((txt M cs cs.length).map nat), .tup ((txt M cs cs.length).map nat), nat L, .lst ((List.range L1).map fun k => .tup ((idx B.hues k).map nat)), .lst (SS.map fun _ => D.bl true)]), .val (.lst [.bl true, encS false (beg B M), encS false la, encS false la, .tup (SS.map fun s => nat s.1), .tup (SS.map fun s => nat s.1), .tup (SS.map fun s => nat (s.2[q]?.getD 0)), .bl x, .tup ((txt M cs cs.length).map nat), .tup ((txt M cs cs.length).map nat), .tup ((txt M cs cs.length).map nat), nat L, .lst ((List.range L1).map fun k => .tup ((idx B.hues k).map nat)), .lst (SS.map fun _ => D.bl true)]), .val (encS false (f1, hs1)), .val (encC false (q, l1)), .val (nat nr), .val (encS false (f1, hs2)), .un, .un, .un, .un, .un, .un] U10 := by
    simp [-List.map_map, -List.map_const, hdr3, y0, y1]
    rfl
  have co : COk L M (q, l1) := ⟨hq, by show l1 ≤ L; omega⟩
  have t1 := turned_ok hB hM2 so1 co false false false U10
  have t2 := turned_ok hB hM2 so2 co true true true U10
  have t3 := lists_s (s := (f1, hs2)) (by show hs2.length ≤ 1000; omega) U10
  have t4 : lstD (encC false (q, l1)) = some (encC true (q, l1)) := rfl

  have s19 : (sPar [.nm 17, .nm 18] [((eCall m_turned [(eVar 1), (eVar 13), (eVar 14)]), false), ((eCall m_turned [(eVar 6), (eCall m_l_lists [(eVar 16)]), (eB1 lstD (.sl 14))]), false)]) [.val .urn, .val (encBook false B), .val (nat M), .val (nat L), .val (.tup (cs.map (encC false))), .val (encH false M cs), .val (encBook true B), .val (.lst (SS.map (encS false))), .val (nat q), .val (.tup (SS.map fun s => nat s.1)), .val (.tup (SS.map fun s => nat (s.2[q]?.getD 0))), .val (.lst [.bl true, encS false (beg B M), encS false la, encS false la, .tup (SS.map fun s => nat s.1), .tup (SS.map fun s => nat s.1), .tup (SS.map fun s => nat (s.2[q]?.getD 0)), .bl x, .tup ((txt M cs cs.length).map nat), .tup ((txt M cs cs.length).map nat), .tup ((txt M cs cs.length).map nat), nat L, .lst ((List.range L1).map fun k => .tup ((idx B.hues k).map nat)), .lst (SS.map fun _ => D.bl true)]), .val (.lst [.bl true, encS false (beg B M), encS false la, encS false la, .tup (SS.map fun s => nat s.1), .tup (SS.map fun s => nat s.1), .tup (SS.map fun s => nat (s.2[q]?.getD 0)), .bl x, .tup ((txt M cs cs.length).map nat), .tup ((txt M cs cs.length).map nat), .tup ((txt M cs cs.length).map nat), nat L, .lst ((List.range L1).map fun k => .tup ((idx B.hues k).map nat)), .lst (SS.map fun _ => D.bl true)]), .val (encS false (f1, hs1)), .val (encC false (q, l1)), .val (nat nr), .val (encS false (f1, hs2)), .un, .un, .un, .un, .un, .un] U10 = .ok .nx [.val .urn, .val (encBook false B), .val (nat M), .val (nat L), .val (.tup (cs.map (encC false))), .val (encH false M cs), .val (encBook true B), .val (.lst (SS.map (encS false))), .val (nat q), .val (.tup (SS.map fun s => nat s.1)), .val (.tup (SS.map fun s => nat (s.2[q]?.getD 0))), .val (.lst [.bl true, encS false (beg B M), encS false la, encS false la, .tup (SS.map fun s => nat s.1), .tup (SS.map fun s => nat s.1), .tup (SS.map fun s => nat (s.2[q]?.getD 0)), .bl x, .tup ((txt M cs cs.length).map nat), .tup ((txt M cs cs.length).map nat), .tup ((txt M cs cs.length).map nat), nat L, .lst ((List.range L1).map fun k => .tup ((idx B.hues k).map nat)), .lst (SS.map fun _ => D.bl true)]), .val (.lst [.bl true, encS false (beg B M), encS false la, encS false la, .tup (SS.map fun s => nat s.1), .tup (SS.map fun s => nat s.1), .tup (SS.map fun s => nat (s.2[q]?.getD 0)), .bl x, .tup ((txt M cs cs.length).map nat), .tup ((txt M cs cs.length).map nat), .tup ((txt M cs cs.length).map nat), nat L, .lst ((List.range L1).map fun k => .tup ((idx B.hues k).map nat)), .lst (SS.map fun _ => D.bl true)]), .val (encS false (f1, hs1)), .val (encC false (q, l1)), .val (nat nr), .val (encS false (f1, hs2)), .val (encS false (turn B (f1, hs1) (q, l1))), .val (encS false (turn B (f1, hs2) (q, l1))), .un, .un, .un, .un] U10 := by
    simp [-List.map_map, -List.map_const, t1, t2, t3, t4]
  obtain ⟨r1, A1, _, tt1, sok1⟩ := at_of hB hM2 so1 co
  obtain ⟨r2, A2, _, tt2, sok2⟩ := at_of hB hM2 so2 co
  have v1 := l_turned_ok' hB hM2 so1 co U10
  have v2 := l_turned_ok' hB hM2 so2 co U10
  have hpT : PlD 11 (.lst [encS false (turn B (f1, hs1) (q, l1)), encS false (turn B (f1, hs2) (q, l1))]) := by
    refine PlD.lst (fun y hy => ?_) (by simp)
    simp only [List.mem_cons, List.not_mem_nil, or_false] at hy
    rcases hy with e | e <;> rw [e]
    · exact pl_s _ _ _ (by rw [sok1.len]; omega)
    · exact pl_s _ _ _ (by rw [sok2.len]; omega)
  have kT := S1.m_same_refl (U := U10) hpT
  rw [← e_same] at kT

  have s20 : (sIf (tNotM (tOf (eCall m_l_same [(oLst [(eVar 17), (eVar 18)]), (oLst [(eCall m_l_turned [(eVar 1), (eVar 13), (eVar 14)]), (eCall m_l_turned [(eVar 1), (eVar 16), (eVar 14)])])]))) (sRet (eC (.bl false))) sNx) [.val .urn, .val (encBook false B), .val (nat M), .val (nat L), .val (.tup (cs.map (encC false))), .val (encH false M cs), .val (encBook true B), .val (.lst (SS.map (encS false))), .val (nat q), .val (.tup (SS.map fun s => nat s.1)), .val (.tup (SS.map fun s => nat (s.2[q]?.getD 0))), .val (.lst [.bl true, encS false (beg B M), encS false la, encS false la, .tup (SS.map fun s => nat s.1), .tup (SS.map fun s => nat s.1), .tup (SS.map fun s => nat (s.2[q]?.getD 0)), .bl x, .tup ((txt M cs cs.length).map nat), .tup ((txt M cs cs.length).map nat), .tup ((txt M cs cs.length).map nat), nat L, .lst ((List.range L1).map fun k => .tup ((idx B.hues k).map nat)), .lst (SS.map fun _ => D.bl true)]), .val (.lst [.bl true, encS false (beg B M), encS false la, encS false la, .tup (SS.map fun s => nat s.1), .tup (SS.map fun s => nat s.1), .tup (SS.map fun s => nat (s.2[q]?.getD 0)), .bl x, .tup ((txt M cs cs.length).map nat), .tup ((txt M cs cs.length).map nat), .tup ((txt M cs cs.length).map nat), nat L, .lst ((List.range L1).map fun k => .tup ((idx B.hues k).map nat)), .lst (SS.map fun _ => D.bl true)]), .val (encS false (f1, hs1)), .val (encC false (q, l1)), .val (nat nr), .val (encS false (f1, hs2)), .val (encS false (turn B (f1, hs1) (q, l1))), .val (encS false (turn B (f1, hs2) (q, l1))), .un, .un, .un, .un] U10 = .ok .nx [.val .urn, .val (encBook false B), .val (nat M), .val (nat L), .val (.tup (cs.map (encC false))), .val (encH false M cs), .val (encBook true B), .val (.lst (SS.map (encS false))), .val (nat q), .val (.tup (SS.map fun s => nat s.1)), .val (.tup (SS.map fun s => nat (s.2[q]?.getD 0))), .val (.lst [.bl true, encS false (beg B M), encS false la, encS false la, .tup (SS.map fun s => nat s.1), .tup (SS.map fun s => nat s.1), .tup (SS.map fun s => nat (s.2[q]?.getD 0)), .bl x, .tup ((txt M cs cs.length).map nat), .tup ((txt M cs cs.length).map nat), .tup ((txt M cs cs.length).map nat), nat L, .lst ((List.range L1).map fun k => .tup ((idx B.hues k).map nat)), .lst (SS.map fun _ => D.bl true)]), .val (.lst [.bl true, encS false (beg B M), encS false la, encS false la, .tup (SS.map fun s => nat s.1), .tup (SS.map fun s => nat s.1), .tup (SS.map fun s => nat (s.2[q]?.getD 0)), .bl x, .tup ((txt M cs cs.length).map nat), .tup ((txt M cs cs.length).map nat), .tup ((txt M cs cs.length).map nat), nat L, .lst ((List.range L1).map fun k => .tup ((idx B.hues k).map nat)), .lst (SS.map fun _ => D.bl true)]), .val (encS false (f1, hs1)), .val (encC false (q, l1)), .val (nat nr), .val (encS false (f1, hs2)), .val (encS false (turn B (f1, hs1) (q, l1))), .val (encS false (turn B (f1, hs2) (q, l1))), .un, .un, .un, .un] U10 := by
    simp [-List.map_map, -List.map_const, v1, v2, kT]
  have hrow : rowAt B (f1, hs2) (q, l1) = rowAt B (f1, hs1) (q, l1) := by
    unfold rowAt
    show (B.rows[f1]?).bind (fun ls => (hs2[q]?).bind _) = (B.rows[f1]?).bind (fun ls => (hs1[q]?).bind _)
    rw [hsame2 q (.inl rfl)]
  have hturn : (turn B (f1, hs2) (q, l1)).1 = (turn B (f1, hs1) (q, l1)).1 ∧ (turn B (f1, hs2) (q, l1)).2[nr]? = (turn B (f1, hs1) (q, l1)).2[nr]? := by
    have hr12 : r2 = r1 := by
      have q1 : rowAt B (f1, hs1) (q, l1) = some r1 := row_some hB hM2 so1 co A1
      have q2 : rowAt B (f1, hs2) (q, l1) = some r2 := row_some hB hM2 so2 co A2
      rw [hrow, q1] at q2
      exact (Option.some.inj q2).symm
    subst hr12
    rw [tt1, tt2]
    refine ⟨rfl, ?_⟩
    have n1 : nr < hs1.length := by omega
    show (turnL r2 q hs2)[nr]? = (turnL r2 q hs1)[nr]?
    rw [turnL_get (by show q < hs1.length; omega) (List.getElem?_eq_getElem n1), turnL_get (by show q < hs2.length; omega) ((hsame2 nr (.inr rfl)).trans (List.getElem?_eq_getElem n1))]
  obtain ⟨w, hw⟩ : ∃ w, (turn B (f1, hs1) (q, l1)).2[nr]? = some w := ⟨_, List.getElem?_eq_getElem (by rw [sok1.len]; exact hnr)⟩
  have hw2 := hturn.2.trans hw
  have hlast : eqD (.tup [nat (turn B (f1, hs1) (q, l1)).1, nat w]) (.tup [nat (turn B (f1, hs1) (q, l1)).1, nat w]) = some (.bl true) := by
    rw [eqD_pair]
    simp
  have s21 : (sRet (eBin eqD (.ev (eTup [(eIx (.sl 17) (.ev (eC (.int 0)))), (eIx (.ev (eIx (.sl 17) (.ev (eC (.int 1))))) (.sl 15))])) (.ev (eTup [(eIx (.sl 18) (.ev (eC (.int 0)))), (eIx (.ev (eIx (.sl 18) (.ev (eC (.int 1))))) (.sl 15))])))) [.val .urn, .val (encBook false B), .val (nat M), .val (nat L), .val (.tup (cs.map (encC false))), .val (encH false M cs), .val (encBook true B), .val (.lst (SS.map (encS false))), .val (nat q), .val (.tup (SS.map fun s => nat s.1)), .val (.tup (SS.map fun s => nat (s.2[q]?.getD 0))), .val (.lst [.bl true, encS false (beg B M), encS false la, encS false la, .tup (SS.map fun s => nat s.1), .tup (SS.map fun s => nat s.1), .tup (SS.map fun s => nat (s.2[q]?.getD 0)), .bl x, .tup ((txt M cs cs.length).map nat), .tup ((txt M cs cs.length).map nat), .tup ((txt M cs cs.length).map nat), nat L, .lst ((List.range L1).map fun k => .tup ((idx B.hues k).map nat)), .lst (SS.map fun _ => D.bl true)]), .val (.lst [.bl true, encS false (beg B M), encS false la, encS false la, .tup (SS.map fun s => nat s.1), .tup (SS.map fun s => nat s.1), .tup (SS.map fun s => nat (s.2[q]?.getD 0)), .bl x, .tup ((txt M cs cs.length).map nat), .tup ((txt M cs cs.length).map nat), .tup ((txt M cs cs.length).map nat), nat L, .lst ((List.range L1).map fun k => .tup ((idx B.hues k).map nat)), .lst (SS.map fun _ => D.bl true)]), .val (encS false (f1, hs1)), .val (encC false (q, l1)), .val (nat nr), .val (encS false (f1, hs2)), .val (encS false (turn B (f1, hs1) (q, l1))), .val (encS false (turn B (f1, hs2) (q, l1))), .un, .un, .un, .un] U10 = .ok (.ret (.bl true)) [.val .urn, .val (encBook false B), .val (nat M), .val (nat L), .val (.tup (cs.map (encC false))), .val (encH false M cs), .val (encBook true B), .val (.lst (SS.map (encS false))), .val (nat q), .val (.tup (SS.map fun s => nat s.1)), .val (.tup (SS.map fun s => nat (s.2[q]?.getD 0))), .val (.lst [.bl true, encS false (beg B M), encS false la, encS false la, .tup (SS.map fun s => nat s.1), .tup (SS.map fun s => nat s.1), .tup (SS.map fun s => nat (s.2[q]?.getD 0)), .bl x, .tup ((txt M cs cs.length).map nat), .tup ((txt M cs cs.length).map nat), .tup ((txt M cs cs.length).map nat), nat L, .lst ((List.range L1).map fun k => .tup ((idx B.hues k).map nat)), .lst (SS.map fun _ => D.bl true)]), .val (.lst [.bl true, encS false (beg B M), encS false la, encS false la, .tup (SS.map fun s => nat s.1), .tup (SS.map fun s => nat s.1), .tup (SS.map fun s => nat (s.2[q]?.getD 0)), .bl x, .tup ((txt M cs cs.length).map nat), .tup ((txt M cs cs.length).map nat), .tup ((txt M cs cs.length).map nat), nat L, .lst ((List.range L1).map fun k => .tup ((idx B.hues k).map nat)), .lst (SS.map fun _ => D.bl true)]), .val (encS false (f1, hs1)), .val (encC false (q, l1)), .val (nat nr), .val (encS false (f1, hs2)), .val (encS false (turn B (f1, hs1) (q, l1))), .val (encS false (turn B (f1, hs2) (q, l1))), .un, .un, .un, .un] U10 := by
    have z1 : encS false (turn B (f1, hs1) (q, l1)) = .tup [nat (turn B (f1, hs1) (q, l1)).1, nats false (turn B (f1, hs1) (q, l1)).2] := rfl
    have z2 : encS false (turn B (f1, hs2) (q, l1)) = .tup [nat (turn B (f1, hs1) (q, l1)).1, nats false (turn B (f1, hs2) (q, l1)).2] := by rw [← hturn.1]; rfl
    rw [z1, z2]
    simp [hw, hw2, hlast]
  refine ⟨U10, ?_⟩
  unfold m_l_right b_l_right
  rw [mkFn_ap]
  rw [show ([D.urn].map Sl.val ++ List.replicate (23 - [D.urn].length) Sl.un : Rho) = [.val .urn, .un, .un, .un, .un, .un, .un, .un, .un, .un, .un, .un, .un, .un, .un, .un, .un, .un, .un, .un, .un, .un, .un] from rfl]

  rw [sSeq_ap, s0, R.bind_ok, KSeq_nx]
  rw [sSeq_ap, s1, R.bind_ok, KSeq_nx]
  rw [sSeq_ap, s2, R.bind_ok, KSeq_nx]
  rw [sSeq_ap, s3, R.bind_ok, KSeq_nx]
  rw [sSeq_ap, s4, R.bind_ok, KSeq_nx]
  rw [sSeq_ap, s5, R.bind_ok, KSeq_nx]
  rw [sSeq_ap, s6, R.bind_ok, KSeq_nx]
  rw [sSeq_ap, s7, R.bind_ok, KSeq_nx]
  rw [sSeq_ap, s8, R.bind_ok, KSeq_nx]
  rw [sSeq_ap, s9, R.bind_ok, KSeq_nx]
  rw [sSeq_ap, s10, R.bind_ok, KSeq_nx]
  rw [sSeq_ap, s11, R.bind_ok, KSeq_nx]
  rw [sSeq_ap, s12, R.bind_ok, KSeq_nx]
  rw [sSeq_ap, s13, R.bind_ok, KSeq_nx]
  rw [sSeq_ap, s14, R.bind_ok, KSeq_nx]
  rw [sSeq_ap, s15, R.bind_ok, KSeq_nx]
  rw [sSeq_ap, s16, R.bind_ok, KSeq_nx]
  rw [sSeq_ap, s17, R.bind_ok, KSeq_nx]
  rw [sSeq_ap, s18, R.bind_ok, KSeq_nx]
  rw [sSeq_ap, s19, R.bind_ok, KSeq_nx]
  rw [sSeq_ap, s20, R.bind_ok, KSeq_nx]
  rw [s21]
  rfl
end K11

set_option maxRecDepth 100000
namespace K11
open PySem PySem.Spec PyProof.Rows L2 VL
theorem law_holds (K : PySem.W.Frag) (ns : List Int) (hl : ns.length ≤ 63) (U : Urn) : ∃ U', m_law K [.scr K ns] U = .ok (.bl true) U' := law_of right_ok K ns hl U
end K11

open PySem PySem.W PyProof.Rows
set_option maxHeartbeats 0 in
theorem PySem.Challenge.cw_placehues_k11_whole_histories_played_holds : PySem.Challenge.rw_placehues_k11_whole_histories_played.Holds := by
  w_on; o_law; k_head; (case hw => w_witness2)
  k_fill
  refine L2.walk_of (l := PySem.Challenge.rw_placehues_k11_whole_histories_played) (n := 63) (k := 14) (x := "_law_script") (CX := fun w => L2.CX PySem.Challenge.pw_placehues_k11_whole_histories_played w) (sp := fun w => VL.spV (K11.m_law _)) rfl (by decide) rfl ⟨rfl, by decide, by decide⟩ (fun w h Y => PySem.W.kIn_of Y) ?F (fun w H a ns hl _ hS => VL.spV_of hS fun U => K11.law_holds _ ns hl U) ?X
  case X => exact fun w H s e s' ⟨_, _, _, _, _, _, _, _, _, _, _, _, z⟩ => z
  case F =>
    intro w mg fa h KX G hmg
    have T : VL.Bi mg := by
      refine' ⟨PySem.W.mg_none_of KX G ?z0, PySem.W.mg_none_of KX G ?z1, PySem.W.mg_none_of KX G ?z2, PySem.W.mg_none_of KX G ?z3, PySem.W.mg_none_of KX G ?z4, PySem.W.mg_none_of KX G ?z5, PySem.W.mg_none_of KX G ?z6, PySem.W.mg_none_of KX G ?z7, PySem.W.mg_none_of KX G ?z8, PySem.W.mg_none_of KX G ?z9, PySem.W.mg_none_of KX G ?z10, PySem.W.mg_none_of KX G ?z11, PySem.W.mg_none_of KX G ?z12, PySem.W.mg_none_of KX G ?z13, PySem.W.mg_none_of KX G ?z14, PySem.W.mg_none_of KX G ?z15, PySem.W.mg_none_of KX G ?z16, PySem.W.mg_none_of KX G ?z17, PySem.W.mg_none_of KX G ?z18⟩
      (case z0 => k_is); (case z1 => k_is); (case z2 => k_is); (case z3 => k_is); (case z4 => k_is); (case z5 => k_is); (case z6 => k_is); (case z7 => k_is); (case z8 => k_is); (case z9 => k_is); (case z10 => k_is); (case z11 => k_is); (case z12 => k_is); (case z13 => k_is); (case z14 => k_is); (case z15 => k_is); (case z16 => k_is); (case z17 => k_is); (case z18 => k_is)
    have H_is_number : VL.HF (L2.KOf KX) mg "is_number" ["thing"] K11.s_is_number := by
      refine' VL.hf_mk KX G ?a ?l ?c ?k (fun F => F.binds (ps := ["thing"]) fun _ _ _ _ _ _ us hl => match us, hl with | [_], _ => rfl)
      (case a => k_is); (case l => k_is); (case c => k_is); (case k => k_is)
    have H_is_tuple_of : VL.HF (L2.KOf KX) mg "is_tuple_of" ["thing", "many"] K11.s_is_tuple_of := by
      refine' VL.hf_mk KX G ?a ?l ?c ?k (fun F => F.binds (ps := ["thing", "many"]) fun _ _ _ _ _ _ us hl => match us, hl with | [_, _], _ => rfl)
      (case a => k_is); (case l => k_is); (case c => k_is); (case k => k_is)
    have H_is_below : VL.HF (L2.KOf KX) mg "is_below" ["thing", "many"] K11.s_is_below := by
      refine' VL.hf_mk KX G ?a ?l ?c ?k (fun F => F.binds (ps := ["thing", "many"]) fun _ _ _ _ _ _ us hl => match us, hl with | [_, _], _ => rfl)
      (case a => k_is); (case l => k_is); (case c => k_is); (case k => k_is)
    have H_is_map : VL.HF (L2.KOf KX) mg "is_map" ["hues", "thing"] K11.s_is_map := by
      refine' VL.hf_mk KX G ?a ?l ?c ?k (fun F => F.binds (ps := ["hues", "thing"]) fun _ _ _ _ _ _ us hl => match us, hl with | [_, _], _ => rfl)
      (case a => k_is); (case l => k_is); (case c => k_is); (case k => k_is)
    have H_is_row : VL.HF (L2.KOf KX) mg "is_row" ["flags", "hues", "letter", "thing"] K11.s_is_row := by
      refine' VL.hf_mk KX G ?a ?l ?c ?k (fun F => F.binds (ps := ["flags", "hues", "letter", "thing"]) fun _ _ _ _ _ _ us hl => match us, hl with | [_, _, _, _], _ => rfl)
      (case a => k_is); (case l => k_is); (case c => k_is); (case k => k_is)
    have H_is_of_tuples : VL.HF (L2.KOf KX) mg "is_of_tuples" ["thing", "many"] K11.s_is_of_tuples := by
      refine' VL.hf_mk KX G ?a ?l ?c ?k (fun F => F.binds (ps := ["thing", "many"]) fun _ _ _ _ _ _ us hl => match us, hl with | [_, _], _ => rfl)
      (case a => k_is); (case l => k_is); (case c => k_is); (case k => k_is)
    have H_letters_told : VL.HF (L2.KOf KX) mg "letters_told" ["rows"] K11.s_letters_told := by
      refine' VL.hf_mk KX G ?a ?l ?c ?k (fun F => F.binds (ps := ["rows"]) fun _ _ _ _ _ _ us hl => match us, hl with | [_], _ => rfl)
      (case a => k_is); (case l => k_is); (case c => k_is); (case k => k_is)
    have H_is_book : VL.HF (L2.KOf KX) mg "is_book" ["thing"] K11.s_is_book := by
      refine' VL.hf_mk KX G ?a ?l ?c ?k (fun F => F.binds (ps := ["thing"]) fun _ _ _ _ _ _ us hl => match us, hl with | [_], _ => rfl)
      (case a => k_is); (case l => k_is); (case c => k_is); (case k => k_is)
    have H_is_stand : VL.HF (L2.KOf KX) mg "is_stand" ["book", "thing"] K11.s_is_stand := by
      refine' VL.hf_mk KX G ?a ?l ?c ?k (fun F => F.binds (ps := ["book", "thing"]) fun _ _ _ _ _ _ us hl => match us, hl with | [_, _], _ => rfl)
      (case a => k_is); (case l => k_is); (case c => k_is); (case k => k_is)
    have H_letters_of : VL.HF (L2.KOf KX) mg "letters_of" ["book"] K11.s_letters_of := by
      refine' VL.hf_mk KX G ?a ?l ?c ?k (fun F => F.binds (ps := ["book"]) fun _ _ _ _ _ _ us hl => match us, hl with | [_], _ => rfl)
      (case a => k_is); (case l => k_is); (case c => k_is); (case k => k_is)
    have H_hues_for : VL.HF (L2.KOf KX) mg "hues_for" ["book", "letter"] K11.s_hues_for := by
      refine' VL.hf_mk KX G ?a ?l ?c ?k (fun F => F.binds (ps := ["book", "letter"]) fun _ _ _ _ _ _ us hl => match us, hl with | [_, _], _ => rfl)
      (case a => k_is); (case l => k_is); (case c => k_is); (case k => k_is)
    have H_begun : VL.HF (L2.KOf KX) mg "begun" ["book", "many"] K11.s_begun := by
      refine' VL.hf_mk KX G ?a ?l ?c ?k (fun F => F.binds (ps := ["book", "many"]) fun _ _ _ _ _ _ us hl => match us, hl with | [_, _], _ => rfl)
      (case a => k_is); (case l => k_is); (case c => k_is); (case k => k_is)
    have H_turned_to : VL.HF (L2.KOf KX) mg "turned_to" ["book", "stand", "change"] K11.s_turned_to := by
      refine' VL.hf_mk KX G ?a ?l ?c ?k (fun F => F.binds (ps := ["book", "stand", "change"]) fun _ _ _ _ _ _ us hl => match us, hl with | [_, _, _], _ => rfl)
      (case a => k_is); (case l => k_is); (case c => k_is); (case k => k_is)
    have H_turned : VL.HF (L2.KOf KX) mg "turned" ["book", "stand", "change"] K11.s_turned := by
      refine' VL.hf_mk KX G ?a ?l ?c ?k (fun F => F.binds (ps := ["book", "stand", "change"]) fun _ _ _ _ _ _ us hl => match us, hl with | [_, _, _], _ => rfl)
      (case a => k_is); (case l => k_is); (case c => k_is); (case k => k_is)
    have H_stands_along : VL.HF (L2.KOf KX) mg "stands_along" ["book", "history"] K11.s_stands_along := by
      refine' VL.hf_mk KX G ?a ?l ?c ?k (fun F => F.binds (ps := ["book", "history"]) fun _ _ _ _ _ _ us hl => match us, hl with | [_, _], _ => rfl)
      (case a => k_is); (case l => k_is); (case c => k_is); (case k => k_is)
    have H_stand_behind : VL.HF (L2.KOf KX) mg "stand_behind" ["book", "history"] K11.s_stand_behind := by
      refine' VL.hf_mk KX G ?a ?l ?c ?k (fun F => F.binds (ps := ["book", "history"]) fun _ _ _ _ _ _ us hl => match us, hl with | [_, _], _ => rfl)
      (case a => k_is); (case l => k_is); (case c => k_is); (case k => k_is)
    have H_answer : VL.HF (L2.KOf KX) mg "answer" ["book", "history"] K11.s_answer := by
      refine' VL.hf_mk KX G ?a ?l ?c ?k (fun F => F.binds (ps := ["book", "history"]) fun _ _ _ _ _ _ us hl => match us, hl with | [_, _], _ => rfl)
      (case a => k_is); (case l => k_is); (case c => k_is); (case k => k_is)
    have H_flags_along : VL.HF (L2.KOf KX) mg "flags_along" ["book", "history"] K11.s_flags_along := by
      refine' VL.hf_mk KX G ?a ?l ?c ?k (fun F => F.binds (ps := ["book", "history"]) fun _ _ _ _ _ _ us hl => match us, hl with | [_, _], _ => rfl)
      (case a => k_is); (case l => k_is); (case c => k_is); (case k => k_is)
    have H_hues_along : VL.HF (L2.KOf KX) mg "hues_along" ["book", "history", "place"] K11.s_hues_along := by
      refine' VL.hf_mk KX G ?a ?l ?c ?k (fun F => F.binds (ps := ["book", "history", "place"]) fun _ _ _ _ _ _ us hl => match us, hl with | [_, _, _], _ => rfl)
      (case a => k_is); (case l => k_is); (case c => k_is); (case k => k_is)
    have H_text_of : VL.HF (L2.KOf KX) mg "text_of" ["book", "stand"] K11.s_text_of := by
      refine' VL.hf_mk KX G ?a ?l ?c ?k (fun F => F.binds (ps := ["book", "stand"]) fun _ _ _ _ _ _ us hl => match us, hl with | [_, _], _ => rfl)
      (case a => k_is); (case l => k_is); (case c => k_is); (case k => k_is)
    have H_text_behind : VL.HF (L2.KOf KX) mg "text_behind" ["history"] K11.s_text_behind := by
      refine' VL.hf_mk KX G ?a ?l ?c ?k (fun F => F.binds (ps := ["history"]) fun _ _ _ _ _ _ us hl => match us, hl with | [_], _ => rfl)
      (case a => k_is); (case l => k_is); (case c => k_is); (case k => k_is)
    have H_l_box : VL.HF (L2.KOf KX) mg "_law_box" ["_law_script", "_law_k"] K11.s_l_box := by
      refine' VL.hf_mk KX G ?a ?l ?c ?k (fun F => F.binds (ps := ["_law_script", "_law_k"]) fun _ _ _ _ _ _ us hl => match us, hl with | [_, _], _ => rfl)
      (case a => k_is); (case l => k_is); (case c => k_is); (case k => k_is)
    have H_l_take : VL.HF (L2.KOf KX) mg "_law_take" ["_law_urn", "_law_low_so"] K11.s_l_take := by
      refine' VL.hf_mk KX G ?a ?l ?c ?k (fun F => F.binds (ps := ["_law_urn", "_law_low_so"]) fun _ _ _ _ _ _ us hl => match us, hl with | [_, _], _ => rfl)
      (case a => k_is); (case l => k_is); (case c => k_is); (case k => k_is)
    have H_l_cells : VL.HF (L2.KOf KX) mg "_law_cells" ["_law_script", "_law_top"] K11.s_l_cells := by
      refine' VL.hf_mk KX G ?a ?l ?c ?k (fun F => F.binds (ps := ["_law_script", "_law_top"]) fun _ _ _ _ _ _ us hl => match us, hl with | [_, _], _ => rfl)
      (case a => k_is); (case l => k_is); (case c => k_is); (case k => k_is)
    have H_l_lists : VL.HF (L2.KOf KX) mg "_law_lists" ["_law_matter"] K11.s_l_lists := by
      refine' VL.hf_mk KX G ?a ?l ?c ?k (fun F => F.binds (ps := ["_law_matter"]) fun _ _ _ _ _ _ us hl => match us, hl with | [_], _ => rfl)
      (case a => k_is); (case l => k_is); (case c => k_is); (case k => k_is)
    have H_l_same : VL.HF (L2.KOf KX) mg "_law_same" ["_law_got", "_law_goal"] K11.s_l_same := by
      refine' VL.hf_mk KX G ?a ?l ?c ?k (fun F => F.binds (ps := ["_law_got", "_law_goal"]) fun _ _ _ _ _ _ us hl => match us, hl with | [_, _], _ => rfl)
      (case a => k_is); (case l => k_is); (case c => k_is); (case k => k_is)
    have H_l_pick : VL.HF (L2.KOf KX) mg "_law_pick" ["_law_urn", "_law_goods", "_law_count"] K11.s_l_pick := by
      refine' VL.hf_mk KX G ?a ?l ?c ?k (fun F => F.binds (ps := ["_law_urn", "_law_goods", "_law_count"]) fun _ _ _ _ _ _ us hl => match us, hl with | [_, _, _], _ => rfl)
      (case a => k_is); (case l => k_is); (case c => k_is); (case k => k_is)
    have H_l_of : VL.HF (L2.KOf KX) mg "_law_of" ["_law_urn", "_law_goods"] K11.s_l_of := by
      refine' VL.hf_mk KX G ?a ?l ?c ?k (fun F => F.binds (ps := ["_law_urn", "_law_goods"]) fun _ _ _ _ _ _ us hl => match us, hl with | [_, _], _ => rfl)
      (case a => k_is); (case l => k_is); (case c => k_is); (case k => k_is)
    have H_l_own_map : VL.HF (L2.KOf KX) mg "_law_own_map" ["_law_urn", "_law_hues"] K11.s_l_own_map := by
      refine' VL.hf_mk KX G ?a ?l ?c ?k (fun F => F.binds (ps := ["_law_urn", "_law_hues"]) fun _ _ _ _ _ _ us hl => match us, hl with | [_, _], _ => rfl)
      (case a => k_is); (case l => k_is); (case c => k_is); (case k => k_is)
    have H_l_book : VL.HF (L2.KOf KX) mg "_law_book" ["_law_urn"] K11.s_l_book := by
      refine' VL.hf_mk KX G ?a ?l ?c ?k (fun F => F.binds (ps := ["_law_urn"]) fun _ _ _ _ _ _ us hl => match us, hl with | [_], _ => rfl)
      (case a => k_is); (case l => k_is); (case c => k_is); (case k => k_is)
    have H_l_turned : VL.HF (L2.KOf KX) mg "_law_turned" ["_law_book_here", "_law_stand", "_law_change"] K11.s_l_turned := by
      refine' VL.hf_mk KX G ?a ?l ?c ?k (fun F => F.binds (ps := ["_law_book_here", "_law_stand", "_law_change"]) fun _ _ _ _ _ _ us hl => match us, hl with | [_, _, _], _ => rfl)
      (case a => k_is); (case l => k_is); (case c => k_is); (case k => k_is)
    have H_l_shown : VL.HF (L2.KOf KX) mg "_law_shown" [] K11.s_l_shown := by
      refine' VL.hf_mk KX G ?a ?l ?c ?k (fun F => F.binds (ps := []) fun _ _ _ _ _ _ us hl => match us, hl with | [], _ => rfl)
      (case a => k_is); (case l => k_is); (case c => k_is); (case k => k_is)
    have H_l_played : VL.HF (L2.KOf KX) mg "_law_played" ["_law_book_here", "_law_many", "_law_changes"] K11.s_l_played := by
      refine' VL.hf_mk KX G ?a ?l ?c ?k (fun F => F.binds (ps := ["_law_book_here", "_law_many", "_law_changes"]) fun _ _ _ _ _ _ us hl => match us, hl with | [_, _, _], _ => rfl)
      (case a => k_is); (case l => k_is); (case c => k_is); (case k => k_is)
    have H_l_text : VL.HF (L2.KOf KX) mg "_law_text" ["_law_many", "_law_changes"] K11.s_l_text := by
      refine' VL.hf_mk KX G ?a ?l ?c ?k (fun F => F.binds (ps := ["_law_many", "_law_changes"]) fun _ _ _ _ _ _ us hl => match us, hl with | [_, _], _ => rfl)
      (case a => k_is); (case l => k_is); (case c => k_is); (case k => k_is)
    have H_l_right : VL.HF (L2.KOf KX) mg "_law_right" ["_law_urn"] K11.s_l_right := by
      refine' VL.hf_mk KX G ?a ?l ?c ?k (fun F => F.binds (ps := ["_law_urn"]) fun _ _ _ _ _ _ us hl => match us, hl with | [_], _ => rfl)
      (case a => k_is); (case l => k_is); (case c => k_is); (case k => k_is)
    have H_l_by_hand_right : VL.HF (L2.KOf KX) mg "_law_by_hand_right" [] K11.s_l_by_hand_right := by
      refine' VL.hf_mk KX G ?a ?l ?c ?k (fun F => F.binds (ps := []) fun _ _ _ _ _ _ us hl => match us, hl with | [], _ => rfl)
      (case a => k_is); (case l => k_is); (case c => k_is); (case k => k_is)
    have H_law : VL.HF (L2.KOf KX) mg "law" ["_law_script"] K11.s_law := by
      refine' VL.hf_mk KX G ?a ?l ?c ?k (fun F => F.binds (ps := ["_law_script"]) fun _ _ _ _ _ _ us hl => match us, hl with | [_], _ => rfl)
      (case a => k_is); (case l => k_is); (case c => k_is); (case k => k_is)
    obtain ⟨fd, h1, h2⟩ := K11.law_top (P := PySem.Challenge.rw_placehues_k11_whole_histories_played.prog) (w := w) T H_is_number H_is_tuple_of H_is_below H_is_map H_is_row H_is_of_tuples H_letters_told H_is_book H_is_stand H_letters_of H_hues_for H_begun H_turned_to H_turned H_stands_along H_stand_behind H_answer H_flags_along H_hues_along H_text_of H_text_behind H_l_box H_l_take H_l_cells H_l_lists H_l_same H_l_pick H_l_of H_l_own_map H_l_book H_l_turned H_l_shown H_l_played H_l_text H_l_right H_l_by_hand_right H_law hmg
    exact ⟨fd, h1, fun base _ _ => h2 base⟩
