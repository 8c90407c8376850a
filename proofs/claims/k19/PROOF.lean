import PyProof.Rows.All
import HandS.ForMost
import HandS.ForExc
import HandS.IsInst
import HandS.ExcInit
import HandS.ExcField
import HandS.ExcIs
import HandS.TryMany
import HandS.TryOnly
import HandS.CallSlots
import HandS.WordsExc
import HandS.TupAny
import HandS.TupLe
import HandS.Codes
import HandS.Zip
import HandS.More
import HandS.Style
import PyProof.ListStr
import PyProof.StrOps2
import HandS.Text
import HandS.TupMul
import HandS.MakeKwOnly
import HandS.Defaults
import HandS.WideBits
import KE.GoesEnum
import HandS.Star
import HandS.SortInts
import HandS.Conv
import KE.SortData
import KE.KExcIs
import HandS.Property
import HandS.Small
import KE.DataCmp
import HandS.Deep
import PyProof.Rows.InDataRows
import HandS.Flow
import KE.KStrBytes
import PyProof.Rows.StrJoinMade
import PySem.Challenge.RW_neverboxes_k19_whole_fillings
section
set_option Elab.async false
set_option linter.all false
set_option maxRecDepth 100000
/-! ND1: plain data D, what of the abstract heap stands for it, environments with owned objects. -/
namespace ND
open PySem PySem.Spec PyProof.Rows L2

/-- plain data -/
inductive D where
  | non | bl (b : Bool) | int (i : Int) | str (x : Str)
  | tup (ds : List D) | lst (ds : List D)
  | dic (ks : List (Key × D))
  /-- .. whose keys are tuples -/
  | dct (ks : List (List Key × D))
  | ins (t : Nat) (fs : List (Str × D))
  | exc (t : Nat) (fs : List (Str × D))
  /-- an exception that is held as a value; a class of the program's own -/
  | xv (t : Nat) (fs : List (Str × D))
  | cls (t : Nat)
  | opq (v : V)
  deriving Inhabited

/-- the law's bag: the numbers, the next one's place, what is left of a great one, the seed, the count -/
structure Bag where
  ns : List Int
  i : Int
  g : Int
  s : Int
  n : Int
  /-- or an object that is changed: its class, its attributes -/
  me : Option (Nat × List (Str × D)) := none
  deriving Inhabited
/-- a slot: nothing is known; shared data; an object that no one else holds; the bag -/
inductive SD where
  | un | sh (d : D) | ow (d : D) | bag
  deriving Inhabited
structure En where
  b : Bag
  sl : List SD

/-- what a run gives: a thing, an exception, or nothing is said -/
inductive Out (α : Type) where
  | ok (a : α)
  | err (x : D) (ρ : En)
  | no
namespace Out
def bind {α β : Type} : Out α → (α → Out β) → Out β
  | .ok a, k => k a
  | .err x ρ, _ => .err x ρ
  | .no, _ => .no
@[simp] theorem bind_ok {α β : Type} (a : α) (k : α → Out β) : Out.bind (.ok a) k = k a := rfl
@[simp] theorem bind_err {α β : Type} (x : D) (ρ : En) (k : α → Out β) : Out.bind (.err x ρ) k = .err x ρ := rfl
@[simp] theorem bind_no {α β : Type} (k : α → Out β) : Out.bind .no k = .no := rfl
instance : Monad Out where
  pure := .ok
  bind := Out.bind
theorem bind_assoc {α β γ : Type} (m : Out α) (k : α → Out β) (l : β → Out γ) : (m.bind k).bind l = m.bind fun a => (k a).bind l := by
  cases m <;> rfl
theorem bind_eq_ok {α β : Type} {m : Out α} {k : α → Out β} {b : β} (h : m.bind k = .ok b) : ∃ a, m = .ok a ∧ k a = .ok b := by
  cases m with
  | ok a => exact ⟨a, rfl, h⟩
  | err x ρ => cases h
  | no => cases h
end Out

/-- the classes' addresses, by number -/
structure Tg where
  cl : Nat → Addr
  /-- the exception that is handled: where it is, its dict, its class -/
  cx : Option (Addr × Addr × Nat) := none
abbrev AP1 := Addr → Prop

section
variable (T : Tg)
mutual
inductive Rep (N : AP1) (H : Hp) : V → D → Prop
  | non : Rep N H .non .non
  | bl (b : Bool) : Rep N H (.bl b) (.bl b)
  | int (i : Int) : Rep N H (.int i) (.int i)
  | str (x : Str) : Rep N H (.str x) (.str x)
  | opq (v : V) : Rep N H v (.opq v)
  | ref {a : Addr} {o : HO} {d : D} : ¬ N a → H a = some o → Top N H o d → Rep N H (.ref a) d
  | exc {a d : Addr} {t : Nat} {fv : List (Str × V)} {fs : List (Str × D)} : ¬ N a → ¬ N d → H a = some (exo a (T.cl t) (some d)) → H d = some (exd d fv) → RepF N H fv fs → Rep N H (.ref a) (.xv t fs)
  | cls (t : Nat) : Rep N H (.ref (T.cl t)) (.cls t)
  | cau {a d : Addr} {t : Nat} {fv : List (Str × V)} {fs : List (Str × D)} : T.cx = some (a, d, t) → ¬ N d → H d = some (.xd fv) → RepF N H fv fs → Rep N H (.ref a) (.exc t fs)
inductive Top (N : AP1) (H : Hp) : HO → D → Prop
  | tup {vs : List V} {ds : List D} : Reps N H vs ds → Top N H (.tup vs) (.tup ds)
  | lst {vs : List V} {ds : List D} : Reps N H vs ds → Top N H (.lst vs) (.lst ds)
  | dic {kvs : List (Key × V)} {ks : List (Key × D)} : RepK N H kvs ks → Top N H (.dK kvs) (.dic ks)
  | dct {kvs : List (List Key × V)} {ks : List (List Key × D)} : RepT N H kvs ks → Top N H (.dT kvs) (.dct ks)
  | ins {t : Nat} {dx : Addr} {fs : List (Str × V)} {gs : List (Str × D)} : RepF N H fs gs → Top N H (.ins (T.cl t) dx fs) (.ins t gs)
inductive Reps (N : AP1) (H : Hp) : List V → List D → Prop
  | nil : Reps N H [] []
  | cons {v : V} {vs : List V} {d : D} {ds : List D} : Rep N H v d → Reps N H vs ds → Reps N H (v :: vs) (d :: ds)
inductive RepK (N : AP1) (H : Hp) : List (Key × V) → List (Key × D) → Prop
  | nil : RepK N H [] []
  | cons {k : Key} {v : V} {vs : List (Key × V)} {d : D} {ds : List (Key × D)} : Rep N H v d → RepK N H vs ds → RepK N H ((k, v) :: vs) ((k, d) :: ds)
inductive RepT (N : AP1) (H : Hp) : List (List Key × V) → List (List Key × D) → Prop
  | nil : RepT N H [] []
  | cons {k : List Key} {v : V} {vs : List (List Key × V)} {d : D} {ds : List (List Key × D)} : Rep N H v d → RepT N H vs ds → RepT N H ((k, v) :: vs) ((k, d) :: ds)
inductive RepF (N : AP1) (H : Hp) : List (Str × V) → List (Str × D) → Prop
  | nil : RepF N H [] []
  | cons {k : Str} {v : V} {vs : List (Str × V)} {d : D} {ds : List (Str × D)} : Rep N H v d → RepF N H vs ds → RepF N H ((k, v) :: vs) ((k, d) :: ds)
end
end

section
variable {T : Tg} {N N' : AP1} {H H' : Hp}
mutual
theorem Rep.move (h : ∀ a o, ¬ N a → H a = some o → ¬ N' a ∧ H' a = some o) : ∀ {v : V} {d : D}, Rep T N H v d → Rep T N' H' v d
  | _, _, .non => .non
  | _, _, .bl b => .bl b
  | _, _, .int i => .int i
  | _, _, .str x => .str x
  | _, _, .opq v => .opq v
  | _, _, .ref n e t => .ref (h _ _ n e).1 (h _ _ n e).2 (Top.move h t)
  | _, _, .exc n1 n2 e1 e2 r => .exc (h _ _ n1 e1).1 (h _ _ n2 e2).1 (h _ _ n1 e1).2 (h _ _ n2 e2).2 (RepF.move h r)
  | _, _, .cls t => .cls t
  | _, _, .cau c n e r => .cau c (h _ _ n e).1 (h _ _ n e).2 (RepF.move h r)
theorem Top.move (h : ∀ a o, ¬ N a → H a = some o → ¬ N' a ∧ H' a = some o) : ∀ {o : HO} {d : D}, Top T N H o d → Top T N' H' o d
  | _, _, .tup r => .tup (Reps.move h r)
  | _, _, .lst r => .lst (Reps.move h r)
  | _, _, .dic r => .dic (RepK.move h r)
  | _, _, .dct r => .dct (RepT.move h r)
  | _, _, .ins r => .ins (RepF.move h r)
theorem Reps.move (h : ∀ a o, ¬ N a → H a = some o → ¬ N' a ∧ H' a = some o) : ∀ {vs : List V} {ds : List D}, Reps T N H vs ds → Reps T N' H' vs ds
  | _, _, .nil => .nil
  | _, _, .cons r s => .cons (Rep.move h r) (Reps.move h s)
theorem RepK.move (h : ∀ a o, ¬ N a → H a = some o → ¬ N' a ∧ H' a = some o) : ∀ {vs : List (Key × V)} {ds : List (Key × D)}, RepK T N H vs ds → RepK T N' H' vs ds
  | _, _, .nil => .nil
  | _, _, .cons r s => .cons (Rep.move h r) (RepK.move h s)
theorem RepT.move (h : ∀ a o, ¬ N a → H a = some o → ¬ N' a ∧ H' a = some o) : ∀ {vs : List (List Key × V)} {ds : List (List Key × D)}, RepT T N H vs ds → RepT T N' H' vs ds
  | _, _, .nil => .nil
  | _, _, .cons r s => .cons (Rep.move h r) (RepT.move h s)
theorem RepF.move (h : ∀ a o, ¬ N a → H a = some o → ¬ N' a ∧ H' a = some o) : ∀ {vs : List (Str × V)} {ds : List (Str × D)}, RepF T N H vs ds → RepF T N' H' vs ds
  | _, _, .nil => .nil
  | _, _, .cons r s => .cons (Rep.move h r) (RepF.move h s)
end
theorem Reps.length : ∀ {vs : List V} {ds : List D}, Reps T N H vs ds → vs.length = ds.length
  | _, _, .nil => rfl
  | _, _, .cons _ r => by simp [Reps.length r]
theorem Reps.app : ∀ {vs ws : List V} {ds es : List D}, Reps T N H vs ds → Reps T N H ws es → Reps T N H (vs ++ ws) (ds ++ es)
  | _, _, _, _, .nil, s => s
  | _, _, _, _, .cons r q, s => .cons r (Reps.app q s)
theorem Reps.get : ∀ {vs : List V} {ds : List D} {i : Nat} {d : D}, Reps T N H vs ds → ds[i]? = some d → ∃ v, vs[i]? = some v ∧ Rep T N H v d
  | _, _, i, d, .nil, e => by simp at e
  | _, _, 0, d, .cons r _, e => by
    simp at e; subst e; exact ⟨_, rfl, r⟩
  | _, _, i + 1, d, .cons _ q, e => by
    obtain ⟨v, h1, h2⟩ := Reps.get (i := i) q (by simpa using e)
    exact ⟨v, by simpa using h1, h2⟩
theorem Reps.getV : ∀ {vs : List V} {ds : List D} {i : Nat} {v : V}, Reps T N H vs ds → vs[i]? = some v → ∃ d, ds[i]? = some d ∧ Rep T N H v d
  | _, _, i, d, .nil, e => by simp at e
  | _, _, 0, d, .cons r _, e => by
    simp at e; subst e; exact ⟨_, rfl, r⟩
  | _, _, i + 1, d, .cons _ q, e => by
    obtain ⟨v, h1, h2⟩ := Reps.getV (i := i) q (by simpa using e)
    exact ⟨v, by simpa using h1, h2⟩
theorem Reps.set {v : V} {d : D} (r : Rep T N H v d) : ∀ {vs : List V} {ds : List D} (i : Nat), Reps T N H vs ds → Reps T N H (vs.set i v) (ds.set i d)
  | _, _, _, .nil => .nil
  | _, _, 0, .cons _ q => .cons r q
  | _, _, i + 1, .cons x q => .cons x (Reps.set r i q)
theorem Reps.take : ∀ {vs : List V} {ds : List D} (n : Nat), Reps T N H vs ds → Reps T N H (vs.take n) (ds.take n)
  | _, _, 0, _ => .nil
  | _, _, _ + 1, .nil => .nil
  | _, _, n + 1, .cons r q => .cons r (Reps.take n q)
theorem Reps.drop : ∀ {vs : List V} {ds : List D} (n : Nat), Reps T N H vs ds → Reps T N H (vs.drop n) (ds.drop n)
  | _, _, 0, r => r
  | _, _, _ + 1, .nil => .nil
  | _, _, n + 1, .cons _ q => Reps.drop n q
theorem Reps.rev : ∀ {vs : List V} {ds : List D}, Reps T N H vs ds → Reps T N H vs.reverse ds.reverse
  | _, _, .nil => .nil
  | _, _, .cons r q => by
    simp only [List.reverse_cons]
    exact (Reps.rev q).app (.cons r .nil)
theorem Reps.rep {vs : List V} {ds : List D} (r : Reps T N H vs ds) : ∀ k : Nat, Reps T N H (List.replicate k vs).flatten (List.replicate k ds).flatten
  | 0 => .nil
  | k + 1 => by
    simp only [List.replicate_succ, List.flatten_cons]
    exact r.app (Reps.rep r k)
theorem Rep.int_inv {v : V} {i : Int} (r : Rep T N H v (.int i)) : v = .int i := by
  cases r with
  | int => rfl
  | ref _ _ t => cases t
theorem Rep.bl_inv {v : V} {i : Bool} (r : Rep T N H v (.bl i)) : v = .bl i := by
  cases r with
  | bl => rfl
  | ref _ _ t => cases t
theorem Rep.str_inv {v : V} {i : Str} (r : Rep T N H v (.str i)) : v = .str i := by
  cases r with
  | str => rfl
  | ref _ _ t => cases t
theorem Rep.non_inv {v : V} (r : Rep T N H v .non) : v = .non := by
  cases r with
  | non => rfl
  | ref _ _ t => cases t
theorem Rep.opq_inv {v u : V} (r : Rep T N H v (.opq u)) : v = u := by
  cases r with
  | opq => rfl
  | ref _ _ t => cases t
theorem Rep.tup_inv {v : V} {ds : List D} (r : Rep T N H v (.tup ds)) : ∃ a vs, v = .ref a ∧ ¬ N a ∧ H a = some (.tup vs) ∧ Reps T N H vs ds := by
  cases r with
  | ref n e t => cases t with | tup q => exact ⟨_, _, rfl, n, e, q⟩
theorem Rep.lst_inv {v : V} {ds : List D} (r : Rep T N H v (.lst ds)) : ∃ a vs, v = .ref a ∧ ¬ N a ∧ H a = some (.lst vs) ∧ Reps T N H vs ds := by
  cases r with
  | ref n e t => cases t with | lst q => exact ⟨_, _, rfl, n, e, q⟩
theorem Rep.dic_inv {v : V} {ds : List (Key × D)} (r : Rep T N H v (.dic ds)) : ∃ a vs, v = .ref a ∧ ¬ N a ∧ H a = some (.dK vs) ∧ RepK T N H vs ds := by
  cases r with
  | ref n e t => cases t with | dic q => exact ⟨_, _, rfl, n, e, q⟩
theorem Rep.ins_inv {v : V} {t : Nat} {gs : List (Str × D)} (r : Rep T N H v (.ins t gs)) : ∃ a dx fs, v = .ref a ∧ ¬ N a ∧ H a = some (.ins (T.cl t) dx fs) ∧ RepF T N H fs gs := by
  cases r with
  | ref n e t => cases t with | ins q => exact ⟨_, _, _, rfl, n, e, q⟩
end

/-- what a piece of a run leaves: what it may not write stays; what is set apart later was set apart or is new -/
structure Stp (N W : AP1) (H : Hp) (N' W' : AP1) (H' : Hp) : Prop where
  keep : ∀ b x, H b = some x → ¬ W b → H' b = some x
  nN : ∀ a, N' a → N a ∨ H a = none
  nW : ∀ a, W' a → W a ∨ H a = none
  kN : ∀ a, N a → ¬ W a → H a ≠ none → N' a
  al : ∀ a, H a ≠ none → H' a ≠ none
theorem Stp.refl (N W : AP1) (H : Hp) : Stp N W H N W H := ⟨fun _ _ h _ => h, fun _ h => .inl h, fun _ h => .inl h, fun _ h _ _ => h, fun _ h => h⟩
theorem Stp.trans {N W N1 W1 N2 W2 : AP1} {H H1 H2 : Hp} (s : Stp N W H N1 W1 H1) (t : Stp N1 W1 H1 N2 W2 H2) : Stp N W H N2 W2 H2 where
  keep := fun b x e nw => t.keep b x (s.keep b x e nw) fun w => by
    rcases s.nW b w with h | h
    · exact nw h
    · rw [h] at e; cases e
  nN := fun a h => by
    rcases t.nN a h with h | h
    · exact s.nN a h
    · refine .inr ?_
      cases q : H a with
      | none => rfl
      | some o => exact absurd h (s.al a (by rw [q]; intro z; cases z))
  nW := fun a h => by
    rcases t.nW a h with h | h
    · exact s.nW a h
    · refine .inr ?_
      cases q : H a with
      | none => rfl
      | some o => exact absurd h (s.al a (by rw [q]; intro z; cases z))
  kN := fun a n nw e => t.kN a (s.kN a n nw e) (fun w => by
    rcases s.nW a w with h | h
    · exact nw h
    · exact e h) (s.al a e)
  al := fun a e => t.al a (s.al a e)

/-- the fixed things of a def's run: the classes, the bag's place, the heap and what was set apart at its entry -/
structure Cn where
  T : Tg
  bg : Option Addr
  bl : Addr
  H0 : Hp
  N0 : AP1

structure BagAt (T : Tg) (N : AP1) (H : Hp) (a l : Addr) (b : Bag) : Prop where
  apart : N a
  at_ : (b.me = none ∧ ¬ N l ∧ H l = some (.lst (b.ns.map V.int)) ∧ H a = some (.lst [.ref l, .int b.i, .int b.g, .int b.s, .int b.n])) ∨
    ∃ (t : Nat) (fs : List (Str × D)) (dx : Addr) (fv : List (Str × V)), b.me = some (t, fs) ∧ H a = some (.ins (T.cl t) dx fv) ∧ RepF T N H fv fs
theorem BagAt.law {T : Tg} {N : AP1} {H : Hp} {a l : Addr} {b : Bag} (x : BagAt T N H a l b) (h : b.me = none) : N a ∧ ¬ N l ∧ H l = some (.lst (b.ns.map V.int)) ∧ H a = some (.lst [.ref l, .int b.i, .int b.g, .int b.s, .int b.n]) := by
  rcases x.at_ with ⟨_, h1⟩ | ⟨t, fs, dx, fv, h1, _⟩
  · exact ⟨x.apart, h1⟩
  · rw [h] at h1; cases h1
theorem BagAt.obj {T : Tg} {N : AP1} {H : Hp} {a l : Addr} {b : Bag} {t : Nat} {fs : List (Str × D)} (x : BagAt T N H a l b) (h : b.me = some (t, fs)) : ∃ (dx : Addr) (fv : List (Str × V)), H a = some (.ins (T.cl t) dx fv) ∧ RepF T N H fv fs := by
  rcases x.at_ with ⟨h1, _⟩ | ⟨t', fs', dx, fv, h1, h2⟩
  · rw [h] at h1; cases h1
  · rw [h] at h1; cases h1; exact ⟨dx, fv, h2⟩
theorem BagAt.ne {T : Tg} {N : AP1} {H : Hp} {a l : Addr} {b : Bag} (x : BagAt T N H a l b) : H a ≠ none := by
  rcases x.at_ with ⟨_, _, _, h1⟩ | ⟨t, fs, dx, fv, _, h1, _⟩ <;> rw [h1] <;> intro z <;> cases z
theorem BagAt.mv {T : Tg} {N N' : AP1} {H H' : Hp} {a l : Addr} {b : Bag} (x : BagAt T N H a l b) (mv : ∀ b o, ¬ N b → H b = some o → ¬ N' b ∧ H' b = some o) (ha : N' a) (hH : ∀ o, H a = some o → H' a = some o) : BagAt T N' H' a l b := by
  rcases x.at_ with ⟨h0, h1, h2, h3⟩ | ⟨t, fs, dx, fv, h0, h1, h2⟩
  · exact ⟨ha, .inl ⟨h0, (mv _ _ h1 h2).1, (mv _ _ h1 h2).2, hH _ h3⟩⟩
  · exact ⟨ha, .inr ⟨t, fs, dx, fv, h0, hH _ h1, h2.move mv⟩⟩

structure ER (c : Cn) (N W : AP1) (H : Hp) (σ : L2.St) (ρ : En) : Prop where
  keep : ∀ b x, c.H0 b = some x → c.bg ≠ some b → H b = some x
  n0 : ∀ a, c.N0 a → c.H0 a ≠ none
  sub : ∀ a, c.N0 a → N a
  new : ∀ a, N a → c.N0 a ∨ c.H0 a = none
  all : ∀ a, N a → H a ≠ none
  wn : ∀ a, W a → N a
  wnew : ∀ a, W a → c.bg = some a ∨ c.H0 a = none
  bag : ∀ a, c.bg = some a → W a ∧ c.H0 a ≠ none ∧ BagAt c.T N H a c.bl ρ.b
  len : σ.length = ρ.sl.length
  sh : ∀ (i : Nat) (d : D), ρ.sl[i]? = some (.sh d) → ∃ (v : V), σ[i]? = some (some v) ∧ Rep c.T N H v d
  ow : ∀ (i : Nat) (d : D), ρ.sl[i]? = some (.ow d) → ∃ (a : Addr) (o : HO), σ[i]? = some (some (V.ref a)) ∧ W a ∧ c.bg ≠ some a ∧ H a = some o ∧ Top c.T N H o d
  inj : ∀ (i j : Nat) (di dj : D) (a : Addr), ρ.sl[i]? = some (.ow di) → ρ.sl[j]? = some (.ow dj) → σ[i]? = some (some (V.ref a)) → σ[j]? = some (some (V.ref a)) → i = j
  bs : ∀ (i : Nat), ρ.sl[i]? = some .bag → ∃ (a : Addr), c.bg = some a ∧ σ[i]? = some (some (V.ref a))

section
variable {c : Cn} {N W N' W' : AP1} {H H' : Hp} {σ : L2.St} {ρ : En}
theorem ER.mv (e : ER c N W H σ ρ) (s : Stp N W H N' W' H') : ∀ a o, ¬ N a → H a = some o → ¬ N' a ∧ H' a = some o := by
  intro a o n h
  refine ⟨fun x => ?_, s.keep a o h fun w => n (e.wn a w)⟩
  rcases s.nN a x with y | y
  · exact n y
  · rw [y] at h; cases h
/-- the heap has grown -/
theorem BagAt.grow {T : Tg} {a l : Addr} {b : Bag} (x : BagAt T N H a l b) (k : ∀ b o, H b = some o → H' b = some o) : BagAt T N H' a l b := x.mv (fun b o n h => ⟨n, k b o h⟩) x.apart (k a)
theorem ER.grow (e : ER c N W H σ ρ) (k : ∀ b o, H b = some o → H' b = some o) : ER c N W H' σ ρ where
  keep := fun b x h h' => k b x (e.keep b x h h')
  n0 := e.n0
  sub := e.sub
  new := e.new
  all := fun a h z => by
    cases q : H a with
    | none => exact e.all a h q
    | some o => rw [k a o q] at z; cases z
  wn := e.wn
  wnew := e.wnew
  bag := fun a h => ⟨(e.bag a h).1, (e.bag a h).2.1, (e.bag a h).2.2.grow k⟩
  len := e.len
  sh := fun i d h => by
    obtain ⟨v, h1, h2⟩ := e.sh i d h
    exact ⟨v, h1, h2.move fun a o n q => ⟨n, k a o q⟩⟩
  ow := fun i d h => by
    obtain ⟨a, o, h1, h2, h3, h4, h5⟩ := e.ow i d h
    exact ⟨a, o, h1, h2, h3, k a o h4, h5.move fun a o n q => ⟨n, k a o q⟩⟩
  inj := e.inj
  bs := e.bs
theorem Stp.grow (hN : ∀ a, N a → H a ≠ none) (k : ∀ b o, H b = some o → H' b = some o) : Stp N W H N W H' :=
  ⟨fun b x h _ => k b x h, fun _ h => .inl h, fun _ h => .inl h, fun _ h _ _ => h, fun a h z => by
    cases q : H a with
    | none => exact h q
    | some o => rw [k a o q] at z; cases z⟩
/-- a new object is set apart, held by no slot -/
theorem ER.apart {p : Addr} (e : ER c N W H σ ρ) (hp : H p = none) {o : HO} : ER c (fun a => N a ∨ a = p) W (upd H p o) σ ρ := by
  have k : ∀ b u, H b = some u → upd H p o b = some u := fun b u q => by
    rw [upd_ne (ne_of_none q hp)]
    exact q
  have g := e.grow k
  have h0 : c.H0 p = none := by
    cases q : c.H0 p with
    | none => rfl
    | some u =>
      by_cases hb : c.bg = some p
      · exact absurd hp (e.bag p hb).2.2.ne
      · have := e.keep p u q hb
        rw [hp] at this; cases this
  have mv : ∀ a u, ¬ N a → H a = some u → ¬ (N a ∨ a = p) ∧ upd H p o a = some u := fun a u n q => ⟨fun z => z.elim n (ne_of_none q hp), k a u q⟩
  refine ⟨g.keep, g.n0, fun a h => .inl (g.sub a h), fun a h => ?_, fun a h => ?_, fun a h => .inl (g.wn a h), g.wnew, fun a h => ?_, g.len, fun i d h => ?_, fun i d h => ?_, g.inj, g.bs⟩
  · rcases h with h | rfl
    · exact g.new a h
    · exact .inr h0
  · rcases h with h | rfl
    · exact g.all a h
    · rw [upd_same]; intro z; cases z
  · obtain ⟨h1, h2, h3⟩ := e.bag a h
    exact ⟨h1, h2, h3.mv mv (.inl h3.apart) (k a)⟩
  · obtain ⟨v, h1, h2⟩ := e.sh i d h
    exact ⟨v, h1, h2.move mv⟩
  · obtain ⟨a, u, h1, h2, h3, h4, h5⟩ := e.ow i d h
    exact ⟨a, u, h1, h2, h3, k a u h4, h5.move mv⟩
theorem Stp.apart {p : Addr} (hp : H p = none) {o : HO} : Stp N W H (fun a => N a ∨ a = p) W (upd H p o) :=
  ⟨fun b x h _ => by rw [upd_ne (ne_of_none h hp)]; exact h, fun a h => h.elim .inl fun z => .inr (z ▸ hp), fun _ h => .inl h, fun _ h _ _ => .inl h, fun a h z => by
    by_cases q : a = p
    · subst q; exact h hp
    · rw [upd_ne q] at z; exact h z⟩
/-- what was set apart and is held by no slot is shared from now on -/
theorem ER.unapart {p : Addr} (e : ER c N W H σ ρ) (hw : ¬ W p) (h0 : c.H0 p = none) : ER c (fun a => N a ∧ a ≠ p) W H σ ρ := by
  have mv : ∀ a u, ¬ N a → H a = some u → ¬ (N a ∧ a ≠ p) ∧ H a = some u := fun a u n q => ⟨fun z => n z.1, q⟩
  refine ⟨e.keep, e.n0, fun a h => ⟨e.sub a h, fun z => e.n0 a h (z ▸ h0)⟩, fun a h => e.new a h.1, fun a h => e.all a h.1, fun a h => ⟨e.wn a h, fun z => hw (z ▸ h)⟩, e.wnew, fun a h => ?_, e.len, fun i d h => ?_, fun i d h => ?_, e.inj, e.bs⟩
  · obtain ⟨h1, h2, h3⟩ := e.bag a h
    exact ⟨h1, h2, h3.mv mv ⟨h3.apart, fun z => hw (z ▸ h1)⟩ fun _ h => h⟩
  · obtain ⟨v, h1, h2⟩ := e.sh i d h
    exact ⟨v, h1, h2.move mv⟩
  · obtain ⟨a, u, h1, h2, h3, h4, h5⟩ := e.ow i d h
    exact ⟨a, u, h1, h2, h3, h4, h5.move mv⟩
end
end ND

end
section
set_option Elab.async false
set_option linter.all false
set_option maxRecDepth 100000
/-! ND2: readings of code by what it does to plain data. -/
namespace ND
open PySem PySem.Spec PyProof.Rows L2

/-- an exception: its class, its own dict -/
def XR (T : Tg) (N : AP1) (H : Hp) (cv : Value) (ad : Option Addr) : D → Prop
  | .exc t fs => cv = .ref (T.cl t) ∧ ∃ d fv, ad = some d ∧ H d = some (.xd fv) ∧ ¬ N d ∧ RepF T N H fv fs
  | _ => False
theorem XR.move {T : Tg} {N N' : AP1} {H H' : Hp} (h : ∀ a o, ¬ N a → H a = some o → ¬ N' a ∧ H' a = some o) {cv : Value} {ad : Option Addr} {x : D} (r : XR T N H cv ad x) : XR T N' H' cv ad x := by
  cases x with
  | exc t fs =>
    obtain ⟨e, d, fv, h1, h2, h3, h4⟩ := r
    exact ⟨e, d, fv, h1, (h _ _ h3 h2).2, (h _ _ h3 h2).1, h4.move h⟩
  | _ => exact False.elim r

/-- what holds behind m, run from N, W, H: R of what it gives, E of what it raises -/
def sat (c : Cn) (N W : AP1) (H : Hp) (σ : L2.St) (E : WX) {α : Type} (R : AP1 → AP1 → Hp → α × En → Prop) : Out (α × En) → Prop
  | .ok r => ∀ N' W' H', Stp N W H N' W' H' → ER c N' W' H' σ r.2 → R N' W' H' r
  | .err x ρ => ∀ N' W' H' cv ad, Stp N W H N' W' H' → ER c N' W' H' σ ρ → XR c.T N' H' cv ad x → E cv ad σ H'
  | .no => False
section
variable {c : Cn} {N W N1 W1 : AP1} {H H1 : Hp} {σ : L2.St} {E : WX} {α β : Type} {R R' : AP1 → AP1 → Hp → α × En → Prop} {R2 : AP1 → AP1 → Hp → β × En → Prop}
theorem sat.step {m : Out (α × En)} (h : sat c N W H σ E R m) (s : Stp N W H N1 W1 H1) : sat c N1 W1 H1 σ E R m := by
  cases m with
  | ok r => exact fun N' W' H' t e => h N' W' H' (s.trans t) e
  | err x ρ => exact fun N' W' H' cv ad t e r => h N' W' H' cv ad (s.trans t) e r
  | no => exact h
theorem sat.bind {m : Out (α × En)} {k : α × En → Out (β × En)} (h : sat c N W H σ E R2 (m.bind k)) : sat c N W H σ E (fun N1 W1 H1 r => sat c N1 W1 H1 σ E R2 (k r)) m := by
  cases m with
  | ok r =>
    have h' : sat c N W H σ E R2 (k r) := h
    exact fun N' W' H' t e => h'.step t
  | err x ρ => exact h
  | no => exact h
theorem sat.imp {m : Out (α × En)} (h : sat c N W H σ E R m) (i : ∀ N' W' H' r, Stp N W H N' W' H' → ER c N' W' H' σ r.2 → R N' W' H' r → R' N' W' H' r) : sat c N W H σ E R' m := by
  cases m with
  | ok r => exact fun N' W' H' t e => i N' W' H' r t e (h N' W' H' t e)
  | err x ρ => exact h
  | no => exact h
theorem sat.here {r : α × En} (h : sat c N W H σ E R (.ok r)) (e : ER c N W H σ r.2) : R N W H r := h N W H (Stp.refl N W H) e
end

/-- the readings: of an expression whose value is shared; of one whose value may be new and held by no one; of one that is looked into at once; of arguments; of a test -/
abbrev FD := En → Out (D × En)
abbrev FV := En → Out ((D × Bool) × En)
abbrev FA := En → Out (List D × En)
abbrev FT := En → Out (Bool × En)
def VR (c : Cn) (H : Hp) (N' W' : AP1) (H' : Hp) (v : V) (d : D) : Bool → Prop
  | false => Rep c.T N' H' v d
  | true => ∃ a o, v = .ref a ∧ N' a ∧ ¬ W' a ∧ H a = none ∧ c.H0 a = none ∧ H' a = some o ∧ Top c.T N' H' o d
def Pk (c : Cn) (N : AP1) (H : Hp) (v : V) (d : D) : Prop := Rep c.T N H v d ∨ ∃ a o, v = .ref a ∧ H a = some o ∧ Top c.T N H o d
def rdD (c : Cn) (E : WX) (f : FD) : TE := fun σ H Q => ∃ N W ρ, ER c N W H σ ρ ∧ sat c N W H σ E (fun N' _ H' r => ∀ v, Rep c.T N' H' v r.1 → Q v H') (f ρ)
def rdV (c : Cn) (E : WX) (f : FV) : TE := fun σ H Q => ∃ N W ρ, ER c N W H σ ρ ∧ sat c N W H σ E (fun N' W' H' r => ∀ v, VR c H N' W' H' v r.1.1 r.1.2 → Q v H') (f ρ)
def rdQ (c : Cn) (E : WX) (f : FD) : TE := fun σ H Q => ∃ N W ρ, ER c N W H σ ρ ∧ sat c N W H σ E (fun N' _ H' r => ∀ v, Pk c N' H' v r.1 → Q v H') (f ρ)
def rdA (c : Cn) (E : WX) (f : FA) : TA := fun σ H Q => ∃ N W ρ, ER c N W H σ ρ ∧ sat c N W H σ E (fun N' _ H' r => ∀ v, Reps c.T N' H' v r.1 → Q v H') (f ρ)
def rdT (c : Cn) (E : WX) (f : FT) : TT := fun σ H Q => ∃ N W ρ, ER c N W H σ ρ ∧ sat c N W H σ E (fun _ _ H' r => Q r.1 H') (f ρ)

section
variable {X : Cx} {c : Cn} {E : WX} {e a b : Expr}
theorem PE.mono {t t' : TE} (h : PE X e t) (m : ∀ σ H Q, t' σ H Q → t σ H Q) : PE X e t' := ⟨fun pins s σ H Q I q => h.run pins s σ H Q I (m σ H Q q)⟩
theorem PT.mono {t t' : TT} (h : PT X e t) (m : ∀ σ H Q, t' σ H Q → t σ H Q) : PT X e t' := ⟨fun pins s σ H Q I q => h.run pins s σ H Q I (m σ H Q q)⟩
theorem PA.mono {es : List Expr} {t t' : TA} (h : PA X es t) (m : ∀ σ H Q, t' σ H Q → t σ H Q) : PA X es t' := ⟨fun p pins s σ H Q I q => h.run p pins s σ H Q I (m σ H Q q)⟩
theorem PS.mono {st : Stmt} {t t' : TS} (h : PS X st t) (m : ∀ D σ H, t' D σ H → t D σ H) : PS X st t' := ⟨fun pins s σ H D I q => h.run pins s σ H D I (m D σ H q)⟩
theorem PSs.mono {st : List Stmt} {t t' : TS} (h : PSs X st t) (m : ∀ D σ H, t' D σ H → t D σ H) : PSs X st t' := ⟨fun pins s σ H D I q => h.run pins s σ H D I (m D σ H q)⟩

/-- the rest of a run, from where one stands -/
theorem rdD_of {f : FD} {σ : L2.St} {H : Hp} {Q : VK} {N W : AP1} {ρ : En} (e : ER c N W H σ ρ) (h : sat c N W H σ E (fun N' _ H' r => ∀ v, Rep c.T N' H' v r.1 → Q v H') (f ρ)) : rdD c E f σ H Q := ⟨N, W, ρ, e, h⟩

/-! ### from one reading to another -/
/-- a shared value needs no more -/
theorem v_of_d {f : FD} (h : PE X e (rdD c E f)) : PE X e (rdV c E fun ρ => (f ρ).bind fun r => .ok ((r.1, false), r.2)) := PE.mono h fun σ H Q ⟨N, W, ρ, er, q⟩ =>
  ⟨N, W, ρ, er, q.bind.imp fun N' W' H' r t e' z v rv => z.here e' v rv⟩
theorem q_of_d {f : FD} (h : PE X e (rdD c E f)) : PE X e (rdQ c E f) := PE.mono h fun σ H Q ⟨N, W, ρ, er, q⟩ =>
  ⟨N, W, ρ, er, q.imp fun N' W' H' r t e' z v rv => z v (.inl rv)⟩
theorem q_of_v {f : FV} (h : PE X e (rdV c E f)) : PE X e (rdQ c E fun ρ => (f ρ).bind fun r => .ok (r.1.1, r.2)) := PE.mono h fun σ H Q ⟨N, W, ρ, er, q⟩ =>
  ⟨N, W, ρ, er, q.bind.imp fun N' W' H' r t e' z v rv => z.here e' v (by
    obtain ⟨⟨d, fr⟩, ρ'⟩ := r
    cases fr with
    | false => exact .inl rv
    | true =>
      obtain ⟨a, o, h1, _, _, _, _, h2, h3⟩ := rv
      exact .inr ⟨a, o, h1, h2, h3⟩)⟩
/-- a new value that is shared from now on -/
theorem d_of_v {f : FV} (h : PE X e (rdV c E f)) : PE X e (rdD c E fun ρ => (f ρ).bind fun r => .ok (r.1.1, r.2)) := PE.mono h fun σ H Q ⟨N, W, ρ, er, q⟩ => by
  refine ⟨N, W, ρ, er, ?_⟩
  dsimp only at q
  cases hm : f ρ with
  | no => rw [hm] at q; exact q
  | err x ρ' => rw [hm] at q; exact q
  | ok r =>
    rw [hm] at q
    intro N' W' H' t e' v rv
    obtain ⟨⟨d, fr⟩, ρ'⟩ := r
    cases fr with
    | false => exact q N' W' H' t e' v rv
    | true =>
      obtain ⟨a, o, rfl, h1, h2, h3, h4, h5, h6⟩ := rv
      refine q (fun b => N' b ∧ b ≠ a) W' H' ⟨t.keep, fun b h => t.nN b h.1, t.nW, fun b hb hw hh => ⟨t.kN b hb hw hh, fun z => hh (z ▸ h3)⟩, t.al⟩ (e'.unapart h2 h4) _ (.ref (fun z => z.2 rfl) h5 (h6.move fun b u n q => ⟨fun z => n z.1, q⟩))
end
end ND

end
section
set_option Elab.async false
set_option linter.all false
set_option maxRecDepth 100000
/-! ND3: rules for expressions. -/
namespace ND
open PySem PySem.Spec PyProof.Rows L2

def ofO {α : Type} (o : Option α) (ρ : En) : Out (α × En) := match o with
  | some a => .ok (a, ρ)
  | none => .no
@[simp] theorem ofO_some {α : Type} (a : α) (ρ : En) : ofO (some a) ρ = .ok (a, ρ) := rfl
@[simp] theorem ofO_none {α : Type} (ρ : En) : ofO (none : Option α) ρ = .no := rfl
def setS (ρ : En) (i : Nat) (s : SD) : En := { ρ with sl := ρ.sl.set i s }

section
variable {c : Cn} {N W : AP1} {H : Hp} {σ : L2.St} {ρ : En}
/-- an owned object becomes shared -/
theorem ER.freeze {i : Nat} {d : D} {a : Addr} (e : ER c N W H σ ρ) (h : ρ.sl[i]? = some (.ow d)) (hs : σ[i]? = some (some (V.ref a))) :
    ER c (fun b => N b ∧ b ≠ a) (fun b => W b ∧ b ≠ a) H σ (setS ρ i (.sh d)) ∧ Rep c.T (fun b => N b ∧ b ≠ a) H (.ref a) d ∧ c.H0 a = none := by
  obtain ⟨a', o, h1, h2, h3, h4, h5⟩ := e.ow i d h
  rw [hs] at h1
  cases h1
  have h0 : c.H0 a = none := (e.wnew a h2).elim (fun z => absurd z h3) id
  have mv : ∀ b u, ¬ N b → H b = some u → ¬ (N b ∧ b ≠ a) ∧ H b = some u := fun b u n q => ⟨fun z => n z.1, q⟩
  have r : Rep c.T (fun b => N b ∧ b ≠ a) H (.ref a) d := .ref (fun z => z.2 rfl) h4 (h5.move mv)
  have hi : i < ρ.sl.length := (List.getElem?_eq_some_iff.mp h).1
  refine ⟨⟨e.keep, e.n0, fun b hb => ⟨e.sub b hb, fun z => e.n0 b hb (z ▸ h0)⟩, fun b hb => e.new b hb.1, fun b hb => e.all b hb.1, fun b hb => ⟨e.wn b hb.1, hb.2⟩, fun b hb => e.wnew b hb.1, fun b hb => ?_, ?_, fun j dj q => ?_, fun j dj q => ?_, fun j k dj dk b q1 q2 => ?_, fun j q => ?_⟩, r, h0⟩
  · obtain ⟨k1, k2, k3⟩ := e.bag b hb
    have nb : b ≠ a := fun z => h3 (z ▸ hb)
    exact ⟨⟨k1, nb⟩, k2, k3.mv mv ⟨k3.apart, nb⟩ fun _ h => h⟩
  · show σ.length = (ρ.sl.set i _).length
    rw [List.length_set]
    exact e.len
  · by_cases z : i = j
    · subst z
      rw [show (setS ρ i (.sh d)).sl[i]? = some (SD.sh d) from List.getElem?_set_self hi] at q
      cases q
      exact ⟨_, hs, r⟩
    · rw [show (setS ρ i (.sh d)).sl[j]? = ρ.sl[j]? from List.getElem?_set_ne z] at q
      obtain ⟨v, k1, k2⟩ := e.sh j dj q
      exact ⟨v, k1, k2.move mv⟩
  · by_cases z : i = j
    · subst z
      rw [show (setS ρ i (.sh d)).sl[i]? = some (SD.sh d) from List.getElem?_set_self hi] at q
      cases q
    · rw [show (setS ρ i (.sh d)).sl[j]? = ρ.sl[j]? from List.getElem?_set_ne z] at q
      obtain ⟨b, u, k1, k2, k3, k4, k5⟩ := e.ow j dj q
      exact ⟨b, u, k1, ⟨k2, fun w => z (e.inj i j d dj a h q hs (w ▸ k1))⟩, k3, k4, k5.move mv⟩
  · by_cases z : i = j
    · subst z
      rw [show (setS ρ i (.sh d)).sl[i]? = some (SD.sh d) from List.getElem?_set_self hi] at q1
      cases q1
    · by_cases z2 : i = k
      · subst z2
        rw [show (setS ρ i (.sh d)).sl[i]? = some (SD.sh d) from List.getElem?_set_self hi] at q2
        cases q2
      · rw [show (setS ρ i (.sh d)).sl[j]? = ρ.sl[j]? from List.getElem?_set_ne z] at q1
        rw [show (setS ρ i (.sh d)).sl[k]? = ρ.sl[k]? from List.getElem?_set_ne z2] at q2
        exact e.inj j k dj dk b q1 q2
  · by_cases z : i = j
    · subst z
      rw [show (setS ρ i (.sh d)).sl[i]? = some (SD.sh d) from List.getElem?_set_self hi] at q
      cases q
    · rw [show (setS ρ i (.sh d)).sl[j]? = ρ.sl[j]? from List.getElem?_set_ne z] at q
      exact e.bs j q
theorem Stp.less {a : Addr} (h : W a) : Stp N W H (fun b => N b ∧ b ≠ a) (fun b => W b ∧ b ≠ a) H :=
  ⟨fun _ _ h _ => h, fun _ h => .inl h.1, fun _ h => .inl h.1, fun b hb hw _ => ⟨hb, fun z => hw (z ▸ h)⟩, fun _ h => h⟩
end

/-! ### names -/
def vr (i : Nat) : FD := fun ρ => match ρ.sl[i]? with
  | some (.sh d) => .ok (d, ρ)
  | some (.ow d) => .ok (d, setS ρ i (.sh d))
  | _ => .no
/-- a name that is looked into at once -/
def pk (i : Nat) : FD := fun ρ => match ρ.sl[i]? with
  | some (.sh d) => .ok (d, ρ)
  | some (.ow d) => .ok (d, ρ)
  | _ => .no
section
variable {X : Cx} {c : Cn} {E : WX} {pos : Pos} {x : Str}
theorem nd_var (i : Nat) (hN : X.N[i]? = some x := by rfl) (hv : Vis X.env.scope x := by first | exact Or.inl rfl | exact Or.inr (Or.inl rfl) | exact Or.inr (Or.inr rfl)) (hd : (x == ("__debug__" : Str)) = false := by decide)
    (hcd : (x == ("__classdict__" : Str)) = false := by decide) : PE X (.Name x pos) (rdD c E (vr i)) := PE.mono (pe_var hN hv hd hcd) fun σ H Q ⟨N, W, ρ, er, q⟩ => by
  unfold vr at q
  cases h : ρ.sl[i]? with
  | none => rw [h] at q; exact q.elim
  | some s =>
    rw [h] at q
    cases s with
    | sh d =>
      obtain ⟨v, h1, h2⟩ := er.sh i d h
      exact ⟨v, h1, q.here er v h2⟩
    | ow d =>
      obtain ⟨a, o, h1, h2, h3, h4, h5⟩ := er.ow i d h
      obtain ⟨e2, r2, _⟩ := er.freeze h h1
      exact ⟨_, h1, q _ _ _ (.less h2) e2 _ r2⟩
    | un => exact q.elim
    | bag => exact q.elim
theorem nd_pk (i : Nat) (hN : X.N[i]? = some x := by rfl) (hv : Vis X.env.scope x := by first | exact Or.inl rfl | exact Or.inr (Or.inl rfl) | exact Or.inr (Or.inr rfl)) (hd : (x == ("__debug__" : Str)) = false := by decide)
    (hcd : (x == ("__classdict__" : Str)) = false := by decide) : PE X (.Name x pos) (rdQ c E (pk i)) := PE.mono (pe_var hN hv hd hcd) fun σ H Q ⟨N, W, ρ, er, q⟩ => by
  unfold pk at q
  cases h : ρ.sl[i]? with
  | none => rw [h] at q; exact q.elim
  | some s =>
    rw [h] at q
    cases s with
    | sh d =>
      obtain ⟨v, h1, h2⟩ := er.sh i d h
      exact ⟨v, h1, q.here er v (.inl h2)⟩
    | ow d =>
      obtain ⟨a, o, h1, h2, h3, h4, h5⟩ := er.ow i d h
      exact ⟨_, h1, q.here er _ (.inr ⟨a, o, rfl, h4, h5⟩)⟩
    | un => exact q.elim
    | bag => exact q.elim
def cst (d : D) : FD := fun ρ => .ok (d, ρ)
theorem nd_int {i j} : PE X (.Constant (.int i) j pos) (rdD c E (cst (.int i))) := PE.mono pe_int fun σ H Q ⟨N, W, ρ, er, q⟩ => q.here er _ (.int i)
theorem nd_bl {b j} : PE X (.Constant (.bool b) j pos) (rdD c E (cst (.bl b))) := PE.mono pe_bl fun σ H Q ⟨N, W, ρ, er, q⟩ => q.here er _ (.bl b)
theorem nd_non {j} : PE X (.Constant .none j pos) (rdD c E (cst .non)) := PE.mono pe_non fun σ H Q ⟨N, W, ρ, er, q⟩ => q.here er _ .non
theorem nd_str {y j} : PE X (.Constant (.str y) j pos) (rdD c E (cst (.str y))) := PE.mono pe_str fun σ H Q ⟨N, W, ρ, er, q⟩ => q.here er _ (.str y)
/-- a built-in type as a value -/
theorem nd_ty {n : String} (hg : Gl X x) (hm : X.mg x = none) (hv : bootBuiltins x = some (.type n)) (hn : x ≠ "__name__" := by decide) (hd : (x == ("__debug__" : Str)) = false := by decide) : PE X (.Name x pos) (rdD c E (cst (.opq (.ty n)))) :=
  PE.mono (pe_bltn (v := .ty n) hg hm hv rfl hn hd) fun σ H Q ⟨N, W, ρ, er, q⟩ => q.here er _ (.opq _)

/-! ### operators, by values -/
def OpD (X : Cx) (f : Value → Value → Sem Value) (g : D → D → Option D) : Prop := ∃ r : R2, OpR X f r ∧ ∀ (T : Tg) (N : AP1) (H : Hp) (v1 v2 : V) (d1 d2 d : D) (Q : VK),
  (∀ a, N a → H a ≠ none) → Rep T N H v1 d1 → Rep T N H v2 d2 → g d1 d2 = some d → (∀ v H', (∀ b o, H b = some o → H' b = some o) → Rep T N H' v d → Q v H') → r v1 v2 H Q
/-- .. one that makes a new list -/
def OpL (X : Cx) (f : Value → Value → Sem Value) (g : D → D → Option (List D)) : Prop := ∃ r : R2, OpR X f r ∧ ∀ (T : Tg) (N : AP1) (H : Hp) (v1 v2 : V) (d1 d2 : D) (ds : List D) (Q : VK),
  Rep T N H v1 d1 → Rep T N H v2 d2 → g d1 d2 = some ds → (∀ p vs, H p = none → Reps T N H vs ds → Q (.ref p) (upd H p (.lst vs))) → r v1 v2 H Q
def lift2 (g : D → D → Option D) (fa fb : FD) : FD := fun ρ => (fa ρ).bind fun r1 => (fb r1.2).bind fun r2 => ofO (g r1.1 r2.1) r2.2
def lift2L (g : D → D → Option (List D)) (fa fb : FD) : FV := fun ρ => (fa ρ).bind fun r1 => (fb r1.2).bind fun r2 => (ofO (g r1.1 r2.1) r2.2).bind fun r => .ok ((.lst r.1, true), r.2)

variable {a b e : Expr} {fa fb f : FD}
theorem two {g : D → D → Option D} {σ : L2.St} {H : Hp} {Q : VK} {R : V → V → Hp → Prop}
    (h : rdD c E (lift2 g fa fb) σ H Q) (k : ∀ (N W : AP1) (H2 : Hp) (ρ2 : En) (v1 v2 : V) (d1 d2 : D), ER c N W H2 σ ρ2 → Rep c.T N H2 v1 d1 → Rep c.T N H2 v2 d2 → sat c N W H2 σ E (fun N' _ H' r => ∀ v, Rep c.T N' H' v r.1 → Q v H') (ofO (g d1 d2) ρ2) → R v1 v2 H2) :
    rdD c E fa σ H fun v1 H1 => rdD c E fb σ H1 fun v2 H2 => R v1 v2 H2 := by
  obtain ⟨N, W, ρ, er, q⟩ := h
  refine ⟨N, W, ρ, er, q.bind.imp fun N1 W1 H1 r1 t1 e1 q1 v1 rv1 => ?_⟩
  refine ⟨N1, W1, r1.2, e1, q1.bind.imp fun N2 W2 H2 r2 t2 e2 q2 v2 rv2 => ?_⟩
  exact k N2 W2 H2 r2.2 v1 v2 r1.1 r2.1 e2 (rv1.move (e1.mv t2)) rv2 q2
theorem ofO_ok {α : Type} {N W : AP1} {H : Hp} {σ : L2.St} {R : AP1 → AP1 → Hp → α × En → Prop} {o : Option α} {ρ : En} (q : sat c N W H σ E R (ofO o ρ)) (e : ER c N W H σ ρ) : ∃ a, o = some a ∧ ∀ N' W' H', Stp N W H N' W' H' → ER c N' W' H' σ ρ → R N' W' H' (a, ρ) := by
  cases o with
  | none => exact q.elim
  | some a => exact ⟨a, rfl, q⟩
theorem op_go {g : D → D → Option D} {r : R2} {σ : L2.St} {H : Hp} {Q : VK} (hr : ∀ (T : Tg) (N : AP1) (H : Hp) (v1 v2 : V) (d1 d2 d : D) (Q : VK),
      (∀ a, N a → H a ≠ none) → Rep T N H v1 d1 → Rep T N H v2 d2 → g d1 d2 = some d → (∀ v H', (∀ b o, H b = some o → H' b = some o) → Rep T N H' v d → Q v H') → r v1 v2 H Q)
    (h : rdD c E (lift2 g fa fb) σ H Q) : tOp r (rdD c E fa) (rdD c E fb) σ H Q := two h fun N W H2 ρ2 v1 v2 d1 d2 er r1 r2 q => by
  obtain ⟨d, hd, q⟩ := ofO_ok q er
  exact hr c.T N H2 v1 v2 d1 d2 d Q er.all r1 r2 hd fun v H' k rv => q N W H' (.grow er.all k) (er.grow k) v rv
theorem nd_op {op : Operator} {g : D → D → Option D} (ho : OpD X (binaryOp op) g) (ha : PE X a (rdD c E fa)) (hb : PE X b (rdD c E fb)) : PE X (.BinOp a op b pos) (rdD c E (lift2 g fa fb)) := by
  obtain ⟨r, h1, h2⟩ := ho
  exact PE.mono (pe_op h1 ha hb) fun σ H Q h => op_go h2 h
theorem nd_opL {op : Operator} {g : D → D → Option (List D)} (ho : OpL X (binaryOp op) g) (ha : PE X a (rdD c E fa)) (hb : PE X b (rdD c E fb)) : PE X (.BinOp a op b pos) (rdV c E (lift2L g fa fb)) := by
  obtain ⟨r, h1, h2⟩ := ho
  refine PE.mono (pe_op h1 ha hb) fun σ H Q ⟨N, W, ρ, er, q⟩ => ?_
  refine ⟨N, W, ρ, er, ?_⟩
  dsimp only [lift2L] at q
  cases e1 : fa ρ with
  | no => rw [e1] at q; exact q
  | err x ρ' => rw [e1] at q; exact q
  | ok r1 =>
    rw [e1] at q
    intro N1 W1 H1 t1 er1 v1 rv1
    refine ⟨N1, W1, r1.2, er1, ?_⟩
    have q : sat c N W H σ E _ ((fb r1.2).bind _) := q
    cases e2 : fb r1.2 with
    | no => rw [e2] at q; exact q
    | err x ρ' =>
      rw [e2] at q
      exact sat.step (α := D) (R := fun _ _ _ _ => True) (show sat c N W H σ E _ (Out.err x ρ') from q) t1
    | ok r2 =>
      rw [e2] at q
      intro N2 W2 H2 t2 er2 v2 rv2
      have q : sat c N W H σ E _ ((ofO (g r1.1 r2.1) r2.2).bind _) := q
      cases hg : g r1.1 r2.1 with
      | none => rw [hg] at q; exact q.elim
      | some ds =>
        rw [hg] at q
        refine h2 c.T N2 H2 v1 v2 r1.1 r2.1 ds Q (rv1.move (er1.mv t2)) rv2 hg fun p vs hp rp => ?_
        have t := t1.trans t2
        have ea := er2.apart hp (o := .lst vs)
        have hH : H p = none := by
          cases z : H p with
          | none => rfl
          | some o => exact absurd hp (t.al p (by rw [z]; intro y; cases y))
        have h0 : c.H0 p = none := by
          rcases ea.new p (.inr rfl) with z | z
          · exact absurd hp (fun y => er2.all p (er2.sub p z) y)
          · exact z
        refine q _ _ _ (t.trans (.apart hp)) ea (.ref p) ⟨p, _, rfl, .inr rfl, fun z => er2.all p (er2.wn p z) hp, hH, h0, upd_same, .lst (rp.move fun b u n z => ⟨fun y => y.elim n (ne_of_none z hp), ?_⟩)⟩
        rw [upd_ne (ne_of_none z hp)]
        exact z
end
end ND

end
section
set_option Elab.async false
set_option linter.all false
set_option maxRecDepth 100000
/-! ND4: operators, comparisons, tests, conditional values, arguments, displays. -/
namespace ND
open PySem PySem.Spec PyProof.Rows L2

/-! ### data as the library's plain data -/
mutual
def toPy : D → Option PyData
  | .non => some .none
  | .bl b => some (.bool b)
  | .int i => some (.int i)
  | .str x => some (.str x)
  | .tup ds => (toPys ds).map .tuple
  | .lst ds => (toPys ds).map .list
  | _ => none
def toPys : List D → Option (List PyData)
  | [] => some []
  | d :: ds => match toPy d, toPys ds with
    | some p, some ps => some (p :: ps)
    | _, _ => none
end
section
variable {K : PySem.W.Frag} {T : Tg} {N : AP1} {H : Hp}
mutual
theorem dp_of : ∀ (d : D) {v : V} {p : PyData}, Rep T N H v d → toPy d = some p → Dp K H v p
  | .non, v, p, r, e => by
    cases r.non_inv; simp only [toPy, Option.some.injEq] at e; subst e; exact .non
  | .bl b, v, p, r, e => by
    cases r.bl_inv; simp only [toPy, Option.some.injEq] at e; subst e; exact .bl b
  | .int i, v, p, r, e => by
    cases r.int_inv; simp only [toPy, Option.some.injEq] at e; subst e; exact .int i
  | .str x, v, p, r, e => by
    cases r.str_inv; simp only [toPy, Option.some.injEq] at e; subst e; exact .str x
  | .tup ds, v, p, r, e => by
    obtain ⟨a, vs, rfl, _, h, q⟩ := r.tup_inv
    simp only [toPy, Option.map_eq_some_iff] at e
    obtain ⟨ps, e, rfl⟩ := e
    exact .tup (.of h) (dps_of ds q e)
  | .lst ds, v, p, r, e => by
    obtain ⟨a, vs, rfl, _, h, q⟩ := r.lst_inv
    simp only [toPy, Option.map_eq_some_iff] at e
    obtain ⟨ps, e, rfl⟩ := e
    exact .lst (.of h) (dps_of ds q e)
  | .dct _, v, p, r, e => by simp [toPy] at e
  | .dic _, v, p, r, e => by simp [toPy] at e
  | .ins _ _, v, p, r, e => by simp [toPy] at e
  | .exc _ _, v, p, r, e => by simp [toPy] at e
  | .xv _ _, v, p, r, e => by simp [toPy] at e
  | .cls _, v, p, r, e => by simp [toPy] at e
  | .opq _, v, p, r, e => by simp [toPy] at e
theorem dps_of : ∀ (ds : List D) {vs : List V} {ps : List PyData}, Reps T N H vs ds → toPys ds = some ps → DpAll K H vs ps
  | [], vs, ps, r, e => by
    cases r; simp only [toPys, Option.some.injEq] at e; subst e; exact .nil
  | d :: ds, vs, ps, r, e => by
    cases r with
    | cons r1 r2 =>
      simp only [toPys] at e
      cases e1 : toPy d with
      | none => simp [e1] at e
      | some p =>
        cases e2 : toPys ds with
        | none => simp [e1, e2] at e
        | some qs =>
          simp only [e1, e2, Option.some.injEq] at e
          subst e
          exact .cons (dp_of d r1 e1) (dps_of ds r2 e2)
end
end

/-! ### the operators on data -/
abbrev big : Nat := 100000
theorem big_line : (big : Nat) < sizeLine := by rw [sizeLine_eq]; decide
def eqD (a b : D) : Option Bool := match toPy a, toPy b with
  | some p, some q => if (SeqAt.shaped p && SeqAt.shaped q) = true then some (PyData.eqv p q) else none
  | _, _ => none
def addD : D → D → Option D
  | .int i, .int j => some (.int (i + j))
  | .str x, .str y => if x.length + y.length ≤ big then some (.str (x ++ y)) else none
  | .tup xs, .tup ys => if xs.length + ys.length ≤ big then some (.tup (xs ++ ys)) else none
  | _, _ => none
def catD : D → D → Option (List D)
  | .lst xs, .lst ys => if xs.length + ys.length ≤ big then some (xs ++ ys) else none
  | _, _ => none
def subD : D → D → Option D
  | .int i, .int j => some (.int (i - j))
  | _, _ => none
def mulD : D → D → Option D
  | .int i, .int j => if ((-(2 ^ 64) < i ∧ i < 2 ^ 64) ∨ (-(2 ^ 64) < j ∧ j < 2 ^ 64)) then some (.int (i * j)) else none
  | _, _ => none
def repD : D → D → Option (List D)
  | .lst xs, .int k => if 0 ≤ k ∧ k ≤ big ∧ xs.length * k.toNat ≤ big then some (List.replicate k.toNat xs).flatten else none
  | _, _ => none
def modD : D → D → Option D
  | .int i, .int j => if 0 < j then some (.int (i % j)) else none
  | _, _ => none
def fdivD : D → D → Option D
  | .int i, .int j => if 0 < j ∧ j < 1073741824 then some (.int (i / j)) else none
  | _, _ => none
def cmpI (p : Int → Int → Bool) : D → D → Option Bool
  | .int i, .int j => some (p i j)
  | _, _ => none
def leD : D → D → Option Bool := cmpI fun i j => decide (i ≤ j)
def ltD : D → D → Option Bool := cmpI fun i j => decide (i < j)
def geD : D → D → Option Bool := cmpI fun i j => decide (j ≤ i)
def gtD : D → D → Option Bool := cmpI fun i j => decide (j < i)
def isN : D → D → Option Bool
  | .non, .non => some true
  | .opq _, _ => none
  | _, .non => some false
  | _, _ => none
def isTup : D → Bool
  | .tup _ => true
  | _ => false
/-- a flat thing -/
def flatD : D → Option V
  | .non => some .non
  | .bl b => some (.bl b)
  | .int i => some (.int i)
  | .str x => some (.str x)
  | _ => none
def flatsD : List D → Option (List V)
  | [] => some []
  | d :: ds => match flatD d, flatsD ds with
    | some p, some ps => some (p :: ps)
    | _, _ => none
def inD : D → D → Option Bool
  | .str x, .str y => some (!(Builtin.Str.occurrences y x 0 y.length 1).isEmpty)
  | d, .lst ds => match flatD d, flatsD ds with
    | some v, some vs => some (inV v vs)
    | _, _ => none
  | d, .tup ds => match flatD d, flatsD ds with
    | some v, some vs => some (inV v vs)
    | _, _ => none
  | _, _ => none
def bD (g : D → D → Option Bool) : D → D → Option D := fun a b => (g a b).map .bl
def nD (g : D → D → Option Bool) : D → D → Option D := fun a b => (g a b).map fun k => .bl (!k)

section
variable {T : Tg} {N : AP1} {H : Hp}
theorem flat_rep {d : D} {v u : V} (r : Rep T N H v d) (h : flatD d = some u) : v = u ∧ flatV u = true := by
  cases d <;> simp only [flatD, Option.some.injEq, reduceCtorEq] at h
  · subst h; exact ⟨r.non_inv, rfl⟩
  · subst h; exact ⟨r.bl_inv, rfl⟩
  · subst h; exact ⟨r.int_inv, rfl⟩
  · subst h; exact ⟨r.str_inv, rfl⟩
theorem flats_rep : ∀ {ds : List D} {vs us : List V}, Reps T N H vs ds → flatsD ds = some us → vs = us ∧ us.all flatV = true
  | _, _, us, .nil, h => by
    simp only [flatsD, Option.some.injEq] at h
    subst h; exact ⟨rfl, rfl⟩
  | _, _, us, .cons (d := d) (ds := ds) r s, h => by
    simp only [flatsD] at h
    cases e1 : flatD d with
    | none => simp [e1] at h
    | some p =>
      cases e2 : flatsD ds with
      | none => simp [e1, e2] at h
      | some ps =>
        simp only [e1, e2, Option.some.injEq] at h
        subst h
        obtain ⟨rfl, f1⟩ := flat_rep r e1
        obtain ⟨rfl, f2⟩ := flats_rep s e2
        exact ⟨rfl, by simp [f1, f2]⟩
end
section
variable {X : Cx}
/-- an operator that keeps the heap -/
theorem opd_keep {f : Value → Value → Sem Value} {r : R2} {g : D → D → Option D} (h : OpR X f r) (k : ∀ (T : Tg) (N : AP1) (H : Hp) (v1 v2 : V) (d1 d2 d : D), Rep T N H v1 d1 → Rep T N H v2 d2 → g d1 d2 = some d → ∃ v, Rep T N H v d ∧ ∀ Q : VK, Q v H → r v1 v2 H Q) : OpD X f g :=
  ⟨r, h, fun T N H v1 v2 d1 d2 d Q _ r1 r2 e q => by
    obtain ⟨v, rv, z⟩ := k T N H v1 v2 d1 d2 d r1 r2 e
    exact z Q (q v H (fun _ _ h => h) rv)⟩
theorem OpD.or {f : Value → Value → Sem Value} {g1 g2 g : D → D → Option D} (h1 : OpD X f g1) (h2 : OpD X f g2) (h : ∀ a b d, g a b = some d → g1 a b = some d ∨ g2 a b = some d) : OpD X f g := by
  obtain ⟨r1, o1, k1⟩ := h1
  obtain ⟨r2, o2, k2⟩ := h2
  refine ⟨_, o1.or o2, fun T N H v1 v2 d1 d2 d Q al p1 p2 e q => ?_⟩
  rcases h d1 d2 d e with z | z
  · exact .inl (k1 T N H v1 v2 d1 d2 d Q al p1 p2 z q)
  · exact .inr (k2 T N H v1 v2 d1 d2 d Q al p1 p2 z q)
theorem od_sub : OpD X (binaryOp .Sub) subD := opd_keep op_sub fun T N H v1 v2 d1 d2 d r1 r2 e => by
  unfold subD at e
  split at e <;> simp only [Option.some.injEq, reduceCtorEq] at e
  subst e
  exact ⟨_, .int _, fun Q q => ⟨_, _, r1.int_inv, r2.int_inv, q⟩⟩
theorem od_mul : OpD X (binaryOp .Mult) mulD := opd_keep op_mul fun T N H v1 v2 d1 d2 d r1 r2 e => by
  unfold mulD at e
  split at e <;> try cases e
  rename_i i j
  split at e <;> simp only [Option.some.injEq, reduceCtorEq] at e
  rename_i hc
  subst e
  exact ⟨_, .int _, fun Q q => ⟨_, _, r1.int_inv, r2.int_inv, hc, q⟩⟩
theorem od_mod : OpD X (binaryOp .Mod) modD := opd_keep op_mod fun T N H v1 v2 d1 d2 d r1 r2 e => by
  unfold modD at e
  split at e <;> try cases e
  rename_i i j
  split at e <;> simp only [Option.some.injEq, reduceCtorEq] at e
  rename_i hc
  subst e
  exact ⟨_, .int _, fun Q q => ⟨_, _, r1.int_inv, r2.int_inv, hc, q⟩⟩
theorem od_fdiv : OpD X (binaryOp .FloorDiv) fdivD := opd_keep op_fdiv fun T N H v1 v2 d1 d2 d r1 r2 e => by
  unfold fdivD at e
  split at e <;> try cases e
  rename_i i j
  split at e <;> simp only [Option.some.injEq, reduceCtorEq] at e
  rename_i hc
  subst e
  exact ⟨_, .int _, fun Q q => ⟨_, _, r1.int_inv, r2.int_inv, hc, q⟩⟩
theorem od_cmpI {op : CmpOp} {p : Int → Int → Bool} (h : OpR X (compareOp op) (rI0 fun i j => .bl (p i j))) : OpD X (compareOp op) (bD (cmpI p)) := opd_keep h fun T N H v1 v2 d1 d2 d r1 r2 e => by
  simp only [bD, Option.map_eq_some_iff] at e
  obtain ⟨k, e, rfl⟩ := e
  unfold cmpI at e
  split at e <;> simp only [Option.some.injEq, reduceCtorEq] at e
  subst e
  exact ⟨_, .bl _, fun Q q => ⟨_, _, r1.int_inv, r2.int_inv, q⟩⟩
theorem od_le : OpD X (compareOp .LtE) (bD leD) := od_cmpI op_le
theorem od_lt : OpD X (compareOp .Lt) (bD ltD) := od_cmpI op_lt
theorem od_ge : OpD X (compareOp .GtE) (bD geD) := od_cmpI op_ge
theorem od_gt : OpD X (compareOp .Gt) (bD gtD) := od_cmpI op_gt
theorem eqD_some {a b : D} {k : Bool} (e : eqD a b = some k) : ∃ p q, toPy a = some p ∧ toPy b = some q ∧ SeqAt.shaped p = true ∧ SeqAt.shaped q = true ∧ PyData.eqv p q = k := by
  unfold eqD at e
  split at e
  · rename_i p q h1 h2
    split at e <;> simp only [Option.some.injEq, reduceCtorEq] at e
    rename_i hs
    rw [Bool.and_eq_true] at hs
    exact ⟨p, q, h1, h2, hs.1, hs.2, e⟩
  · cases e
theorem od_eq (hu : X.A.units + 64 < cLine) : OpD X (compareOp .Eq) (bD eqD) := opd_keep (op_eqD hu) fun T N H v1 v2 d1 d2 d r1 r2 e => by
  simp only [bD, Option.map_eq_some_iff] at e
  obtain ⟨k, e, rfl⟩ := e
  obtain ⟨p, q, h1, h2, h3, h4, rfl⟩ := eqD_some e
  exact ⟨_, .bl _, fun Q z => ⟨p, q, dp_of _ r1 h1, dp_of _ r2 h2, h3, h4, z⟩⟩
theorem od_ne (hu : X.A.units + 64 < cLine) : OpD X (compareOp .NotEq) (nD eqD) := opd_keep (op_neD hu) fun T N H v1 v2 d1 d2 d r1 r2 e => by
  simp only [nD, Option.map_eq_some_iff] at e
  obtain ⟨k, e, rfl⟩ := e
  obtain ⟨p, q, h1, h2, h3, h4, rfl⟩ := eqD_some e
  exact ⟨_, .bl _, fun Q z => ⟨p, q, dp_of _ r1 h1, dp_of _ r2 h2, h3, h4, z⟩⟩
theorem isN_val {T : Tg} {N : AP1} {H : Hp} {v1 v2 : V} {d1 d2 : D} {k : Bool} (r1 : Rep T N H v1 d1) (r2 : Rep T N H v2 d2) (e : isN d1 d2 = some k) : v2 = .non ∧ k = decide (v1 = .non) := by
  have h2 : d2 = .non := by
    unfold isN at e
    split at e <;> first | rfl | cases e
  subst h2
  refine ⟨r2.non_inv, ?_⟩
  cases r1 <;> simp [isN] at e <;> first | (subst e; simp) | skip
  rename_i a o n h t
  cases t <;> simp [isN] at e <;> (subst e; simp)
theorem od_is : OpD X (compareOp .Is) (bD isN) := opd_keep op_isN fun T N H v1 v2 d1 d2 d r1 r2 e => by
  simp only [bD, Option.map_eq_some_iff] at e
  obtain ⟨k, e, rfl⟩ := e
  obtain ⟨h1, rfl⟩ := isN_val r1 r2 e
  exact ⟨_, .bl _, fun Q z => ⟨h1, z⟩⟩
theorem od_isnot : OpD X (compareOp .IsNot) (nD isN) := opd_keep op_notN fun T N H v1 v2 d1 d2 d r1 r2 e => by
  simp only [nD, Option.map_eq_some_iff] at e
  obtain ⟨k, e, rfl⟩ := e
  obtain ⟨h1, rfl⟩ := isN_val r1 r2 e
  exact ⟨_, .bl _, fun Q z => ⟨h1, z⟩⟩
theorem in_val {K : PySem.W.Frag} {T : Tg} {N : AP1} {H : Hp} {v1 v2 : V} {d1 d2 : D} {k : Bool} (r1 : Rep T N H v1 d1) (r2 : Rep T N H v2 d2) (e : inD d1 d2 = some k) :
    (∃ i j, v1 = .str i ∧ v2 = .str j ∧ k = !(Builtin.Str.occurrences j i 0 j.length 1).isEmpty) ∨ ∃ p xs, v2 = .ref p ∧ (SqL K H p xs ∨ SqT K H p xs) ∧ flatV v1 = true ∧ xs.all flatV = true ∧ k = inV v1 xs := by
  unfold inD at e
  split at e
  · simp only [Option.some.injEq] at e
    subst e
    exact .inl ⟨_, _, r1.str_inv, r2.str_inv, rfl⟩
  · split at e <;> simp only [Option.some.injEq, reduceCtorEq] at e
    rename_i h1 h2
    subst e
    obtain ⟨a, vs, rfl, _, h, q⟩ := r2.lst_inv
    obtain ⟨rfl, f1⟩ := flat_rep r1 h1
    obtain ⟨rfl, f2⟩ := flats_rep q h2
    exact .inr ⟨a, _, rfl, .inl (.of h), f1, f2, rfl⟩
  · split at e <;> simp only [Option.some.injEq, reduceCtorEq] at e
    rename_i h1 h2
    subst e
    obtain ⟨a, vs, rfl, _, h, q⟩ := r2.tup_inv
    obtain ⟨rfl, f1⟩ := flat_rep r1 h1
    obtain ⟨rfl, f2⟩ := flats_rep q h2
    exact .inr ⟨a, _, rfl, .inr (.of h), f1, f2, rfl⟩
  · cases e
theorem od_in : OpD X (compareOp .In) (bD inD) := opd_keep (op_in_str.or op_in_seq) fun T N H v1 v2 d1 d2 d r1 r2 e => by
  simp only [bD, Option.map_eq_some_iff] at e
  obtain ⟨k, e, rfl⟩ := e
  refine ⟨_, .bl _, fun Q z => ?_⟩
  rcases in_val (K := X.K) r1 r2 e with ⟨i, j, h1, h2, rfl⟩ | ⟨p, xs, h1, h2, h3, h4, rfl⟩
  · exact .inl ⟨i, j, h1, h2, z⟩
  · exact .inr ⟨p, xs, h1, h2, h3, h4, z⟩
theorem od_notin : OpD X (compareOp .NotIn) (nD inD) := opd_keep (op_notIn_str.or op_notIn_seq) fun T N H v1 v2 d1 d2 d r1 r2 e => by
  simp only [nD, Option.map_eq_some_iff] at e
  obtain ⟨k, e, rfl⟩ := e
  refine ⟨_, .bl _, fun Q z => ?_⟩
  rcases in_val (K := X.K) r1 r2 e with ⟨i, j, h1, h2, rfl⟩ | ⟨p, xs, h1, h2, h3, h4, rfl⟩
  · exact .inl ⟨i, j, h1, h2, z⟩
  · exact .inr ⟨p, xs, h1, h2, h3, h4, z⟩
theorem od_add : OpD X (binaryOp .Add) addD := by
  refine ⟨_, op_add.or (op_add_str.or op_catA), fun T N H v1 v2 d1 d2 d Q al r1 r2 e q => ?_⟩
  unfold addD at e
  split at e
  · simp only [Option.some.injEq] at e
    subst e
    exact .inl ⟨_, _, r1.int_inv, r2.int_inv, q _ H (fun _ _ h => h) (.int _)⟩
  · split at e <;> simp only [Option.some.injEq, reduceCtorEq] at e
    rename_i hz
    subst e
    exact .inr (.inl ⟨_, _, r1.str_inv, r2.str_inv, Nat.le_of_lt (Nat.lt_of_le_of_lt hz big_line), q _ H (fun _ _ h => h) (.str _)⟩)
  · split at e <;> simp only [Option.some.injEq, reduceCtorEq] at e
    rename_i xs ys hz
    subst e
    obtain ⟨a, vs, rfl, na, ha, qa⟩ := r1.tup_inv
    obtain ⟨b, ws, rfl, nb, hb, qb⟩ := r2.tup_inv
    have la := qa.length
    have lb := qb.length
    refine .inr (.inr ⟨a, b, vs, ws, rfl, rfl, .of ha, .of hb, ?_, fun z => ?_, fun z z2 => ?_, fun z z2 p hp => ?_⟩)
    · rw [la, lb]
      exact Nat.le_of_lt (Nat.lt_of_le_of_lt hz big_line)
    · subst z
      have : xs = [] := by cases qa; rfl
      subst this
      exact q _ H (fun _ _ h => h) r2
    · subst z2
      have : ys = [] := by cases qb; rfl
      subst this
      exact q _ H (fun _ _ h => h) (by rw [List.append_nil]; exact r1)
    · have k : ∀ b u, H b = some u → upd H p (.tup (vs ++ ws)) b = some u := fun b u h => by
        rw [upd_ne (ne_of_none h hp)]; exact h
      exact q _ _ k (.ref (fun z => al p z hp) upd_same (.tup ((qa.app qb).move fun b u n h => ⟨n, k b u h⟩)))
  · cases e
theorem ol_cat : OpL X (binaryOp .Add) catD := ⟨_, op_cat, fun T N H v1 v2 d1 d2 ds Q r1 r2 e q => by
  unfold catD at e
  split at e <;> try cases e
  split at e <;> simp only [Option.some.injEq, reduceCtorEq] at e
  rename_i hz
  subst e
  obtain ⟨a, vs, rfl, na, ha, qa⟩ := r1.lst_inv
  obtain ⟨b, ws, rfl, nb, hb, qb⟩ := r2.lst_inv
  refine ⟨a, b, vs, ws, rfl, rfl, ha, hb, ?_, fun p hp => q p _ hp (qa.app qb)⟩
  rw [qa.length, qb.length]
  exact Nat.le_of_lt (Nat.lt_of_le_of_lt hz big_line)⟩
theorem ol_rep : OpL X (binaryOp .Mult) repD := ⟨_, op_rep, fun T N H v1 v2 d1 d2 ds Q r1 r2 e q => by
  unfold repD at e
  split at e <;> try cases e
  split at e <;> simp only [Option.some.injEq, reduceCtorEq] at e
  rename_i xs k hz
  subst e
  obtain ⟨a, vs, rfl, na, ha, qa⟩ := r1.lst_inv
  have hb : (big : Int) < 2 ^ 63 := by decide
  refine ⟨a, k, vs, rfl, r2.int_inv, ha, by omega, by omega, ?_, fun p hp => q p _ hp (qa.rep _)⟩
  rw [qa.length]
  exact Nat.le_of_lt (Nat.lt_of_le_of_lt hz.2.2 big_line)⟩
end
end ND

end
section
set_option Elab.async false
set_option linter.all false
set_option maxRecDepth 100000
/-! ND5: comparisons, tests, conditional values, arguments, displays, calls of built-ins, items, slices. -/
namespace ND
open PySem PySem.Spec PyProof.Rows L2
section
variable {X : Cx} {c : Cn} {E : WX} {pos : Pos} {x : Str} {a b e d : Expr} {fa fb fc f : FD}
/-! ### comparisons -/
theorem nd_cmp {op : CmpOp} {g : D → D → Option D} (ho : OpD X (compareOp op) g) (ha : PE X a (rdD c E fa)) (hb : PE X b (rdD c E fb)) (hm : behindInMarks op b = false := by first | exact nomark _ (by decide) (by decide) | rfl) :
    PE X (.Compare a [op] [b] pos) (rdD c E (lift2 g fa fb)) := by
  obtain ⟨r, h1, h2⟩ := ho
  exact PE.mono (pe_cmpR h1 ha hb hm) fun σ H Q h => op_go h2 h
def asB : D → Option Bool
  | .bl k => some k
  | _ => none
/-- the bool that is read -/
def testB (f : FD) : FT := fun ρ => (f ρ).bind fun r => ofO (asB r.1) r.2
theorem testB_go {σ : L2.St} {H : Hp} {Q : Bool → Hp → Prop} (h : rdT c E (testB f) σ H Q) : rdD c E f σ H fun x H' => ∃ k, x = .bl k ∧ Q k H' := by
  obtain ⟨N, W, ρ, er, q⟩ := h
  refine ⟨N, W, ρ, er, q.bind.imp fun N1 W1 H1 r1 t1 e1 q1 v1 rv1 => ?_⟩
  obtain ⟨k, hk, q2⟩ := ofO_ok q1 e1
  have hd : r1.1 = .bl k := by
    unfold asB at hk
    split at hk <;> simp only [Option.some.injEq, reduceCtorEq] at hk
    subst hk; assumption
  rw [hd] at rv1
  exact ⟨k, rv1.bl_inv, q2 _ _ _ (.refl _ _ _) e1⟩
theorem nt_cmp {op : CmpOp} {g : D → D → Option D} (ho : OpD X (compareOp op) g) (ha : PE X a (rdD c E fa)) (hb : PE X b (rdD c E fb)) (hm : behindInMarks op b = false := by first | exact nomark _ (by decide) (by decide) | rfl) :
    PT X (.Compare a [op] [b] pos) (rdT c E (testB (lift2 g fa fb))) := by
  obtain ⟨r, h1, h2⟩ := ho
  refine PT.mono (pt_cmpR h1 ha hb hm) fun σ H Q h => ?_
  obtain ⟨N, W, ρ, er, q⟩ := testB_go h
  exact op_go h2 ⟨N, W, ρ, er, q⟩
/-- a op b op' d -/
def chn (g g' : D → D → Option D) (fa fb fc : FD) : FD := fun ρ => (fa ρ).bind fun r1 => (fb r1.2).bind fun r2 => (ofO ((g r1.1 r2.1).bind asB) r2.2).bind fun k => if k.1 = true then (fc k.2).bind fun r3 => ofO (g' r2.1 r3.1) r3.2 else .ok (.bl false, k.2)
theorem chn_go {r r' : R2} {g g' : D → D → Option D} {σ : L2.St} {H : Hp} {Q : VK} (k1 : ∀ (T : Tg) (N : AP1) (H : Hp) (v1 v2 : V) (d1 d2 d : D) (Q : VK),
      (∀ a, N a → H a ≠ none) → Rep T N H v1 d1 → Rep T N H v2 d2 → g d1 d2 = some d → (∀ v H', (∀ b o, H b = some o → H' b = some o) → Rep T N H' v d → Q v H') → r v1 v2 H Q)
    (k2 : ∀ (T : Tg) (N : AP1) (H : Hp) (v1 v2 : V) (d1 d2 d : D) (Q : VK),
      (∀ a, N a → H a ≠ none) → Rep T N H v1 d1 → Rep T N H v2 d2 → g' d1 d2 = some d → (∀ v H', (∀ b o, H b = some o → H' b = some o) → Rep T N H' v d → Q v H') → r' v1 v2 H Q)
    (h : rdD c E (chn g g' fa fb fc) σ H Q) : tChain r r' (rdD c E fa) (rdD c E fb) (rdD c E fc) σ H Q := by
  obtain ⟨N, W, ρ, er, q⟩ := h
  refine ⟨N, W, ρ, er, q.bind.imp fun N1 W1 H1 r1 t1 e1 q1 v1 rv1 => ?_⟩
  refine ⟨N1, W1, r1.2, e1, q1.bind.imp fun N2 W2 H2 r2 t2 e2 q2 v2 rv2 => ?_⟩
  cases hg : g r1.1 r2.1 with
  | none => simp only [hg, Option.bind_none, ofO_none, Out.bind_no] at q2; exact q2.elim
  | some dd =>
    cases hb : asB dd with
    | none => simp only [hg, hb, Option.bind_some, ofO_none, Out.bind_no] at q2; exact q2.elim
    | some k =>
      simp only [hg, hb, Option.bind_some, ofO_some, Out.bind_ok] at q2
      have hd : dd = .bl k := by
        unfold asB at hb
        split at hb <;> simp only [Option.some.injEq, reduceCtorEq] at hb
        subst hb; rfl
      subst hd
      refine k1 c.T N2 H2 v1 v2 r1.1 r2.1 _ _ e2.all (rv1.move (e1.mv t2)) rv2 hg fun z H3 kk rz => ?_
      refine ⟨k, rz.bl_inv, ?_⟩
      have e3 := e2.grow kk
      have t3 : Stp N2 W2 H2 N2 W2 H3 := .grow e2.all kk
      cases k with
      | false =>
        rw [if_neg Bool.false_ne_true] at q2
        exact iteF (q2 N2 W2 H3 t3 e3 _ (.bl false))
      | true =>
        rw [if_pos rfl] at q2
        refine iteT ⟨N2, W2, r2.2, e3, (q2.step t3).bind.imp fun N4 W4 H4 r4 t4 e4 q4 v4 rv4 => ?_⟩
        obtain ⟨d5, hd5, q5⟩ := ofO_ok q4 e4
        exact k2 c.T N4 H4 v2 v4 r2.1 r4.1 d5 Q e4.all ((rv2.move (e2.mv t3)).move (e3.mv t4)) rv4 hd5 fun v H' k' rv => q5 N4 W4 H' (.grow e4.all k') (e4.grow k') v rv
theorem nd_chain {op op' : CmpOp} {g g' : D → D → Option D} (ho : OpD X (compareOp op) g) (ho' : OpD X (compareOp op') g') (ha : PE X a (rdD c E fa)) (hb : PE X b (rdD c E fb)) (hd : PE X d (rdD c E fc))
    (hm : lastMarks [op, op'] [b, d] = false := by with_unfolding_all rfl) : PE X (.Compare a [op, op'] [b, d] pos) (rdD c E (chn g g' fa fb fc)) := by
  obtain ⟨r, h1, h2⟩ := ho
  obtain ⟨r', h1', h2'⟩ := ho'
  exact PE.mono (pe_chain h1 h1' ha hb hd hm) fun σ H Q h => chn_go h2 h2' h
theorem nt_chain {op op' : CmpOp} {g g' : D → D → Option D} (ho : OpD X (compareOp op) g) (ho' : OpD X (compareOp op') g') (ha : PE X a (rdD c E fa)) (hb : PE X b (rdD c E fb)) (hd : PE X d (rdD c E fc))
    (hm : lastMarks [op, op'] [b, d] = false := by with_unfolding_all rfl) : PT X (.Compare a [op, op'] [b, d] pos) (rdT c E (testB (chn g g' fa fb fc))) := by
  obtain ⟨r, h1, h2⟩ := ho
  obtain ⟨r', h1', h2'⟩ := ho'
  exact PT.mono (pt_chain h1 h1' ha hb hd hm) fun σ H Q h => chn_go h2 h2' (testB_go h)

/-! ### and, or, not -/
def andV (fa fb : FD) : FD := fun ρ => (fa ρ).bind fun r => (ofO (asB r.1) r.2).bind fun k => if k.1 = true then fb k.2 else .ok (.bl false, k.2)
def orV (fa fb : FD) : FD := fun ρ => (fa ρ).bind fun r => (ofO (asB r.1) r.2).bind fun k => if k.1 = true then .ok (.bl true, k.2) else fb k.2
def notV (fa : FD) : FD := fun ρ => (fa ρ).bind fun r => (ofO (asB r.1) r.2).bind fun k => .ok (.bl (!k.1), k.2)
theorem asB_go {β : Type} {R : AP1 → AP1 → Hp → β × En → Prop} {N W : AP1} {H : Hp} {σ : L2.St} {dd : D} {ρ : En} {m : Bool × En → Out (β × En)} (q : sat c N W H σ E R ((ofO (asB dd) ρ).bind m)) : ∃ k, dd = .bl k ∧ sat c N W H σ E R (m (k, ρ)) := by
  cases hb : asB dd with
  | none => simp only [hb, ofO_none, Out.bind_no] at q; exact q.elim
  | some k =>
    simp only [hb, ofO_some, Out.bind_ok] at q
    refine ⟨k, ?_, q⟩
    unfold asB at hb
    split at hb <;> simp only [Option.some.injEq, reduceCtorEq] at hb
    subst hb; rfl
variable {rest : List Expr}
theorem nd_one {op} (h : PE X a (rdD c E fa)) : PE X (.BoolOp op [a] pos) (rdD c E fa) := pe_one h
theorem nd_and (ha : PE X a (rdD c E fa)) (hb : PE X (.BoolOp .And (b :: rest) pos) (rdD c E fb)) : PE X (.BoolOp .And (a :: b :: rest) pos) (rdD c E (andV fa fb)) := PE.mono (pe_and ha hb) fun σ H Q ⟨N, W, ρ, er, q⟩ => by
  refine ⟨N, W, ρ, er, q.bind.imp fun N1 W1 H1 r1 t1 e1 q1 v1 rv1 => ?_⟩
  obtain ⟨k, hk, q2⟩ := asB_go q1
  rw [hk] at rv1
  refine ⟨k, rv1.bl_inv, ?_⟩
  cases k with
  | false => exact iteF (q2.here e1 _ (.bl false))
  | true => exact iteT ⟨N1, W1, _, e1, q2⟩
theorem nd_or (ha : PE X a (rdD c E fa)) (hb : PE X (.BoolOp .Or (b :: rest) pos) (rdD c E fb)) : PE X (.BoolOp .Or (a :: b :: rest) pos) (rdD c E (orV fa fb)) := PE.mono (pe_or ha hb) fun σ H Q ⟨N, W, ρ, er, q⟩ => by
  refine ⟨N, W, ρ, er, q.bind.imp fun N1 W1 H1 r1 t1 e1 q1 v1 rv1 => ?_⟩
  obtain ⟨k, hk, q2⟩ := asB_go q1
  rw [hk] at rv1
  refine ⟨k, rv1.bl_inv, ?_⟩
  cases k with
  | false => exact iteF ⟨N1, W1, _, e1, q2⟩
  | true => exact iteT (q2.here e1 _ (.bl true))
theorem nd_not (ha : PE X a (rdD c E fa)) : PE X (.UnaryOp .Not a pos) (rdD c E (notV fa)) := PE.mono (pe_not ha) fun σ H Q ⟨N, W, ρ, er, q⟩ => by
  refine ⟨N, W, ρ, er, q.bind.imp fun N1 W1 H1 r1 t1 e1 q1 v1 rv1 => ?_⟩
  obtain ⟨k, hk, q2⟩ := asB_go q1
  rw [hk] at rv1
  exact ⟨k, rv1.bl_inv, q2.here e1 _ (.bl _)⟩

/-! ### tests -/
def truD : D → Option Bool
  | .non => some false
  | .bl k => some k
  | .int i => some (i != 0)
  | .str y => if y.length ≤ big then some ((y.length : Int) != 0) else none
  | .tup ds => some (!ds.isEmpty)
  | .lst ds => some (!ds.isEmpty)
  | .dic ks => some (!ks.isEmpty)
  | _ => none
theorem reps_emp {T : Tg} {N : AP1} {H : Hp} {vs : List V} {ds : List D} (r : Reps T N H vs ds) : (!vs.isEmpty) = !ds.isEmpty := by cases r <;> rfl
theorem repk_emp {T : Tg} {N : AP1} {H : Hp} {vs : List (Key × V)} {ds : List (Key × D)} (r : RepK T N H vs ds) : (!vs.isEmpty) = !ds.isEmpty := by cases r <;> rfl
theorem truD_ok {K : PySem.W.Frag} {N : AP1} {H : Hp} {v : V} {dd : D} {k : Bool} (r : Pk c N H v dd) (h : truD dd = some k) : TruV K v H k := by
  cases dd <;> simp only [truD, Option.some.injEq, reduceCtorEq] at h
  · rcases r with r | ⟨_, _, _, _, t⟩
    · cases r.non_inv; exact h.symm
    · cases t
  · rcases r with r | ⟨_, _, _, _, t⟩
    · cases r.bl_inv; exact h.symm
    · cases t
  · rcases r with r | ⟨_, _, _, _, t⟩
    · cases r.int_inv; exact h.symm
    · cases t
  · rcases r with r | ⟨_, _, _, _, t⟩
    · cases r.str_inv
      split at h <;> simp only [Option.some.injEq, reduceCtorEq] at h
      exact ⟨Nat.le_of_lt (Nat.lt_of_le_of_lt (by assumption) big_line), h.symm⟩
    · cases t
  · rename_i ds
    have z : ∃ a vs, v = .ref a ∧ H a = some (.tup vs) ∧ Reps c.T N H vs ds := by
      rcases r with r | ⟨a, o, e, h2, t⟩
      · obtain ⟨a, vs, h1, _, h2, h3⟩ := r.tup_inv; exact ⟨a, vs, h1, h2, h3⟩
      · cases t with | tup q => exact ⟨a, _, e, h2, q⟩
    obtain ⟨a, vs, rfl, h2, h3⟩ := z
    exact .inr (.inl ⟨vs, .of h2, by rw [reps_emp h3]; exact h.symm⟩)
  · rename_i ds
    have z : ∃ a vs, v = .ref a ∧ H a = some (.lst vs) ∧ Reps c.T N H vs ds := by
      rcases r with r | ⟨a, o, e, h2, t⟩
      · obtain ⟨a, vs, h1, _, h2, h3⟩ := r.lst_inv; exact ⟨a, vs, h1, h2, h3⟩
      · cases t with | lst q => exact ⟨a, _, e, h2, q⟩
    obtain ⟨a, vs, rfl, h2, h3⟩ := z
    exact .inl ⟨vs, .of h2, by rw [reps_emp h3]; exact h.symm⟩
  · rename_i ds
    have z : ∃ a vs, v = .ref a ∧ H a = some (.dK vs) ∧ RepK c.T N H vs ds := by
      rcases r with r | ⟨a, o, e, h2, t⟩
      · obtain ⟨a, vs, h1, _, h2, h3⟩ := r.dic_inv; exact ⟨a, vs, h1, h2, h3⟩
      · cases t with | dic q => exact ⟨a, _, e, h2, q⟩
    obtain ⟨a, vs, rfl, h2, h3⟩ := z
    exact .inr (.inr ⟨vs, h2, by rw [repk_emp h3]; exact h.symm⟩)
def testV (f : FD) : FT := fun ρ => (f ρ).bind fun r => ofO (truD r.1) r.2
/-- a test by its value's truth (a name, a call, a subscript, a field) -/
theorem nt_val (h : PE X e (rdQ c E f)) (he : ∀ whole, isTrue e X.env whole = (do let v ← whole; standAt e.pos; holding [v] (truthy v)) := by intro _; rfl) : PT X e (rdT c E (testV f)) := PT.mono (pt_truth h he) fun σ H Q ⟨N, W, ρ, er, q⟩ => by
  refine ⟨N, W, ρ, er, q.bind.imp fun N1 W1 H1 r1 t1 e1 q1 v1 rv1 => ?_⟩
  obtain ⟨k, hk, q2⟩ := ofO_ok q1 e1
  exact ⟨k, truD_ok rv1 hk, q2 _ _ _ (.refl _ _ _) e1⟩
def notT (f : FT) : FT := fun ρ => (f ρ).bind fun r => .ok (!r.1, r.2)
def andT (f g : FT) : FT := fun ρ => (f ρ).bind fun r => if r.1 = true then g r.2 else .ok (false, r.2)
def orT (f g : FT) : FT := fun ρ => (f ρ).bind fun r => if r.1 = true then .ok (true, r.2) else g r.2
variable {ta tb : FT}
theorem nt_not (h : PT X a (rdT c E ta)) : PT X (.UnaryOp .Not a pos) (rdT c E (notT ta)) := PT.mono (pt_not h) fun σ H Q ⟨N, W, ρ, er, q⟩ =>
  ⟨N, W, ρ, er, q.bind.imp fun N1 W1 H1 r1 t1 e1 q1 => q1.here e1⟩
theorem PW.mono {t t' : TT} (h : PW X e t) (m : ∀ σ H Q, t' σ H Q → t σ H Q) : PW X e t' := ⟨fun w pins s σ H Q I q => h.run w pins s σ H Q I (m σ H Q q)⟩
theorem nw_and1 (h : PT X a (rdT c E ta)) : PW X (.BoolOp .And [a] pos) (rdT c E ta) := pw_and1 h
theorem nw_or1 (h : PT X a (rdT c E ta)) : PW X (.BoolOp .Or [a] pos) (rdT c E ta) := pw_or1 h
theorem nw_and (ha : PT X a (rdT c E ta)) (hb : PW X (.BoolOp .And (b :: rest) pos) (rdT c E tb)) : PW X (.BoolOp .And (a :: b :: rest) pos) (rdT c E (andT ta tb)) := PW.mono (pw_and ha hb) fun σ H Q ⟨N, W, ρ, er, q⟩ => by
  refine ⟨N, W, ρ, er, q.bind.imp fun N1 W1 H1 r1 t1 e1 q1 => ?_⟩
  obtain ⟨k, ρ1⟩ := r1
  cases k with
  | false => exact iteF (sat.here (show sat c N1 W1 H1 σ E _ (Out.ok (false, ρ1)) from q1) e1)
  | true => exact iteT ⟨N1, W1, ρ1, e1, q1⟩
theorem nw_or (ha : PT X a (rdT c E ta)) (hb : PW X (.BoolOp .Or (b :: rest) pos) (rdT c E tb)) : PW X (.BoolOp .Or (a :: b :: rest) pos) (rdT c E (orT ta tb)) := PW.mono (pw_or ha hb) fun σ H Q ⟨N, W, ρ, er, q⟩ => by
  refine ⟨N, W, ρ, er, q.bind.imp fun N1 W1 H1 r1 t1 e1 q1 => ?_⟩
  obtain ⟨k, ρ1⟩ := r1
  cases k with
  | false => exact iteF ⟨N1, W1, ρ1, e1, q1⟩
  | true => exact iteT (sat.here (show sat c N1 W1 H1 σ E _ (Out.ok (true, ρ1)) from q1) e1)
/-! ### a if t else b -/
def iteE {α : Type} (t : FT) (f g : En → Out (α × En)) : En → Out (α × En) := fun ρ => (t ρ).bind fun r => if r.1 = true then f r.2 else g r.2
theorem nd_ife (hc : PT X d (rdT c E ta)) (ha : PE X a (rdD c E fa)) (hb : PE X b (rdD c E fb)) : PE X (.IfExp d a b pos) (rdD c E (iteE ta fa fb)) := PE.mono (pe_ifExp hc ha hb) fun σ H Q ⟨N, W, ρ, er, q⟩ => by
  refine ⟨N, W, ρ, er, q.bind.imp fun N1 W1 H1 r1 t1 e1 q1 => ?_⟩
  obtain ⟨k, ρ1⟩ := r1
  cases k with
  | false => exact iteF ⟨N1, W1, ρ1, e1, q1⟩
  | true => exact iteT ⟨N1, W1, ρ1, e1, q1⟩
/-- the same freshness asked from an earlier heap -/
theorem VR.back {N N' W W' N2 W2 : AP1} {H H1 H' : Hp} {v : V} {dd : D} {k : Bool} (t : Stp N W H N2 W2 H1) (r : VR c H1 N' W' H' v dd k) : VR c H N' W' H' v dd k := by
  cases k with
  | false => exact r
  | true =>
    obtain ⟨a, o, h1, h2, h3, h4, h5⟩ := r
    refine ⟨a, o, h1, h2, h3, ?_, h5⟩
    cases z : H a with
    | none => rfl
    | some u => exact absurd h4 (t.al a (by rw [z]; intro y; cases y))
theorem nd_ifeV {va vb : FV} (hc : PT X d (rdT c E ta)) (ha : PE X a (rdV c E va)) (hb : PE X b (rdV c E vb)) : PE X (.IfExp d a b pos) (rdV c E (iteE ta va vb)) := PE.mono (pe_ifExp hc ha hb) fun σ H Q ⟨N, W, ρ, er, q⟩ => by
  refine ⟨N, W, ρ, er, q.bind.imp fun N1 W1 H1 r1 t1 e1 q1 => ?_⟩
  obtain ⟨k, ρ1⟩ := r1
  cases k with
  | false => exact iteF ⟨N1, W1, ρ1, e1, q1.imp fun N' W' H' r t e z v rv => z v (rv.back t1)⟩
  | true => exact iteT ⟨N1, W1, ρ1, e1, q1.imp fun N' W' H' r t e z v rv => z v (rv.back t1)⟩

/-! ### arguments -/
def anil : FA := fun ρ => .ok ([], ρ)
def acons (f : FD) (g : FA) : FA := fun ρ => (f ρ).bind fun r => (g r.2).bind fun s => .ok (r.1 :: s.1, s.2)
variable {es : List Expr} {fr : FA}
theorem na_nil : PA X [] (rdA c E anil) := PA.mono pa_nil fun σ H Q ⟨N, W, ρ, er, q⟩ => q.here er _ .nil
theorem na_cons (ha : PE X e (rdD c E f)) (hr : PA X es (rdA c E fr)) (hs : starEach (e :: es) X.env = (false, eval e X.env) :: starEach es X.env := by rfl) : PA X (e :: es) (rdA c E (acons f fr)) := PA.mono (pa_cons ha hr hs) fun σ H Q ⟨N, W, ρ, er, q⟩ => by
  refine ⟨N, W, ρ, er, q.bind.imp fun N1 W1 H1 r1 t1 e1 q1 v1 rv1 => ?_⟩
  refine ⟨N1, W1, r1.2, e1, q1.bind.imp fun N2 W2 H2 r2 t2 e2 q2 v2 rv2 => ?_⟩
  exact q2.here e2 _ (.cons (rv1.move (e1.mv t2)) rv2)

/-! ### displays -/
theorem new_list {N W N2 W2 : AP1} {H H2 : Hp} {σ : L2.St} {ρ2 : En} {p : Addr} {vs : List V} {ds : List D} {Q : VK} (t : Stp N W H N2 W2 H2) (er2 : ER c N2 W2 H2 σ ρ2) (hp : H2 p = none) (rp : Reps c.T N2 H2 vs ds)
    (q : ∀ N' W' H', Stp N W H N' W' H' → ER c N' W' H' σ ρ2 → ∀ v, VR c H N' W' H' v (.lst ds) true → Q v H') : Q (.ref p) (upd H2 p (.lst vs)) := by
  have ea := er2.apart hp (o := .lst vs)
  have hH : H p = none := by
    cases z : H p with
    | none => rfl
    | some o => exact absurd hp (t.al p (by rw [z]; intro y; cases y))
  have h0 : c.H0 p = none := by
    rcases ea.new p (.inr rfl) with z | z
    · exact absurd hp (fun y => er2.all p (er2.sub p z) y)
    · exact z
  refine q _ _ _ (t.trans (.apart hp)) ea (.ref p) ⟨p, _, rfl, .inr rfl, fun z => er2.all p (er2.wn p z) hp, hH, h0, upd_same, .lst (rp.move fun b u n z => ⟨fun y => y.elim n (ne_of_none z hp), ?_⟩)⟩
  rw [upd_ne (ne_of_none z hp)]
  exact z
theorem new_tup {N W N2 W2 : AP1} {H H2 : Hp} {σ : L2.St} {ρ2 : En} {p : Addr} {vs : List V} {ds : List D} {Q : VK} (t : Stp N W H N2 W2 H2) (er2 : ER c N2 W2 H2 σ ρ2) (hp : H2 p = none) (rp : Reps c.T N2 H2 vs ds)
    (q : ∀ N' W' H', Stp N W H N' W' H' → ER c N' W' H' σ ρ2 → ∀ v, Rep c.T N' H' v (.tup ds) → Q v H') : Q (.ref p) (upd H2 p (.tup vs)) := by
  have k : ∀ b u, H2 b = some u → upd H2 p (.tup vs) b = some u := fun b u h => by
    rw [upd_ne (ne_of_none h hp)]; exact h
  exact q N2 W2 _ (t.trans (.grow er2.all k)) (er2.grow k) _ (.ref (fun z => er2.all p z hp) upd_same (.tup (rp.move fun b u n h => ⟨n, k b u h⟩)))
def small {α : Type} (ds : List α) : Option (List α) := if ds.length ≤ big then some ds else none
def tupE (fa : FA) : FD := fun ρ => (fa ρ).bind fun r => (ofO (small r.1) r.2).bind fun r => .ok (.tup r.1, r.2)
def lstE (fa : FA) : FV := fun ρ => (fa ρ).bind fun r => (ofO (small r.1) r.2).bind fun r => .ok ((.lst r.1, true), r.2)
theorem small_ok {α β : Type} {R : AP1 → AP1 → Hp → β × En → Prop} {N W : AP1} {H : Hp} {σ : L2.St} {ds : List α} {ρ : En} {m : List α × En → Out (β × En)} (q : sat c N W H σ E R ((ofO (small ds) ρ).bind m)) : ds.length ≤ sizeLine ∧ sat c N W H σ E R (m (ds, ρ)) := by
  unfold small at q
  by_cases h : ds.length ≤ big
  · rw [if_pos h] at q
    exact ⟨Nat.le_of_lt (Nat.lt_of_le_of_lt h big_line), q⟩
  · rw [if_neg h] at q
    exact q.elim
theorem nd_tup {x1} (h : PA X es (rdA c E fr)) : PE X (.Tuple es x1 pos) (rdD c E (tupE fr)) := PE.mono (pe_tup h) fun σ H Q ⟨N, W, ρ, er, q⟩ => by
  refine ⟨N, W, ρ, er, q.bind.imp fun N1 W1 H1 r1 t1 e1 q1 v1 rv1 => ?_⟩
  obtain ⟨hz, q2⟩ := small_ok q1
  exact ⟨by rw [rv1.length]; exact hz, fun p hp => new_tup (.refl _ _ _) e1 hp rv1 q2⟩
theorem nd_lst (h : PA X es (rdA c E fr)) : PE X (.List es pos) (rdV c E (lstE fr)) := PE.mono (pe_lst h) fun σ H Q ⟨N, W, ρ, er, q⟩ => by
  refine ⟨N, W, ρ, er, q.bind.imp fun N1 W1 H1 r1 t1 e1 q1 v1 rv1 => ?_⟩
  obtain ⟨hz, q2⟩ := small_ok q1
  refine ⟨by rw [rv1.length]; exact hz, fun p hp => new_list (.refl _ _ _) e1 hp rv1 fun N' W' H' t e v rv => q2 N' W' H' t e v (rv.back t1)⟩
end
end ND

end
section
set_option Elab.async false
set_option linter.all false
set_option maxRecDepth 100000
/-! ND6: statements, defs, calls of one's own defs. -/
namespace ND
open PySem PySem.Spec PyProof.Rows L2

inductive Fl where
  | nx | rt (d : D) (fr : Bool) | bk | ct
def satS (c : Cn) (N W : AP1) (H : Hp) (E : WX) (D : Ends) : Out (Fl × En) → Prop
  | .ok (.nx, ρ) => ∀ N' W' H' σ, Stp N W H N' W' H' → ER c N' W' H' σ ρ → D.nx σ H'
  | .ok (.bk, ρ) => ∀ N' W' H' σ, Stp N W H N' W' H' → ER c N' W' H' σ ρ → D.bk σ H'
  | .ok (.ct, ρ) => ∀ N' W' H' σ, Stp N W H N' W' H' → ER c N' W' H' σ ρ → D.ct σ H'
  | .ok (.rt d fr, ρ) => ∀ N' W' H' σ v, Stp N W H N' W' H' → ER c N' W' H' σ ρ → VR c c.H0 N' W' H' v d fr → D.rt v H'
  | .err x ρ => ∀ N' W' H' σ cv ad, Stp N W H N' W' H' → ER c N' W' H' σ ρ → XR c.T N' H' cv ad x → E cv ad σ H'
  | .no => False
abbrev FS := En → Out (Fl × En)
def rdS (c : Cn) (E : WX) (g : FS) : TS := fun D σ H => ∃ N W ρ, ER c N W H σ ρ ∧ satS c N W H E D (g ρ)
section
variable {c : Cn} {N W N1 W1 : AP1} {H H1 : Hp} {σ : L2.St} {E : WX} {D : Ends} {α : Type}
theorem satS.step {m : Out (Fl × En)} (h : satS c N W H E D m) (s : Stp N W H N1 W1 H1) : satS c N1 W1 H1 E D m := by
  match m, h with
  | .ok (.nx, ρ), h => exact fun N' W' H' σ t e => h N' W' H' σ (s.trans t) e
  | .ok (.bk, ρ), h => exact fun N' W' H' σ t e => h N' W' H' σ (s.trans t) e
  | .ok (.ct, ρ), h => exact fun N' W' H' σ t e => h N' W' H' σ (s.trans t) e
  | .ok (.rt d fr, ρ), h => exact fun N' W' H' σ v t e r => h N' W' H' σ v (s.trans t) e r
  | .err x ρ, h => exact fun N' W' H' σ cv ad t e r => h N' W' H' σ cv ad (s.trans t) e r
/-- an expression, then what is done with its value -/
theorem satS.bind {m : Out (α × En)} {k : α × En → Out (Fl × En)} (h : satS c N W H E D (m.bind k)) : sat c N W H σ E (fun N1 W1 H1 r => satS c N1 W1 H1 E D (k r) ∧ Stp N W H N1 W1 H1) m := by
  cases m with
  | ok r =>
    have h' : satS c N W H E D (k r) := h
    exact fun N' W' H' t e => ⟨h'.step t, t⟩
  | err x ρ => exact fun N' W' H' cv ad t e r => h N' W' H' σ cv ad t e r
  | no => exact h
/-- .. where the value may be new -/
theorem satS.bindB {m : Out (α × En)} {k : α × En → Out (Fl × En)} (h : satS c N W H E D (m.bind k)) : sat c N W H σ E (fun N1 W1 H1 r => satS c N W H E D (k r) ∧ Stp N W H N1 W1 H1) m := by
  cases m with
  | ok r => exact fun N' W' H' t e => ⟨h, t⟩
  | err x ρ => exact fun N' W' H' cv ad t e r => h N' W' H' σ cv ad t e r
  | no => exact h
end

/-! ### stores -/
section
variable {c : Cn} {N W N' W' : AP1} {H H' : Hp} {σ : L2.St} {ρ : En} {i : Nat} {v : V} {d : D}
theorem set_st (e : ER c N W H σ ρ) (h : i < σ.length) : (σ.set i (some v))[i]? = some (some v) := List.getElem?_set_self h
theorem sl_same {s : SD} (h : i < ρ.sl.length) : (setS ρ i s).sl[i]? = some s := List.getElem?_set_self h
theorem sl_ne {s : SD} {j : Nat} (h : i ≠ j) : (setS ρ i s).sl[j]? = ρ.sl[j]? := List.getElem?_set_ne h
theorem sl_out {s : SD} (h : ¬ i < ρ.sl.length) : setS ρ i s = ρ := by
  unfold setS
  rw [List.set_eq_of_length_le (by omega)]
theorem st_out {v : V} (e : ER c N W H σ ρ) (h : ¬ i < ρ.sl.length) : σ.set i (some v) = σ := List.set_eq_of_length_le (by rw [e.len]; omega)
/-- a shared value is stored -/
theorem ER.setSh (e : ER c N W H σ ρ) (r : Rep c.T N H v d) : ER c N W H (σ.set i (some v)) (setS ρ i (.sh d)) := by
  by_cases hi : i < ρ.sl.length
  · have hiσ : i < σ.length := by rw [e.len]; exact hi
    refine ⟨e.keep, e.n0, e.sub, e.new, e.all, e.wn, e.wnew, e.bag, ?_, fun j dj q => ?_, fun j dj q => ?_, fun j k dj dk b q1 q2 s1 s2 => ?_, fun j q => ?_⟩
    · show (σ.set i _).length = (ρ.sl.set i _).length
      rw [List.length_set, List.length_set]
      exact e.len
    · by_cases z : i = j
      · subst z
        rw [sl_same hi] at q
        cases q
        exact ⟨v, List.getElem?_set_self hiσ, r⟩
      · rw [sl_ne z] at q
        rw [List.getElem?_set_ne z]
        exact e.sh j dj q
    · by_cases z : i = j
      · subst z
        rw [sl_same hi] at q
        cases q
      · rw [sl_ne z] at q
        rw [List.getElem?_set_ne z]
        exact e.ow j dj q
    · by_cases z : i = j
      · subst z
        rw [sl_same hi] at q1
        cases q1
      · by_cases z2 : i = k
        · subst z2
          rw [sl_same hi] at q2
          cases q2
        · rw [sl_ne z] at q1
          rw [sl_ne z2] at q2
          rw [List.getElem?_set_ne z] at s1
          rw [List.getElem?_set_ne z2] at s2
          exact e.inj j k dj dk b q1 q2 s1 s2
    · by_cases z : i = j
      · subst z
        rw [sl_same hi] at q
        cases q
      · rw [sl_ne z] at q
        rw [List.getElem?_set_ne z]
        exact e.bs j q
  · rw [sl_out hi, st_out e hi]
    exact e
/-- an object that no one holds is stored: the slot holds it from now on -/
theorem ER.setOw {a : Addr} {o : HO} (e : ER c N W H σ ρ) (hi : i < ρ.sl.length) (h1 : N a) (h2 : ¬ W a) (h3 : c.H0 a = none) (h4 : H a = some o) (h5 : Top c.T N H o d) :
    ER c N (fun b => W b ∨ b = a) H (σ.set i (some (V.ref a))) (setS ρ i (.ow d)) := by
  have hiσ : i < σ.length := by rw [e.len]; exact hi
  have nb : c.bg ≠ some a := fun z => (e.bag a z).2.1 h3
  refine ⟨e.keep, e.n0, e.sub, e.new, e.all, fun b hb => hb.elim (e.wn b) (fun z => z ▸ h1), fun b hb => hb.elim (e.wnew b) (fun z => .inr (z ▸ h3)), fun b hb => ⟨.inl (e.bag b hb).1, (e.bag b hb).2⟩, ?_, fun j dj q => ?_, fun j dj q => ?_, fun j k dj dk b q1 q2 s1 s2 => ?_, fun j q => ?_⟩
  · show (σ.set i _).length = (ρ.sl.set i _).length
    rw [List.length_set, List.length_set]
    exact e.len
  · by_cases z : i = j
    · subst z
      rw [sl_same hi] at q
      cases q
    · rw [sl_ne z] at q
      rw [List.getElem?_set_ne z]
      exact e.sh j dj q
  · by_cases z : i = j
    · subst z
      rw [sl_same hi] at q
      cases q
      exact ⟨a, o, List.getElem?_set_self hiσ, .inr rfl, nb, h4, h5⟩
    · rw [sl_ne z] at q
      rw [List.getElem?_set_ne z]
      obtain ⟨b, u, k1, k2, k3⟩ := e.ow j dj q
      exact ⟨b, u, k1, .inl k2, k3⟩
  · by_cases z : i = j
    · by_cases z2 : i = k
      · exact z.symm.trans z2
      · subst z
        rw [List.getElem?_set_self hiσ] at s1
        cases s1
        rw [sl_ne z2] at q2
        rw [List.getElem?_set_ne z2] at s2
        obtain ⟨b, u, k1, k2, k3⟩ := e.ow k dk q2
        rw [s2] at k1
        cases k1
        exact absurd k2 h2
    · by_cases z2 : i = k
      · subst z2
        rw [List.getElem?_set_self hiσ] at s2
        cases s2
        rw [sl_ne z] at q1
        rw [List.getElem?_set_ne z] at s1
        obtain ⟨b, u, k1, k2, k3⟩ := e.ow j dj q1
        rw [s1] at k1
        cases k1
        exact absurd k2 h2
      · rw [sl_ne z] at q1
        rw [sl_ne z2] at q2
        rw [List.getElem?_set_ne z] at s1
        rw [List.getElem?_set_ne z2] at s2
        exact e.inj j k dj dk b q1 q2 s1 s2
  · by_cases z : i = j
    · subst z
      rw [sl_same hi] at q
      cases q
    · rw [sl_ne z] at q
      rw [List.getElem?_set_ne z]
      exact e.bs j q
/-- what is stored: a list (or another object) that no one holds is the slot's own -/
def put (ρ : En) (i : Nat) (d : D) (fr : Bool) : En := setS ρ i (if fr = true then .ow d else .sh d)
theorem ER.put {fr : Bool} {HB : Hp} {N0 W0 : AP1} (t : Stp N0 W0 HB N W H) (e : ER c N W H σ ρ) (r : VR c HB N W H v d fr) : ∃ W', Stp N0 W0 HB N W' H ∧ ER c N W' H (σ.set i (some v)) (ND.put ρ i d fr) := by
  cases fr with
  | false => exact ⟨W, t, e.setSh r⟩
  | true =>
    obtain ⟨a, o, rfl, h1, h2, h3, h4, h5, h6⟩ := r
    by_cases hi : i < ρ.sl.length
    · exact ⟨_, ⟨t.keep, t.nN, fun b hb => hb.elim (t.nW b) (fun z => .inr (z ▸ h3)), t.kN, t.al⟩, e.setOw hi h1 h2 h4 h5 h6⟩
    · refine ⟨W, t, ?_⟩
      unfold ND.put
      rw [sl_out hi, st_out e hi]
      exact e
end

/-! ### statements -/
section
variable {X : Cx} {c : Cn} {E : WX} {pos : Pos} {st : Stmt} {rest : List Stmt} {g h : FS} {e : Expr} {f : FD} {fv : FV} {ft : FT}
def seqS (g h : FS) : FS := fun ρ => (g ρ).bind fun r => match r.1 with
  | .nx => h r.2
  | fl => .ok (fl, r.2)
def skipS : FS := fun ρ => .ok (.nx, ρ)
theorem ns_nil : PSs X [] (rdS c E skipS) := PSs.mono pss_nil fun D σ H ⟨N, W, ρ, er, q⟩ => q N W H σ (.refl _ _ _) er
theorem ns_one (h1 : PS X st (rdS c E g)) : PSs X [st] (rdS c E g) := pss_one h1
theorem ns_cons (h1 : PS X st (rdS c E g)) (h2 : PSs X rest (rdS c E h)) : PSs X (st :: rest) (rdS c E (seqS g h)) := PSs.mono (pss_cons h1 h2) fun D σ H ⟨N, W, ρ, er, q⟩ => by
  refine ⟨N, W, ρ, er, ?_⟩
  unfold seqS at q
  match hm : g ρ with
  | .ok (.nx, ρ1) =>
    rw [hm] at q
    have q : satS c N W H E D (h ρ1) := q
    exact fun N1 W1 H1 σ1 t e1 => ⟨N1, W1, ρ1, e1, q.step t⟩
  | .ok (.bk, ρ1) => rw [hm] at q; exact q
  | .ok (.ct, ρ1) => rw [hm] at q; exact q
  | .ok (.rt d fr, ρ1) => rw [hm] at q; exact q
  | .err x ρ1 => rw [hm] at q; exact q
  | .no => rw [hm] at q; exact q
theorem ns_pass : PS X (.Pass pos) (rdS c E skipS) := PS.mono ps_pass fun D σ H ⟨N, W, ρ, er, q⟩ => q N W H σ (.refl _ _ _) er
theorem ns_break : PS X (.Break pos) (rdS c E fun ρ => .ok (.bk, ρ)) := PS.mono ps_break fun D σ H ⟨N, W, ρ, er, q⟩ => q N W H σ (.refl _ _ _) er
theorem ns_continue : PS X (.Continue pos) (rdS c E fun ρ => .ok (.ct, ρ)) := PS.mono ps_continue fun D σ H ⟨N, W, ρ, er, q⟩ => q N W H σ (.refl _ _ _) er
def dropS (f : FD) : FS := fun ρ => (f ρ).bind fun r => .ok (.nx, r.2)
theorem ns_expr (he : PE X e (rdQ c E f)) (hs : swapsWith e none pos.line X.env = pure false := by rfl) : PS X (.Expr e pos) (rdS c E (dropS f)) := PS.mono (ps_expr he hs) fun D σ H ⟨N, W, ρ, er, q⟩ => by
  refine ⟨N, W, ρ, er, (satS.bind (σ := σ) q).imp fun N1 W1 H1 r1 t1 e1 q1 v1 rv1 => ?_⟩
  exact q1.1 N1 W1 H1 σ (.refl _ _ _) e1
def retS (f : FV) : FS := fun ρ => (f ρ).bind fun r => .ok (.rt r.1.1 r.1.2, r.2)
theorem VR.h0 {N W : AP1} {H H' : Hp} {v : V} {dd : D} {k : Bool} (r : VR c H N W H' v dd k) : VR c c.H0 N W H' v dd k := by
  cases k with
  | false => exact r
  | true =>
    obtain ⟨a, o, h1, h2, h3, h4, h5, h6⟩ := r
    exact ⟨a, o, h1, h2, h3, h5, h5, h6⟩
theorem ns_ret (he : PE X e (rdV c E fv)) : PS X (.Return (some e) pos) (rdS c E (retS fv)) := PS.mono (ps_ret he) fun D σ H ⟨N, W, ρ, er, q⟩ => by
  refine ⟨N, W, ρ, er, (satS.bind (σ := σ) q).imp fun N1 W1 H1 r1 t1 e1 q1 v1 rv1 => ?_⟩
  exact q1.1 N1 W1 H1 σ v1 (.refl _ _ _) e1 rv1.h0
theorem ns_retN : PS X (.Return none pos) (rdS c E fun ρ => .ok (.rt .non false, ρ)) := PS.mono ps_retN fun D σ H ⟨N, W, ρ, er, q⟩ => q N W H σ .non (.refl _ _ _) er .non
/-- return of a name: what the slot owns is handed on -/
def retO (i : Nat) : FS := fun ρ => match ρ.sl[i]? with
  | some (.sh d) => .ok (.rt d false, ρ)
  | some (.ow d) => .ok (.rt d true, setS ρ i .un)
  | _ => .no
def ifS (t : FT) (g h : FS) : FS := fun ρ => (t ρ).bind fun r => if r.1 = true then g r.2 else h r.2
theorem ns_if {t : Expr} {a b : List Stmt} (hc : PT X t (rdT c E ft)) (ha : PSs X a (rdS c E g)) (hb : PSs X b (rdS c E h)) : PS X (.If t a b pos) (rdS c E (ifS ft g h)) := PS.mono (ps_if hc ha hb) fun D σ H ⟨N, W, ρ, er, q⟩ => by
  refine ⟨N, W, ρ, er, (satS.bind (σ := σ) q).imp fun N1 W1 H1 r1 t1 e1 q1 => ?_⟩
  obtain ⟨k, ρ1⟩ := r1
  cases k with
  | false => exact iteF ⟨N1, W1, ρ1, e1, q1.1⟩
  | true => exact iteT ⟨N1, W1, ρ1, e1, q1.1⟩
def setE (i : Nat) (f : FV) : FS := fun ρ => (f ρ).bind fun r => .ok (.nx, put r.2 i r.1.1 r.1.2)
theorem setE_go {i : Nat} {D : Ends} {σ : L2.St} {H : Hp} (q : rdS c E (setE i fv) D σ H) : tAsg (rdV c E fv) (gName i) D σ H := by
  obtain ⟨N, W, ρ, er, q⟩ := q
  refine ⟨N, W, ρ, er, (satS.bindB (σ := σ) q).imp fun N1 W1 H1 r1 t1 e1 q1 v1 rv1 => ?_⟩
  obtain ⟨W2, t2, e2⟩ := ER.put (i := i) t1 e1 rv1
  exact q1.1 N1 W2 H1 _ t2 e2
theorem ns_set {i : Nat} {x : Str} {pos' : Pos} (hN : X.N.Nodup) (hi : X.N[i]? = some x) (hx : Loc X.env.scope x) (he : PE X e (rdV c E fv)) (hs : swapsWith e (some (.Name x pos')) pos.line X.env = pure false := by rfl)
    (hf : X.fn x = true ∨ X.env.scope.names.lookup x = some .local := by first | exact .inl rfl | exact .inr rfl | assumption) : PS X (.Assign [.Name x pos'] e pos) (rdS c E (setE i fv)) := PS.mono (ps_set hN hi hx he hs hf) fun D σ H q => setE_go q
/-- a, b = e1, e2 -/
def parE (i j : Nat) (f : FA) : FS := fun ρ => (f ρ).bind fun r => match r.1 with
  | [d1, d2] => .ok (.nx, put (put r.2 i d1 false) j d2 false)
  | _ => .no
theorem ns_par {i j : Nat} {a b : Expr} {fa : FA} (h : ∀ {ta : TA}, PA X [a, b] ta → PS X st (tPar i j ta)) (ha : PA X [a, b] (rdA c E fa)) : PS X st (rdS c E (parE i j fa)) := PS.mono (h ha) fun D σ H ⟨N, W, ρ, er, q⟩ => by
  refine ⟨N, W, ρ, er, (satS.bindB (σ := σ) q).imp fun N1 W1 H1 r1 t1 e1 q1 v1 rv1 => ?_⟩
  obtain ⟨ds, ρ1⟩ := r1
  obtain ⟨q1, _⟩ := q1
  dsimp only at q1
  split at q1
  · rename_i d1 d2
    cases rv1 with
    | cons r1 r2 => cases r2 with
      | cons r2 r3 =>
        cases r3
        exact ⟨_, _, rfl, q1 N1 W1 H1 _ t1 ((e1.setSh (i := i) r1).setSh (i := j) r2)⟩
  · exact q1.elim
theorem ER.unset {i : Nat} {N W : AP1} {H : Hp} {σ : L2.St} {ρ : En} (e : ER c N W H σ ρ) : ER c N W H σ (setS ρ i .un) := by
  by_cases hi : i < ρ.sl.length
  · refine ⟨e.keep, e.n0, e.sub, e.new, e.all, e.wn, e.wnew, e.bag, ?_, fun j dj q => ?_, fun j dj q => ?_, fun j k dj dk b q1 q2 s1 s2 => ?_, fun j q => ?_⟩
    · show σ.length = (ρ.sl.set i _).length
      rw [List.length_set]
      exact e.len
    · by_cases z : i = j
      · subst z
        rw [sl_same hi] at q
        cases q
      · rw [sl_ne z] at q
        exact e.sh j dj q
    · by_cases z : i = j
      · subst z
        rw [sl_same hi] at q
        cases q
      · rw [sl_ne z] at q
        exact e.ow j dj q
    · by_cases z : i = j
      · subst z
        rw [sl_same hi] at q1
        cases q1
      · by_cases z2 : i = k
        · subst z2
          rw [sl_same hi] at q2
          cases q2
        · rw [sl_ne z] at q1
          rw [sl_ne z2] at q2
          exact e.inj j k dj dk b q1 q2 s1 s2
    · by_cases z : i = j
      · subst z
        rw [sl_same hi] at q
        cases q
      · rw [sl_ne z] at q
        exact e.bs j q
  · rw [sl_out hi]
    exact e
/-- what a slot owned is held by no slot -/
theorem ER.drop {i : Nat} {d : D} {a : Addr} {N W : AP1} {H : Hp} {σ : L2.St} {ρ : En} (e : ER c N W H σ ρ) (h : ρ.sl[i]? = some (.ow d)) (hs : σ[i]? = some (some (V.ref a))) :
    ER c N (fun b => W b ∧ b ≠ a) H σ (setS ρ i .un) := by
  obtain ⟨a', o, h1, h2, h3, h4, h5⟩ := e.ow i d h
  rw [hs] at h1
  cases h1
  have hi : i < ρ.sl.length := (List.getElem?_eq_some_iff.mp h).1
  have u := e.unset (i := i)
  refine ⟨u.keep, u.n0, u.sub, u.new, u.all, fun b hb => u.wn b hb.1, fun b hb => u.wnew b hb.1, fun b hb => ⟨⟨(u.bag b hb).1, fun z => h3 (z ▸ hb)⟩, (u.bag b hb).2⟩, u.len, u.sh, fun j dj q => ?_, u.inj, u.bs⟩
  by_cases z : i = j
  · subst z
    rw [sl_same hi] at q
    cases q
  · rw [sl_ne z] at q
    obtain ⟨b, w, k1, k2, k3⟩ := e.ow j dj q
    exact ⟨b, w, k1, ⟨k2, fun y => z (e.inj i j d dj a h q hs (y ▸ k1))⟩, k3⟩
theorem ns_retO (i : Nat) {x : Str} {px : Pos} (hN : X.N[i]? = some x := by rfl) (hv : Vis X.env.scope x := by first | exact Or.inl rfl | exact Or.inr (Or.inl rfl) | exact Or.inr (Or.inr rfl)) (hd : (x == ("__debug__" : Str)) = false := by decide)
    (hcd : (x == ("__classdict__" : Str)) = false := by decide) : PS X (.Return (some (.Name x px)) pos) (rdS c E (retO i)) := PS.mono (ps_ret (pe_var hN hv hd hcd)) fun D σ H ⟨N, W, ρ, er, q⟩ => by
  unfold retO at q
  cases h : ρ.sl[i]? with
  | none => rw [h] at q; exact q.elim
  | some s =>
    rw [h] at q
    cases s with
    | sh d =>
      obtain ⟨v, h1, h2⟩ := er.sh i d h
      exact ⟨v, h1, q N W H σ v (.refl _ _ _) er h2⟩
    | ow d =>
      obtain ⟨a, o, h1, h2, h3, h4, h5⟩ := er.ow i d h
      have h0 : c.H0 a = none := (er.wnew a h2).elim (fun z => absurd z h3) id
      refine ⟨_, h1, q N _ H σ _ ⟨fun _ _ h _ => h, fun _ h => .inl h, fun _ h => .inl h.1, fun b hb _ _ => hb, fun _ h => h⟩ (er.drop h h1) ⟨a, o, rfl, er.wn a h2, fun z => z.2 rfl, h0, h0, h4, h5⟩⟩
    | un => exact q.elim
    | bag => exact q.elim
end
end ND

end
section
set_option Elab.async false
set_option linter.all false
set_option maxRecDepth 100000
/-! ND7: defs and their calls. -/
namespace ND
open PySem PySem.Spec PyProof.Rows L2

/-- what a call leaves -/
structure Fnl (N : AP1) (bg : Option Addr) (H : Hp) (N' : AP1) (H' : Hp) : Prop where
  keep : ∀ b o, H b = some o → bg ≠ some b → H' b = some o
  nN : ∀ a, N' a → N a ∨ H a = none
  kN : ∀ a, N a → N' a
  al : ∀ a, H a ≠ none → H' a ≠ none
  all : ∀ a, N' a → H' a ≠ none
def VF (T : Tg) (H : Hp) (N' : AP1) (H' : Hp) (v : V) (d : D) : Bool → Prop
  | false => Rep T N' H' v d
  | true => ∃ a o, v = .ref a ∧ N' a ∧ H a = none ∧ H' a = some o ∧ Top T N' H' o d
/-- what a def does to data: of arguments and the bag, the answer (and whether it is new) and the bag -/
abbrev MF := List D → Bag → Out ((D × Bool) × En)
def argsOk (T : Tg) (bg : Option Addr) (l : Addr) (N : AP1) (H : Hp) (b : Bag) : Bool → List V → List V → Prop
  | true, vs, ws => ∃ a, bg = some a ∧ vs = .ref a :: ws ∧ BagAt T N H a l b
  | false, vs, ws => bg = none ∧ vs = ws
/-- the promise of a def that raises nothing; hb: its first argument is the bag; n: how many others -/
def spF (T : Tg) (hb : Bool) (n : Nat) (m : MF) : Sp := fun vs H Q E => ∃ N bg l ds b ws, argsOk T bg l N H b hb vs ws ∧ (∀ a, N a → H a ≠ none) ∧ Reps T N H ws ds ∧ ds.length = n ∧
  match m ds b with
  | .ok (r, ρ) => ∀ N' v H', Fnl N bg H N' H' → (∀ a, bg = some a → BagAt T N' H' a l ρ.b) → VF T H N' H' v r.1 r.2 → Q v H'
  | .err x ρ => ∀ N' cv ad H', Fnl N bg H N' H' → (∀ a, bg = some a → BagAt T N' H' a l ρ.b) → XR T N' H' cv ad x → E cv ad H'
  | .no => False
abbrev EN : WX := fun _ _ _ _ => False
abbrev EX (E : XK) : WX := fun cv ad _ H => E cv ad H

/-- the slots at a def's entry -/
def startE (hb : Bool) (nN : Nat) (ds : List D) (b : Bag) : En := { b := b, sl := (if hb = true then [SD.bag] else []) ++ ds.map SD.sh ++ List.replicate (nN - (ds.length + (if hb = true then 1 else 0))) SD.un }
/-- a body as what a def does -/
def runB (hb : Bool) (nN : Nat) (g : FS) : MF := fun ds b => (g (startE hb nN ds b)).bind fun r => match r.1 with
  | .nx => .ok ((.non, false), r.2)
  | .rt d fr => .ok ((d, fr), r.2)
  | _ => .no
theorem argsOk.len {T : Tg} {bg : Option Addr} {l : Addr} {N : AP1} {H : Hp} {b : Bag} {hb : Bool} {vs ws : List V} (h : argsOk T bg l N H b hb vs ws) : vs.length = ws.length + (if hb = true then 1 else 0) := by
  cases hb with
  | true => obtain ⟨a, _, rfl, _⟩ := h; rfl
  | false => obtain ⟨_, rfl⟩ := h; rfl
theorem start_ok {T : Tg} {bg : Option Addr} {l : Addr} {N : AP1} {H : Hp} {b : Bag} {hb : Bool} {vs ws : List V} {ds : List D} {NN : List Str} (h : argsOk T bg l N H b hb vs ws) (al : ∀ a, N a → H a ≠ none) (r : Reps T N H ws ds) (hl : vs.length ≤ NN.length) :
    ER ⟨T, bg, l, H, N⟩ N (fun a => bg = some a) H (L2.start NN vs) (startE hb NN.length ds b) := by
  have hlen := h.len
  have hr := r.length
  have key : ∀ (i : Nat) (s : SD), (startE hb NN.length ds b).sl[i]? = some s → s = .un ∨ (hb = true ∧ i = 0 ∧ s = .bag) ∨ ∃ j d, i = j + (if hb = true then 1 else 0) ∧ ds[j]? = some d ∧ s = .sh d := fun i s q => by
    unfold startE at q
    dsimp only at q
    by_cases h1 : i < ((if hb = true then [SD.bag] else []) ++ ds.map SD.sh).length
    · rw [List.getElem?_append_left h1] at q
      cases hb with
      | true =>
        simp only [if_true, List.singleton_append] at q h1 ⊢
        cases i with
        | zero => simp only [List.getElem?_cons_zero, Option.some.injEq] at q; exact .inr (.inl ⟨trivial, rfl, q.symm⟩)
        | succ j =>
          rw [List.getElem?_cons_succ, List.getElem?_map] at q
          cases e : ds[j]? with
          | none => rw [e] at q; cases q
          | some d => rw [e] at q; cases q; exact .inr (.inr ⟨j, d, rfl, e, rfl⟩)
      | false =>
        simp only [Bool.false_eq_true, if_false, List.nil_append] at q ⊢
        rw [List.getElem?_map] at q
        cases e : ds[i]? with
        | none => rw [e] at q; cases q
        | some d => rw [e] at q; cases q; exact .inr (.inr ⟨i, d, rfl, e, rfl⟩)
    · rw [List.getElem?_append_right (by omega)] at q
      exact .inl (List.eq_of_mem_replicate (List.mem_of_getElem? q))
  have vsj : ∀ j v, ws[j]? = some v → (L2.start NN vs)[j + (if hb = true then 1 else 0)]? = some (some v) := fun j v q => by
    have hj : j < ws.length := (List.getElem?_eq_some_iff.mp q).1
    unfold L2.start
    rw [List.getElem?_append_left (by rw [List.length_map]; omega), List.getElem?_map]
    cases hb with
    | true => obtain ⟨a, _, rfl, _⟩ := h; simp only [if_true, List.getElem?_cons_succ]; rw [q]; rfl
    | false => obtain ⟨_, rfl⟩ := h; simp only [Bool.false_eq_true, if_false, Nat.add_zero]; rw [q]; rfl
  refine ⟨fun b x h _ => h, al, fun _ h => h, fun _ h => .inl h, al, fun a z => ?_, fun a z => .inl z, fun a z => ⟨z, ?_, ?_⟩, ?_, fun i d q => ?_, fun i d q => ?_, fun i j di dj a q1 q2 s1 s2 => ?_, fun i q => ?_⟩
  · cases hb with
    | true =>
      obtain ⟨a', e, _, x⟩ := h
      have z : bg = some a := z
      rw [e] at z; cases z
      exact x.apart
    | false =>
      have z : bg = some a := z
      rw [h.1] at z; cases z
  · cases hb with
    | true =>
      obtain ⟨a', e, _, x⟩ := h
      have z : bg = some a := z
      rw [e] at z; cases z
      exact al _ x.apart
    | false =>
      have z : bg = some a := z
      rw [h.1] at z; cases z
  · cases hb with
    | true =>
      obtain ⟨a', e, _, x⟩ := h
      have z : bg = some a := z
      rw [e] at z; cases z
      exact x
    | false =>
      have z : bg = some a := z
      rw [h.1] at z; cases z
  · unfold L2.start startE
    simp only [List.length_append, List.length_map, List.length_replicate]
    cases hb <;> simp only [if_true, Bool.false_eq_true, if_false, List.length_nil, List.length_cons, Nat.add_zero] at hlen ⊢ <;> omega
  · rcases key i _ q with z | ⟨_, _, z⟩ | ⟨j, d', rfl, e, z⟩
    · cases z
    · cases z
    · cases z
      obtain ⟨v, h1, h2⟩ := r.get e
      exact ⟨v, vsj j v h1, h2⟩
  · rcases key i _ q with z | ⟨_, _, z⟩ | ⟨j, d', rfl, e, z⟩ <;> cases z
  · rcases key i _ q1 with z | ⟨_, _, z⟩ | ⟨j, d', rfl, e, z⟩ <;> cases z
  · rcases key i _ q with z | ⟨hb1, rfl, z⟩ | ⟨j, d', rfl, e, z⟩
    · cases z
    · subst hb1
      obtain ⟨a, e, rfl, _⟩ := h
      exact ⟨a, e, rfl⟩
    · cases z
section
variable {P : Program} {w : World} {K : PySem.W.Frag} {mg : Str → Option Value} {base : Heap}
/-- a body that does to data what g does keeps the promise -/
theorem body_nd {T : Tg} {X : Cx} {body : List Stmt} {NN ps : List Str} {n : Nat} {hb : Bool} {g : FS} {vs : List V} {H : Hp} {Q : VK} {E : XK} (hbody : ∀ c : Cn, c.T = T → PSs X body (rdS c (EX E) g)) (hl : vs.length = ps.length) (hpl : ps.length ≤ NN.length)
    (hsp : spF T hb n (runB hb NN.length g) vs H Q E) : ∃ t, PSs X body t ∧ t { nx := fun _ H' => Q .non H', rt := Q } (L2.start NN vs) H := by
  obtain ⟨N, bg, l, ds, b, ws, h1, al, h2, h3, q⟩ := hsp
  refine ⟨_, hbody ⟨T, bg, l, H, N⟩ rfl, N, _, _, start_ok (b := b) h1 al h2 (by rw [hl]; exact hpl), ?_⟩
  have fin : ∀ {N' W' : AP1} {H' : Hp} {σ : L2.St} {ρ : En} {v : V} {d : D} {fr : Bool}, Stp N (fun a => bg = some a) H N' W' H' → ER ⟨T, bg, l, H, N⟩ N' W' H' σ ρ → VR ⟨T, bg, l, H, N⟩ H N' W' H' v d fr →
      (∀ N' v H', Fnl N bg H N' H' → (∀ a, bg = some a → BagAt T N' H' a l ρ.b) → VF T H N' H' v d fr → Q v H') → Q v H' := fun {N' W' H' σ ρ v d fr} t e r z => by
    have bagK : ∀ (M : AP1), (∀ a, M a → N' a) → (∀ a, N a → M a) → ∀ a, bg = some a → BagAt T M H' a l ρ.b := fun M h1 h2 a hb => by
      obtain ⟨k1, k2, k3⟩ := e.bag a hb
      have k2 : H a ≠ none := k2
      have nA : N a := by
        rcases t.nN a k3.apart with y | y
        · exact y
        · exact absurd y k2
      exact k3.mv (fun b o n h => ⟨fun y => n (h1 b y), h⟩) (h2 a nA) fun _ h => h
    cases fr with
    | false =>
      refine z N v H' ⟨fun b o h nb => t.keep b o h nb, fun a h => .inl h, fun a h => h, t.al, fun a h => t.al a (al a h)⟩ (bagK N e.sub (fun a h => h)) ?_
      exact Rep.move (fun a o n h => ⟨fun y => n (e.sub a y), h⟩) r
    | true =>
      obtain ⟨a, o, rfl, r1, r2, r3, r4, r5, r6⟩ := r
      have r3 : H a = none := r3
      refine z (fun b => N b ∨ b = a) _ H' ⟨fun b o h nb => t.keep b o h nb, fun b h => h.elim .inl (fun y => .inr (y ▸ r3)), fun b h => .inl h, t.al, fun b h => h.elim (fun y => t.al b (al b y)) (fun y => by rw [y, r5]; intro w; cases w)⟩
        (bagK _ (fun b h => h.elim (e.sub b) (fun y => y ▸ r1)) (fun b h => .inl h)) ⟨a, o, rfl, .inr rfl, r3, r5, r6.move fun b u n h => ⟨fun y => n (y.elim (e.sub b) (fun y => y ▸ r1)), h⟩⟩
  have finX : ∀ {N' W' : AP1} {H' : Hp} {σ : L2.St} {ρ : En} {cv : Value} {ad : Option Addr} {x : D}, Stp N (fun a => bg = some a) H N' W' H' → ER ⟨T, bg, l, H, N⟩ N' W' H' σ ρ → XR T N' H' cv ad x →
      (∀ N' cv ad H', Fnl N bg H N' H' → (∀ a, bg = some a → BagAt T N' H' a l ρ.b) → XR T N' H' cv ad x → E cv ad H') → E cv ad H' := fun {N' W' H' σ ρ cv ad x} t e r z => by
    refine z N cv ad H' ⟨fun b o h nb => t.keep b o h nb, fun a h => .inl h, fun a h => h, t.al, fun a h => t.al a (al a h)⟩ (fun a hb => ?_) (r.move fun a o n h => ⟨fun y => n (e.sub a y), h⟩)
    obtain ⟨k1, k2, k3⟩ := e.bag a hb
    have k2 : H a ≠ none := k2
    have nA : N a := by
      rcases t.nN a k3.apart with y | y
      · exact y
      · exact absurd y k2
    exact k3.mv (fun b o n h => ⟨fun y => n (e.sub b y), h⟩) nA fun _ h => h
  unfold runB at q
  match hm : g (startE hb NN.length ds b) with
  | .ok (.nx, ρ) =>
    rw [hm] at q
    exact fun N' W' H' σ t e => fin (v := .non) (d := .non) (fr := false) t e .non q
  | .ok (.rt d fr, ρ) =>
    rw [hm] at q
    exact fun N' W' H' σ v t e r => fin t e r q
  | .ok (.bk, ρ) => rw [hm] at q; exact q.elim
  | .ok (.ct, ρ) => rw [hm] at q; exact q.elim
  | .err x ρ =>
    rw [hm] at q
    exact fun N' W' H' σ cv ad t e r => finX t e r q
  | .no => rw [hm] at q; exact q.elim
theorem spF_len {T : Tg} {n : Nat} {hb : Bool} {m : MF} {vs : List V} {H : Hp} {Q : VK} {E : XK} (h : spF T hb n m vs H Q E) : vs.length = n + (if hb = true then 1 else 0) := by
  obtain ⟨N, bg, l, ds, b, ws, h1, _, h2, h3, _⟩ := h
  rw [h1.len, h2.length, h3]
/-- THE RULE for a def -/
theorem fn_nd {T : Tg} {x qual : Str} {st : Stmt} {f : Addr} {fd : FuncData} {NN ps : List Str} {k n : Nat} {hb : Bool} {g : FS} (F : Fun K x qual st f fd) (S : FnScope NN ps (defScope st)) (hn : ps.length = n + (if hb = true then 1 else 0))
    (hbody : ∀ (cdv : Value) (A : Around) (outer : List Env) (s : Shared) (H : Hp) (E : XK) (c : Cn), c.T = T → Room k (A.deeper (envOfC qual (defScope st) s.heap.objs.size f cdv)) →
      Takes (cxOf (L2.CX P w) P w K mg base NN qual (defScope st) f cdv A outer s H E) (EX E) → PassesOwn (model P w) (cxOf (L2.CX P w) P w K mg base NN qual (defScope st) f cdv A outer s H E).A (cxOf (L2.CX P w) P w K mg base NN qual (defScope st) f cdv A outer s H E).env (cxOf (L2.CX P w) P w K mg base NN qual (defScope st) f cdv A outer s H E).xe →
      PSs (cxOf (L2.CX P w) P w K mg base NN qual (defScope st) f cdv A outer s H E) (defBody st) (rdS c (EX E) g)) : FnOk P w K mg base (L2.CX P w) (k + 1) f fd ps (spF T hb n (runB hb NN.length g)) := by
  have hpl : ps.length ≤ NN.length := by have := congrArg List.length S.pre; rw [List.length_take] at this; omega
  have lenP : ∀ vs H Q E, spF T hb n (runB hb NN.length g) vs H Q E → vs.length = ps.length := fun vs H Q E h => (spF_len h).trans hn.symm
  refine F.okX S lenP fun cdv A outer s H vs Q E hr hsp => ?_
  have tk : Takes (cxOf (L2.CX P w) P w K mg base NN qual (defScope st) f cdv A outer s H E) (EX E) := takes_of rfl rfl rfl rfl
  exact body_nd (fun c hc => hbody cdv A outer s H E c hc hr tk (passes_of rfl)) (lenP _ _ _ _ hsp) hpl hsp
end

/-! ### calls -/
section
variable {c : Cn} {N W N' : AP1} {H H' : Hp} {σ : L2.St} {ρ : En}
theorem h0_none (e : ER c N W H σ ρ) {a : Addr} (h : H a = none) : c.H0 a = none := by
  cases q : c.H0 a with
  | none => rfl
  | some u =>
    by_cases hb : c.bg = some a
    · exact absurd h (e.bag a hb).2.2.ne
    · have := e.keep a u q hb
      rw [h] at this; cases this
theorem ER.called {bg : Option Addr} {b' : Bag} (e : ER c N W H σ ρ) (F : Fnl N bg H N' H') (hbg : bg = none ∧ b' = ρ.b ∨ bg = c.bg ∧ ∀ a, bg = some a → BagAt c.T N' H' a c.bl b') :
    ER c N' W H' σ { ρ with b := b' } ∧ Stp N W H N' W H' := by
  have hW : ∀ a, bg = some a → W a := fun a h => by
    rcases hbg with ⟨z, _⟩ | ⟨z, _⟩
    · rw [z] at h; cases h
    · exact (e.bag a (z ▸ h)).1
  have mv : ∀ a o, ¬ N a → H a = some o → ¬ N' a ∧ H' a = some o := fun a o n h => ⟨fun z => (F.nN a z).elim n (fun y => by rw [y] at h; cases h), F.keep a o h fun z => n (e.wn a (hW a z))⟩
  have cb : ∀ a, bg = some a → c.bg = some a := fun a h => by
    rcases hbg with ⟨z, _⟩ | ⟨z, _⟩
    · rw [z] at h; cases h
    · exact z ▸ h
  refine ⟨⟨fun b x h h' => F.keep b x (e.keep b x h h') fun z => h' (cb b z), e.n0, fun a h => F.kN a (e.sub a h), fun a h => ?_, F.all, fun a h => F.kN a (e.wn a h), e.wnew, fun a h => ?_, e.len, fun i d q => ?_, fun i d q => ?_, e.inj, e.bs⟩,
    ⟨fun b x h nw => F.keep b x h fun z => nw (hW b z), F.nN, fun _ h => .inl h, fun a h _ _ => F.kN a h, F.al⟩⟩
  · rcases F.nN a h with z | z
    · exact e.new a z
    · exact .inr (h0_none e z)
  · obtain ⟨k1, k2, k3⟩ := e.bag a h
    refine ⟨k1, k2, ?_⟩
    rcases hbg with ⟨z, rfl⟩ | ⟨z, y⟩
    · have nb : ∀ a, bg ≠ some a := fun a y => by rw [z] at y; cases y
      exact k3.mv mv (F.kN a k3.apart) fun o h => F.keep a o h (nb a)
    · exact y a (z.trans h)
  · obtain ⟨v, h1, h2⟩ := e.sh i d q
    exact ⟨v, h1, h2.move mv⟩
  · obtain ⟨a, o, h1, h2, h3, h4, h5⟩ := e.ow i d q
    exact ⟨a, o, h1, h2, h3, F.keep a o h4 (fun z => h3 (cb a z)), h5.move mv⟩
end
/-- a call of a def without the bag; of one with it -/
def callP (m : MF) (fa : FA) : FV := fun ρ => (fa ρ).bind fun r => match m r.1 default with
  | .ok (v, _) => .ok (v, r.2)
  | .err x _ => .err x r.2
  | .no => .no
def callB (i : Nat) (m : MF) (fa : FA) : FV := fun ρ => match ρ.sl[i]? with
  | some .bag => (fa ρ).bind fun r => match m r.1 r.2.b with
    | .ok (v, ρ') => .ok (v, { r.2 with b := ρ'.b })
    | .err x ρ' => .err x { r.2 with b := ρ'.b }
    | .no => .no
  | _ => .no
section
variable {X : Cx} {c : Cn} {E : WX} {pos p : Pos} {x : Str} {e : Expr} {es : List Expr} {k n : Nat} {f : Addr} {fd : FuncData} {ps : List Str} {ds : List Value} {dvs : List V} {m : MF} {fa : FA}
/-- the arguments are as many as the def has -/
def cnt (n : Nat) (fa : FA) : FA := fun ρ => (fa ρ).bind fun r => if r.1.length = n then .ok r else .no
theorem nd_callP {T : Tg} (hT : c.T = T) (tk : Takes X E) (F : FnOk X.prog X.w X.K X.mg X.base (L2.CX X.prog X.w) k f fd ps (spF T false n m)) (hr : Room k X.A) (hg : Gl X x) (hm : X.mg x = some (.ref f)) (hk : PySem.W.keepIn X.K (.ref f) = true) (hb : Binds X.K fd ps [])
    (ha : PA X (e :: es) (rdA c E fa)) (hs : starEach (e :: es) X.env = (false, eval e X.env) :: starEach es X.env := by rfl) (hpl : (backTo pos (starEach es X.env)).any (·.1) = false := by rfl) (hdb : (x == ("__debug__" : Str)) = false := by decide) :
    PE X (.Call (.Name x p) (e :: es) [] pos) (rdV c E (callP m (cnt n fa))) := PE.mono (pe_callS F hr hg hm hk hb (fun σ => passAt tk σ) ha (hdb := hdb) (he := hs) (hpl := hpl)) fun σ H Q ⟨N, W, ρ, er, q⟩ => by
  subst hT
  unfold callP cnt at q
  refine ⟨N, W, ρ, er, ?_⟩
  cases hf : fa ρ with
  | no => rw [hf] at q; exact q
  | err x' ρ' => rw [hf] at q; exact q
  | ok r =>
    obtain ⟨ds, ρ1⟩ := r
    intro N1 W1 H1 t1 e1 vs rv
    simp only [hf, Out.bind_ok] at q
    by_cases hn : ds.length = n
    · rw [if_pos hn] at q
      simp only [Out.bind_ok] at q
      show spF c.T false n m vs H1 Q (WE E σ)
      refine ⟨N1, none, c.bl, ds, default, vs, ⟨rfl, rfl⟩, e1.all, rv, hn, ?_⟩
      cases hm : m ds default with
      | no => rw [hm] at q; exact q
      | err x' ρ' =>
        rw [hm] at q
        intro N' cv ad H' F' _ rv'
        obtain ⟨e2, t2⟩ := e1.called F' (.inl ⟨rfl, rfl⟩)
        exact q N' W1 H' cv ad (t1.trans t2) e2 rv'
      | ok r2 =>
        obtain ⟨⟨d, fr⟩, ρ2⟩ := r2
        rw [hm] at q
        intro N' v H' F' _ rv'
        obtain ⟨e2, t2⟩ := e1.called F' (.inl ⟨rfl, rfl⟩)
        refine q N' W1 H' (t1.trans t2) e2 v ?_
        cases fr with
        | false => exact rv'
        | true =>
          obtain ⟨a, o, rfl, h1, h2, h3, h4⟩ := rv'
          refine ⟨a, o, rfl, h1, fun z => e1.all a (e1.wn a z) h2, ?_, h0_none e1 h2, h3, h4⟩
          cases z : H a with
          | none => rfl
          | some u => exact absurd h2 (t1.al a (by rw [z]; intro y; cases y))
    · rw [if_neg hn] at q
      exact q.elim
theorem nd_callB {T : Tg} (i : Nat) {y : Str} {py : Pos} (hT : c.T = T) (tk : Takes X E) (F : FnOk X.prog X.w X.K X.mg X.base (L2.CX X.prog X.w) k f fd ps (spF T true n m)) (hr : Room k X.A) (hg : Gl X x) (hm : X.mg x = some (.ref f)) (hk : PySem.W.keepIn X.K (.ref f) = true) (hb : Binds X.K fd ps [])
    (hN : X.N[i]? = some y) (hv : Vis X.env.scope y) (ha : PA X es (rdA c E fa)) (hs : starEach (.Name y py :: es) X.env = (false, eval (.Name y py) X.env) :: starEach es X.env := by rfl) (hpl : (backTo pos (starEach es X.env)).any (·.1) = false := by rfl)
    (hdb : (x == ("__debug__" : Str)) = false := by decide) (hd : (y == ("__debug__" : Str)) = false := by decide) (hcd : (y == ("__classdict__" : Str)) = false := by decide) :
    PE X (.Call (.Name x p) (.Name y py :: es) [] pos) (rdV c E (callB i m (cnt n fa))) := PE.mono (pe_callS F hr hg hm hk hb (fun σ => passAt tk σ) (pa_cons (pe_var hN hv hd hcd) ha hs) (hdb := hdb) (he := hs) (hpl := hpl)) fun σ H Q ⟨N, W, ρ, er, q⟩ => by
  subst hT
  unfold callB cnt at q
  cases hsl : ρ.sl[i]? with
  | none => rw [hsl] at q; exact q.elim
  | some sd =>
    rw [hsl] at q
    cases sd with
    | un => exact q.elim
    | sh d => exact q.elim
    | ow d => exact q.elim
    | bag =>
      obtain ⟨a, hbg, hσ⟩ := er.bs i hsl
      refine ⟨.ref a, hσ, N, W, ρ, er, ?_⟩
      cases hf : fa ρ with
      | no => simp only [hf, Out.bind_no] at q; exact q
      | err x' ρ' => simp only [hf, Out.bind_err] at q; exact q
      | ok r =>
        obtain ⟨ds, ρ1⟩ := r
        intro N1 W1 H1 t1 e1 vs rv
        simp only [hf, Out.bind_ok] at q
        by_cases hn : ds.length = n
        · rw [if_pos hn] at q
          simp only [Out.bind_ok] at q
          show spF c.T true n m (.ref a :: vs) H1 Q (WE E σ)
          refine ⟨N1, some a, c.bl, ds, ρ1.b, vs, ⟨a, rfl, rfl, (e1.bag a hbg).2.2⟩, e1.all, rv, hn, ?_⟩
          cases hm : m ds ρ1.b with
          | no => rw [hm] at q; exact q
          | err x' ρ' =>
            rw [hm] at q
            intro N' cv ad H' F' bk rv'
            obtain ⟨e2, t2⟩ := e1.called F' (.inr ⟨hbg.symm, bk⟩)
            exact q N' W1 H' cv ad (t1.trans t2) e2 rv'
          | ok r2 =>
            obtain ⟨⟨d, fr⟩, ρ2⟩ := r2
            rw [hm] at q
            intro N' v H' F' bk rv'
            obtain ⟨e2, t2⟩ := e1.called F' (.inr ⟨hbg.symm, bk⟩)
            refine q N' W1 H' (t1.trans t2) e2 v ?_
            cases fr with
            | false => exact rv'
            | true =>
              obtain ⟨a, o, rfl, h1, h2, h3, h4⟩ := rv'
              refine ⟨a, o, rfl, h1, fun z => e1.all a (e1.wn a z) h2, ?_, h0_none e1 h2, h3, h4⟩
              cases z : H a with
              | none => rfl
              | some u => exact absurd h2 (t1.al a (by rw [z]; intro y; cases y))
        · rw [if_neg hn] at q
          exact q.elim
end
end ND

end
section
set_option Elab.async false
set_option linter.all false
set_option maxRecDepth 100000
/-! ND8: what is walked; targets; for; list comprehensions. -/
namespace ND
open PySem PySem.Spec PyProof.Rows L2

/-- a walk J that gives the data ds, as long as I stands -/
structure Srcs (c : Cn) (J : It) (ds : List D) (I : AP1 → Hp → Prop) : Prop where
  keep : ∀ N W H N' W' H' σ ρ, I N H → ER c N W H σ ρ → Stp N W H N' W' H' → I N' H'
  side : ∀ N H D o, I N H → N D → I N (upd H D o)
  more : ∀ N H D, I N H → H D = none → I (fun a => N a ∨ a = D) H
  go : ∀ N H i, I N H → i < ds.length → J.go i H
  stop : ∀ N H i, I N H → ds.length ≤ i → J.stop i H
  yld : ∀ N H i x H' d, I N H → (∀ a, N a → H a ≠ none) → J.yld i H x H' → ds[i]? = some d → (∀ b o, H b = some o → H' b = some o) ∧ Rep c.T N H' x d ∧ I N H'
def rdI (c : Cn) (E : WX) (f : FA) : TI := fun σ H R => ∃ N W ρ, ER c N W H σ ρ ∧ sat c N W H σ E (fun N' _ H' r => ∀ J I, Srcs c J r.1 I → I N' H' → R J H') (f ρ)
theorem PI.mono {X : Cx} {tg it : Expr} {w w' : TI} (h : PI X tg it w) (m : ∀ σ H R, w' σ H R → w σ H R) : PI X tg it w' := ⟨fun pins s σ H R I q => h.run pins s σ H R I (m σ H R q)⟩
def seqOf : D → Option (List D)
  | .lst ds => some ds
  | .tup ds => some ds
  | .str x => some (x.cps.toList.map fun ch => .str ⟨#[ch]⟩)
  | _ => none
/-- a list, a tuple, a text -/
def iSeq (K : PySem.W.Frag) (tl : TE) : TI := fun σ H R => tl σ H fun x H1 => (∃ a, x = .ref a ∧ (∃ xs, SqL K H1 a xs) ∧ R (Itl K a) H1) ∨ (∃ a, x = .ref a ∧ (∃ xs, SqT K H1 a xs) ∧ R (Itt K a) H1) ∨ ∃ z, x = .str z ∧ R (Its z) H1
theorem pi_cases {X : Cx} {tg l : Expr} {tl : TE} (hl : PE X l tl) : PI X tg l (iSeq X.K tl) := by
  refine ⟨fun pins s σ H R I h => ?_⟩
  refine thn (hl.run pins s σ H _ I h) fun v s1 ⟨x, H1, I1, r1, q1⟩ => ?_
  rcases q1 with q1 | q1 | q1
  · obtain ⟨a, e, ⟨xs, hq⟩, q⟩ := q1
    subst e
    cases r1
    obtain ⟨its, rv, p, hz⟩ := I1.list hq
    refine wpAny_pyIter_list p.isList ?_
    refine ⟨s1.heap.objs.size, [s1.heap.objs.size], _, _, H1, rfl, I1.kept (t' := s1.toks) fun b o e => Heap.get?_push_of_some _ e, turn_list a _, ⟨_, Heap.get?_push_size _ rfl, rfl, rfl⟩, fun b hb => ?_, q⟩
    have e : b = s1.heap.objs.size := by simpa using hb
    subst e
    exact I1.fpOk (Nat.le_refl _) (I1.hok.fresh (Nat.le_refl _))
  · obtain ⟨a, e, ⟨xs, hq⟩, q⟩ := q1
    subst e
    cases r1
    obtain ⟨its, rv, p, hz⟩ := I1.tuple hq
    refine wpAny_pyIter_tuple (show s1.heap.IsTuple a its.toArray from p) ?_
    refine ⟨s1.heap.objs.size, [s1.heap.objs.size], _, _, H1, rfl, I1.kept (t' := s1.toks) fun b o e => Heap.get?_push_of_some _ e, turn_tuple a _, ⟨_, Heap.get?_push_size _ rfl, rfl, rfl⟩, fun b hb => ?_, q⟩
    have e : b = s1.heap.objs.size := by simpa using hb
    subst e
    exact I1.fpOk (Nat.le_refl _) (I1.hok.fresh (Nat.le_refl _))
  · obtain ⟨x, ex, q⟩ := q1
    subst ex
    obtain ⟨t, rfl⟩ := r1
    cases ha : x.cps.all (· < 128)
    · exact wpAny_pyIter_wide ha (pi_one (tk := s1.toks) I1 _ (turn_str _ x t "str_iterator" (.inr rfl)) ⟨_, Heap.get?_push_size _ rfl, rfl, rfl⟩ q)
    · exact wpAny_pyIter_ascii ha (pi_one (tk := s1.toks) I1 _ (turn_str _ x t "str_ascii_iterator" (.inl rfl)) ⟨_, Heap.get?_push_size _ rfl, rfl, rfl⟩ q)
section
variable {X : Cx} {c : Cn} {E : WX} {tg e : Expr} {f : FD} {fa : FA} {pos p : Pos}
/-- what stands at a list, a tuple -/
structure At (T : Tg) (a : Addr) (o : HO) (vs : List V) (ds : List D) (N : AP1) (H : Hp) : Prop where
  n : ¬ N a
  h : H a = some o
  r : Reps T N H vs ds
theorem At.srcs {a : Addr} {o : HO} {vs : List V} {ds : List D} {J : It} (go : ∀ H i, H a = some o → i < vs.length → J.go i H) (stop : ∀ H i, H a = some o → vs.length ≤ i → J.stop i H) (yld : ∀ H i x H', H a = some o → J.yld i H x H' → H' = H ∧ vs[i]? = some x) :
    Srcs c J ds (At c.T a o vs ds) where
  keep := fun N W H N' W' H' σ ρ ⟨h1, h2, h3⟩ e t => ⟨(e.mv t a o h1 h2).1, (e.mv t a o h1 h2).2, h3.move (e.mv t)⟩
  side := fun N H D u ⟨h1, h2, h3⟩ hD => by
    have nd : ∀ b, ¬ N b → b ≠ D := fun b n z => n (z ▸ hD)
    refine ⟨h1, by rw [upd_ne (nd a h1)]; exact h2, h3.move fun b w n z => ⟨n, by rw [upd_ne (nd b n)]; exact z⟩⟩
  more := fun N H D ⟨h1, h2, h3⟩ hD => ⟨fun z => z.elim h1 (ne_of_none h2 hD), h2, h3.move fun b w n z => ⟨fun y => y.elim n (ne_of_none z hD), z⟩⟩
  go := fun N H i ⟨h1, h2, h3⟩ hi => go H i h2 (by rw [h3.length]; exact hi)
  stop := fun N H i ⟨h1, h2, h3⟩ hi => stop H i h2 (by rw [h3.length]; exact hi)
  yld := fun N H i x H' d ⟨h1, h2, h3⟩ al y hd => by
    obtain ⟨rfl, hx⟩ := yld H i x H' h2 y
    obtain ⟨v, hv, rv⟩ := h3.get hd
    rw [hx] at hv
    cases hv
    exact ⟨fun _ _ h => h, rv, h1, h2, h3⟩
def seqI (f : FD) : FA := fun ρ => (f ρ).bind fun r => ofO (seqOf r.1) r.2
theorem str_get {z : Str} {i : Nat} {d : D} (h : (z.cps.toList.map fun ch => D.str ⟨#[ch]⟩)[i]? = some d) : ∃ ch, z.cps[i]? = some ch ∧ d = .str ⟨#[ch]⟩ := by
  rw [List.getElem?_map, Array.getElem?_toList] at h
  cases e : z.cps[i]? with
  | none => rw [e] at h; cases h
  | some ch => rw [e] at h; cases h; exact ⟨ch, rfl, rfl⟩
theorem ni_seq (h : PE X e (rdD c E f)) : PI X tg e (rdI c E (seqI f)) := PI.mono (pi_cases h) fun σ H R ⟨N, W, ρ, er, q⟩ => by
  refine ⟨N, W, ρ, er, q.bind.imp fun N1 W1 H1 r1 t1 e1 q1 v1 rv1 => ?_⟩
  obtain ⟨ds, hd, q2⟩ := ofO_ok q1 e1
  have q3 := q2 N1 W1 H1 (.refl _ _ _) e1
  unfold seqOf at hd
  split at hd <;> simp only [Option.some.injEq, reduceCtorEq] at hd
  · rename_i es he
    subst hd
    rw [he] at rv1
    obtain ⟨a, vs, rfl, n, h2, h3⟩ := rv1.lst_inv
    have sq : ∀ {H : Hp}, H a = some (.lst vs) → SqL X.K H a vs := fun h => .of h
    refine .inl ⟨a, rfl, ⟨vs, sq h2⟩, q3 _ _ (At.srcs (a := a) (o := .lst vs) (vs := vs) (fun H i h hi => ⟨vs, vs[i], sq h, by simp [hi]⟩) (fun H i h hi => ⟨vs, sq h, hi⟩) fun H i x H' h y => ⟨y.1, y.2 vs (sq h)⟩) ⟨n, h2, h3⟩⟩
  · rename_i es he
    subst hd
    rw [he] at rv1
    obtain ⟨a, vs, rfl, n, h2, h3⟩ := rv1.tup_inv
    have sq : ∀ {H : Hp}, H a = some (.tup vs) → SqT X.K H a vs := fun h => .of h
    refine .inr (.inl ⟨a, rfl, ⟨vs, sq h2⟩, q3 _ _ (At.srcs (a := a) (o := .tup vs) (vs := vs) (fun H i h hi => ⟨vs, vs[i], sq h, by simp [hi]⟩) (fun H i h hi => ⟨vs, sq h, hi⟩) fun H i x H' h y => ⟨y.1, y.2 vs (sq h)⟩) ⟨n, h2, h3⟩⟩)
  · rename_i z he
    subst hd
    rw [he] at rv1
    refine .inr (.inr ⟨z, rv1.str_inv, q3 _ (fun _ _ => True) ⟨fun _ _ _ _ _ _ _ _ _ _ _ => trivial, fun _ _ _ _ _ _ => trivial, fun _ _ _ _ _ => trivial, fun N H i _ hi => ?_, fun N H i _ hi => ?_, fun N H i x H' d _ al y hd => ?_⟩ trivial⟩)
    · rw [List.length_map, Array.length_toList] at hi
      exact hi
    · rw [List.length_map, Array.length_toList] at hi
      exact hi
    · obtain ⟨rfl, ch, hx, rfl⟩ := y
      obtain ⟨ch', h1, rfl⟩ := str_get hd
      have : ch = ch' := Option.some.inj (hx.symm.trans h1)
      subst this
      exact ⟨fun _ _ h => h, .str _, trivial⟩
/-- range(n), range(a, b) -/
def rng (lo : Int) (n : Nat) : List D := (List.range n).map fun (i : Nat) => .int (lo + i)
theorem rng_src (lo : Int) (n : Nat) : Srcs c (Itr lo n) (rng lo n) (fun _ _ => True) := by
  refine ⟨fun _ _ _ _ _ _ _ _ _ _ _ => trivial, fun _ _ _ _ _ _ => trivial, fun _ _ _ _ _ => trivial, fun N H i _ hi => ?_, fun N H i _ hi => ?_, fun N H i x H' d _ al y hd => ?_⟩
  · show i < n
    simpa [rng] using hi
  · show n ≤ i
    simpa [rng] using hi
  · obtain ⟨rfl, rfl⟩ := y
    unfold rng at hd
    rw [List.getElem?_map] at hd
    by_cases h : i < n
    · rw [List.getElem?_range h] at hd
      cases hd
      exact ⟨fun _ _ h => h, .int _, trivial⟩
    · rw [List.getElem?_eq_none (by simpa using h)] at hd
      cases hd
def rngO : List D → Option (List D)
  | [.int n] => if n ≤ big ∧ -big ≤ n then some (rng 0 n.toNat) else none
  | [.int a, .int n] => if n ≤ big ∧ -big ≤ n ∧ a ≤ big ∧ -big ≤ a then some (rng a (n - a).toNat) else none
  | _ => none
def rngI (fa : FA) : FA := fun ρ => (fa ρ).bind fun r => ofO (rngO r.1) r.2
theorem ni_range1 {a : Expr} (hg : Gl X "range") (hm : X.mg "range" = none) (ha : PA X [a] (rdA c E fa)) (hs : starEach [a] X.env = [(false, eval a X.env)] := by rfl) : PI X tg (.Call (.Name "range" p) [a] [] pos) (rdI c E (rngI (fun ρ => (fa ρ).bind fun r => if r.1.length = 1 then .ok r else .no))) := PI.mono (pi_range1 hg hm ha hs) fun σ H R ⟨N, W, ρ, er, q⟩ => by
  refine ⟨N, W, ρ, er, ?_⟩
  unfold rngI at q
  cases hf : fa ρ with
  | no => simp only [hf, Out.bind_no] at q; exact q
  | err x ρ' => simp only [hf, Out.bind_err] at q; exact q
  | ok r =>
    simp only [hf, Out.bind_ok] at q
    intro N1 W1 H1 t1 e1 vs rv
    by_cases hl : r.1.length = 1
    · rw [if_pos hl] at q
      simp only [Out.bind_ok] at q
      obtain ⟨ds, hd, q2⟩ := ofO_ok (q.step t1) e1
      have q3 := q2 N1 W1 H1 (.refl _ _ _) e1
      obtain ⟨ds1, ρ1⟩ := r
      dsimp only at hd rv hl
      unfold rngO at hd
      split at hd
      · rename_i _ n
        split at hd <;> simp only [Option.some.injEq, reduceCtorEq] at hd
        rename_i hb
        subst hd
        cases rv with
        | cons r1 r2 =>
          cases r2
          have hb2 : (big : Int) < 2 ^ 62 := by decide
          exact ⟨n, by rw [r1.int_inv], by omega, by omega, q3 _ _ (rng_src 0 _) trivial⟩
      · simp at hl
      · cases hd
    · rw [if_neg hl] at q
      exact q.elim
theorem ni_range2 {a b : Expr} (hg : Gl X "range") (hm : X.mg "range" = none) (ha : PA X [a, b] (rdA c E fa)) (hs : starEach [a, b] X.env = [(false, eval a X.env), (false, eval b X.env)] := by rfl) (hs2 : starEach [b] X.env = [(false, eval b X.env)] := by rfl) :
    PI X tg (.Call (.Name "range" p) [a, b] [] pos) (rdI c E (rngI (fun ρ => (fa ρ).bind fun r => if r.1.length = 2 then .ok r else .no))) := PI.mono (pi_range2 hg hm ha hs hs2) fun σ H R ⟨N, W, ρ, er, q⟩ => by
  refine ⟨N, W, ρ, er, ?_⟩
  unfold rngI at q
  cases hf : fa ρ with
  | no => simp only [hf, Out.bind_no] at q; exact q
  | err x ρ' => simp only [hf, Out.bind_err] at q; exact q
  | ok r =>
    simp only [hf, Out.bind_ok] at q
    intro N1 W1 H1 t1 e1 vs rv
    by_cases hl : r.1.length = 2
    · rw [if_pos hl] at q
      simp only [Out.bind_ok] at q
      obtain ⟨ds, hd, q2⟩ := ofO_ok (q.step t1) e1
      have q3 := q2 N1 W1 H1 (.refl _ _ _) e1
      obtain ⟨ds1, ρ1⟩ := r
      dsimp only at hd rv hl
      unfold rngO at hd
      split at hd
      · simp at hl
      · rename_i _ a n
        split at hd <;> simp only [Option.some.injEq, reduceCtorEq] at hd
        rename_i hb
        subst hd
        cases rv with
        | cons r1 r2 =>
          cases r2 with
          | cons r2 r3 =>
            cases r3
            have hb2 : (big : Int) < 2 ^ 62 := by decide
            exact ⟨a, n, by rw [r1.int_inv, r2.int_inv], by omega, q3 _ _ (rng_src a _) trivial⟩
      · cases hd
    · rw [if_neg hl] at q
      exact q.elim
end

/-! ### zip -/
section
variable {X : Cx} {c : Cn} {E : WX} {e e2 : Expr} {fa : FA} {pos p tpos : Pos} {elts : List Expr} {kk : Nat}
def zipD : List D → Option (List D)
  | [.lst xs, .lst ys] => some ((xs.zip ys).map fun q => .tup [q.1, q.2])
  | [.tup xs, .tup ys] => some ((xs.zip ys).map fun q => .tup [q.1, q.2])
  | _ => none
def zipI (fa : FA) : FA := fun ρ => (fa ρ).bind fun r => ofO (zipD r.1) r.2
theorem zip_len {xs ys : List D} : (((xs.zip ys).map fun q => D.tup [q.1, q.2])).length = min xs.length ys.length := by simp
theorem zip_get {xs ys : List D} {i : Nat} {d : D} (h : ((xs.zip ys).map fun q => D.tup [q.1, q.2])[i]? = some d) : ∃ x y, xs[i]? = some x ∧ ys[i]? = some y ∧ d = .tup [x, y] := by
  rw [List.getElem?_map] at h
  cases e : (xs.zip ys)[i]? with
  | none => rw [e] at h; cases h
  | some q =>
    rw [e] at h
    cases h
    rw [List.getElem?_zip_eq_some] at e
    exact ⟨q.1, q.2, e.1, e.2, rfl⟩
theorem pair_src {a b : Addr} {oa ob : HO} {vs ws : List V} {ds es : List D} {J : It}
    (go : ∀ H i, H a = some oa → H b = some ob → i < vs.length → i < ws.length → J.go i H) (stop : ∀ H i, H a = some oa → H b = some ob → (vs.length ≤ i ∨ ws.length ≤ i) → J.stop i H)
    (yld : ∀ H i x H', H a = some oa → H b = some ob → J.yld i H x H' → ∃ T u v, x = .ref T ∧ H T = none ∧ H' = upd H T (.tup [u, v]) ∧ vs[i]? = some u ∧ ws[i]? = some v) :
    Srcs c J ((ds.zip es).map fun q => .tup [q.1, q.2]) (fun N H => At c.T a oa vs ds N H ∧ At c.T b ob ws es N H) where
  keep := fun N W H N' W' H' σ ρ ⟨⟨h1, h2, h3⟩, ⟨k1, k2, k3⟩⟩ e t => ⟨⟨(e.mv t a oa h1 h2).1, (e.mv t a oa h1 h2).2, h3.move (e.mv t)⟩, ⟨(e.mv t b ob k1 k2).1, (e.mv t b ob k1 k2).2, k3.move (e.mv t)⟩⟩
  side := fun N H D u ⟨⟨h1, h2, h3⟩, ⟨k1, k2, k3⟩⟩ hD => by
    have nd : ∀ b, ¬ N b → b ≠ D := fun b n z => n (z ▸ hD)
    exact ⟨⟨h1, by rw [upd_ne (nd a h1)]; exact h2, h3.move fun b w n z => ⟨n, by rw [upd_ne (nd b n)]; exact z⟩⟩, ⟨k1, by rw [upd_ne (nd b k1)]; exact k2, k3.move fun b w n z => ⟨n, by rw [upd_ne (nd b n)]; exact z⟩⟩⟩
  more := fun N H D ⟨⟨h1, h2, h3⟩, ⟨k1, k2, k3⟩⟩ hD => ⟨⟨fun z => z.elim h1 (ne_of_none h2 hD), h2, h3.move fun b w n z => ⟨fun y => y.elim n (ne_of_none z hD), z⟩⟩, ⟨fun z => z.elim k1 (ne_of_none k2 hD), k2, k3.move fun b w n z => ⟨fun y => y.elim n (ne_of_none z hD), z⟩⟩⟩
  go := fun N H i ⟨⟨h1, h2, h3⟩, ⟨k1, k2, k3⟩⟩ hi => go H i h2 k2 (by rw [h3.length]; rw [zip_len] at hi; omega) (by rw [k3.length]; rw [zip_len] at hi; omega)
  stop := fun N H i ⟨⟨h1, h2, h3⟩, ⟨k1, k2, k3⟩⟩ hi => stop H i h2 k2 (by rw [h3.length, k3.length]; rw [zip_len] at hi; omega)
  yld := fun N H i x H' d ⟨⟨h1, h2, h3⟩, ⟨k1, k2, k3⟩⟩ al y hd => by
    obtain ⟨T, u, v, rfl, hT, rfl, hu, hv⟩ := yld H i x H' h2 k2 y
    obtain ⟨d1, d2, e1, e2, rfl⟩ := zip_get hd
    obtain ⟨u', hu', ru⟩ := h3.get e1
    obtain ⟨v', hv', rv⟩ := k3.get e2
    rw [hu] at hu'
    rw [hv] at hv'
    cases hu'
    cases hv'
    have k : ∀ b w, H b = some w → upd H T (.tup [u, v]) b = some w := fun b w z => by
      rw [upd_ne (ne_of_none z hT)]; exact z
    have mv : ∀ b w, ¬ N b → H b = some w → ¬ N b ∧ upd H T (.tup [u, v]) b = some w := fun b w n z => ⟨n, k b w z⟩
    exact ⟨k, .ref (fun z => al T z hT) upd_same (.tup (.cons (ru.move mv) (.cons (rv.move mv) .nil))), ⟨h1, k _ _ h2, h3.move mv⟩, ⟨k1, k _ _ k2, k3.move mv⟩⟩
theorem ni_zip (hg : Gl X "zip") (hm : X.mg "zip" = none) (ha : PA X [e, e2] (rdA c E fa))
    (hs : starEach [e, e2] X.env = (false, eval e X.env) :: starEach [e2] X.env := by rfl) (hpl : (backTo pos (starEach [e2] X.env)).any (·.1) = false := by rfl) :
    PI X (.Tuple elts kk tpos) (.Call (.Name "zip" p) [e, e2] [] pos) (rdI c E (zipI fa)) := PI.mono (RZ.pi_zipA hg hm ha hs hpl) fun σ H R ⟨N, W, ρ, er, q⟩ => by
  refine ⟨N, W, ρ, er, q.bind.imp fun N1 W1 H1 r1 t1 e1 q1 vs rv => ?_⟩
  obtain ⟨ds, hd, q2⟩ := ofO_ok q1 e1
  have q3 := q2 N1 W1 H1 (.refl _ _ _) e1
  obtain ⟨ds1, ρ1⟩ := r1
  dsimp only at hd rv
  unfold zipD at hd
  split at hd <;> simp only [Option.some.injEq, reduceCtorEq] at hd
  · subst hd
    cases rv with
    | cons r1 r2 => cases r2 with
      | cons r2 r3 =>
        cases r3
        obtain ⟨a, vs, rfl, n, h2, h3⟩ := r1.lst_inv
        obtain ⟨b, ws, rfl, n', k2, k3⟩ := r2.lst_inv
        have sq : ∀ {H : Hp} {a : Addr} {vs : List V}, H a = some (.lst vs) → SqL X.K H a vs := fun h => .of h
        exact ⟨a, b, vs, ws, rfl, .inl ⟨sq h2, sq k2, q3 _ _ (pair_src (fun H i h k hi hj => ⟨vs, ws, vs[i], ws[i], sq h, sq k, by simp [hi], by simp [hj]⟩) (fun H i h k hi => ⟨vs, ws, sq h, sq k, hi⟩)
          fun H i x H' h k y => by obtain ⟨T, u, v, e1, e2, e3, e4, e5⟩ := y; exact ⟨T, u, v, e1, e2, e3, e4 vs (sq h), e5 ws (sq k)⟩) ⟨⟨n, h2, h3⟩, ⟨n', k2, k3⟩⟩⟩⟩
  · subst hd
    cases rv with
    | cons r1 r2 => cases r2 with
      | cons r2 r3 =>
        cases r3
        obtain ⟨a, vs, rfl, n, h2, h3⟩ := r1.tup_inv
        obtain ⟨b, ws, rfl, n', k2, k3⟩ := r2.tup_inv
        have sq : ∀ {H : Hp} {a : Addr} {vs : List V}, H a = some (.tup vs) → SqT X.K H a vs := fun h => .of h
        exact ⟨a, b, vs, ws, rfl, .inr ⟨sq h2, sq k2, q3 _ _ (pair_src (fun H i h k hi hj => ⟨vs, ws, vs[i], ws[i], sq h, sq k, by simp [hi], by simp [hj]⟩) (fun H i h k hi => ⟨vs, ws, sq h, sq k, hi⟩)
          fun H i x H' h k y => by obtain ⟨T, u, v, e1, e2, e3, e4, e5⟩ := y; exact ⟨T, u, v, e1, e2, e3, e4 vs (sq h), e5 ws (sq k)⟩) ⟨⟨n, h2, h3⟩, ⟨n', k2, k3⟩⟩⟩⟩
end

/-! ### targets -/
theorem wipe_at {σ : L2.St} {i : Nat} : ∀ {vs : List Nat}, (wipe σ vs)[i]? = if i < σ.length ∧ i ∈ vs then some none else σ[i]?
  | [] => by
    rw [if_neg (by simp)]; rfl
  | v :: vs => by
    unfold wipe
    have ih := wipe_at (σ := σ) (i := i) (vs := vs)
    have hl : (wipe σ vs).length = σ.length := wipe_length σ vs
    by_cases hv : v = i
    · subst hv
      by_cases h : v < σ.length
      · rw [List.getElem?_set_self (by rw [hl]; exact h), if_pos ⟨h, by simp⟩]
      · rw [List.set_eq_of_length_le (by rw [hl]; omega), ih, if_neg (fun z => h z.1), if_neg (fun z => h z.1)]
    · rw [List.getElem?_set_ne hv, ih]
      by_cases h : i < σ.length ∧ i ∈ vs
      · rw [if_pos h, if_pos ⟨h.1, List.mem_cons_of_mem _ h.2⟩]
      · rw [if_neg h, if_neg (fun z => h ⟨z.1, (List.mem_cons.mp z.2).resolve_left (fun y => hv y.symm)⟩)]
/-- σ' is σ but at the slots vs -/
def Lke (vs : List Nat) (σ σ' : L2.St) : Prop := σ'.length = σ.length ∧ ∀ i, i ∉ vs → σ'[i]? = σ[i]?
theorem Lke.refl {vs : List Nat} {σ : L2.St} : Lke vs σ σ := ⟨rfl, fun _ _ => rfl⟩
theorem Lke.trans {vs : List Nat} {σ σ1 σ2 : L2.St} (a : Lke vs σ σ1) (b : Lke vs σ1 σ2) : Lke vs σ σ2 := ⟨b.1.trans a.1, fun i h => (b.2 i h).trans (a.2 i h)⟩
theorem Lke.mono {vs ws : List Nat} {σ σ1 : L2.St} (a : Lke vs σ σ1) (h : ∀ i ∈ vs, i ∈ ws) : Lke ws σ σ1 := ⟨a.1, fun i n => a.2 i fun z => n (h i z)⟩
theorem Lke.wipe {vs : List Nat} {σ : L2.St} : Lke vs σ (wipe σ vs) := ⟨wipe_length σ vs, fun i h => by rw [wipe_at, if_neg (fun z => h z.2)]⟩
theorem Lke.set {vs : List Nat} {σ : L2.St} {i : Nat} {x : Option V} (h : i ∈ vs) : Lke vs σ (σ.set i x) := ⟨List.length_set, fun j n => List.getElem?_set_ne fun (z : i = j) => n (z ▸ h)⟩
theorem Lke.eq {vs : List Nat} {σ σ1 : L2.St} (a : Lke vs σ σ1) : L2.wipe σ1 vs = L2.wipe σ vs := by
  refine List.ext_getElem? fun i => ?_
  rw [wipe_at, wipe_at, a.1]
  by_cases h : i ∈ vs
  · by_cases hl : i < σ.length
    · rw [if_pos ⟨hl, h⟩, if_pos ⟨hl, h⟩]
    · rw [if_neg (fun z => hl z.1), if_neg (fun z => hl z.1), List.getElem?_eq_none (by rw [a.1]; omega), List.getElem?_eq_none (by omega)]
  · rw [if_neg (fun z => h z.2), if_neg (fun z => h z.2), a.2 i h]
/-- what a target does: from an item and the slots to the slots; it stores to the slots js -/
abbrev FG := D → En → Option En
def TgD (c : Cn) (g : TG) (tf : FG) (js : List Nat) : Prop := ∀ v σ H N W ρ ρ' (Q : L2.St → Hp → Prop) (d : D), ER c N W H σ ρ → Rep c.T N H v d → tf d ρ = some ρ' → (∀ σ', ER c N W H σ' ρ' → Lke js σ σ' → Q σ' H) → g v σ H Q
def tN (i : Nat) : FG := fun d ρ => some (setS ρ i (.sh d))
theorem td_name {c : Cn} {i : Nat} : TgD c (gName i) (tN i) [i] := fun v σ H N W ρ ρ' Q d e r h q => by
  cases h
  exact q _ (e.setSh r) (.set (by simp))
abbrev FGs := List D → En → Option En
def TgsD (c : Cn) (g : TGs) (tf : FGs) (js : List Nat) : Prop := ∀ vs σ H N W ρ ρ' (Q : L2.St → Hp → Prop) (ds : List D), ER c N W H σ ρ → Reps c.T N H vs ds → tf ds ρ = some ρ' → (∀ σ', ER c N W H σ' ρ' → Lke js σ σ' → Q σ' H) → g vs σ H Q
def tsN : FGs := fun ds ρ => match ds with
  | [] => some ρ
  | _ => none
def tsC (t : FG) (u : FGs) : FGs := fun ds ρ => match ds with
  | d :: r => (t d ρ).bind fun ρ1 => u r ρ1
  | [] => none
theorem tds_nil {c : Cn} : TgsD c gNil tsN [] := fun vs σ H N W ρ ρ' Q ds e r h q => by
  cases r with
  | nil => cases h; exact ⟨rfl, q σ e .refl⟩
  | cons _ _ => cases h
theorem tds_cons {c : Cn} {t : TG} {u : TGs} {tf : FG} {uf : FGs} {js ks : List Nat} (h1 : TgD c t tf js) (h2 : TgsD c u uf ks) : TgsD c (gCons t u) (tsC tf uf) (js ++ ks) := fun vs σ H N W ρ ρ' Q ds e r h q => by
  cases r with
  | nil => cases h
  | cons r1 r2 =>
    rename_i v vs d ds
    simp only [tsC] at h
    cases ht : tf d ρ with
    | none => rw [ht] at h; cases h
    | some ρ1 =>
      rw [ht] at h
      exact ⟨v, vs, rfl, h1 v σ H N W ρ ρ1 _ d e r1 ht fun σ1 e1 l1 => h2 vs σ1 H N W ρ1 ρ' Q ds e1 r2 h fun σ2 e2 l2 => q σ2 e2 ((l1.mono fun i h => List.mem_append_left _ h).trans (l2.mono fun i h => List.mem_append_right _ h))⟩
def tT (n : Nat) (u : FGs) : FG := fun d ρ => match d with
  | .tup ds => if ds.length = n then u ds ρ else none
  | _ => none
theorem td_tup {c : Cn} {K : PySem.W.Frag} {n : Nat} {u : TGs} {uf : FGs} {js : List Nat} (h : TgsD c u uf js) : TgD c (gTup K n u) (tT n uf) js := fun v σ H N W ρ ρ' Q d e r hh q => by
  unfold tT at hh
  split at hh
  · rename_i ds
    split at hh
    · rename_i hl
      obtain ⟨a, vs, rfl, _, h2, h3⟩ := r.tup_inv
      exact ⟨a, vs, rfl, .of h2, by rw [h3.length]; exact hl, h vs σ H N W ρ ρ' Q ds e h3 hh q⟩
    · cases hh
  · cases hh

/-! ### for -/
section
variable {X : Cx} {c : Cn} {E : WX} {tg it : Expr} {fi : FA} {g : TG} {tf : FG} {js : List Nat} {body : List Stmt} {fb : FS} {pos : Pos}
def forL (tf : FG) (fb : FS) : List D → FS
  | [] => fun ρ => .ok (.nx, ρ)
  | d :: ds => fun ρ => match tf d ρ with
    | none => .no
    | some ρ1 => (fb ρ1).bind fun r => match r.1 with
      | .nx => forL tf fb ds r.2
      | .ct => forL tf fb ds r.2
      | .bk => .ok (.nx, r.2)
      | .rt d fr => .ok (.rt d fr, r.2)
def forS (fi : FA) (tf : FG) (fb : FS) : FS := fun ρ => (fi ρ).bind fun r => forL tf fb r.1 r.2
theorem ns_for (hp : PassesOwn (model X.prog X.w) X.A X.env X.xe) (hc : X.calm = true) (hi : PI X tg it (rdI c E fi)) (hg : PG X tg g) (ht : TgD c g tf js) (hb : PSs X body (rdS c E fb))
    (hs : ∀ x, foldedSetIterable it X.env x = pure x := by intro _; rfl) : PS X (.For tg it body [] pos) (rdS c E (forS fi tf fb)) := PS.mono (ps_for hp hc hi hg hb hs) fun D σ H ⟨N, W, ρ, er, q⟩ => by
  refine ⟨N, W, ρ, er, (satS.bind (σ := σ) q).imp fun N1 W1 H1 r1 t1 e1 q1 J I S hI => ?_⟩
  obtain ⟨ds, ρ1⟩ := r1
  obtain ⟨q1, _⟩ := q1
  refine ⟨fun i m σ H => m = ds.length - i ∧ i ≤ ds.length ∧ ∃ N W ρ, ER c N W H σ ρ ∧ I N H ∧ satS c N W H E D (forL tf fb (ds.drop i) ρ), ⟨ds.length, by simp, Nat.zero_le _, N1, W1, ρ1, e1, hI, q1⟩, ?_⟩
  rintro i m σ2 H2 ⟨rfl, hi, N2, W2, ρ2, e2, hI2, q2⟩
  by_cases hlt : i < ds.length
  · obtain ⟨d, hd⟩ : ∃ d, ds[i]? = some d := ⟨ds[i], by simp [hlt]⟩
    have hdr : ds.drop i = d :: ds.drop (i + 1) := by
      rw [List.drop_eq_getElem_cons hlt]
      congr 1
      exact Option.some.inj ((List.getElem?_eq_getElem hlt).symm.trans hd)
    rw [hdr] at q2
    refine .inr ⟨S.go N2 H2 i hI2 hlt, fun σ' H' => i + 1 ≤ ds.length ∧ ∃ N W ρ, ER c N W H' σ' ρ ∧ I N H' ∧ satS c N W H' E D (forL tf fb (ds.drop (i + 1)) ρ), fun σ' H' hN => ⟨ds.length - (i + 1), by omega, rfl, hN⟩, fun x H' hy => ?_⟩
    obtain ⟨k, rx, hI3⟩ := S.yld N2 H2 i x H' d hI2 e2.all hy hd
    have e3 := e2.grow k
    have t3 : Stp N2 W2 H2 N2 W2 H' := .grow e2.all k
    simp only [forL] at q2
    cases hf : tf d ρ2 with
    | none => rw [hf] at q2; exact q2.elim
    | some ρ3 =>
      rw [hf] at q2
      dsimp only at q2
      refine ht x σ2 H' N2 W2 ρ2 ρ3 _ d e3 rx hf fun σ4 e4 _ => ?_
      refine ⟨N2, W2, ρ3, e4, ?_⟩
      have q3 := q2.step t3
      have again : ∀ {ρ5 : En}, satS c N2 W2 H' E D (forL tf fb (ds.drop (i + 1)) ρ5) → ∀ N' W' H5 σ5, Stp N2 W2 H' N' W' H5 → ER c N' W' H5 σ5 ρ5 → i + 1 ≤ ds.length ∧ ∃ N W ρ, ER c N W H5 σ5 ρ ∧ I N H5 ∧ satS c N W H5 E D (forL tf fb (ds.drop (i + 1)) ρ) :=
        fun {ρ5} z N' W' H5 σ5 t5 e5 => ⟨hlt, N', W', ρ5, e5, S.keep _ _ _ _ _ _ _ _ hI3 e4 t5, z.step t5⟩
      match hm : fb ρ3 with
      | .ok (.nx, ρ5) => rw [hm] at q3; exact again q3
      | .ok (.ct, ρ5) => rw [hm] at q3; exact again q3
      | .ok (.bk, ρ5) => rw [hm] at q3; exact q3
      | .ok (.rt d fr, ρ5) => rw [hm] at q3; exact q3
      | .err x ρ5 => rw [hm] at q3; exact q3
      | .no => rw [hm] at q3; exact q3.elim
  · have hn : ds.drop i = [] := List.drop_eq_nil_of_le (by omega)
    rw [hn] at q2
    exact .inl ⟨S.stop N2 H2 i hI2 (Nat.le_of_not_lt hlt), q2 N2 W2 H2 σ2 (.refl _ _ _) e2⟩
end
end ND

end
section
set_option Elab.async false
set_option linter.all false
set_option maxRecDepth 100000
/-! ND9: list comprehensions. -/
namespace ND
open PySem PySem.Spec PyProof.Rows L2
def noE {α : Type} : Out α → Out α
  | .ok a => .ok a
  | _ => .no
@[simp] theorem noE_ok {α : Type} (a : α) : noE (.ok a) = .ok a := rfl
@[simp] theorem noE_no {α : Type} : noE (.no : Out α) = .no := rfl
theorem noE_eq {α : Type} {m : Out α} {a : α} (h : noE m = .ok a) : m = .ok a := by
  cases m with
  | ok b => exact h
  | err x ρ => cases h
  | no => cases h
def keepSh : SD → SD
  | .sh d => .sh d
  | _ => .un
def wipL (vs : List Nat) : Nat → List SD → List SD
  | _, [] => []
  | i, s :: ss => (bif vs.contains i then SD.un else s) :: wipL vs (i + 1) ss
def wipeE (vs : List Nat) (ρ : En) : En := { ρ with sl := wipL vs 0 ρ.sl }
def restL (vs : List Nat) : Nat → List SD → List SD → List SD
  | i, s :: ss, t :: ts => (bif vs.contains i then keepSh s else t) :: restL vs (i + 1) ss ts
  | _, _, _ => []
/-- behind a comprehension: its own slots as they were -/
def restE (vs : List Nat) (ρ ρ' : En) : En := { ρ' with sl := restL vs 0 ρ.sl ρ'.sl }
theorem wipL_len (vs : List Nat) : ∀ (i : Nat) (ss : List SD), (wipL vs i ss).length = ss.length
  | _, [] => rfl
  | i, s :: ss => by simp [wipL, wipL_len vs (i + 1) ss]
theorem wipL_get (vs : List Nat) : ∀ (i : Nat) (ss : List SD) (j : Nat), (wipL vs i ss)[j]? = (ss[j]?).map fun s => if vs.contains (i + j) = true then SD.un else s
  | _, [], _ => by simp [wipL]
  | i, s :: ss, 0 => by simp [wipL, Bool.cond_eq_ite]
  | i, s :: ss, j + 1 => by
    have := wipL_get vs (i + 1) ss j
    simp only [wipL, List.getElem?_cons_succ, this]
    rw [show i + 1 + j = i + (j + 1) by omega]
theorem restL_len (vs : List Nat) : ∀ (i : Nat) (ss ts : List SD), ss.length = ts.length → (restL vs i ss ts).length = ts.length
  | _, [], [], _ => rfl
  | i, s :: ss, t :: ts, h => by simp [restL, restL_len vs (i + 1) ss ts (by simpa using h)]
theorem restL_get (vs : List Nat) : ∀ (i : Nat) (ss ts : List SD) (j : Nat) (r : SD), (restL vs i ss ts)[j]? = some r → ∃ s t, ss[j]? = some s ∧ ts[j]? = some t ∧ r = if vs.contains (i + j) = true then keepSh s else t
  | i, s :: ss, t :: ts, 0, r, h => by
    simp only [restL, List.getElem?_cons_zero, Option.some.injEq, Bool.cond_eq_ite] at h
    exact ⟨s, t, rfl, rfl, by simpa using h.symm⟩
  | i, s :: ss, t :: ts, j + 1, r, h => by
    simp only [restL, List.getElem?_cons_succ] at h
    obtain ⟨s', t', h1, h2, h3⟩ := restL_get vs (i + 1) ss ts j r h
    refine ⟨s', t', by simpa using h1, by simpa using h2, ?_⟩
    rw [show i + (j + 1) = i + 1 + j by omega]
    exact h3
  | i, [], ts, j, r, h => by simp [restL] at h
  | i, _ :: _, [], j, r, h => by simp [restL] at h
section
variable {c : Cn} {N W N' W' : AP1} {H H' : Hp} {σ σ' : L2.St} {ρ ρ' : En}
/-- fewer slots are known, or others -/
theorem ER.re (e : ER c N W H σ ρ) (hb : ρ'.b = ρ.b) (hl : ρ'.sl.length = ρ.sl.length) (hs : σ'.length = σ.length)
    (h : ∀ (i : Nat) (s : SD), ρ'.sl[i]? = some s → s = .un ∨ (ρ.sl[i]? = some s ∧ σ'[i]? = σ[i]?) ∨ ∃ d v, s = .sh d ∧ σ'[i]? = some (some v) ∧ Rep c.T N H v d) : ER c N W H σ' ρ' := by
  refine ⟨e.keep, e.n0, e.sub, e.new, e.all, e.wn, e.wnew, fun a z => by rw [hb]; exact e.bag a z, by rw [hs, hl]; exact e.len, fun i d q => ?_, fun i d q => ?_, fun i j di dj a q1 q2 s1 s2 => ?_, fun i q => ?_⟩
  · rcases h i _ q with z | ⟨z, y⟩ | ⟨d', v, z, y, x⟩
    · cases z
    · rw [y]; exact e.sh i d z
    · cases z; exact ⟨v, y, x⟩
  · rcases h i _ q with z | ⟨z, y⟩ | ⟨d', v, z, y, x⟩
    · cases z
    · rw [y]; exact e.ow i d z
    · cases z
  · rcases h i _ q1 with z | ⟨z, y⟩ | ⟨d', v, z, y, x⟩
    · cases z
    · rcases h j _ q2 with z2 | ⟨z2, y2⟩ | ⟨d', v, z2, y2, x2⟩
      · cases z2
      · rw [y] at s1; rw [y2] at s2; exact e.inj i j di dj a z z2 s1 s2
      · cases z2
    · cases z
  · rcases h i _ q with z | ⟨z, y⟩ | ⟨d', v, z, y, x⟩
    · cases z
    · rw [y]; exact e.bs i z
    · cases z
theorem ER.wipe (vs : List Nat) (e : ER c N W H σ ρ) (hl : Lke vs σ σ') : ER c N W H σ' (wipeE vs ρ) :=
  e.re rfl (wipL_len _ _ _) hl.1 fun i s q => by
    rw [show (wipeE vs ρ).sl = wipL vs 0 ρ.sl from rfl, wipL_get, Nat.zero_add] at q
    cases h : ρ.sl[i]? with
    | none => rw [h] at q; cases q
    | some s' =>
      rw [h] at q
      simp only [Option.map_some, Option.some.injEq] at q
      by_cases hv : vs.contains i = true
      · rw [if_pos hv] at q; exact .inl q.symm
      · rw [if_neg hv] at q
        subst q
        exact .inr (.inl ⟨rfl, hl.2 i fun z => hv (by simpa using z)⟩)
theorem ER.rest (vs : List Nat) {N0 W0 : AP1} {H0 : Hp} {ρ0 : En} (e0 : ER c N0 W0 H0 σ ρ0) (t : Stp N0 W0 H0 N W H) (e : ER c N W H σ' (wipeE vs ρ)) (hl : Lke vs σ σ') : ER c N W H σ (restE vs ρ0 ρ) := by
  have l0 : ρ0.sl.length = ρ.sl.length := by
    have := e0.len
    have h2 := e.len
    rw [show (wipeE vs ρ).sl = wipL vs 0 ρ.sl from rfl, wipL_len] at h2
    have h3 := hl.1
    omega
  refine e.re rfl ?_ hl.1.symm fun i s q => ?_
  · show (restL vs 0 ρ0.sl ρ.sl).length = (wipL vs 0 ρ.sl).length
    rw [restL_len _ _ _ _ l0, wipL_len]
  · obtain ⟨s', t', h1, h2, h3⟩ := restL_get vs 0 ρ0.sl ρ.sl i s q
    rw [Nat.zero_add] at h3
    by_cases hv : vs.contains i = true
    · rw [if_pos hv] at h3
      cases s' with
      | sh d =>
        obtain ⟨v, k1, k2⟩ := e0.sh i d h1
        exact .inr (.inr ⟨d, v, h3, k1, k2.move (e0.mv t)⟩)
      | un => exact .inl h3
      | ow d => exact .inl h3
      | bag => exact .inl h3
    · rw [if_neg hv] at h3
      subst h3
      refine .inr (.inl ⟨?_, (hl.2 i fun z => hv (by simpa using z)).symm⟩)
      rw [show (wipeE vs ρ).sl = wipL vs 0 ρ.sl from rfl, wipL_get, Nat.zero_add, h2]
      simp only [Option.map_some]
      rw [if_neg hv]
/-- what is set apart and held by no slot may change -/
theorem ER.upd {a : Addr} {o : HO} (e : ER c N W H σ ρ) (h1 : N a) (h2 : ¬ W a) (h0 : c.H0 a = none) : ER c N W (upd H a o) σ ρ := by
  have nd : ∀ b, ¬ N b → b ≠ a := fun b n z => n (z ▸ h1)
  have nw : ∀ b, W b → b ≠ a := fun b n z => h2 (z ▸ n)
  have mv : ∀ b w, ¬ N b → H b = some w → ¬ N b ∧ L2.upd H a o b = some w := fun b w n z => ⟨n, by rw [upd_ne (nd b n)]; exact z⟩
  refine ⟨fun b x h h' => ?_, e.n0, e.sub, e.new, fun b h => ?_, e.wn, e.wnew, fun b h => ?_, e.len, fun i d q => ?_, fun i d q => ?_, e.inj, e.bs⟩
  · rw [upd_ne (fun z => by rw [z, h0] at h; cases h)]
    exact e.keep b x h h'
  · by_cases z : b = a
    · subst z; rw [upd_same]; intro y; cases y
    · rw [upd_ne z]; exact e.all b h
  · obtain ⟨k1, k2, k3⟩ := e.bag b h
    exact ⟨k1, k2, k3.mv mv k3.apart fun o q => by rw [upd_ne (nw b k1)]; exact q⟩
  · obtain ⟨v, k1, k2⟩ := e.sh i d q
    exact ⟨v, k1, k2.move mv⟩
  · obtain ⟨b, u, k1, k2, k3, k4, k5⟩ := e.ow i d q
    exact ⟨b, u, k1, k2, k3, by rw [upd_ne (nw b k2)]; exact k4, k5.move mv⟩
theorem Stp.upd {a : Addr} {o : HO} (t : Stp N W H N' W' H') (h : H a = none) : Stp N W H N' W' (upd H' a o) :=
  ⟨fun b x hb nw => by rw [upd_ne (ne_of_none hb h)]; exact t.keep b x hb nw, t.nN, t.nW, t.kN, fun b hb => by
    by_cases z : b = a
    · subst z; exact absurd h hb
    · rw [upd_ne z]; exact t.al b hb⟩
theorem Stp.was_none {a : Addr} (t : Stp N W H N' W' H') (h : H' a = none) : H a = none := by
  cases q : H a with
  | none => rfl
  | some o => exact absurd h (t.al a (by rw [q]; intro y; cases y))
end

def yesT : FT := fun ρ => .ok (true, ρ)
theorem nts_nil {X : Cx} {c : Cn} {E : WX} : PTs X [] (rdT c E yesT) := ⟨fun pins s σ H Q I ⟨N, W, ρ, er, q⟩ => pts_nil.run pins s σ H Q I (q N W H (.refl _ _ _) er)⟩
theorem nts_one {X : Cx} {c : Cn} {E : WX} {e : Expr} {ft : FT} (h : PT X e (rdT c E ft)) : PTs X [e] (rdT c E ft) := pts_one h
def lcL (tf : FG) (ft : FT) (fe : FD) (vs : List Nat) : List D → List D → En → Out (List D × En)
  | [], out, ρ => .ok (out, ρ)
  | d :: ds, out, ρ => match tf d (wipeE vs ρ) with
    | none => .no
    | some ρ1 => (noE (ft ρ1)).bind fun r => if r.1 = true then (noE (fe r.2)).bind fun s => if out.length < big then lcL tf ft fe vs ds (out ++ [s.1]) s.2 else .no else lcL tf ft fe vs ds out r.2
def lcE (fi : FA) (tf : FG) (ft : FT) (fe : FD) (vs : List Nat) : FV := fun ρ => (fi ρ).bind fun r => (noE (lcL tf ft fe vs r.1 [] r.2)).bind fun s => .ok ((.lst s.1, true), restE vs r.2 s.2)
section
variable {X : Cx} {c : Cn} {E E' : WX} {fi : FA} {g : TG} {tf : FG} {js : List Nat} {ft : FT} {fe : FD} {vs : List Nat}
theorem lc_go (htg : TgD c g tf js) (hjs : ∀ j ∈ js, j ∈ vs) {σ : L2.St} {H : Hp} {Q : VK} (q : rdV c E (lcE fi tf ft fe vs) σ H Q) : tLc (rdI c E fi) g (rdT c E' ft) (rdD c E' fe) vs σ H Q := by
  obtain ⟨N, W, ρ, er, q⟩ := q
  refine ⟨N, W, ρ, er, q.bind.imp fun N1 W1 H1 r1 t1 e1 q1 J I S hI D hD => ?_⟩
  obtain ⟨ds, ρ1⟩ := r1
  dsimp only at q1 e1 S
  cases hm : noE (lcL tf ft fe vs ds [] ρ1) with
  | no => rw [hm] at q1; exact q1.elim
  | err x ρ' => cases h : lcL tf ft fe vs ds [] ρ1 <;> rw [h] at hm <;> cases hm
  | ok r =>
    rw [hm] at q1
    have hm := noE_eq hm
    have q1 : ∀ N' W' H', Stp N1 W1 H1 N' W' H' → ER c N' W' H' σ (restE vs ρ1 r.2) → ∀ v, VR c H N' W' H' v (.lst r.1) true → Q v H' := q1
    have h0 : c.H0 D = none := h0_none e1 hD
    have hH : H D = none := t1.was_none hD
    have ea := e1.apart hD (o := .lst [])
    refine ⟨fun i m H => m = ds.length - i ∧ i ≤ ds.length ∧ ∃ N W ρ out acc, ER c N W H (wipe σ vs) (wipeE vs ρ) ∧ N D ∧ ¬ W D ∧ H D = some (.lst acc) ∧ Reps c.T N H acc out ∧ I N H ∧ Stp N1 W1 H1 N W H ∧ lcL tf ft fe vs (ds.drop i) out ρ = .ok r,
      ⟨ds.length, by simp, Nat.zero_le _, _, W1, ρ1, [], [], ea.wipe vs .wipe, .inr rfl, fun z => e1.all D (e1.wn D z) hD, upd_same, .nil, S.side _ _ _ _ (S.more _ _ _ hI hD) (.inr rfl), .apart hD, hm⟩, ?_⟩
    rintro i m H2 ⟨rfl, hi, N2, W2, ρ2, out, acc, e2, d1, d2, d3, r2, hI2, t2, hm2⟩
    by_cases hlt : i < ds.length
    · obtain ⟨d, hd⟩ : ∃ d, ds[i]? = some d := ⟨ds[i], by simp [hlt]⟩
      have hdr : ds.drop i = d :: ds.drop (i + 1) := by
        rw [List.drop_eq_getElem_cons hlt]
        congr 1
        exact Option.some.inj ((List.getElem?_eq_getElem hlt).symm.trans hd)
      rw [hdr] at hm2
      simp only [lcL] at hm2
      refine .inr ⟨S.go N2 H2 i hI2 hlt, fun H => i + 1 ≤ ds.length ∧ ∃ N W ρ out acc, ER c N W H (wipe σ vs) (wipeE vs ρ) ∧ N D ∧ ¬ W D ∧ H D = some (.lst acc) ∧ Reps c.T N H acc out ∧ I N H ∧ Stp N1 W1 H1 N W H ∧ lcL tf ft fe vs (ds.drop (i + 1)) out ρ = .ok r,
        fun H' hN => ⟨ds.length - (i + 1), by omega, rfl, hN⟩, fun x H' hy => ?_⟩
      obtain ⟨k, rx, hI3⟩ := S.yld N2 H2 i x H' d hI2 e2.all hy hd
      have e3 := e2.grow k
      have t3 : Stp N2 W2 H2 N2 W2 H' := .grow e2.all k
      cases hf : tf d (wipeE vs ρ2) with
      | none => rw [hf] at hm2; cases hm2
      | some ρ3 =>
        rw [hf] at hm2
        dsimp only at hm2
        refine htg x _ H' N2 W2 _ ρ3 _ d e3 rx hf fun σ4 e4 l4 => ?_
        have l4' : Lke vs (wipe σ vs) σ4 := l4.mono hjs
        have l5 : Lke vs σ4 (wipe σ vs) := ⟨l4'.1.symm, fun i h => (l4'.2 i h).symm⟩
        refine ⟨?_, N2, W2, ρ3, e4, ?_⟩
        · rw [l4'.eq, (Lke.wipe (vs := vs) (σ := σ)).eq]
        obtain ⟨⟨b, ρ5⟩, h5, hm5⟩ := Out.bind_eq_ok hm2
        rw [noE_eq h5]
        intro N5 W5 H5 t5 e5
        have D5 : N5 D ∧ ¬ W5 D ∧ H5 D = some (.lst acc) := by
          have hD' : H' D = some (.lst acc) := k D _ d3
          refine ⟨t5.kN D d1 d2 (by rw [hD']; intro z; cases z), fun z => ?_, t5.keep D _ hD' d2⟩
          rcases t5.nW D z with y | y
          · exact d2 y
          · rw [hD'] at y; cases y
        have tt5 : Stp N2 W2 H2 N5 W5 H5 := t3.trans t5
        have I5 : I N5 H5 := S.keep _ _ _ _ _ _ _ _ hI3 e4 t5
        have r5 : Reps c.T N5 H5 acc out := r2.move (e2.mv tt5)
        dsimp only at hm5 ⊢
        cases b with
        | false =>
          rw [if_neg Bool.false_ne_true] at hm5
          exact iteF ⟨hlt, N5, W5, ρ5, out, acc, e5.wipe vs l5, D5.1, D5.2.1, D5.2.2, r5, I5, t2.trans tt5, hm5⟩
        | true =>
          rw [if_pos rfl] at hm5
          obtain ⟨⟨dd, ρ6⟩, h6, hm6⟩ := Out.bind_eq_ok hm5
          refine iteT ⟨N5, W5, ρ5, e5, ?_⟩
          rw [noE_eq h6]
          intro N6 W6 H6 t6 e6 y ry
          have D6 : N6 D ∧ ¬ W6 D ∧ H6 D = some (.lst acc) := by
            refine ⟨t6.kN D D5.1 D5.2.1 (by rw [D5.2.2]; intro z; cases z), fun z => ?_, t6.keep D _ D5.2.2 D5.2.1⟩
            rcases t6.nW D z with w | w
            · exact D5.2.1 w
            · rw [D5.2.2] at w; cases w
          dsimp only at hm6
          by_cases hz : out.length < big
          · rw [if_pos hz] at hm6
            have r6 : Reps c.T N6 H6 (acc ++ [y]) (out ++ [dd]) := (r5.move (e5.mv t6)).app (.cons ry .nil)
            refine ⟨acc, D6.2.2, by rw [r5.length]; exact Nat.lt_trans hz big_line, hlt, N6, W6, ρ6, out ++ [dd], acc ++ [y], (e6.upd D6.1 D6.2.1 h0).wipe vs l5, D6.1, D6.2.1, upd_same, r6.move fun b w n z => ⟨n, ?_⟩, S.side _ _ _ _ (S.keep _ _ _ _ _ _ _ _ I5 e5 t6) D6.1, (t2.trans (tt5.trans t6)).upd hD, hm6⟩
            rw [upd_ne (fun (q : b = D) => n (by rw [q]; exact D6.1))]
            exact z
          · rw [if_neg hz] at hm6
            cases hm6
    · have hn : ds.drop i = [] := List.drop_eq_nil_of_le (by omega)
      rw [hn] at hm2
      cases hm2
      exact .inl ⟨S.stop N2 H2 i hI2 (Nat.le_of_not_lt hlt), q1 N2 W2 H2 t2 (ER.rest vs e1 t2 e2 .wipe) _ ⟨D, _, rfl, d1, d2, hH, h0, d3, .lst r2⟩⟩
theorem nd_lc {elt tg iter : Expr} {ifs : List Expr} {scope : Scope} {own : List (Str × Nat)} {pos : Pos} (hc : X.calm = true) (hN : X.N.Nodup) (hi : PI X tg iter (rdI c E fi)) (ok : BlkOk X.N X.env.scope scope own)
    (hg : ∀ (s : Shared) (H : Hp) (C : Addr) (cl : List (Str × Addr)) (fp : List Addr), PG (X.blk s H scope (compEnvC scope cl C X.env) fp) tg g) (htg : TgD c g tf js) (ht : ∀ (s : Shared) (H : Hp) (C : Addr) (cl : List (Str × Addr)) (fp : List Addr), PTs (X.blk s H scope (compEnvC scope cl C X.env) fp) ifs (rdT c E' ft))
    (he : ∀ (s : Shared) (H : Hp) (C : Addr) (cl : List (Str × Addr)) (fp : List Addr), PE (X.blk s H scope (compEnvC scope cl C X.env) fp) elt (rdD c E' fe)) (hjs : ∀ j ∈ js, j ∈ own.map (·.2) := by decide) (hs : ∀ x, foldedSetIterable iter X.env x = pure x := by intro _; rfl) :
    PE X (.ListComp elt [⟨tg, iter, ifs, 0⟩] scope pos) (rdV c E (lcE fi tf ft fe (own.map (·.2)))) := PE.mono (pe_lc hc hN hi ok hg ht he hs) fun σ H Q q => lc_go htg hjs q
theorem ns_setLc {i : Nat} {y : Str} {py : Pos} {elt tg iter : Expr} {ifs : List Expr} {scope : Scope} {own : List (Str × Nat)} {pos spos : Pos} (hc : X.calm = true) (hN : X.N.Nodup) (hy : X.N[i]? = some y) (hyl : X.env.scope.names.lookup y = some .local)
    (hsw : swapsWith (.ListComp elt [⟨tg, iter, ifs, 0⟩] scope pos) (some (.Name y py)) spos.line X.env = pure true) (hi : PI X tg iter (rdI c E fi)) (ok : BlkOk X.N X.env.scope scope own)
    (hg : ∀ (s : Shared) (H : Hp) (C : Addr) (cl : List (Str × Addr)) (fp : List Addr), PG (X.blk s H scope (compEnvC scope cl C X.env) fp) tg g) (htg : TgD c g tf js) (ht : ∀ (s : Shared) (H : Hp) (C : Addr) (cl : List (Str × Addr)) (fp : List Addr), PTs (X.blk s H scope (compEnvC scope cl C X.env) fp) ifs (rdT c E' ft))
    (he : ∀ (s : Shared) (H : Hp) (C : Addr) (cl : List (Str × Addr)) (fp : List Addr), PE (X.blk s H scope (compEnvC scope cl C X.env) fp) elt (rdD c E' fe)) (hjs : ∀ j ∈ js, j ∈ own.map (·.2) := by decide) (hs : ∀ x, foldedSetIterable iter X.env x = pure x := by intro _; rfl) :
    PS X (.Assign [.Name y py] (.ListComp elt [⟨tg, iter, ifs, 0⟩] scope pos) spos) (rdS c E (setE i (lcE fi tf ft fe (own.map (·.2))))) := PS.mono (ps_setLc hc hN hy hyl hsw hi ok hg ht he hs) fun D σ H q => by
  obtain ⟨N, W, ρ, er, q⟩ := q
  exact lc_go htg hjs ⟨N, W, ρ, er, (satS.bindB (σ := σ) q).imp fun N1 W1 H1 r1 t1 e1 q1 v1 rv1 => by
    obtain ⟨W2, t2, e2⟩ := ER.put (i := i) t1 e1 rv1
    exact q1.1 N1 W2 H1 _ t2 e2⟩
end
end ND

end
section
set_option Elab.async false
set_option linter.all false
set_option maxRecDepth 100000
/-! ND10: calls of built-ins, items, slices, methods of lists. -/
namespace ND
open PySem PySem.Spec PyProof.Rows L2

/-! ### calls by values -/
def CallD (X : Cx) (f : Value) (g : List D → Option D) : Prop := ∃ r, CallR X f r ∧ ∀ (T : Tg) (N : AP1) (H : Hp) (vs : List V) (ds : List D) (d : D) (Q : VK),
  (∀ a, N a → H a ≠ none) → Reps T N H vs ds → g ds = some d → (∀ v H', (∀ b o, H b = some o → H' b = some o) → Rep T N H' v d → Q v H') → r vs H Q
def CallL (X : Cx) (f : Value) (g : List D → Option (List D)) : Prop := ∃ r, CallR X f r ∧ ∀ (T : Tg) (N : AP1) (H : Hp) (vs : List V) (ds es : List D) (Q : VK),
  (∀ a, N a → H a ≠ none) → Reps T N H vs ds → g ds = some es → (∀ p ws H', (∀ b o, H b = some o → H' b = some o) → H p = none → Reps T N H' ws es → H' p = some (.lst ws) → (∀ b, N b → H' b ≠ none) → Q (.ref p) H') → r vs H Q
/-- .. of one thing that is looked into at once -/
def CallQ (X : Cx) (f : Value) (g : D → Option D) : Prop := ∃ r, CallR X f r ∧ ∀ (c : Cn) (N : AP1) (H : Hp) (v : V) (d e : D) (Q : VK),
  (∀ a, N a → H a ≠ none) → Pk c N H v d → g d = some e → (∀ u H', (∀ b o, H b = some o → H' b = some o) → Rep c.T N H' u e → Q u H') → r [v] H Q
def CallQL (X : Cx) (f : Value) (g : D → Option (List D)) : Prop := ∃ r, CallR X f r ∧ ∀ (c : Cn) (N : AP1) (H : Hp) (v : V) (d : D) (es : List D) (Q : VK),
  Pk c N H v d → g d = some es → (∀ p ws, H p = none → Reps c.T N H ws es → Q (.ref p) (upd H p (.lst ws))) → r [v] H Q
def bltE (g : List D → Option D) (fa : FA) : FD := fun ρ => (fa ρ).bind fun r => ofO (g r.1) r.2
def bltQ (g : D → Option D) (f : FD) : FD := fun ρ => (f ρ).bind fun r => ofO (g r.1) r.2
def bltQL (g : D → Option (List D)) (f : FD) : FV := fun ρ => (f ρ).bind fun r => (ofO (g r.1) r.2).bind fun s => .ok ((.lst s.1, true), s.2)
def bltL (g : List D → Option (List D)) (fa : FA) : FV := fun ρ => (fa ρ).bind fun r => (ofO (g r.1) r.2).bind fun s => .ok ((.lst s.1, true), s.2)
section
variable {X : Cx} {c : Cn} {E : WX} {x : Str} {p pos : Pos} {e : Expr} {es : List Expr} {fa : FA} {f : FD} {id T : String}
/-- one argument -/
theorem pa_q (h : PE X e (rdQ c E f)) (hs : starEach [e] X.env = [(false, eval e X.env)] := by rfl) : PA X [e] (tCons (rdQ c E f) tNil) := pa_cons h pa_nil hs
theorem bltE_go {g : List D → Option D} {r : List V → Hp → VK → Prop} (k : ∀ (T : Tg) (N : AP1) (H : Hp) (vs : List V) (ds : List D) (d : D) (Q : VK),
  (∀ a, N a → H a ≠ none) → Reps T N H vs ds → g ds = some d → (∀ v H', (∀ b o, H b = some o → H' b = some o) → Rep T N H' v d → Q v H') → r vs H Q) {σ : L2.St} {H : Hp} {Q : VK} (q : rdD c E (bltE g fa) σ H Q) : tCB r (rdA c E fa) σ H Q := by
  obtain ⟨N, W, ρ, er, q⟩ := q
  refine ⟨N, W, ρ, er, q.bind.imp fun N1 W1 H1 r1 t1 e1 q1 vs rv => ?_⟩
  obtain ⟨d, hd, q2⟩ := ofO_ok q1 e1
  exact k c.T N1 H1 vs r1.1 d Q e1.all rv hd fun v H' kk rv' => q2 N1 W1 H' (.grow e1.all kk) (e1.grow kk) v rv'
theorem nd_blt {g : List D → Option D} (hc : CallD X (.builtin id) g) (hg : Gl X x) (hm : X.mg x = none) (hv : bootBuiltins x = some (.builtin id)) (ha : PA X (e :: es) (rdA c E fa)) (hn : x ≠ "__name__" := by decide) (hdb : (x == ("__debug__" : Str)) = false := by decide)
    (hs : starEach (e :: es) X.env = (false, eval e X.env) :: starEach es X.env := by rfl) (hpl : (backTo pos (starEach es X.env)).any (·.1) = false := by rfl) : PE X (.Call (.Name x p) (e :: es) [] pos) (rdD c E (bltE g fa)) := by
  obtain ⟨r, h1, h2⟩ := hc
  exact PE.mono (pe_callB h1 hg hm hv ha hn hdb hs hpl) fun σ H Q q => bltE_go h2 q
theorem nd_bltT {g : List D → Option D} (hc : CallD X (.type T) g) (hg : Gl X x) (hm : X.mg x = none) (hv : bootBuiltins x = some (.type T)) (ha : PA X (e :: es) (rdA c E fa)) (hn : x ≠ "__name__" := by decide) (hdb : (x == ("__debug__" : Str)) = false := by decide)
    (hs : starEach (e :: es) X.env = (false, eval e X.env) :: starEach es X.env := by rfl) (hpl : (backTo pos (starEach es X.env)).any (·.1) = false := by rfl) : PE X (.Call (.Name x p) (e :: es) [] pos) (rdD c E (bltE g fa)) := by
  obtain ⟨r, h1, h2⟩ := hc
  exact PE.mono (pe_callTy h1 hg hm hv ha hn hdb hs hpl) fun σ H Q q => bltE_go h2 q
theorem bltQ_go {g : D → Option D} {r : List V → Hp → VK → Prop} (k : ∀ (c : Cn) (N : AP1) (H : Hp) (v : V) (d e : D) (Q : VK),
  (∀ a, N a → H a ≠ none) → Pk c N H v d → g d = some e → (∀ u H', (∀ b o, H b = some o → H' b = some o) → Rep c.T N H' u e → Q u H') → r [v] H Q) {σ : L2.St} {H : Hp} {Q : VK} (q : rdD c E (bltQ g f) σ H Q) : tCB r (tCons (rdQ c E f) tNil) σ H Q := by
  obtain ⟨N, W, ρ, er, q⟩ := q
  refine ⟨N, W, ρ, er, q.bind.imp fun N1 W1 H1 r1 t1 e1 q1 v rv => ?_⟩
  obtain ⟨d, hd, q2⟩ := ofO_ok q1 e1
  exact k c N1 H1 v r1.1 d Q e1.all rv hd fun v H' kk rv' => q2 N1 W1 H' (.grow e1.all kk) (e1.grow kk) v rv'
theorem nd_q {g : D → Option D} (hc : CallQ X (.builtin id) g) (hg : Gl X x) (hm : X.mg x = none) (hv : bootBuiltins x = some (.builtin id)) (ha : PE X e (rdQ c E f)) (hn : x ≠ "__name__" := by decide) (hdb : (x == ("__debug__" : Str)) = false := by decide)
    (hs : starEach [e] X.env = [(false, eval e X.env)] := by rfl) : PE X (.Call (.Name x p) [e] [] pos) (rdD c E (bltQ g f)) := by
  obtain ⟨r, h1, h2⟩ := hc
  exact PE.mono (pe_callB h1 hg hm hv (pa_q ha hs) hn hdb hs (by rfl)) fun σ H Q q => bltQ_go h2 q
theorem nd_qT {g : D → Option D} (hc : CallQ X (.type T) g) (hg : Gl X x) (hm : X.mg x = none) (hv : bootBuiltins x = some (.type T)) (ha : PE X e (rdQ c E f)) (hn : x ≠ "__name__" := by decide) (hdb : (x == ("__debug__" : Str)) = false := by decide)
    (hs : starEach [e] X.env = [(false, eval e X.env)] := by rfl) : PE X (.Call (.Name x p) [e] [] pos) (rdD c E (bltQ g f)) := by
  obtain ⟨r, h1, h2⟩ := hc
  exact PE.mono (pe_callTy h1 hg hm hv (pa_q ha hs) hn hdb hs (by rfl)) fun σ H Q q => bltQ_go h2 q
theorem bltQL_go {g : D → Option (List D)} {r : List V → Hp → VK → Prop} (k : ∀ (c : Cn) (N : AP1) (H : Hp) (v : V) (d : D) (es : List D) (Q : VK),
  Pk c N H v d → g d = some es → (∀ p ws, H p = none → Reps c.T N H ws es → Q (.ref p) (upd H p (.lst ws))) → r [v] H Q) {σ : L2.St} {H : Hp} {Q : VK} (q : rdV c E (bltQL g f) σ H Q) : tCB r (tCons (rdQ c E f) tNil) σ H Q := by
  obtain ⟨N, W, ρ, er, q⟩ := q
  refine ⟨N, W, ρ, er, q.bind.imp fun N1 W1 H1 r1 t1 e1 q1 v rv => ?_⟩
  cases hg : g r1.1 with
  | none => rw [hg] at q1; exact q1.elim
  | some es =>
    rw [hg] at q1
    exact k c N1 H1 v r1.1 es Q rv hg fun p ws hp rp => new_list (.refl _ _ _) e1 hp rp fun N' W' H' t e v rv => q1 N' W' H' t e v (rv.back t1)
theorem nd_qLT {g : D → Option (List D)} (hc : CallQL X (.type T) g) (hg : Gl X x) (hm : X.mg x = none) (hv : bootBuiltins x = some (.type T)) (ha : PE X e (rdQ c E f)) (hn : x ≠ "__name__" := by decide) (hdb : (x == ("__debug__" : Str)) = false := by decide)
    (hs : starEach [e] X.env = [(false, eval e X.env)] := by rfl) : PE X (.Call (.Name x p) [e] [] pos) (rdV c E (bltQL g f)) := by
  obtain ⟨r, h1, h2⟩ := hc
  exact PE.mono (pe_callTy h1 hg hm hv (pa_q ha hs) hn hdb hs (by rfl)) fun σ H Q q => bltQL_go h2 q
end

/-! ### the built-ins on data -/
section
variable {c : Cn} {N : AP1} {H : Hp} {v : V}
theorem Pk.seq {ds : List D} (h : Pk c N H v (.lst ds)) : ∃ a vs, v = .ref a ∧ H a = some (.lst vs) ∧ Reps c.T N H vs ds := by
  rcases h with r | ⟨a, o, e, h2, t⟩
  · obtain ⟨a, vs, h1, _, h2, h3⟩ := r.lst_inv; exact ⟨a, vs, h1, h2, h3⟩
  · cases t with | lst q => exact ⟨a, _, e, h2, q⟩
theorem Pk.tup {ds : List D} (h : Pk c N H v (.tup ds)) : ∃ a vs, v = .ref a ∧ H a = some (.tup vs) ∧ Reps c.T N H vs ds := by
  rcases h with r | ⟨a, o, e, h2, t⟩
  · obtain ⟨a, vs, h1, _, h2, h3⟩ := r.tup_inv; exact ⟨a, vs, h1, h2, h3⟩
  · cases t with | tup q => exact ⟨a, _, e, h2, q⟩
theorem Pk.str {x : Str} (h : Pk c N H v (.str x)) : v = .str x := by
  rcases h with r | ⟨_, _, _, _, t⟩
  · exact r.str_inv
  · cases t
theorem Pk.int {x : Int} (h : Pk c N H v (.int x)) : v = .int x := by
  rcases h with r | ⟨_, _, _, _, t⟩
  · exact r.int_inv
  · cases t
theorem Pk.bl {x : Bool} (h : Pk c N H v (.bl x)) : v = .bl x := by
  rcases h with r | ⟨_, _, _, _, t⟩
  · exact r.bl_inv
  · cases t
end
def lenD : D → Option D
  | .lst ds => some (.int ds.length)
  | .tup ds => some (.int ds.length)
  | .str x => if x.length ≤ big then some (.int x.length) else none
  | _ => none
/-- bools all -/
def bools : List D → Option (List Bool)
  | [] => some []
  | .bl k :: ds => (bools ds).map (k :: ·)
  | _ => none
def allD : D → Option D
  | .lst ds => (bools ds).map fun bs => .bl (bs.all id)
  | _ => none
def anyD : D → Option D
  | .lst ds => (bools ds).map fun bs => .bl (bs.any id)
  | _ => none
def intsD : List D → Option (List Int)
  | [] => some []
  | .int k :: ds => (intsD ds).map (k :: ·)
  | _ => none
def strsD : List D → Option (List Str)
  | [] => some []
  | .str k :: ds => (strsD ds).map (k :: ·)
  | _ => none
def sumD : D → Option D
  | .lst ds => (intsD ds).map fun ns => .int ns.sum
  | _ => none
/-- tuple(list) -/
def tupD : D → Option D
  | .lst ds => some (.tup ds)
  | _ => none
def tupleA : List D → Option D
  | [.lst ds] => some (.tup ds)
  | [.tup ds] => some (.tup ds)
  | _ => none
def listD : D → Option (List D)
  | .lst ds => some ds
  | .tup ds => some ds
  | _ => none
def intD : D → Option D
  | .int i => some (.int i)
  | .bl k => some (.int (if k then 1 else 0))
  | .str x => if x.length ≤ 640 then (PySem.intText? x).map .int else none
  | _ => none
def strD : D → Option D
  | .int i => if i.natAbs.log2 < 1920 then some (.str (toString i : String)) else none
  | .str x => some (.str x)
  | _ => none
section
variable {T : Tg} {N : AP1} {H : Hp}
theorem bools_rep : ∀ {vs : List V} {ds : List D} {bs : List Bool}, Reps T N H vs ds → bools ds = some bs → vs = bs.map V.bl
  | _, _, bs, .nil, h => by
    simp only [bools, Option.some.injEq] at h; subst h; rfl
  | _, _, bs, .cons (d := d) r s, h => by
    cases d <;> simp only [bools, Option.map_eq_some_iff, reduceCtorEq] at h
    obtain ⟨cs, h1, rfl⟩ := h
    rw [r.bl_inv, bools_rep s h1]; rfl
theorem ints_rep : ∀ {vs : List V} {ds : List D} {bs : List Int}, Reps T N H vs ds → intsD ds = some bs → vs = bs.map V.int
  | _, _, bs, .nil, h => by
    simp only [intsD, Option.some.injEq] at h; subst h; rfl
  | _, _, bs, .cons (d := d) r s, h => by
    cases d <;> simp only [intsD, Option.map_eq_some_iff, reduceCtorEq] at h
    obtain ⟨cs, h1, rfl⟩ := h
    rw [r.int_inv, ints_rep s h1]; rfl
theorem strs_rep : ∀ {vs : List V} {ds : List D} {bs : List Str}, Reps T N H vs ds → strsD ds = some bs → vs = bs.map V.str
  | _, _, bs, .nil, h => by
    simp only [strsD, Option.some.injEq] at h; subst h; rfl
  | _, _, bs, .cons (d := d) r s, h => by
    cases d <;> simp only [strsD, Option.map_eq_some_iff, reduceCtorEq] at h
    obtain ⟨cs, h1, rfl⟩ := h
    rw [r.str_inv, strs_rep s h1]; rfl
end
section
variable {X : Cx}
theorem cq_len : CallQ X (.builtin "len") lenD := ⟨_, call_len, fun c N H v d e Q al r h q => by
  unfold lenD at h
  split at h
  · cases h
    obtain ⟨a, vs, rfl, h2, h3⟩ := r.seq
    exact ⟨_, _, rfl, .inl ⟨vs, .of h2, h3.length.symm⟩, q _ H (fun _ _ h => h) (.int _)⟩
  · cases h
    obtain ⟨a, vs, rfl, h2, h3⟩ := r.tup
    exact ⟨_, _, rfl, .inr ⟨vs, .of h2, h3.length.symm⟩, q _ H (fun _ _ h => h) (.int _)⟩
  · split at h <;> cases h
    cases r.str
    exact ⟨_, _, rfl, ⟨Nat.le_of_lt (Nat.lt_of_le_of_lt (by assumption) big_line), rfl⟩, q _ H (fun _ _ h => h) (.int _)⟩
  · cases h⟩
theorem cq_all (hc : X.calm = true) : CallQ X (.builtin "all") allD := ⟨_, cr_all hc, fun c N H v d e Q al r h q => by
  unfold allD at h
  split at h
  · rw [Option.map_eq_some_iff] at h
    obtain ⟨bs, h1, rfl⟩ := h
    obtain ⟨a, vs, rfl, h2, h3⟩ := r.seq
    rw [bools_rep h3 h1] at h2
    exact ⟨a, bs, rfl, .of h2, q _ H (fun _ _ h => h) (.bl _)⟩
  · cases h⟩
theorem cq_any (hc : X.calm = true) : CallQ X (.builtin "any") anyD := ⟨_, cr_any hc, fun c N H v d e Q al r h q => by
  unfold anyD at h
  split at h
  · rw [Option.map_eq_some_iff] at h
    obtain ⟨bs, h1, rfl⟩ := h
    obtain ⟨a, vs, rfl, h2, h3⟩ := r.seq
    rw [bools_rep h3 h1] at h2
    exact ⟨a, bs, rfl, .of h2, q _ H (fun _ _ h => h) (.bl _)⟩
  · cases h⟩
theorem cq_sum (hc : X.calm = true) : CallQ X (.builtin "sum") sumD := ⟨_, cr_sum hc, fun c N H v d e Q al r h q => by
  unfold sumD at h
  split at h
  · rw [Option.map_eq_some_iff] at h
    obtain ⟨bs, h1, rfl⟩ := h
    obtain ⟨a, vs, rfl, h2, h3⟩ := r.seq
    rw [ints_rep h3 h1] at h2
    exact ⟨a, bs, rfl, .of h2, q _ H (fun _ _ h => h) (.int _)⟩
  · cases h⟩
theorem cq_tuple : CallQ X (.type "tuple") tupD := ⟨_, call_tuple_of, fun c N H v d e Q al r h q => by
  unfold tupD at h
  split at h <;> cases h
  obtain ⟨a, vs, rfl, h2, h3⟩ := r.seq
  refine ⟨a, vs, rfl, .inl ⟨.of h2, fun l hl => ?_⟩⟩
  have k : ∀ b u, H b = some u → upd H l (.tup vs) b = some u := fun b u h => by
    rw [upd_ne (ne_of_none h hl)]; exact h
  exact q _ _ k (.ref (fun z => al l z hl) upd_same (.tup (h3.move fun b u n h => ⟨n, k b u h⟩)))⟩
theorem cd_tuple : CallD X (.type "tuple") tupleA := ⟨_, call_tuple_of, fun T N H vs ds d Q al r h q => by
  unfold tupleA at h
  split at h
  · cases h
    cases r with
    | cons r1 r2 =>
      cases r2
      obtain ⟨a, vs, rfl, _, h2, h3⟩ := r1.lst_inv
      refine ⟨a, vs, rfl, .inl ⟨.of h2, fun l hl => ?_⟩⟩
      have k : ∀ b u, H b = some u → upd H l (.tup vs) b = some u := fun b u h => by
        rw [upd_ne (ne_of_none h hl)]; exact h
      exact q _ _ k (.ref (fun z => al l z hl) upd_same (.tup (h3.move fun b u n h => ⟨n, k b u h⟩)))
  · cases h
    cases r with
    | cons r1 r2 =>
      cases r2
      obtain ⟨a, vs, rfl, n, h2, h3⟩ := r1.tup_inv
      exact ⟨a, vs, rfl, .inr ⟨.of h2, q _ H (fun _ _ h => h) (.ref n h2 (.tup h3))⟩⟩
  · cases h⟩
theorem cl_list : CallQL X (.type "list") listD := ⟨_, call_list_of, fun c N H v d es Q r h q => by
  unfold listD at h
  split at h
  · cases h
    obtain ⟨a, vs, rfl, h2, h3⟩ := r.seq
    exact ⟨a, vs, rfl, .inl (.of h2), fun l hl => q l vs hl h3⟩
  · cases h
    obtain ⟨a, vs, rfl, h2, h3⟩ := r.tup
    exact ⟨a, vs, rfl, .inr (.of h2), fun l hl => q l vs hl h3⟩
  · cases h⟩
theorem cq_int : CallQ X (.type "int") intD := ⟨_, call_int1.or call_int_str, fun c N H v d e Q al r h q => by
  unfold intD at h
  split at h
  · cases h
    cases r.int
    exact .inl (.inl ⟨_, rfl, q _ H (fun _ _ h => h) (.int _)⟩)
  · cases h
    cases r.bl
    exact .inl (.inr ⟨_, rfl, q _ H (fun _ _ h => h) (.int _)⟩)
  · split at h
    · rw [Option.map_eq_some_iff] at h
      obtain ⟨n, h1, rfl⟩ := h
      cases r.str
      exact .inr ⟨_, n, rfl, h1, by assumption, q _ H (fun _ _ h => h) (.int _)⟩
    · cases h
  · cases h⟩
end

/-! ### isinstance -/
def tyD : D → Option String
  | .non => some "NoneType"
  | .bl _ => some "bool"
  | .int _ => some "int"
  | .str _ => some "str"
  | .tup _ => some "tuple"
  | .lst _ => some "list"
  | .dic _ => some "dict"
  | .dct _ => some "dict"
  | _ => none
def tys : List String := ["NoneType", "bool", "int", "str", "tuple", "list", "dict"]
def subB (a b : String) : Bool := a == b || (a == "bool" && b == "int")
def isiOne (d : D) : D → Option Bool
  | .opq (.ty n) => (tyD d).bind fun a => if tys.contains n = true then some (subB a n) else none
  | _ => none
def isiMany (d : D) : List D → Option Bool
  | [] => some false
  | t :: ts => match isiOne d t with
    | some k => (isiMany d ts).map fun l => k || l
    | none => none
def isiD : List D → Option D
  | [d, .tup ts] => (tyD d).bind fun _ => (isiMany d ts).map .bl
  | [d, t] => (isiOne d t).map .bl
  | _ => none
theorem tys_ok : ∀ a ∈ tys, ∀ b ∈ tys, kitB a b = some (subB a b) := by decide +kernel
theorem tyD_mem {d : D} {a : String} (h : tyD d = some a) : a ∈ tys := by
  cases d <;> simp only [tyD, Option.some.injEq, reduceCtorEq] at h <;> subst h <;> decide
section
variable {T : Tg} {N : AP1} {H : Hp}
theorem tyD_ok {K : PySem.W.Frag} {v : V} {d : D} {a : String} (r : Rep T N H v d) (h : tyD d = some a) : TyX K H v (.type a) := by
  cases d <;> simp only [tyD, Option.some.injEq, reduceCtorEq] at h <;> subst h
  · cases r.non_inv; exact .base .non
  · cases r.bl_inv; exact .base (.bl _)
  · cases r.int_inv; exact .base (.int _)
  · cases r.str_inv; exact .base (.str _)
  · obtain ⟨a, vs, rfl, _, h, _⟩ := r.tup_inv; exact .base (.tup h)
  · obtain ⟨a, vs, rfl, _, h, _⟩ := r.lst_inv; exact .base (.lst h)
  · obtain ⟨a, vs, rfl, _, h, _⟩ := r.dic_inv; exact .base (.dK h)
  · cases r with
    | ref n e t => cases t with | dct q => exact .base (.dT e)
theorem isiOne_ok {K : PySem.W.Frag} {v u : V} {d t : D} {k : Bool} (r : Rep T N H v d) (s : Rep T N H u t) (h : isiOne d t = some k) : ∃ a n, u = .ty n ∧ TyX K H v (.type a) ∧ tyD d = some a ∧ PySem.W.kitOne K (.type a) (.type n) = some k := by
  unfold isiOne at h
  split at h
  · rename_i n
    rw [Option.bind_eq_some_iff] at h
    obtain ⟨a, ha, h⟩ := h
    split at h <;> cases h
    rename_i hn
    exact ⟨a, n, s.opq_inv, tyD_ok r ha, ha, kit_ty (tys_ok a (tyD_mem ha) n (by simpa using hn))⟩
  · cases h
theorem isiMany_ok {K : PySem.W.Frag} {v : V} {d : D} {a : String} (r : Rep T N H v d) (ha : tyD d = some a) : ∀ {us : List V} {ts : List D} {k : Bool}, Reps T N H us ts → isiMany d ts = some k → ∃ ws, Paired ClsV us ws ∧ PySem.W.kitAny K (.type a) ws = some k
  | _, _, k, .nil, h => by
    simp only [isiMany, Option.some.injEq] at h; subst h; exact ⟨[], .nil, rfl⟩
  | _, _, k, .cons (d := t) s1 s2, h => by
    simp only [isiMany] at h
    cases h1 : isiOne d t with
    | none => rw [h1] at h; cases h
    | some b =>
      obtain ⟨a', n, rfl, _, ha', hk⟩ := isiOne_ok (K := K) r s1 h1
      rw [ha] at ha'; cases ha'
      rw [h1, Option.map_eq_some_iff] at h
      obtain ⟨l, h, rfl⟩ := h
      obtain ⟨ws, p1, p2⟩ := isiMany_ok r ha s2 h
      refine ⟨_, .cons (.ty n) p1, kitAny_cons hk (fun z => ?_) (fun z => ?_)⟩
      · subst z; exact p2
      · subst z; rfl
end
section
variable {X : Cx}
theorem cd_isi : CallD X (.builtin "isinstance") isiD := ⟨_, call_isi.or call_isiT, fun T N H vs ds d Q al r h q => by
  unfold isiD at h
  split at h
  · rw [Option.bind_eq_some_iff] at h
    obtain ⟨ty, ha, h⟩ := h
    rw [Option.map_eq_some_iff] at h
    obtain ⟨k, h, rfl⟩ := h
    cases r with
    | cons r1 r2 => cases r2 with
      | cons r2 r3 =>
        cases r3
        obtain ⟨a, vs, rfl, _, h2, h3⟩ := r2.tup_inv
        obtain ⟨ws, p1, p2⟩ := isiMany_ok (K := X.K) r1 ha h3 h
        exact .inr ⟨_, a, _, _, ws, k, rfl, h2, p1, tyD_ok r1 ha, p2, q _ H (fun _ _ h => h) (.bl _)⟩
  · rw [Option.map_eq_some_iff] at h
    obtain ⟨k, h, rfl⟩ := h
    cases r with
    | cons r1 r2 => cases r2 with
      | cons r2 r3 =>
        cases r3
        obtain ⟨a, n, rfl, h1, _, h2⟩ := isiOne_ok (K := X.K) r1 r2 h
        exact .inl ⟨_, _, _, _, k, rfl, .ty n, h1, h2, q _ H (fun _ _ h => h) (.bl _)⟩
  · cases h⟩
end
end ND

end
section
set_option Elab.async false
set_option linter.all false
set_option maxRecDepth 100000
/-! ND11: items, slices, methods of lists, stores into lists. -/
namespace ND
open PySem PySem.Spec PyProof.Rows L2

/-! ### items and slices -/
def ixD : D → D → Option D
  | .lst ds, .int i => atI ds i
  | .tup ds, .int i => atI ds i
  | .str x, .int i => if x.length ≤ big then (atI x.cps.toList i).map fun ch => .str ⟨#[ch]⟩ else none
  | _, _ => none
section
variable {T : Tg} {N : AP1} {H : Hp}
theorem atI_rep {vs : List V} {ds : List D} {i : Int} {d : D} (r : Reps T N H vs ds) (h : atI ds i = some d) : ∃ v, atI vs i = some v ∧ Rep T N H v d := by
  unfold atI at h ⊢
  rw [r.length]
  cases e : ixN ds.length i with
  | none => rw [e] at h; cases h
  | some j =>
    rw [e] at h
    exact r.get h
end
section
variable {X : Cx} {c : Cn} {E : WX} {pos p p2 px : Pos} {a b e : Expr} {fa fb f : FD} {x : Str}
theorem ix_val {K : PySem.W.Frag} {N : AP1} {H : Hp} {v1 v2 : V} {d1 d2 d : D} (r1 : Pk c N H v1 d1) (r2 : Rep c.T N H v2 d2) (h : ixD d1 d2 = some d) : ∃ v, Rep c.T N H v d ∧ ∀ Q : VK, Q v H → rIx K v1 v2 H Q := by
  unfold ixD at h
  split at h
  · obtain ⟨a, vs, rfl, h2, h3⟩ := r1.seq
    obtain ⟨v, h4, h5⟩ := atI_rep h3 h
    exact ⟨v, h5, fun Q q => .inl ⟨a, vs, _, v, rfl, r2.int_inv, .of h2, h4, q⟩⟩
  · obtain ⟨a, vs, rfl, h2, h3⟩ := r1.tup
    obtain ⟨v, h4, h5⟩ := atI_rep h3 h
    exact ⟨v, h5, fun Q q => .inr (.inl ⟨a, vs, _, v, rfl, r2.int_inv, .of h2, h4, q⟩)⟩
  · split at h
    · rw [Option.map_eq_some_iff] at h
      obtain ⟨ch, h1, rfl⟩ := h
      exact ⟨_, .str _, fun Q q => .inr (.inr ⟨_, _, ch, r1.str, r2.int_inv, Nat.le_of_lt (Nat.lt_of_le_of_lt (by assumption) big_line), h1, q⟩)⟩
    · cases h
  · cases h
theorem nd_ix (ha : PE X a (rdD c E fa)) (hb : PE X b (rdD c E fb)) (hs : PlainIx b := by exact fun _ _ => rfl) : PE X (.Subscript a b pos) (rdD c E (lift2 ixD fa fb)) := PE.mono (pe_ix ix_seq ha hb hs) fun σ H Q h => two h fun N W H2 ρ2 v1 v2 d1 d2 er r1 r2 q => by
  obtain ⟨d, hd, q⟩ := ofO_ok q er
  obtain ⟨v, rv, z⟩ := ix_val (K := X.K) (.inl r1) r2 hd
  exact z Q (q N W H2 (.refl _ _ _) er v rv)
/-- an item of a name's list that stays the name's own -/
def peek (ρ : En) (i : Nat) : Option D := match ρ.sl[i]? with
  | some (.sh d) => some d
  | some (.ow d) => some d
  | _ => none
theorem peek_ok {N W : AP1} {H : Hp} {σ : L2.St} {ρ : En} {i : Nat} {d : D} (e : ER c N W H σ ρ) (h : peek ρ i = some d) : ∃ v, σ[i]? = some (some v) ∧ Pk c N H v d := by
  unfold peek at h
  split at h
  · cases h
    rename_i hs
    obtain ⟨v, h1, h2⟩ := e.sh i d hs
    exact ⟨v, h1, .inl h2⟩
  · cases h
    rename_i hs
    obtain ⟨a, o, h1, h2, h3, h4, h5⟩ := e.ow i d hs
    exact ⟨_, h1, .inr ⟨a, o, rfl, h4, h5⟩⟩
  · cases h
def pixE (i : Nat) (fb : FD) : FD := fun ρ => match peek ρ i with
  | none => .no
  | some _ => (fb ρ).bind fun r => match peek r.2 i with
    | none => .no
    | some d => ofO (ixD d r.1) r.2
theorem nd_pix (i : Nat) (hb : PE X b (rdD c E fb)) (hN : X.N[i]? = some x := by rfl) (hv : Vis X.env.scope x := by first | exact Or.inl rfl | exact Or.inr (Or.inl rfl) | exact Or.inr (Or.inr rfl)) (hd : (x == ("__debug__" : Str)) = false := by decide)
    (hcd : (x == ("__classdict__" : Str)) = false := by decide) (hs : PlainIx b := by exact fun _ _ => rfl) : PE X (.Subscript (.Name x px) b pos) (rdD c E (pixE i fb)) := PE.mono (pe_ix ix_seq (pe_var hN hv hd hcd) hb hs) fun σ H Q ⟨N, W, ρ, er, q⟩ => by
  unfold pixE at q
  cases h1 : peek ρ i with
  | none => rw [h1] at q; exact q.elim
  | some d0 =>
    rw [h1] at q
    obtain ⟨v, hv1, _⟩ := peek_ok er h1
    refine ⟨v, hv1, N, W, ρ, er, (sat.bind q).imp fun N1 W1 H1 r1 t1 e1 q1 v1 rv1 => ?_⟩
    cases h2 : peek r1.2 i with
    | none => rw [h2] at q1; exact q1.elim
    | some d =>
      rw [h2] at q1
      obtain ⟨v', hv2, pk⟩ := peek_ok e1 h2
      rw [hv1] at hv2
      cases hv2
      obtain ⟨dd, hdd, q2⟩ := ofO_ok q1 e1
      obtain ⟨u, ru, z⟩ := ix_val (K := X.K) pk rv1 hdd
      exact z Q (q2 N1 W1 H1 (.refl _ _ _) e1 u ru)
/-- parts of a slice -/
abbrev FO := En → Out (Option Int × En)
def rdO (c : Cn) (E : WX) (f : FO) : TO := fun σ H Q => ∃ N W ρ, ER c N W H σ ρ ∧ sat c N W H σ E (fun _ _ H' r => Q r.1 H') (f ρ)
def noP : FO := fun ρ => .ok (none, ρ)
def asI : D → Option Int
  | .int i => some i
  | _ => none
def parP (f : FD) : FO := fun ρ => (f ρ).bind fun r => (ofO (asI r.1) r.2).bind fun s => .ok (some s.1, s.2)
theorem PO.mono {e : Option Expr} {t t' : TO} (h : PO X e t) (m : ∀ σ H Q, t' σ H Q → t σ H Q) : PO X e t' := ⟨fun pins s σ H Q I q => h.run pins s σ H Q I (m σ H Q q)⟩
theorem no_none : PO X none (rdO c E noP) := PO.mono po_none fun σ H Q ⟨N, W, ρ, er, q⟩ => q N W H (.refl _ _ _) er
theorem no_some (h : PE X e (rdD c E f)) : PO X (some e) (rdO c E (parP f)) := PO.mono (po_some h) fun σ H Q ⟨N, W, ρ, er, q⟩ => by
  refine ⟨N, W, ρ, er, q.bind.imp fun N1 W1 H1 r1 t1 e1 q1 v1 rv1 => ?_⟩
  cases hd : asI r1.1 with
  | none => rw [hd] at q1; exact q1.elim
  | some i =>
    rw [hd] at q1
    have he : r1.1 = .int i := by
      unfold asI at hd
      split at hd <;> cases hd
      assumption
    rw [he] at rv1
    exact ⟨i, rv1.int_inv, q1 N1 W1 H1 (.refl _ _ _) e1⟩
/-- d[lo:hi]: a list's part is new -/
def slD (d : D) (lo hi : Option Int) : Option (D × Bool) := match d with
  | .lst ds => some (.lst (cutD ds lo hi), true)
  | .tup ds => some (.tup (cutD ds lo hi), false)
  | .str x => if x.length ≤ big then some (.str (Txt.slice x lo hi), false) else none
  | _ => none
where cutD (ds : List D) (lo hi : Option Int) : List D := (ds.drop (HT.sIx ds.length 0 lo)).take (HT.sIx ds.length ds.length hi - HT.sIx ds.length 0 lo)
def slE (f : FD) (l h : FO) : FV := fun ρ => (f ρ).bind fun r => (l r.2).bind fun s => (h s.2).bind fun t => ofO (slD r.1 s.1 t.1) t.2
theorem cut_rep {T : Tg} {N : AP1} {H : Hp} {vs : List V} {ds : List D} (r : Reps T N H vs ds) (lo hi : Option Int) : Reps T N H (cutV vs lo hi) (slD.cutD ds lo hi) := by
  unfold cutV slD.cutD
  rw [r.length]
  exact (r.drop _).take _
variable {lo hi : Option Expr} {fl fh : FO}
theorem nd_sl (ha : PE X a (rdD c E fa)) (hl : PO X lo (rdO c E fl)) (hh : PO X hi (rdO c E fh)) : PE X (.Subscript a (.Slice lo hi none p2) pos) (rdV c E (slE fa fl fh)) := PE.mono (pe_slice (sl_list.or (sl_tupA.or C8.sl_txt)) ha hl hh) fun σ H Q ⟨N, W, ρ, er, q⟩ => by
  refine ⟨N, W, ρ, er, q.bind.imp fun N1 W1 H1 r1 t1 e1 q1 v1 rv1 => ?_⟩
  refine ⟨N1, W1, r1.2, e1, q1.bind.imp fun N2 W2 H2 r2 t2 e2 q2 => ?_⟩
  refine ⟨N2, W2, r2.2, e2, q2.bind.imp fun N3 W3 H3 r3 t3 e3 q3 => ?_⟩
  have rv := (rv1.move (e1.mv t2)).move (e2.mv t3)
  obtain ⟨⟨d, fr⟩, hd, q4⟩ := ofO_ok q3 e3
  have tt := (t1.trans t2).trans t3
  unfold slD at hd
  split at hd
  · cases hd
    rename_i ds he
    rw [he] at rv
    obtain ⟨a, vs, rfl, n, h2, h3⟩ := rv.lst_inv
    refine .inl ⟨a, vs, rfl, .of h2, fun p hp => new_list (.refl _ _ _) e3 hp (cut_rep h3 _ _) fun N' W' H' t e v rv => q4 N' W' H' t e v (rv.back tt)⟩
  · cases hd
    rename_i ds he
    rw [he] at rv
    obtain ⟨a, vs, rfl, n, h2, h3⟩ := rv.tup_inv
    refine .inr (.inl ⟨a, vs, rfl, .of h2, fun hw => ?_, fun hw p hp => new_tup (.refl _ _ _) e3 hp (cut_rep h3 _ _) fun N' W' H' t e v rv => q4 N' W' H' t e v rv⟩)
    have e : slD.cutD ds r2.1 r3.1 = ds := by
      unfold slD.cutD
      rw [← h3.length, hw.1, hw.2]
      simp [h3.length]
    refine q4 N3 W3 H3 (.refl _ _ _) e3 _ ?_
    show Rep c.T N3 H3 _ (.tup _)
    rw [e]
    exact .ref n h2 (.tup h3)
  · split at hd <;> cases hd
    rename_i z he hz
    rw [he] at rv
    refine .inr (.inr ⟨z, rv.str_inv, Nat.le_of_lt (Nat.lt_of_le_of_lt (by assumption) big_line), q4 N3 W3 H3 (.refl _ _ _) e3 _ (.str _)⟩)
  · cases hd

/-! ### what a slot owns is changed -/
theorem ER.own {N W : AP1} {H : Hp} {σ : L2.St} {ρ : En} {i : Nat} {d d' : D} {a : Addr} {o' : HO} (e : ER c N W H σ ρ) (h : ρ.sl[i]? = some (.ow d)) (hs : σ[i]? = some (some (V.ref a))) (t : Top c.T N H o' d') :
    ER c N W (L2.upd H a o') σ (setS ρ i (.ow d')) ∧ Stp N W H N W (L2.upd H a o') := by
  obtain ⟨a', o, h1, h2, h3, h4, h5⟩ := e.ow i d h
  rw [hs] at h1
  cases h1
  have h0 : c.H0 a = none := (e.wnew a h2).elim (fun z => absurd z h3) id
  have hi : i < ρ.sl.length := (List.getElem?_eq_some_iff.mp h).1
  have mv : ∀ b u, ¬ N b → H b = some u → ¬ N b ∧ L2.upd H a o' b = some u := fun b u n q => ⟨n, by rw [upd_ne (fun (z : b = a) => n (by rw [z]; exact e.wn a h2))]; exact q⟩
  refine ⟨⟨fun b x k1 k2 => ?_, e.n0, e.sub, e.new, fun b hb => ?_, e.wn, e.wnew, fun b hb => ?_, ?_, fun j dj q => ?_, fun j dj q => ?_, fun j k dj dk b q1 q2 s1 s2 => ?_, fun j q => ?_⟩, ⟨fun b x hb nw => by rw [upd_ne (fun (z : b = a) => nw (by rw [z]; exact h2))]; exact hb, fun _ h => .inl h, fun _ h => .inl h, fun _ h _ _ => h, fun b hb => ?_⟩⟩
  · rw [upd_ne (fun (z : b = a) => by rw [z, h0] at k1; cases k1)]
    exact e.keep b x k1 k2
  · by_cases z : b = a
    · subst z; rw [upd_same]; intro y; cases y
    · rw [upd_ne z]; exact e.all b hb
  · obtain ⟨k1, k2, k3⟩ := e.bag b hb
    exact ⟨k1, k2, k3.mv mv k3.apart fun o q => by rw [upd_ne (fun (z : b = a) => h3 (by rw [← z]; exact hb))]; exact q⟩
  · show σ.length = (ρ.sl.set i _).length
    rw [List.length_set]
    exact e.len
  · by_cases z : i = j
    · subst z
      rw [sl_same hi] at q
      cases q
    · rw [sl_ne z] at q
      obtain ⟨v, k1, k2⟩ := e.sh j dj q
      exact ⟨v, k1, k2.move mv⟩
  · by_cases z : i = j
    · subst z
      rw [sl_same hi] at q
      cases q
      exact ⟨a, o', hs, h2, h3, upd_same, t.move mv⟩
    · rw [sl_ne z] at q
      obtain ⟨b, u, k1, k2, k3, k4, k5⟩ := e.ow j dj q
      refine ⟨b, u, k1, k2, k3, ?_, k5.move mv⟩
      rw [upd_ne (fun (w : b = a) => z (e.inj i j d dj a h q hs (by rw [← w]; exact k1)))]
      exact k4
  · have own : ∀ (j : Nat) (dj : D), (setS ρ i (.ow d')).sl[j]? = some (SD.ow dj) → ∃ d0 : D, ρ.sl[j]? = some (SD.ow d0) := fun j dj q => by
      by_cases z : i = j
      · subst z; exact ⟨d, h⟩
      · rw [sl_ne z] at q; exact ⟨dj, q⟩
    obtain ⟨x, hx⟩ := own j dj q1
    obtain ⟨y, hy⟩ := own k dk q2
    exact e.inj j k x y b hx hy s1 s2
  · by_cases z : i = j
    · subst z
      rw [sl_same hi] at q
      cases q
    · rw [sl_ne z] at q
      exact e.bs j q
  · by_cases z : b = a
    · subst z; rw [upd_same]; intro y; cases y
    · rw [upd_ne z]; exact hb

/-- a method of a list that a slot owns: from its items and the arguments, the answer and its items -/
def MtD (X : Cx) (id : String) (g : List D → List D → Option (D × List D)) : Prop := ∃ r, MtR X id r ∧ ∀ (T : Tg) (N : AP1) (H : Hp) (a : Addr) (vs ws : List V) (ds es : List D) (d : D) (ds' : List D) (Q : VK),
  H a = some (.lst vs) → Reps T N H vs ds → Reps T N H ws es → g ds es = some (d, ds') → (∀ v vs', Rep T N H v d → Reps T N H vs' ds' → Q v (upd H a (.lst vs'))) → r (.ref a) ws H Q
def ownL (ρ : En) (i : Nat) : Bool := match ρ.sl[i]? with
  | some (.ow (.lst _)) => true
  | _ => false
theorem ownL_ok {c : Cn} {N W : AP1} {H : Hp} {σ : L2.St} {ρ : En} {i : Nat} (e : ER c N W H σ ρ) (h : ownL ρ i = true) : ∃ a vs, σ[i]? = some (some (V.ref a)) ∧ H a = some (.lst vs) := by
  unfold ownL at h
  split at h
  · rename_i hs
    obtain ⟨a, o, h1, h2, h3, h4, h5⟩ := e.ow i _ hs
    cases h5 with
    | lst q => exact ⟨a, _, h1, h4⟩
  · cases h
theorem ty_list {K : PySem.W.Frag} {H : Hp} {a : Addr} {vs : List V} (h : H a = some (.lst vs)) : tyV K "list" (.ref a) H := .inl ⟨rfl, vs, .of h⟩
def methE (i : Nat) (g : List D → List D → Option (D × List D)) (fa : FA) : FD := fun ρ => match ownL ρ i with
  | false => .no
  | true => (fa ρ).bind fun r => match r.2.sl[i]? with
    | some (.ow (.lst ds)) => match g ds r.1 with
      | some (d, ds') => .ok (d, setS r.2 i (.ow (.lst ds')))
      | none => .no
    | _ => .no
variable {es : List Expr} {fr : FA} {name : Str} {apos cpos : Pos} {id : String} {g : List D → List D → Option (D × List D)}
theorem meth_go {r : V → List V → Hp → VK → Prop} (k : ∀ (T : Tg) (N : AP1) (H : Hp) (a : Addr) (vs ws : List V) (ds es : List D) (d : D) (ds' : List D) (Q : VK),
  H a = some (.lst vs) → Reps T N H vs ds → Reps T N H ws es → g ds es = some (d, ds') → (∀ v vs', Rep T N H v d → Reps T N H vs' ds' → Q v (upd H a (.lst vs'))) → r (.ref a) ws H Q) {i : Nat} {σ : L2.St} {H : Hp} {Q : VK}
    (q : rdD c E (methE i g fr) σ H Q) : ∃ v, σ[i]? = some (some v) ∧ tyV X.K "list" v H ∧ rdA c E fr σ H fun xs H2 => r v xs H2 Q := by
  obtain ⟨N, W, ρ, er, q⟩ := q
  unfold methE at q
  cases h1 : ownL ρ i with
  | false => rw [h1] at q; exact q.elim
  | true =>
    rw [h1] at q
    obtain ⟨a0, vs0, hv1, hl⟩ := ownL_ok er h1
    refine ⟨.ref a0, hv1, ty_list hl, N, W, ρ, er, (sat.bind q).imp fun N1 W1 H1 r1 t1 e1 q1 ws rw1 => ?_⟩
    split at q1
    · rename_i ds hs
      obtain ⟨a, o, k1, k2, k3, k4, k5⟩ := e1.ow i _ hs
      rw [hv1] at k1
      cases k1
      cases k5 with
      | lst rs =>
        cases hg : g ds r1.1 with
        | none => rw [hg] at q1; exact q1.elim
        | some res =>
          obtain ⟨d, ds'⟩ := res
          rw [hg] at q1
          refine k c.T N1 H1 a0 _ ws ds r1.1 d ds' Q k4 rs rw1 hg fun v vs' rv rvs => ?_
          obtain ⟨e2, t2⟩ := e1.own hs hv1 (.lst rvs)
          exact q1 N1 W1 _ t2 e2 v (rv.move (e1.mv t2))
    · exact q1.elim
/-- x.m(e, ..) -/
theorem nd_meth (i : Nat) (pa : PlainAttrs "list") (slot : Slot "list" name id) (hty : typeOf (.builtin id) = pure (.type "method_descriptor")) (hm : MtD X id g) (ha : PA X (e :: es) (rdA c E fr)) (hN : X.N[i]? = some x := by rfl)
    (hv : Vis X.env.scope x := by first | exact Or.inl rfl | exact Or.inr (Or.inl rfl) | exact Or.inr (Or.inr rfl)) (hd : (x == ("__debug__" : Str)) = false := by decide) (hcd : (x == ("__classdict__" : Str)) = false := by decide)
    (hbase : attributeBase (.Name x px) name X.env (eval (.Name x px) X.env) = eval (.Name x px) X.env := by rfl)
    (hfew : ((backTo cpos (starEach (e :: es) X.env)).all (fun x => !x.1) && (backToKw cpos (keywordEach [] X.env)).all (fun x => x.1.isSome)
      && decide ((e :: es).length + ([] : List Keyword).length + (if ([] : List Keyword).isEmpty then 0 else 1) < 30)) = true := by rfl)
    (hline : (apos.endLine == cpos.line) = true := by rfl) (hs : starEach (e :: es) X.env = (false, eval e X.env) :: starEach es X.env := by rfl) (hplain : (backTo cpos (starEach es X.env)).any (·.1) = false := by rfl) :
    PE X (.Call (.Attribute (.Name x px) name apos) (e :: es) [] cpos) (rdD c E (methE i g fr)) := by
  obtain ⟨r, h1, h2⟩ := hm
  refine PE.mono (pe_bm pa slot hty h1 (pe_var hN hv hd hcd) ha hbase hfew hline hs hplain) fun σ H Q q => ?_
  exact meth_go h2 q
theorem nd_meth0 (i : Nat) (pa : PlainAttrs "list") (slot : Slot "list" name id) (hty : typeOf (.builtin id) = pure (.type "method_descriptor")) (hm : MtD X id g) (hN : X.N[i]? = some x := by rfl)
    (hv : Vis X.env.scope x := by first | exact Or.inl rfl | exact Or.inr (Or.inl rfl) | exact Or.inr (Or.inr rfl)) (hd : (x == ("__debug__" : Str)) = false := by decide) (hcd : (x == ("__classdict__" : Str)) = false := by decide)
    (hbase : attributeBase (.Name x px) name X.env (eval (.Name x px) X.env) = eval (.Name x px) X.env := by rfl) (hline : (apos.endLine == cpos.line) = true := by rfl) :
    PE X (.Call (.Attribute (.Name x px) name apos) [] [] cpos) (rdD c E (methE i g anil)) := by
  obtain ⟨r, h1, h2⟩ := hm
  refine PE.mono (pe_bm0 pa slot hty h1 (pe_var hN hv hd hcd) hbase hline) fun σ H Q q => ?_
  obtain ⟨v, hv1, hty, N, W, ρ, er, q2⟩ := meth_go h2 q
  exact ⟨v, hv1, hty, q2.here er [] .nil⟩
def appD (ds es : List D) : Option (D × List D) := match es with
  | [d] => if ds.length < big then some (.non, ds ++ [d]) else none
  | _ => none
def extD (ds es : List D) : Option (D × List D) := match es with
  | [.lst xs] => if ds.length + xs.length ≤ big then some (.non, ds ++ xs) else none
  | _ => none
def insD (ds es : List D) : Option (D × List D) := match es with
  | [.int i, d] => if ds.length < big ∧ 0 ≤ i ∧ i ≤ big then some (.non, ds.take i.toNat ++ [d] ++ ds.drop i.toNat) else none
  | _ => none
def revD (ds es : List D) : Option (D × List D) := match es with
  | [] => some (.non, ds.reverse)
  | _ => none
def popD (ds es : List D) : Option (D × List D) := match es with
  | [] => (ds[ds.length - 1]?).map fun d => (d, ds.dropLast)
  | _ => none
def popAtD (ds es : List D) : Option (D × List D) := match es with
  | [.int i] => if -big ≤ i ∧ i ≤ big then (seqIndex? i ds.length).bind fun k => (ds[k]?).map fun d => (d, ds.eraseIdx k) else none
  | _ => none
def clrD (ds es : List D) : Option (D × List D) := match es with
  | [] => some (.non, [])
  | _ => none
theorem md_append : MtD X "list.append" appD := ⟨_, mt_append, fun T N H a vs ws ds es d ds' Q h r s hg q => by
  unfold appD at hg
  split at hg
  · split at hg <;> cases hg
    cases s with
    | cons s1 s2 =>
      cases s2
      exact ⟨a, vs, _, rfl, rfl, h, by rw [r.length]; exact Nat.lt_trans (by assumption) big_line, q _ _ .non (r.app (.cons s1 .nil))⟩
  · cases hg⟩
theorem md_extend : MtD X "list.extend" extD := ⟨_, mt_extend, fun T N H a vs ws ds es d ds' Q h r s hg q => by
  unfold extD at hg
  split at hg
  · split at hg <;> cases hg
    rename_i xs hz
    cases s with
    | cons s1 s2 =>
      cases s2
      obtain ⟨b, zs, rfl, n, h2, h3⟩ := s1.lst_inv
      exact ⟨a, b, vs, zs, rfl, rfl, h, h2, by rw [r.length, h3.length]; exact Nat.le_of_lt (Nat.lt_of_le_of_lt hz big_line), q _ _ .non (r.app h3)⟩
  · cases hg⟩
theorem md_insert : MtD X "list.insert" insD := ⟨_, mt_insert, fun T N H a vs ws ds es d ds' Q h r s hg q => by
  unfold insD at hg
  split at hg
  · split at hg <;> cases hg
    rename_i i dd hz
    cases s with
    | cons s1 s2 => cases s2 with
      | cons s2 s3 =>
        cases s3
        have hb : (big : Int) < 2 ^ 63 := by decide
        exact ⟨a, vs, i, _, rfl, by rw [s1.int_inv], h, by rw [r.length]; exact Nat.lt_trans hz.1 big_line, hz.2.1, by omega, q _ _ .non (((r.take _).app (.cons s2 .nil)).app (r.drop _))⟩
  · cases hg⟩
theorem md_reverse : MtD X "list.reverse" revD := ⟨_, mt_reverse, fun T N H a vs ws ds es d ds' Q h r s hg q => by
  unfold revD at hg
  split at hg <;> cases hg
  cases s
  exact ⟨a, vs, rfl, rfl, h, q _ _ .non r.rev⟩⟩
theorem md_clear : MtD X "list.clear" clrD := ⟨_, mt_clear, fun T N H a vs ws ds es d ds' Q h r s hg q => by
  unfold clrD at hg
  split at hg <;> cases hg
  cases s
  exact ⟨a, vs, rfl, rfl, h, q _ _ .non .nil⟩⟩
theorem Reps.dropLast {T : Tg} {N : AP1} {H : Hp} {vs : List V} {ds : List D} (r : Reps T N H vs ds) : Reps T N H vs.dropLast ds.dropLast := by
  rw [List.dropLast_eq_take, List.dropLast_eq_take, r.length]
  exact r.take _
theorem Reps.eraseIdx {T : Tg} {N : AP1} {H : Hp} : ∀ {vs : List V} {ds : List D} (i : Nat), Reps T N H vs ds → Reps T N H (vs.eraseIdx i) (ds.eraseIdx i)
  | _, _, _, .nil => .nil
  | _, _, 0, .cons _ q => q
  | _, _, i + 1, .cons x q => .cons x (Reps.eraseIdx i q)
theorem md_pop : MtD X "list.pop" popD := ⟨_, mt_pop, fun T N H a vs ws ds es d ds' Q h r s hg q => by
  unfold popD at hg
  split at hg
  · rw [Option.map_eq_some_iff] at hg
    obtain ⟨dd, h1, h2⟩ := hg
    cases h2
    cases s
    obtain ⟨v, k1, k2⟩ := r.get h1
    rw [← r.length] at k1
    exact ⟨a, vs, v, rfl, rfl, h, k1, q _ _ k2 r.dropLast⟩
  · cases hg⟩
theorem md_popAt : MtD X "list.pop" popAtD := ⟨_, mt_popAt, fun T N H a vs ws ds es d ds' Q h r s hg q => by
  unfold popAtD at hg
  split at hg
  · rename_i i
    split at hg
    · rename_i hz
      rw [Option.bind_eq_some_iff] at hg
      obtain ⟨k, h1, h2⟩ := hg
      rw [Option.map_eq_some_iff] at h2
      obtain ⟨dd, h2, h3⟩ := h2
      cases h3
      cases s with
      | cons s1 s2 =>
        cases s2
        have hb : (big : Int) < 2 ^ 63 := by decide
        obtain ⟨v, k1, k2⟩ := r.get h2
        exact ⟨a, vs, i, k, v, rfl, by rw [s1.int_inv], h, by omega, by omega, by rw [r.length]; exact h1, k1, q _ _ k2 (r.eraseIdx k)⟩
    · cases hg
  · cases hg⟩

/-! ### x[i] = e -/
def setI (i : Nat) (fi f : FD) : FS := fun ρ => (f ρ).bind fun r => match peek r.2 i with
  | none => .no
  | some _ => (fi r.2).bind fun s => match s.2.sl[i]?, s.1 with
    | some (.ow (.lst ds)), .int k => match ixN ds.length k with
      | some j => .ok (.nx, setS s.2 i (.ow (.lst (ds.set j r.1))))
      | none => .no
    | _, _ => .no
theorem ns_setI (i : Nat) {fi : FD} (he : PE X e (rdD c E f)) (ho : PE X (.Name x px) (tVar i)) (hi : PE X b (rdD c E fi)) (ps : ∀ {te to ti : TE}, PE X e te → PE X (.Name x px) to → PE X b ti → PS X (.Assign [.Subscript (.Name x px) b p] e pos) (tAsg te (gSub to ti rSetL))) :
    PS X (.Assign [.Subscript (.Name x px) b p] e pos) (rdS c E (setI i fi f)) := PS.mono (ps he ho hi) fun D σ H ⟨N, W, ρ, er, q⟩ => by
  refine ⟨N, W, ρ, er, (satS.bind (σ := σ) q).imp fun N1 W1 H1 r1 t1 e1 q1 v1 rv1 => ?_⟩
  obtain ⟨q1, _⟩ := q1
  cases h1 : peek r1.2 i with
  | none => rw [h1] at q1; exact q1.elim
  | some d0 =>
    rw [h1] at q1
    obtain ⟨v, hv1, _⟩ := peek_ok e1 h1
    refine ⟨v, hv1, N1, W1, r1.2, e1, (satS.bind (σ := σ) q1).imp fun N2 W2 H2 r2 t2 e2 q2 v2 rv2 => ?_⟩
    obtain ⟨q2, _⟩ := q2
    split at q2
    · rename_i ds k hs hk
      rw [hk] at rv2
      obtain ⟨a, o, k1, k2, k3, k4, k5⟩ := e2.ow i _ hs
      rw [hv1] at k1
      cases k1
      cases k5 with
      | lst rs =>
        rename_i vs
        cases hj : ixN ds.length k with
        | none => rw [hj] at q2; exact q2.elim
        | some j =>
          rw [hj] at q2
          refine ⟨a, vs, k, j, rfl, rv2.int_inv, k4, by rw [rs.length]; exact hj, ?_⟩
          obtain ⟨e3, t3⟩ := e2.own hs hv1 (.lst (rs.set (rv1.move (e1.mv t2)) j))
          exact q2 N2 W2 _ σ t3 e3
    · exact q2.elim
end
end ND

end
section
set_option Elab.async false
set_option linter.all false
set_option maxRecDepth 100000
/-! ND12: short words; defs as callees; lists lent to a call. -/
namespace ND
open PySem PySem.Spec PyProof.Rows L2
def vD (f : FV) : FD := fun ρ => (f ρ).bind fun r => .ok (r.1.1, r.2)
def dV (f : FD) : FV := fun ρ => (f ρ).bind fun r => .ok ((r.1, false), r.2)
section
variable {X : Cx} {c : Cn} {E : WX} {e : Expr}
theorem vd {f : FV} (h : PE X e (rdV c E f)) : PE X e (rdD c E (vD f)) := d_of_v h
theorem dv {f : FD} (h : PE X e (rdD c E f)) : PE X e (rdV c E (dV f)) := v_of_d h
theorem vq {f : FV} (h : PE X e (rdV c E f)) : PE X e (rdQ c E (vD f)) := q_of_v h
theorem dq {f : FD} (h : PE X e (rdD c E f)) : PE X e (rdQ c E f) := q_of_d h
variable {tg a b : Expr} {fa : FA} {p pos : Pos}
theorem nr1 (hg : Gl X "range") (hm : X.mg "range" = none) (ha : PA X [a] (rdA c E fa)) (hs : starEach [a] X.env = [(false, eval a X.env)] := by rfl) : PI X tg (.Call (.Name "range" p) [a] [] pos) (rdI c E (rngI (cnt 1 fa))) := ni_range1 hg hm ha hs
theorem nr2 (hg : Gl X "range") (hm : X.mg "range" = none) (ha : PA X [a, b] (rdA c E fa)) (hs : starEach [a, b] X.env = [(false, eval a X.env), (false, eval b X.env)] := by rfl) (hs2 : starEach [b] X.env = [(false, eval b X.env)] := by rfl) :
    PI X tg (.Call (.Name "range" p) [a, b] [] pos) (rdI c E (rngI (cnt 2 fa))) := ni_range2 hg hm ha hs hs2
end
/-- a def that may be called: it raises nothing -/
structure Cal (P : Program) (w : World) (K : PySem.W.Frag) (mg : Str → Option Value) (base : Heap) (T : Tg) (x : Str) (k : Nat) (hb : Bool) (n : Nat) (m : MF) : Prop where
  ex : ∃ f fd ps, FnOk P w K mg base (L2.CX P w) k f fd ps (spF T hb n m) ∧ mg x = some (.ref f) ∧ PySem.W.keepIn K (.ref f) = true ∧ Binds K fd ps []
section
variable {P : Program} {w : World} {K : PySem.W.Frag} {mg : Str → Option Value} {base : Heap} {T : Tg} {x : Str} {k n : Nat} {hb : Bool} {m : MF}
theorem Cal.mono {j : Nat} (C : Cal P w K mg base T x k hb n m) (h : k ≤ j) : Cal P w K mg base T x j hb n m := by
  obtain ⟨f, fd, ps, F, g, kp, b⟩ := C.ex
  exact ⟨f, fd, ps, F.mono h, g, kp, b⟩
end
section
variable {X : Cx} {c : Cn} {E : WX} {T : Tg} {x : Str} {k j n : Nat} {m : MF} {e : Expr} {es : List Expr} {fa : FA} {p pos : Pos}
theorem callP_ok (hT : c.T = T) (tk : Takes X E) (C : Cal X.prog X.w X.K X.mg X.base T x k false n m) (hr : Room j X.A) (hk : k ≤ j) (hg : Gl X x) (ha : PA X (e :: es) (rdA c E fa)) (hs : starEach (e :: es) X.env = (false, eval e X.env) :: starEach es X.env := by rfl)
    (hpl : (backTo pos (starEach es X.env)).any (·.1) = false := by rfl) (hdb : (x == ("__debug__" : Str)) = false := by decide) : PE X (.Call (.Name x p) (e :: es) [] pos) (rdV c E (callP m (cnt n fa))) := by
  obtain ⟨f, fd, ps, F, g, kp, b⟩ := C.ex
  exact nd_callP hT tk F (hr.mono hk) hg g kp b ha hs hpl hdb
theorem callB_ok (i : Nat) {y : Str} {py : Pos} (hT : c.T = T) (tk : Takes X E) (C : Cal X.prog X.w X.K X.mg X.base T x k true n m) (hr : Room j X.A) (hk : k ≤ j) (hg : Gl X x) (ha : PA X es (rdA c E fa)) (hN : X.N[i]? = some y := by rfl)
    (hv : Vis X.env.scope y := by first | exact Or.inl rfl | exact Or.inr (Or.inl rfl) | exact Or.inr (Or.inr rfl)) (hs : starEach (.Name y py :: es) X.env = (false, eval (.Name y py) X.env) :: starEach es X.env := by rfl)
    (hpl : (backTo pos (starEach es X.env)).any (·.1) = false := by rfl) (hdb : (x == ("__debug__" : Str)) = false := by decide) (hd : (y == ("__debug__" : Str)) = false := by decide) (hcd : (y == ("__classdict__" : Str)) = false := by decide) :
    PE X (.Call (.Name x p) (.Name y py :: es) [] pos) (rdV c E (callB i m (cnt n fa))) := by
  obtain ⟨f, fd, ps, F, g, kp, b⟩ := C.ex
  exact nd_callB i hT tk F (hr.mono hk) hg g kp b hN hv ha hs hpl hdb hd hcd
end

/-! ### data without lists -/
mutual
def noL : D → Bool
  | .non => true
  | .bl _ => true
  | .int _ => true
  | .str _ => true
  | .tup ds => noLs ds
  | _ => false
def noLs : List D → Bool
  | [] => true
  | d :: ds => noL d && noLs ds
end
def isTupO : HO → Bool
  | .tup _ => true
  | .xd _ => true
  | _ => false
section
variable {T : Tg} {N N' : AP1} {H : Hp}
mutual
theorem noL_rep (h : ∀ a o, ¬ N a → H a = some o → isTupO o = true → ¬ N' a) : ∀ (d : D) {v : V}, Rep T N H v d → noL d = true → Rep T N' H v d
  | .non, v, r, _ => by cases r.non_inv; exact .non
  | .bl b, v, r, _ => by cases r.bl_inv; exact .bl b
  | .int i, v, r, _ => by cases r.int_inv; exact .int i
  | .str x, v, r, _ => by cases r.str_inv; exact .str x
  | .tup ds, v, r, e => by
    obtain ⟨a, vs, rfl, n, h2, q⟩ := r.tup_inv
    exact .ref (h a _ n h2 rfl) h2 (.tup (noLs_rep h ds q (by simpa [noL] using e)))
  | .lst _, v, r, e => by simp [noL] at e
  | .dic _, v, r, e => by simp [noL] at e
  | .dct _, v, r, e => by simp [noL] at e
  | .ins _ _, v, r, e => by simp [noL] at e
  | .exc _ _, v, r, e => by simp [noL] at e
  | .xv _ _, v, r, e => by simp [noL] at e
  | .cls _, v, r, e => by simp [noL] at e
  | .opq _, v, r, e => by simp [noL] at e
theorem noLs_rep (h : ∀ a o, ¬ N a → H a = some o → isTupO o = true → ¬ N' a) : ∀ (ds : List D) {vs : List V}, Reps T N H vs ds → noLs ds = true → Reps T N' H vs ds
  | [], vs, r, _ => by cases r; exact .nil
  | d :: ds, vs, r, e => by
    cases r with
    | cons r1 r2 =>
      simp only [noLs, Bool.and_eq_true] at e
      exact .cons (noL_rep h d r1 e.1) (noLs_rep h ds r2 e.2)
end
end

def noFs : List (Str × D) → Bool
  | [] => true
  | q :: r => noL q.2 && noFs r
theorem noFs_rep {T : Tg} {N N' : AP1} {H : Hp} (h : ∀ a o, ¬ N a → H a = some o → isTupO o = true → ¬ N' a) : ∀ (gs : List (Str × D)) {fs : List (Str × V)}, RepF T N H fs gs → noFs gs = true → RepF T N' H fs gs
  | [], fs, r, _ => by cases r; exact .nil
  | q :: gs, fs, r, e => by
    cases r with
    | cons r1 r2 =>
      simp only [noFs, Bool.and_eq_true] at e
      exact .cons (noL_rep h _ r1 e.1) (noFs_rep h gs r2 e.2)
def noX : D → Bool
  | .exc _ fs => noFs fs
  | _ => false
/-! ### a call to which a slot lends its list -/
def noV : D × Bool → Bool
  | (d, false) => noL d
  | (.lst ds, true) => noLs ds
  | _ => false
end ND

end
section
set_option Elab.async false
set_option linter.all false
set_option maxRecDepth 100000
/-! ND13: the bag's places; powers; two-clause comprehensions; a law's run. -/
namespace ND
open PySem PySem.Spec PyProof.Rows L2

/-! ### the bag -/
def bagGet (b : Bag) (k : Int) : Option D := match b.me with
  | some _ => none
  | none => match k with
  | 0 => some (.lst (b.ns.map .int))
  | 1 => some (.int b.i)
  | 2 => some (.int b.g)
  | 3 => some (.int b.s)
  | 4 => some (.int b.n)
  | _ => none
def bagSet (b : Bag) (k : Int) (v : Int) : Option Bag := match b.me with
  | some _ => none
  | none => match k with
  | 1 => some { b with i := v }
  | 2 => some { b with g := v }
  | 3 => some { b with s := v }
  | 4 => some { b with n := v }
  | _ => none
def bagIx (i : Nat) (k : Int) : FD := fun ρ => match ρ.sl[i]? with
  | some .bag => ofO (bagGet ρ.b k) ρ
  | _ => .no
def bagSt (i : Nat) (k : Int) (f : FD) : FS := fun ρ => (f ρ).bind fun r => match r.2.sl[i]?, r.1 with
  | some .bag, .int v => match bagSet r.2.b k v with
    | some b => .ok (.nx, { r.2 with b := b })
    | none => .no
  | _, _ => .no
theorem ints_reps {T : Tg} {N : AP1} {H : Hp} : ∀ ns : List Int, Reps T N H (ns.map V.int) (ns.map D.int)
  | [] => .nil
  | n :: ns => .cons (.int n) (ints_reps ns)
section
variable {X : Cx} {c : Cn} {E : WX} {x : Str} {pos px p : Pos} {e : Expr} {f : FD} {k : Int} {j : Nat} {pk : Pos}
theorem nd_bagIx (i : Nat) (hN : X.N[i]? = some x := by rfl) (hv : Vis X.env.scope x := by first | exact Or.inl rfl | exact Or.inr (Or.inl rfl) | exact Or.inr (Or.inr rfl)) (hd : (x == ("__debug__" : Str)) = false := by decide)
    (hcd : (x == ("__classdict__" : Str)) = false := by decide) : PE X (.Subscript (.Name x px) (.Constant (.int k) j pk) pos) (rdD c E (bagIx i k)) := PE.mono (pe_ix ix_seq (pe_var hN hv hd hcd) pe_int (fun _ _ => rfl)) fun σ H Q ⟨N, W, ρ, er, q⟩ => by
  unfold bagIx at q
  cases h : ρ.sl[i]? with
  | none => rw [h] at q; exact q.elim
  | some s =>
    rw [h] at q
    cases s with
    | un => exact q.elim
    | sh d => exact q.elim
    | ow d => exact q.elim
    | bag =>
      obtain ⟨a, hb, hσ⟩ := er.bs i h
      refine ⟨.ref a, hσ, ?_⟩
      obtain ⟨d, hd, q2⟩ := ofO_ok q er
      have fin : ∀ v, Rep c.T N H v d → Q v H := fun v rv => q2 N W H (.refl _ _ _) er v rv
      unfold bagGet at hd
      cases hme : ρ.b.me with
      | some z => rw [hme] at hd; cases hd
      | none =>
      rw [hme] at hd
      obtain ⟨_, h1, h2, h3⟩ := (er.bag a hb).2.2.law hme
      dsimp only at hd
      split at hd <;> cases hd
      · exact .inl ⟨a, _, 0, _, rfl, rfl, .of h3, rfl, fin _ (.ref h1 h2 (.lst (ints_reps _)))⟩
      · exact .inl ⟨a, _, 1, _, rfl, rfl, .of h3, rfl, fin _ (.int _)⟩
      · exact .inl ⟨a, _, 2, _, rfl, rfl, .of h3, rfl, fin _ (.int _)⟩
      · exact .inl ⟨a, _, 3, _, rfl, rfl, .of h3, rfl, fin _ (.int _)⟩
      · exact .inl ⟨a, _, 4, _, rfl, rfl, .of h3, rfl, fin _ (.int _)⟩
theorem ER.bagged {N W : AP1} {H : Hp} {σ : L2.St} {ρ : En} {a : Addr} {b : Bag} (e : ER c N W H σ ρ) (hb : c.bg = some a) (hn : b.ns = ρ.b.ns) (hm : ρ.b.me = none) (hm2 : b.me = none) :
    ER c N W (L2.upd H a (.lst [.ref c.bl, .int b.i, .int b.g, .int b.s, .int b.n])) σ { ρ with b := b } ∧ Stp N W H N W (L2.upd H a (.lst [.ref c.bl, .int b.i, .int b.g, .int b.s, .int b.n])) := by
  obtain ⟨w, h0, hbag⟩ := e.bag a hb
  obtain ⟨na, h1, h2, h3⟩ := hbag.law hm
  have mv : ∀ z u, ¬ N z → H z = some u → ¬ N z ∧ L2.upd H a (.lst [.ref c.bl, .int b.i, .int b.g, .int b.s, .int b.n]) z = some u := fun z u n q => ⟨n, by rw [upd_ne (fun (y : z = a) => n (by rw [y]; exact na))]; exact q⟩
  have al : ∀ z, H z ≠ none → L2.upd H a (.lst [.ref c.bl, .int b.i, .int b.g, .int b.s, .int b.n]) z ≠ none := fun z hz => by
    by_cases y : z = a
    · subst y; rw [upd_same]; intro y; cases y
    · rw [upd_ne y]; exact hz
  refine ⟨⟨fun z u k1 k2 => ?_, e.n0, e.sub, e.new, fun z hz => al z (e.all z hz), e.wn, e.wnew, fun z hz => ?_, e.len, fun i d q => ?_, fun i d q => ?_, e.inj, e.bs⟩, ⟨fun z u hz nw => by rw [upd_ne (fun (y : z = a) => nw (by rw [y]; exact w))]; exact hz, fun _ h => .inl h, fun _ h => .inl h, fun _ h _ _ => h, al⟩⟩
  · rw [upd_ne (fun (y : z = a) => k2 (by rw [hb, y]))]
    exact e.keep z u k1 k2
  · have hz : c.bg = some z := hz
    rw [hb] at hz
    cases hz
    exact ⟨w, h0, na, .inl ⟨hm2, h1, by rw [hn]; exact (mv _ _ h1 h2).2, upd_same⟩⟩
  · obtain ⟨v, k1, k2⟩ := e.sh i d q
    exact ⟨v, k1, k2.move mv⟩
  · obtain ⟨z, u, k1, k2, k3, k4, k5⟩ := e.ow i d q
    exact ⟨z, u, k1, k2, k3, by rw [upd_ne (fun (y : z = a) => k3 (by rw [y]; exact hb))]; exact k4, k5.move mv⟩
theorem ns_bagSt (i : Nat) (he : PE X e (rdD c E f)) (ho : PE X (.Name x px) (tVar i)) (ps : ∀ {te to ti : TE}, PE X e te → PE X (.Name x px) to → PE X (.Constant (.int k) j pk) ti → PS X (.Assign [.Subscript (.Name x px) (.Constant (.int k) j pk) p] e pos) (tAsg te (gSub to ti rSetL))) :
    PS X (.Assign [.Subscript (.Name x px) (.Constant (.int k) j pk) p] e pos) (rdS c E (bagSt i k f)) := PS.mono (ps he ho pe_int) fun D σ H ⟨N, W, ρ, er, q⟩ => by
  refine ⟨N, W, ρ, er, (satS.bind (σ := σ) q).imp fun N1 W1 H1 r1 t1 e1 q1 v1 rv1 => ?_⟩
  obtain ⟨q1, _⟩ := q1
  split at q1
  · rename_i v hs hv
    rw [hv] at rv1
    cases rv1.int_inv
    obtain ⟨a, hb, hσ⟩ := e1.bs i hs
    cases hg : bagSet r1.2.b k v with
    | none => rw [hg] at q1; exact q1.elim
    | some b =>
      rw [hg] at q1
      unfold bagSet at hg
      cases hme : r1.2.b.me with
      | some z => rw [hme] at hg; cases hg
      | none =>
      rw [hme] at hg
      dsimp only at hg
      obtain ⟨_, h1, h2, h3⟩ := (e1.bag a hb).2.2.law hme
      have fin : b.ns = r1.2.b.ns → b.me = none → D.nx σ (upd H1 a (.lst [.ref c.bl, .int b.i, .int b.g, .int b.s, .int b.n])) := fun hn hm2 => by
        obtain ⟨e2, t2⟩ := e1.bagged hb hn hme hm2
        exact q1 N1 W1 _ σ t2 e2
      split at hg <;> cases hg
      · exact ⟨.ref a, hσ, a, _, 1, 1, rfl, rfl, h3, rfl, fin rfl (by first | exact hme | rfl)⟩
      · exact ⟨.ref a, hσ, a, _, 2, 2, rfl, rfl, h3, rfl, fin rfl (by first | exact hme | rfl)⟩
      · exact ⟨.ref a, hσ, a, _, 3, 3, rfl, rfl, h3, rfl, fin rfl (by first | exact hme | rfl)⟩
      · exact ⟨.ref a, hσ, a, _, 4, 4, rfl, rfl, h3, rfl, fin rfl (by first | exact hme | rfl)⟩
  · exact q1.elim
def powD : D → D → Option D
  | .int i, .int j => if 0 ≤ j ∧ j ≤ 1000000 ∧ i.natAbs < 2 ^ 64 then some (.int (i ^ j.toNat)) else none
  | _, _ => none
theorem od_pow : OpD X (binaryOp .Pow) powD := opd_keep op_pow fun T N H v1 v2 d1 d2 d r1 r2 e => by
  unfold powD at e
  split at e <;> try cases e
  rename_i i j
  split at e <;> simp only [Option.some.injEq, reduceCtorEq] at e
  rename_i hc
  subst e
  exact ⟨_, .int _, fun Q q => ⟨_, _, r1.int_inv, r2.int_inv, hc, q⟩⟩
def negD : D → Option D
  | .int i => some (.int (-i))
  | _ => none
def un1 (g : D → Option D) (f : FD) : FD := fun ρ => (f ρ).bind fun r => ofO (g r.1) r.2
theorem nd_neg (h : PE X e (rdD c E f)) : PE X (.UnaryOp .USub e pos) (rdD c E (un1 negD f)) := PE.mono (pe_un un_neg h) fun σ H Q ⟨N, W, ρ, er, q⟩ => by
  refine ⟨N, W, ρ, er, q.bind.imp fun N1 W1 H1 r1 t1 e1 q1 v1 rv1 => ?_⟩
  obtain ⟨d, hd, q2⟩ := ofO_ok q1 e1
  unfold negD at hd
  split at hd <;> cases hd
  rename_i i hi
  rw [hi] at rv1
  exact ⟨i, rv1.int_inv, q2 N1 W1 H1 (.refl _ _ _) e1 _ (.int _)⟩
end

/-! ### a law's run -/
/-- the rest of a law, behind the making of its bag -/
def tAny (T : Tg) (g : FS) : TS := fun D σ H => ∃ c : Cn, c.T = T ∧ rdS c EN g D σ H
theorem pss_any {X : Cx} {T : Tg} {sts : List Stmt} {g : FS} (h : ∀ c : Cn, c.T = T → PSs X sts (rdS c EN g)) : PSs X sts (tAny T g) := ⟨fun pins s σ H D I ⟨c, hc, q⟩ => (h c hc).run pins s σ H D I q⟩
/-- what a bag holds at the law's start -/
structure BagOk (b : Bag) : Prop where
  i0 : 0 ≤ b.i
  g0 : 0 ≤ b.g
  s0 : 0 ≤ b.s
  s1 : b.s < 2147483648
  n0 : 0 ≤ b.n
  len : b.ns.length ≤ 63
  me : b.me = none
/-- the promise of the def that makes the bag -/
def spBag (K : PySem.W.Frag) : Sp := fun vs H Q _ => ∃ (a : Addr) (ns : List Int), vs = [.ref a] ∧ SqL K H a (ns.map V.int) ∧ ns.length ≤ 63 ∧
  ∀ H' p l (b : Bag), Same H H' → H p = none → H l = none → p ≠ l → H' l = some (.lst (b.ns.map V.int)) → H' p = some (.lst [.ref l, .int b.i, .int b.g, .int b.s, .int b.n]) → BagOk b → Q (.ref p) H'
def spLaw (K : PySem.W.Frag) : Sp := fun vs H Q _ => ∃ (a : Addr) (ns : List Int), vs = [.ref a] ∧ SqL K H a (ns.map V.int) ∧ ns.length ≤ 63 ∧ ∀ H', Q (.bl true) H'
/-- slots where the bag is the second one -/
def lawE (n : Nat) (b : Bag) : En := { b := b, sl := SD.un :: SD.bag :: List.replicate n SD.un }
theorem law_start {T : Tg} {H : Hp} {p l : Addr} {b : Bag} {v : V} {n : Nat} (h1 : H p = some (.lst [.ref l, .int b.i, .int b.g, .int b.s, .int b.n])) (h2 : H l = some (.lst (b.ns.map V.int))) (hp : p ≠ l) (hm : b.me = none) :
    ER ⟨T, some p, l, H, fun a => a = p⟩ (fun a => a = p) (fun a => a = p) H (some v :: some (.ref p) :: List.replicate n none) (lawE n b) := by
  have key : ∀ (i : Nat) (s : SD), (lawE n b).sl[i]? = some s → s = .un ∨ (i = 1 ∧ s = .bag) := fun i s q => by
    match i with
    | 0 => exact .inl (by simpa [lawE] using q.symm)
    | 1 => exact .inr ⟨rfl, by simpa [lawE] using q.symm⟩
    | i + 2 =>
      have q : (List.replicate n SD.un)[i]? = some s := by simpa [lawE] using q
      exact .inl (List.eq_of_mem_replicate (List.mem_of_getElem? q))
  refine ⟨fun b x h _ => h, fun a h => ?_, fun a h => h, fun a h => .inl h, fun a h => ?_, fun a h => h, fun a h => .inl ?_, fun a h => ?_, ?_, fun i d q => ?_, fun i d q => ?_, fun i j di dj a q1 q2 s1 s2 => ?_, fun i q => ?_⟩
  · have h : a = p := h
    subst h; show H a ≠ none; rw [h1]; intro z; cases z
  · have h : a = p := h
    subst h; rw [h1]; intro z; cases z
  · have h : a = p := h
    subst h; rfl
  · have h : some p = some a := h
    cases h
    exact ⟨rfl, (by show H p ≠ none; rw [h1]; intro z; cases z), rfl, .inl ⟨hm, fun z => hp z.symm, h2, h1⟩⟩
  · simp [lawE]
  · rcases key i _ q with z | ⟨_, z⟩ <;> cases z
  · rcases key i _ q with z | ⟨_, z⟩ <;> cases z
  · rcases key i _ q1 with z | ⟨_, z⟩ <;> cases z
  · rcases key i _ q with z | ⟨rfl, z⟩
    · cases z
    · exact ⟨p, rfl, rfl⟩
end ND

end
section
set_option Elab.async false
set_option linter.all false
set_option maxRecDepth 100000
/-! ND14: more rules. -/
namespace ND
open PySem PySem.Spec PyProof.Rows L2

/-- an operator that makes a new list of lists, and else keeps to data -/
def lift2V (g : D → D → Option D) (h : D → D → Option (List D)) (fa fb : FD) : FV := fun ρ => (fa ρ).bind fun r1 => (fb r1.2).bind fun r2 => match g r1.1 r2.1 with
  | some d => .ok ((d, false), r2.2)
  | none => (ofO (h r1.1 r2.1) r2.2).bind fun s => .ok ((.lst s.1, true), s.2)
section
variable {X : Cx} {c : Cn} {E : WX} {pos : Pos} {a b e : Expr} {fa fb f : FD}
theorem nd_opV {op : Operator} {g : D → D → Option D} {h : D → D → Option (List D)} (ho : OpD X (binaryOp op) g) (hl : OpL X (binaryOp op) h) (ha : PE X a (rdD c E fa)) (hb : PE X b (rdD c E fb)) : PE X (.BinOp a op b pos) (rdV c E (lift2V g h fa fb)) := by
  obtain ⟨r, h1, h2⟩ := ho
  obtain ⟨r', k1, k2⟩ := hl
  refine PE.mono (pe_op (h1.or k1) ha hb) fun σ H Q ⟨N, W, ρ, er, q⟩ => ?_
  refine ⟨N, W, ρ, er, q.bind.imp fun N1 W1 H1 r1 t1 e1 q1 v1 rv1 => ?_⟩
  refine ⟨N1, W1, r1.2, e1, q1.bind.imp fun N2 W2 H2 r2 t2 e2 q2 v2 rv2 => ?_⟩
  have rv1' := rv1.move (e1.mv t2)
  have tt := t1.trans t2
  cases hg : g r1.1 r2.1 with
  | some d =>
    rw [hg] at q2
    exact .inl (h2 c.T N2 H2 v1 v2 r1.1 r2.1 d Q e2.all rv1' rv2 hg fun v H' k rv => q2 N2 W2 H' (.grow e2.all k) (e2.grow k) v rv)
  | none =>
    rw [hg] at q2
    dsimp only at q2
    cases hh : h r1.1 r2.1 with
    | none => rw [hh] at q2; exact q2.elim
    | some ds =>
      rw [hh] at q2
      exact .inr (k2 c.T N2 H2 v1 v2 r1.1 r2.1 ds Q rv1' rv2 hh fun p vs hp rp => new_list (.refl _ _ _) e2 hp rp fun N' W' H' t e v rv => q2 N' W' H' t e v (rv.back tt))
/-- a, b = e -/
def unpE (tf : FG) (f : FD) : FS := fun ρ => (f ρ).bind fun r => match tf r.1 r.2 with
  | some ρ1 => .ok (.nx, ρ1)
  | none => .no
theorem ns_unp {tg : Expr} {g : TG} {tf : FG} {js : List Nat} (he : PE X e (rdD c E f)) (hg : PG X tg g) (ht : TgD c g tf js) (hs : swapsWithSole [tg] e pos.line X.env = pure false := by rfl) (hw : swappedStores [tg] e X.env = pure none := by rfl)
    (h1 : (assignEach [tg] X.env).map (·.2) = [assign tg X.env] := by rfl) : PS X (.Assign [tg] e pos) (rdS c E (unpE tf f)) := PS.mono (ps_asg he hg hs hw h1) fun D σ H ⟨N, W, ρ, er, q⟩ => by
  refine ⟨N, W, ρ, er, (satS.bind (σ := σ) q).imp fun N1 W1 H1 r1 t1 e1 q1 v1 rv1 => ?_⟩
  obtain ⟨q1, _⟩ := q1
  cases hf : tf r1.1 r1.2 with
  | none => rw [hf] at q1; exact q1.elim
  | some ρ1 =>
    rw [hf] at q1
    exact ht v1 σ H1 N1 W1 r1.2 ρ1 _ r1.1 e1 rv1 hf fun σ' e' _ => q1 N1 W1 H1 σ' (.refl _ _ _) e'
def parE3 (i j l : Nat) (f : FA) : FS := fun ρ => (f ρ).bind fun r => match r.1 with
  | [d1, d2, d3] => .ok (.nx, put (put (put r.2 i d1 false) j d2 false) l d3 false)
  | _ => .no
theorem ns_par3 {st : Stmt} {i j l : Nat} {a b d : Expr} {fa : FA} (h : ∀ {ta : TA}, PA X [a, b, d] ta → PS X st (tPar3 i j l ta)) (ha : PA X [a, b, d] (rdA c E fa)) : PS X st (rdS c E (parE3 i j l fa)) := PS.mono (h ha) fun D σ H ⟨N, W, ρ, er, q⟩ => by
  refine ⟨N, W, ρ, er, (satS.bindB (σ := σ) q).imp fun N1 W1 H1 r1 t1 e1 q1 v1 rv1 => ?_⟩
  obtain ⟨ds, ρ1⟩ := r1
  obtain ⟨q1, _⟩ := q1
  dsimp only at q1
  split at q1
  · cases rv1 with
    | cons r1 r2 => cases r2 with
      | cons r2 r3 => cases r3 with
        | cons r3 r4 =>
          cases r4
          exact ⟨_, _, _, rfl, q1 N1 W1 H1 _ t1 (((e1.setSh (i := i) r1).setSh (i := j) r2).setSh (i := l) r3)⟩
  · exact q1.elim
def addI : D → D → Option D
  | .int i, .int j => some (.int (i + j))
  | _, _ => none
/-- x += e, of ints -/
def augE (i : Nat) (g : D → D → Option D) (f : FD) : FS := fun ρ => match ρ.sl[i]? with
  | some (.sh d) => (f ρ).bind fun r => match g d r.1 with
    | some d' => .ok (.nx, setS r.2 i (.sh d'))
    | none => .no
  | _ => .no
def IpD (X : Cx) (op : Operator) (g : D → D → Option D) : Prop := ∃ r, PIp X op r ∧ ∀ (T : Tg) (N : AP1) (H : Hp) (v1 v2 : V) (d1 d2 d : D) (Q : VK),
  (∀ a, N a → H a ≠ none) → Rep T N H v1 d1 → Rep T N H v2 d2 → g d1 d2 = some d → (∀ v H', (∀ b o, H b = some o → H' b = some o) → Rep T N H' v d → Q v H') → r v1 v2 H Q
theorem pd_add : IpD X .Add addI := ⟨_, ip_add, fun T N H v1 v2 d1 d2 d Q al r1 r2 h q => by
  unfold addI at h
  split at h <;> cases h
  exact ⟨_, _, r1.int_inv, r2.int_inv, q _ H (fun _ _ h => h) (.int _)⟩⟩
theorem ns_aug {op : Operator} {g : D → D → Option D} (i : Nat) {x : Str} {pos' : Pos} (ho : IpD X op g) (he : PE X e (rdD c E f)) (hN : X.N.Nodup) (hi : X.N[i]? = some x) (hx : Loc X.env.scope x)
    (hf : X.fn x = true ∨ X.env.scope.names.lookup x = some .local := by first | exact .inl rfl | exact .inr rfl | assumption) : PS X (.AugAssign (.Name x pos') op e pos) (rdS c E (augE i g f)) := by
  obtain ⟨r, h1, h2⟩ := ho
  refine PS.mono (ps_aug hN hi hx he h1 hf) fun D σ H ⟨N, W, ρ, er, q⟩ => ?_
  unfold augE at q
  split at q
  · rename_i d hs
    obtain ⟨v, hv, rv⟩ := er.sh i d hs
    refine ⟨v, hv, N, W, ρ, er, (satS.bind (σ := σ) q).imp fun N1 W1 H1 r1 t1 e1 q1 v1 rv1 => ?_⟩
    obtain ⟨q1, _⟩ := q1
    cases hg : g d r1.1 with
    | none => rw [hg] at q1; exact q1.elim
    | some d' =>
      rw [hg] at q1
      exact h2 c.T N1 H1 v v1 d r1.1 d' _ e1.all (rv.move (er.mv t1)) rv1 hg fun u H' k ru => q1 N1 W1 H' _ (.grow e1.all k) ((e1.grow k).setSh ru)
  · exact q.elim
end
section
variable {P : Program} {w : World} {K : PySem.W.Frag} {mg : Str → Option Value} {base : Heap} {T : Tg}
/-- what nothing is promised of -/
theorem fn_never {f : Addr} {fd : FuncData} {ps : List Str} {k n : Nat} {hb : Bool} {m : MF} (h : ∀ ds b, m ds b = .no) : FnOk P w K mg base (L2.CX P w) k f fd ps (spF T hb n m) := by
  have no : ∀ vs H Q E, ¬ spF T hb n m vs H Q E := fun vs H Q E ⟨N, bg, l, ds, b, ws, _, _, _, _, q⟩ => by
    rw [h ds b] at q; exact q
  exact ⟨fun vs H Q E q => (no vs H Q E q).elim, fun A outer s H args us vs Q E _ _ _ _ q => (no vs H Q E q).elim⟩
end

/-! ### two clauses -/
def lcL2 (tf : FG) (ft : FT) (fi1 : FA) (tf1 : FG) (ft1 : FT) (fe : FD) (vs vs1 : List Nat) : List D → List D → En → Out (List D × En)
  | [], out, ρ => .ok (out, ρ)
  | d :: ds, out, ρ => match tf d (wipeE vs ρ) with
    | none => .no
    | some ρ1 => (noE (ft ρ1)).bind fun r => if r.1 = true then (noE (fi1 r.2)).bind fun s => (lcL tf1 ft1 fe vs1 s.1 out s.2).bind fun u => lcL2 tf ft fi1 tf1 ft1 fe vs vs1 ds u.1 u.2 else lcL2 tf ft fi1 tf1 ft1 fe vs vs1 ds out r.2
def lcE2 (fi : FA) (tf : FG) (ft : FT) (fi1 : FA) (tf1 : FG) (ft1 : FT) (fe : FD) (vs vs1 : List Nat) : FV := fun ρ => (fi ρ).bind fun r => (noE (lcL2 tf ft fi1 tf1 ft1 fe vs vs1 r.1 [] r.2)).bind fun s => .ok ((.lst s.1, true), restE vs r.2 s.2)
section
variable {X : Cx} {c : Cn} {E E' : WX} {fi fi1 : FA} {g g1 : TG} {tf tf1 : FG} {js js1 : List Nat} {ft ft1 : FT} {fe : FD} {vs vs1 : List Nat}
theorem lc2_go (htg : TgD c g tf js) (htg1 : TgD c g1 tf1 js1) (hjs : ∀ j ∈ js, j ∈ vs) (hjs1 : ∀ j ∈ js1, j ∈ vs1) (hvs : ∀ j ∈ vs1, j ∈ vs) {σ : L2.St} {H : Hp} {Q : VK} (q : rdV c E (lcE2 fi tf ft fi1 tf1 ft1 fe vs vs1) σ H Q) :
    tLc2 (rdI c E fi) g (rdT c E' ft) (rdI c E' fi1) g1 (rdT c E' ft1) (rdD c E' fe) vs vs1 σ H Q := by
  obtain ⟨N, W, ρ, er, q⟩ := q
  refine ⟨N, W, ρ, er, q.bind.imp fun N1 W1 H1 r1 t1 e1 q1 J I S hI D hD => ?_⟩
  obtain ⟨ds, ρ1⟩ := r1
  dsimp only at q1 e1 S
  cases hm : noE (lcL2 tf ft fi1 tf1 ft1 fe vs vs1 ds [] ρ1) with
  | no => rw [hm] at q1; exact q1.elim
  | err x ρ' => cases h : lcL2 tf ft fi1 tf1 ft1 fe vs vs1 ds [] ρ1 <;> rw [h] at hm <;> cases hm
  | ok r =>
    rw [hm] at q1
    have hm := noE_eq hm
    have q1 : ∀ N' W' H', Stp N1 W1 H1 N' W' H' → ER c N' W' H' σ (restE vs ρ1 r.2) → ∀ v, VR c H N' W' H' v (.lst r.1) true → Q v H' := q1
    have h0 : c.H0 D = none := h0_none e1 hD
    have hH : H D = none := t1.was_none hD
    have ea := e1.apart hD (o := .lst [])
    refine ⟨fun i m H => m = ds.length - i ∧ i ≤ ds.length ∧ ∃ N W ρ out acc, ER c N W H (wipe σ vs) (wipeE vs ρ) ∧ N D ∧ ¬ W D ∧ H D = some (.lst acc) ∧ Reps c.T N H acc out ∧ I N H ∧ Stp N1 W1 H1 N W H ∧ lcL2 tf ft fi1 tf1 ft1 fe vs vs1 (ds.drop i) out ρ = .ok r,
      ⟨ds.length, by simp, Nat.zero_le _, _, W1, ρ1, [], [], ea.wipe vs .wipe, .inr rfl, fun z => e1.all D (e1.wn D z) hD, upd_same, .nil, S.side _ _ _ _ (S.more _ _ _ hI hD) (.inr rfl), .apart hD, hm⟩, ?_⟩
    rintro i m H2 ⟨rfl, hi, N2, W2, ρ2, out, acc, e2, d1, d2, d3, r2, hI2, t2, hm2⟩
    by_cases hlt : i < ds.length
    · obtain ⟨d, hd⟩ : ∃ d, ds[i]? = some d := ⟨ds[i], by simp [hlt]⟩
      have hdr : ds.drop i = d :: ds.drop (i + 1) := by
        rw [List.drop_eq_getElem_cons hlt]
        congr 1
        exact Option.some.inj ((List.getElem?_eq_getElem hlt).symm.trans hd)
      rw [hdr] at hm2
      simp only [lcL2] at hm2
      refine .inr ⟨S.go N2 H2 i hI2 hlt, fun H => i + 1 ≤ ds.length ∧ ∃ N W ρ out acc, ER c N W H (wipe σ vs) (wipeE vs ρ) ∧ N D ∧ ¬ W D ∧ H D = some (.lst acc) ∧ Reps c.T N H acc out ∧ I N H ∧ Stp N1 W1 H1 N W H ∧ lcL2 tf ft fi1 tf1 ft1 fe vs vs1 (ds.drop (i + 1)) out ρ = .ok r,
        fun H' hN => ⟨ds.length - (i + 1), by omega, rfl, hN⟩, fun x H' hy => ?_⟩
      obtain ⟨k, rx, hI3⟩ := S.yld N2 H2 i x H' d hI2 e2.all hy hd
      have e3 := e2.grow k
      have t3 : Stp N2 W2 H2 N2 W2 H' := .grow e2.all k
      cases hf : tf d (wipeE vs ρ2) with
      | none => rw [hf] at hm2; cases hm2
      | some ρ3 =>
        rw [hf] at hm2
        dsimp only at hm2
        refine htg x _ H' N2 W2 _ ρ3 _ d e3 rx hf fun σ4 e4 l4 => ?_
        have l4' : Lke vs (wipe σ vs) σ4 := l4.mono hjs
        have l5 : Lke vs σ4 (wipe σ vs) := ⟨l4'.1.symm, fun i h => (l4'.2 i h).symm⟩
        refine ⟨?_, N2, W2, ρ3, e4, ?_⟩
        · rw [l4'.eq, (Lke.wipe (vs := vs) (σ := σ)).eq]
        obtain ⟨⟨b, ρ5⟩, h5, hm5⟩ := Out.bind_eq_ok hm2
        rw [noE_eq h5]
        intro N5 W5 H5 t5 e5
        have D5 : N5 D ∧ ¬ W5 D ∧ H5 D = some (.lst acc) := by
          have hD' : H' D = some (.lst acc) := k D _ d3
          refine ⟨t5.kN D d1 d2 (by rw [hD']; intro z; cases z), fun z => ?_, t5.keep D _ hD' d2⟩
          rcases t5.nW D z with y | y
          · exact d2 y
          · rw [hD'] at y; cases y
        have tt5 : Stp N2 W2 H2 N5 W5 H5 := t3.trans t5
        have I5 : I N5 H5 := S.keep _ _ _ _ _ _ _ _ hI3 e4 t5
        have r5 : Reps c.T N5 H5 acc out := r2.move (e2.mv tt5)
        dsimp only at hm5 ⊢
        cases b with
        | false =>
          rw [if_neg Bool.false_ne_true] at hm5
          exact iteF ⟨hlt, N5, W5, ρ5, out, acc, e5.wipe vs l5, D5.1, D5.2.1, D5.2.2, r5, I5, t2.trans tt5, hm5⟩
        | true =>
          rw [if_pos rfl] at hm5
          obtain ⟨⟨es, ρ6⟩, h6, hm6⟩ := Out.bind_eq_ok hm5
          refine iteT ⟨N5, W5, ρ5, e5, ?_⟩
          rw [noE_eq h6]
          intro N6 W6 H6 t6 e6 J1 I1 S1 hI1
          dsimp only at hm6 e6 S1
          have D6 : N6 D ∧ ¬ W6 D ∧ H6 D = some (.lst acc) := by
            refine ⟨t6.kN D D5.1 D5.2.1 (by rw [D5.2.2]; intro z; cases z), fun z => ?_, t6.keep D _ D5.2.2 D5.2.1⟩
            rcases t6.nW D z with w | w
            · exact D5.2.1 w
            · rw [D5.2.2] at w; cases w
          have r6 : Reps c.T N6 H6 acc out := r5.move (e5.mv t6)
          have I6 : I N6 H6 := S.keep _ _ _ _ _ _ _ _ I5 e5 t6
          obtain ⟨u, hu, hm7⟩ := Out.bind_eq_ok hm6
          have l6 : Lke vs (wipe σ4 vs1) (wipe σ vs) := by
            have a1 : Lke vs σ4 (wipe σ4 vs1) := Lke.wipe.mono hvs
            exact ⟨l5.1.trans a1.1.symm, fun i h => (l5.2 i h).trans (a1.2 i h).symm⟩
          refine ⟨fun j k H => k = es.length - j ∧ j ≤ es.length ∧ ∃ N W ρ out acc, ER c N W H (wipe σ4 vs1) (wipeE vs1 ρ) ∧ N D ∧ ¬ W D ∧ H D = some (.lst acc) ∧ Reps c.T N H acc out ∧ I N H ∧ I1 N H ∧ Stp N1 W1 H1 N W H ∧ lcL tf1 ft1 fe vs1 (es.drop j) out ρ = .ok u,
            ⟨es.length, by simp, Nat.zero_le _, N6, W6, ρ6, out, acc, e6.wipe vs1 .wipe, D6.1, D6.2.1, D6.2.2, r6, I6, hI1, t2.trans (tt5.trans t6), hu⟩, ?_⟩
          rintro j k H7 ⟨rfl, hj, N7, W7, ρ7, out7, acc7, e7, c1, c2, c3, r7, I7, J7, t7, hm8⟩
          by_cases hjl : j < es.length
          · obtain ⟨dd, hdd⟩ : ∃ d, es[j]? = some d := ⟨es[j], by simp [hjl]⟩
            have hdr2 : es.drop j = dd :: es.drop (j + 1) := by
              rw [List.drop_eq_getElem_cons hjl]
              congr 1
              exact Option.some.inj ((List.getElem?_eq_getElem hjl).symm.trans hdd)
            rw [hdr2] at hm8
            simp only [lcL] at hm8
            refine .inr ⟨S1.go N7 H7 j J7 hjl, fun H => j + 1 ≤ es.length ∧ ∃ N W ρ out acc, ER c N W H (wipe σ4 vs1) (wipeE vs1 ρ) ∧ N D ∧ ¬ W D ∧ H D = some (.lst acc) ∧ Reps c.T N H acc out ∧ I N H ∧ I1 N H ∧ Stp N1 W1 H1 N W H ∧ lcL tf1 ft1 fe vs1 (es.drop (j + 1)) out ρ = .ok u,
              fun H' hN => ⟨es.length - (j + 1), by omega, rfl, hN⟩, fun y H8 hy2 => ?_⟩
            obtain ⟨k8, ry, J8⟩ := S1.yld N7 H7 j y H8 dd J7 e7.all hy2 hdd
            have e8 := e7.grow k8
            have t8 : Stp N7 W7 H7 N7 W7 H8 := .grow e7.all k8
            have I8 : I N7 H8 := S.keep _ _ _ _ _ _ _ _ I7 e7 t8
            cases hf2 : tf1 dd (wipeE vs1 ρ7) with
            | none => rw [hf2] at hm8; cases hm8
            | some ρ8 =>
              rw [hf2] at hm8
              dsimp only at hm8
              refine htg1 y _ H8 N7 W7 _ ρ8 _ dd e8 ry hf2 fun σ9 e9 l9 => ?_
              have l9' : Lke vs1 (wipe σ4 vs1) σ9 := l9.mono hjs1
              have l10 : Lke vs1 σ9 (wipe σ4 vs1) := ⟨l9'.1.symm, fun i h => (l9'.2 i h).symm⟩
              refine ⟨?_, N7, W7, ρ8, e9, ?_⟩
              · rw [l9'.eq, (Lke.wipe (vs := vs1) (σ := σ4)).eq]
              obtain ⟨⟨b, ρ9⟩, h9, hm9⟩ := Out.bind_eq_ok hm8
              rw [noE_eq h9]
              intro Na Wa Ha ta ea
              have Da : Na D ∧ ¬ Wa D ∧ Ha D = some (.lst acc7) := by
                have hD' : H8 D = some (.lst acc7) := k8 D _ c3
                refine ⟨ta.kN D c1 c2 (by rw [hD']; intro z; cases z), fun z => ?_, ta.keep D _ hD' c2⟩
                rcases ta.nW D z with y | y
                · exact c2 y
                · rw [hD'] at y; cases y
              have tta : Stp N7 W7 H7 Na Wa Ha := t8.trans ta
              have Ia : I Na Ha := S.keep _ _ _ _ _ _ _ _ I8 e9 ta
              have Ja : I1 Na Ha := S1.keep _ _ _ _ _ _ _ _ J8 e9 ta
              have ra : Reps c.T Na Ha acc7 out7 := r7.move (e7.mv tta)
              dsimp only at hm9 ⊢
              cases b with
              | false =>
                rw [if_neg Bool.false_ne_true] at hm9
                exact iteF ⟨hjl, Na, Wa, ρ9, out7, acc7, ea.wipe vs1 l10, Da.1, Da.2.1, Da.2.2, ra, Ia, Ja, t7.trans tta, hm9⟩
              | true =>
                rw [if_pos rfl] at hm9
                obtain ⟨⟨d9, ρa⟩, ha, hma⟩ := Out.bind_eq_ok hm9
                refine iteT ⟨Na, Wa, ρ9, ea, ?_⟩
                rw [noE_eq ha]
                intro Nb Wb Hb tb eb v rv
                have Db : Nb D ∧ ¬ Wb D ∧ Hb D = some (.lst acc7) := by
                  refine ⟨tb.kN D Da.1 Da.2.1 (by rw [Da.2.2]; intro z; cases z), fun z => ?_, tb.keep D _ Da.2.2 Da.2.1⟩
                  rcases tb.nW D z with w | w
                  · exact Da.2.1 w
                  · rw [Da.2.2] at w; cases w
                dsimp only at hma
                by_cases hz : out7.length < big
                · rw [if_pos hz] at hma
                  have rb : Reps c.T Nb Hb (acc7 ++ [v]) (out7 ++ [d9]) := (ra.move (ea.mv tb)).app (.cons rv .nil)
                  refine ⟨acc7, Db.2.2, by rw [ra.length]; exact Nat.lt_trans hz big_line, hjl, Nb, Wb, ρa, out7 ++ [d9], acc7 ++ [v], (eb.upd Db.1 Db.2.1 h0).wipe vs1 l10, Db.1, Db.2.1, upd_same, rb.move fun b u n z => ⟨n, ?_⟩, S.side _ _ _ _ (S.keep _ _ _ _ _ _ _ _ Ia ea tb) Db.1, S1.side _ _ _ _ (S1.keep _ _ _ _ _ _ _ _ Ja ea tb) Db.1, (t7.trans (tta.trans tb)).upd hD, hma⟩
                  rw [upd_ne (fun (q : b = D) => n (by rw [q]; exact Db.1))]
                  exact z
                · rw [if_neg hz] at hma
                  cases hma
          · have hn : es.drop j = [] := List.drop_eq_nil_of_le (by omega)
            rw [hn] at hm8
            cases hm8
            refine .inl ⟨S1.stop N7 H7 j J7 (Nat.le_of_not_lt hjl), hlt, N7, W7, ρ7, out7, acc7, ?_, c1, c2, c3, r7, I7, t7, hm7⟩
            have e10 := e7.wipe vs l6
            refine e10.re rfl ?_ rfl fun i s q => ?_
            · show (wipL vs 0 ρ7.sl).length = (wipL vs 0 (wipL vs1 0 ρ7.sl)).length
              rw [wipL_len, wipL_len, wipL_len]
            · refine .inr (.inl ⟨?_, rfl⟩)
              rw [show (wipeE vs ρ7).sl = wipL vs 0 ρ7.sl from rfl, wipL_get] at q
              rw [show (wipeE vs (wipeE vs1 ρ7)).sl = wipL vs 0 (wipL vs1 0 ρ7.sl) from rfl, wipL_get, wipL_get]
              cases h : ρ7.sl[i]? with
              | none => rw [h] at q; cases q
              | some s' =>
                rw [h] at q
                simp only [Option.map_some, Option.some.injEq, Nat.zero_add] at q ⊢
                by_cases hv : vs.contains i = true
                · rw [if_pos hv] at q ⊢; exact q
                · rw [if_neg hv] at q ⊢
                  rw [if_neg (fun z => hv (by simpa using hvs i (by simpa using z)))]
                  exact q
    · have hn : ds.drop i = [] := List.drop_eq_nil_of_le (by omega)
      rw [hn] at hm2
      cases hm2
      exact .inl ⟨S.stop N2 H2 i hI2 (Nat.le_of_not_lt hlt), q1 N2 W2 H2 t2 (ER.rest vs e1 t2 e2 .wipe) _ ⟨D, _, rfl, d1, d2, hH, h0, d3, .lst r2⟩⟩
theorem nd_lc2 {elt tg iter tg1 iter1 : Expr} {ifs ifs1 : List Expr} {scope : Scope} {own : List (Str × Nat)} {vs1 : List Nat} {pos : Pos} (hc : X.calm = true) (hN : X.N.Nodup) (hi : PI X tg iter (rdI c E fi)) (ok : BlkOk X.N X.env.scope scope own) (hv : ∀ i ∈ vs1, i ∈ own.map (·.2))
    (hg : ∀ (s : Shared) (H : Hp) (C : Addr) (cl : List (Str × Addr)) (fp : List Addr), PG (X.blk s H scope (compEnvC scope cl C X.env) fp) tg g) (htg : TgD c g tf js) (ht : ∀ (s : Shared) (H : Hp) (C : Addr) (cl : List (Str × Addr)) (fp : List Addr), PTs (X.blk s H scope (compEnvC scope cl C X.env) fp) ifs (rdT c E' ft))
    (hi1 : ∀ (s : Shared) (H : Hp) (C : Addr) (cl : List (Str × Addr)) (fp : List Addr), PI (X.blk s H scope (compEnvC scope cl C X.env) fp) tg1 iter1 (rdI c E' fi1))
    (hg1 : ∀ (s : Shared) (H : Hp) (C : Addr) (cl : List (Str × Addr)) (fp : List Addr), PG (X.blk s H scope (compEnvC scope cl C X.env) fp) tg1 g1) (htg1 : TgD c g1 tf1 js1) (ht1 : ∀ (s : Shared) (H : Hp) (C : Addr) (cl : List (Str × Addr)) (fp : List Addr), PTs (X.blk s H scope (compEnvC scope cl C X.env) fp) ifs1 (rdT c E' ft1))
    (he : ∀ (s : Shared) (H : Hp) (C : Addr) (cl : List (Str × Addr)) (fp : List Addr), PE (X.blk s H scope (compEnvC scope cl C X.env) fp) elt (rdD c E' fe)) (hjs : ∀ j ∈ js, j ∈ own.map (·.2) := by decide) (hjs1 : ∀ j ∈ js1, j ∈ vs1 := by decide) (hs : ∀ x, foldedSetIterable iter X.env x = pure x := by intro _; rfl) (hs1 : ∀ env x, foldedSetIterable iter1 env x = pure x := by intro _ _; rfl) :
    PE X (.ListComp elt [⟨tg, iter, ifs, 0⟩, ⟨tg1, iter1, ifs1, 0⟩] scope pos) (rdV c E (lcE2 fi tf ft fi1 tf1 ft1 fe (own.map (·.2)) vs1)) := PE.mono (pe_lc2 hc hN hi ok hv hg ht hi1 hg1 ht1 he hs hs1) fun σ H Q q => lc2_go htg htg1 hjs hjs1 hv q
theorem ns_setLc2 {i : Nat} {y : Str} {py : Pos} {elt tg iter tg1 iter1 : Expr} {ifs ifs1 : List Expr} {scope : Scope} {own : List (Str × Nat)} {vs1 : List Nat} {pos spos : Pos} (hc : X.calm = true) (hN : X.N.Nodup) (hy : X.N[i]? = some y) (hyl : X.env.scope.names.lookup y = some .local)
    (hsw : swapsWith (.ListComp elt [⟨tg, iter, ifs, 0⟩, ⟨tg1, iter1, ifs1, 0⟩] scope pos) (some (.Name y py)) spos.line X.env = pure true) (hi : PI X tg iter (rdI c E fi)) (ok : BlkOk X.N X.env.scope scope own) (hv : ∀ i ∈ vs1, i ∈ own.map (·.2))
    (hg : ∀ (s : Shared) (H : Hp) (C : Addr) (cl : List (Str × Addr)) (fp : List Addr), PG (X.blk s H scope (compEnvC scope cl C X.env) fp) tg g) (htg : TgD c g tf js) (ht : ∀ (s : Shared) (H : Hp) (C : Addr) (cl : List (Str × Addr)) (fp : List Addr), PTs (X.blk s H scope (compEnvC scope cl C X.env) fp) ifs (rdT c E' ft))
    (hi1 : ∀ (s : Shared) (H : Hp) (C : Addr) (cl : List (Str × Addr)) (fp : List Addr), PI (X.blk s H scope (compEnvC scope cl C X.env) fp) tg1 iter1 (rdI c E' fi1))
    (hg1 : ∀ (s : Shared) (H : Hp) (C : Addr) (cl : List (Str × Addr)) (fp : List Addr), PG (X.blk s H scope (compEnvC scope cl C X.env) fp) tg1 g1) (htg1 : TgD c g1 tf1 js1) (ht1 : ∀ (s : Shared) (H : Hp) (C : Addr) (cl : List (Str × Addr)) (fp : List Addr), PTs (X.blk s H scope (compEnvC scope cl C X.env) fp) ifs1 (rdT c E' ft1))
    (he : ∀ (s : Shared) (H : Hp) (C : Addr) (cl : List (Str × Addr)) (fp : List Addr), PE (X.blk s H scope (compEnvC scope cl C X.env) fp) elt (rdD c E' fe)) (hjs : ∀ j ∈ js, j ∈ own.map (·.2) := by decide) (hjs1 : ∀ j ∈ js1, j ∈ vs1 := by decide) (hs : ∀ x, foldedSetIterable iter X.env x = pure x := by intro _; rfl) (hs1 : ∀ env x, foldedSetIterable iter1 env x = pure x := by intro _ _; rfl) :
    PS X (.Assign [.Name y py] (.ListComp elt [⟨tg, iter, ifs, 0⟩, ⟨tg1, iter1, ifs1, 0⟩] scope pos) spos) (rdS c E (setE i (lcE2 fi tf ft fi1 tf1 ft1 fe (own.map (·.2)) vs1))) := PS.mono (ps_setLc2 hc hN hy hyl hsw hi ok hv hg ht hi1 hg1 ht1 he hs hs1) fun D σ H q => by
  obtain ⟨N, W, ρ, er, q⟩ := q
  exact lc2_go htg htg1 hjs hjs1 hv ⟨N, W, ρ, er, (satS.bindB (σ := σ) q).imp fun N1 W1 H1 r1 t1 e1 q1 v1 rv1 => by
    obtain ⟨W2, t2, e2⟩ := ER.put (i := i) t1 e1 rv1
    exact q1.1 N1 W2 H1 _ t2 e2⟩
end
end ND

end
section
set_option Elab.async false
set_option linter.all false
set_option maxRecDepth 100000
/-! ND15: texts, displays of dicts, keyword-only parameters. -/
namespace ND
open PySem PySem.Spec PyProof.Rows L2
def retN : FS := fun ρ => .ok (.rt .non false, ρ)
def brkS : FS := fun ρ => .ok (.bk, ρ)
def cntS : FS := fun ρ => .ok (.ct, ρ)
/-- the built-in names that stand as they are -/
structure Bl (mg : Str → Option Value) : Prop where
  len : mg "len" = none
  isinstance : mg "isinstance" = none
  int_ : mg "int" = none
  str_ : mg "str" = none
  bool_ : mg "bool" = none
  list_ : mg "list" = none
  tuple_ : mg "tuple" = none
  dict_ : mg "dict" = none
  all : mg "all" = none
  any : mg "any" = none
  sum : mg "sum" = none
  range : mg "range" = none
  zip : mg "zip" = none
  sorted : mg "sorted" = none
  min : mg "min" = none
  max : mg "max" = none
  enumerate : mg "enumerate" = none
section
variable {X : Cx} {c : Cn} {E : WX} {pos p px apos cpos : Pos} {a b e : Expr} {fa fb f : FD} {x : Str} {id : String}
/-! ### reversed copies, copies -/
def revL : D → Option (List D)
  | .lst ds => some ds.reverse
  | _ => none
theorem nd_rev {k : Nat} {p1 p2 p3 : Pos} (he : PE X e (rdQ c E f)) : PE X (.Subscript e (.Slice none none (some (.UnaryOp .USub (.Constant (.int 1) k p1) p2)) p3) pos) (rdV c E (bltQL revL f)) := PE.mono (pe_revL he) fun σ H Q ⟨N, W, ρ, er, q⟩ => by
  refine ⟨N, W, ρ, er, q.bind.imp fun N1 W1 H1 r1 t1 e1 q1 v rv => ?_⟩
  cases hg : revL r1.1 with
  | none => rw [hg] at q1; exact q1.elim
  | some es =>
    rw [hg] at q1
    unfold revL at hg
    split at hg <;> cases hg
    rename_i ds hd
    rw [hd] at rv
    obtain ⟨a, vs, rfl, h2, h3⟩ := rv.seq
    exact ⟨a, vs, rfl, .of h2, fun p hp => new_list (.refl _ _ _) e1 hp h3.rev fun N' W' H' t e v rv => q1 N' W' H' t e v (rv.back t1)⟩
theorem nd_qLB {g : D → Option (List D)} (hc : CallQL X (.builtin id) g) (hg : Gl X x) (hm : X.mg x = none) (hv : bootBuiltins x = some (.builtin id)) (ha : PE X e (rdQ c E f)) (hn : x ≠ "__name__" := by decide) (hdb : (x == ("__debug__" : Str)) = false := by decide)
    (hs : starEach [e] X.env = [(false, eval e X.env)] := by rfl) : PE X (.Call (.Name x p) [e] [] pos) (rdV c E (bltQL g f)) := by
  obtain ⟨r, h1, h2⟩ := hc
  exact PE.mono (pe_callB h1 hg hm hv (pa_q ha hs) hn hdb hs (by rfl)) fun σ H Q q => bltQL_go h2 q
/-! ### texts -/
theorem call_strI : CallR X (.type "str") (fun xs H Q => ∃ i, xs = [.int i] ∧ i.natAbs.log2 < 1920 ∧ Q (.str (toString i)) H) := call_str_int
def strI : D → Option D
  | .int i => if i.natAbs.log2 < 1920 then some (.str (Str.ofString (toString i))) else none
  | _ => none
theorem cq_strI : CallQ X (.type "str") strI := ⟨_, call_str_int, fun c N H v d e Q al r h q => by
  unfold strI at h
  split at h
  · split at h <;> cases h
    cases r.int
    exact ⟨_, rfl, by assumption, q _ H (fun _ _ h => h) (.str _)⟩
  · cases h⟩
/-- the signs of a text -/
def signs (x : Str) : List V := x.cps.toList.map fun ch => .str ⟨#[ch]⟩
theorem signs_vals {x : Str} {acc : Array Value} (h : ItemsOf (SignAt x) acc x.cps.size) : Vals (signs x) acc.toList := by
  have go : ∀ (l : List Nat) (us : List Value), us.length = l.length → (∀ (j : Nat) (v : Value), us[j]? = some v → ∃ c u, l[j]? = some c ∧ v = Value.str ⟨#[c]⟩ u) → Vals (l.map fun ch => V.str ⟨#[ch]⟩) us := by
    intro l
    induction l with
    | nil => intro us hl _; cases us with
      | nil => exact .nil
      | cons _ _ => simp at hl
    | cons ch l ih =>
      intro us hl hh
      cases us with
      | nil => simp at hl
      | cons u us =>
        obtain ⟨c', t, h1, h2⟩ := hh 0 u rfl
        simp only [List.getElem?_cons_zero, Option.some.injEq] at h1
        subst h1
        exact .cons ⟨t, h2⟩ (ih us (by simpa using hl) fun j v hv => by simpa using hh (j + 1) v (by simpa using hv))
  refine go x.cps.toList acc.toList (by simp [h.1]) fun j v hv => ?_
  obtain ⟨ch, u, h1, h2⟩ := h.2 j v (by simpa using hv)
  exact ⟨ch, u, by simpa using h1, h2⟩
theorem call_listS (hc : X.calm = true) : CallR X (.type "list") (fun xs H Q => ∃ z, xs = [.str z] ∧ z.length ≤ sizeLine ∧ ∀ p, H p = none → Q (.ref p) (upd H p (.lst (signs z)))) := by
  intro pins s σ H xs us Q I r h
  obtain ⟨z, rfl, hz, q⟩ := h
  obtain ⟨u, rfl, ru⟩ := vals1 r
  obtain ⟨t, rfl⟩ := ru
  refine PySem.call_list_str (I.ok.hd hc) z t (fun h' tk acc' c' hk hS hi => ?_) hz
  have hn := I.hok.fresh (Nat.le_refl s.heap.objs.size)
  have hl : (signs z).length ≤ sizeLine := by
    unfold signs
    rw [List.length_map, Array.length_toList]
    exact hz
  exact ⟨.ref s.heap.objs.size, _, I.laid (a := s.heap.objs.size) (o := .lst (signs z)) (t' := tk) hk (Nat.le_refl _) ⟨hl, acc'.toList, c', signs_vals hi, hS⟩, rfl, q _ hn⟩
def listA : D → Option (List D)
  | .lst ds => some ds
  | .tup ds => some ds
  | .str z => if z.length ≤ big then some (z.cps.toList.map fun ch => .str ⟨#[ch]⟩) else none
  | _ => none
theorem signs_rep {T : Tg} {N : AP1} {H : Hp} (l : List Nat) : Reps T N H (l.map fun ch => V.str ⟨#[ch]⟩) (l.map fun ch => D.str ⟨#[ch]⟩) := by
  induction l with
  | nil => exact .nil
  | cons c l ih => exact .cons (.str _) ih
theorem cl_listA (hc : X.calm = true) : CallQL X (.type "list") listA := ⟨_, call_list_of.or (call_listS hc), fun c N H v d es Q r h q => by
  unfold listA at h
  split at h
  · cases h
    obtain ⟨a, vs, rfl, h2, h3⟩ := r.seq
    exact .inl ⟨a, vs, rfl, .inl (.of h2), fun l hl => q l vs hl h3⟩
  · cases h
    obtain ⟨a, vs, rfl, h2, h3⟩ := r.tup
    exact .inl ⟨a, vs, rfl, .inr (.of h2), fun l hl => q l vs hl h3⟩
  · split at h <;> cases h
    cases r.str
    exact .inr ⟨_, rfl, Nat.le_of_lt (Nat.lt_of_le_of_lt (by assumption) big_line), fun l hl => q l _ hl (signs_rep _)⟩
  · cases h⟩
/-- x * n, a text -/
def rpt (x : Str) (n : Nat) : Str := ⟨(List.replicate n x.cps).foldl (· ++ ·) #[]⟩
theorem op_repS : OpR X (binaryOp .Mult) (fun x y H Q => ∃ z n, x = .str z ∧ y = .int n ∧ 2 ≤ n ∧ n ≤ 10000 ∧ 1 ≤ z.length ∧ z.length ≤ 1000 ∧ Q (.str (rpt z n.toNat)) H) := by
  intro pins s σ H x y v u Q I rx ry h
  obtain ⟨z, n, rfl, rfl, h1, h2, h3, h4, q⟩ := h
  obtain ⟨t, rfl⟩ := rx
  obtain ⟨t', rfl⟩ := ry
  have e1 : (n == 1 || z.length == 0) = false := by
    rw [Bool.or_eq_false_iff]
    exact ⟨beq_eq_false_iff_ne.mpr (by omega), beq_eq_false_iff_ne.mpr (by omega)⟩
  have hlen : (rpt z n.toNat).length = z.length * n.toNat := by
    unfold rpt Str.length
    have : ∀ (k : Nat) (acc : Array Nat), ((List.replicate k z.cps).foldl (· ++ ·) acc).size = acc.size + z.cps.size * k := by
      intro k
      induction k with
      | zero => intro acc; simp
      | succ k ih =>
        intro acc
        rw [List.replicate_succ, List.foldl_cons, ih, Array.size_append, Nat.mul_succ]
        omega
    rw [this]; simp [Str.length]
  have hm : z.length * n.toNat ≤ 10000000 := by
    have a1 : n.toNat ≤ 10000 := by omega
    exact Nat.le_trans (Nat.mul_le_mul h4 a1) (by decide)
  refine PySem.P.mul_str (by rw [decide_eq_false (by omega), decide_eq_false (by omega)]; rfl) (fun _ _ => ?_) (fun _ _ => ?_) ?_
  · have hz : (z.length : Int) ≤ 1000 := by omega
    have hd : (922337203685477 : Int) ≤ (2 ^ 63 - 1) / n := by
      rw [Int.le_ediv_iff_mul_le (by omega)]
      omega
    omega
  · unfold PySem.Builtin.Str.tooLong
    simp only [decide_eq_false_iff_not]
    rw [show sizeLine = 16777216 from sizeLine_eq]
    omega
  · rw [if_neg (by omega), if_neg (by rw [e1]; exact Bool.false_ne_true)]
    refine ⟨?_, .str _, H, I.tok _, ⟨_, rfl⟩, q⟩
    show (rpt z n.toNat).length ≤ _
    rw [hlen]
    have : sizeLine = 16777216 := sizeLine_eq
    first | omega | exact Nat.le_trans hm (by decide)
def repS : D → D → Option D
  | .str z, .int n => if 2 ≤ n ∧ n ≤ 10000 ∧ 1 ≤ z.length ∧ z.length ≤ 1000 then some (.str (rpt z n.toNat)) else none
  | _, _ => none
theorem od_reps : OpD X (binaryOp .Mult) repS := opd_keep op_repS fun T N H v1 v2 d1 d2 d r1 r2 e => by
  unfold repS at e
  split at e <;> try cases e
  split at e <;> cases e
  rename_i hc
  exact ⟨_, .str _, fun Q q => ⟨_, _, r1.str_inv, r2.int_inv, hc.1, hc.2.1, hc.2.2.1, hc.2.2.2, q⟩⟩
end
end ND

end
section
set_option Elab.async false
set_option linter.all false
set_option maxRecDepth 100000
/-! ND16: join, displays of dicts, keyword-only parameters. -/
namespace ND
open PySem PySem.Spec PyProof.Rows L2
section
variable {X : Cx} {c : Cn} {E : WX} {pos p px apos cpos : Pos} {o e : Expr} {fo fe f : FD} {x : Str}
def joinD : D → D → Option D
  | .str a, .lst ds => (strsD ds).bind fun ys => if (ys.map (·.length)).sum + ys.length * a.length ≤ big then some (.str (Txt.join a ys)) else none
  | _, _ => none
def joinE (fo fe : FD) : FD := fun ρ => (fo ρ).bind fun r => match r.1 with
  | .str _ => (fe r.2).bind fun s => ofO (joinD r.1 s.1) s.2
  | _ => .no
theorem nd_join (ho : PE X o (rdD c E fo)) (he : PE X e (rdQ c E fe)) (hbase : attributeBase o "join" X.env (eval o X.env) = eval o X.env := by rfl)
    (hfew : ((backTo cpos (starEach [e] X.env)).all (fun x => !x.1) && (backToKw cpos (keywordEach [] X.env)).all (fun x => x.1.isSome)
      && decide (([e] : List Expr).length + ([] : List Keyword).length + (if ([] : List Keyword).isEmpty then 0 else 1) < 30)) = true := by rfl)
    (hline : (apos.endLine == cpos.line) = true := by rfl) (hs : starEach [e] X.env = [(false, eval e X.env)] := by rfl) : PE X (.Call (.Attribute o "join" apos) [e] [] cpos) (rdD c E (joinE fo fe)) := by
  refine PE.mono (pe_bm PySem.F.plainAttrs_str PySem.F.slot_str_join PySem.F.type_str_join mt_join ho (pa_q he hs) hbase hfew hline hs (by rfl)) fun σ H Q ⟨N, W, ρ, er, q⟩ => ?_
  refine ⟨N, W, ρ, er, q.bind.imp fun N1 W1 H1 r1 t1 e1 q1 v1 rv1 => ?_⟩
  split at q1
  · rename_i a ha
    rw [ha] at rv1
    cases rv1.str_inv
    refine ⟨rfl, N1, W1, r1.2, e1, q1.bind.imp fun N2 W2 H2 r2 t2 e2 q2 v2 rv2 => ?_⟩
    rw [ha] at q2
    obtain ⟨d, hd, q3⟩ := ofO_ok q2 e2
    unfold joinD at hd
    split at hd
    · rename_i a' ds ha' hds
      cases ha'
      rw [Option.bind_eq_some_iff] at hd
      obtain ⟨ys, h1, h2⟩ := hd
      split at h2 <;> cases h2
      rename_i hz
      rw [hds] at rv2
      obtain ⟨b, vs, rfl, h3, h4⟩ := rv2.seq
      rw [strs_rep h4 h1] at h3
      exact ⟨_, b, ys, rfl, rfl, .inl (.of h3), Nat.le_trans hz (by decide), q3 N2 W2 H2 (.refl _ _ _) e2 _ (.str _)⟩
    · cases hd
  · exact q1.elim
end

/-! ### {k: v, ..} -/
def keyOf : D → Option Key
  | .int i => some (.inl i)
  | .str x => some (.inr x)
  | _ => none
theorem keyOf_ok {T : Tg} {N : AP1} {H : Hp} {v : V} {d : D} {k : Key} (r : Rep T N H v d) (h : keyOf d = some k) : v = kV k := by
  unfold keyOf at h
  split at h <;> cases h
  · exact r.int_inv
  · exact r.str_inv
abbrev FPs := En → Out (List (Key × D) × En)
def pnil : FPs := fun ρ => .ok ([], ρ)
def pcons (fk fv : FD) (r : FPs) : FPs := fun ρ => (fk ρ).bind fun a => (fv a.2).bind fun b => (r b.2).bind fun s => match keyOf a.1 with
  | some k => .ok ((k, b.1) :: s.1, s.2)
  | none => .no
def dicE (fp : FPs) : FV := fun ρ => (fp ρ).bind fun r => if (r.1.map (·.1)).Nodup ∧ r.1.length ≤ 15 then .ok ((.dic r.1, true), r.2) else .no
def rdP (c : Cn) (E : WX) (f : FPs) : L2.St → Hp → (List (V × V) → Hp → Prop) → Prop := fun σ H Q => ∃ N W ρ, ER c N W H σ ρ ∧ sat c N W H σ E (fun N' _ H' r => ∀ kvs, RepK c.T N' H' kvs r.1 → Q (kvs.map fun kv => (kV kv.1, kv.2)) H') (f ρ)
/-- the pairs' readings -/
def PrOk (c : Cn) (E : WX) (trs : List (TE × TE)) (f : FPs) : Prop := ∀ σ H Q, rdP c E f σ H Q → tPairs trs σ H Q
section
variable {X : Cx} {c : Cn} {E : WX} {pos : Pos}
theorem pr_nil : PrOk c E [] pnil := fun σ H Q ⟨N, W, ρ, er, q⟩ => q.here er [] .nil
theorem pr_cons {fk fv : FD} {r : FPs} {trs : List (TE × TE)} (h : PrOk c E trs r) : PrOk c E ((rdD c E fk, rdD c E fv) :: trs) (pcons fk fv r) := fun σ H Q ⟨N, W, ρ, er, q⟩ => by
  refine ⟨N, W, ρ, er, q.bind.imp fun N1 W1 H1 r1 t1 e1 q1 v1 rv1 => ?_⟩
  refine ⟨N1, W1, r1.2, e1, q1.bind.imp fun N2 W2 H2 r2 t2 e2 q2 v2 rv2 => ?_⟩
  refine h σ H2 _ ⟨N2, W2, r2.2, e2, q2.bind.imp fun N3 W3 H3 r3 t3 e3 q3 kvs rk => ?_⟩
  cases hk : keyOf r1.1 with
  | none => rw [hk] at q3; exact q3.elim
  | some k =>
    rw [hk] at q3
    have ek := keyOf_ok rv1 hk
    have := q3.here e3 ((k, v2) :: kvs) (.cons (rv2.move (e2.mv t3)) rk)
    rw [ek]
    exact this
theorem merge_nodup : ∀ (kvs acc : List (Key × V)), ((acc ++ kvs).map (·.1)).Nodup → mergeK acc kvs = acc ++ kvs
  | [], acc, _ => by simp [mergeK]
  | p :: r, acc, h => by
    have hn : valV acc p.1 = none := by
      cases e : valV acc p.1 with
      | none => rfl
      | some v =>
        exfalso
        have hm : p.1 ∈ acc.map (·.1) := by
          unfold valV at e
          rw [Option.map_eq_some_iff] at e
          obtain ⟨q, hq, _⟩ := e
          have h1 := List.mem_of_find?_eq_some hq
          have h2 := List.find?_some hq
          rw [List.mem_map]
          exact ⟨q, h1, by simpa using h2⟩
        rw [List.map_append, List.map_cons] at h
        exact (List.nodup_append.mp h).2.2 _ hm _ (List.mem_cons_self ..) rfl
    show mergeK (putK acc p.1 p.2) r = _
    rw [putK_new _ hn, merge_nodup r (acc ++ [(p.1, p.2)]) (by simpa using h)]
    simp
theorem repk_keys {T : Tg} {N : AP1} {H : Hp} : ∀ {kvs : List (Key × V)} {ks : List (Key × D)}, RepK T N H kvs ks → kvs.map (·.1) = ks.map (·.1)
  | _, _, .nil => rfl
  | _, _, .cons _ r => by simp [repk_keys r]
theorem repk_len {T : Tg} {N : AP1} {H : Hp} {kvs : List (Key × V)} {ks : List (Key × D)} (r : RepK T N H kvs ks) : kvs.length = ks.length := by
  have := congrArg List.length (repk_keys r)
  simpa using this
theorem nd_dic {keys : List (Option Expr)} {values : List Expr} {trs : List (TE × TE)} {fp : FPs} (h : PPs X pos keys values trs) (hp : PrOk c E trs fp) (hall : keys.all (·.isSome) = true := by rfl) (hl : keys.length = values.length := by rfl) (h0 : keys ≠ [] := by exact fun z => nomatch z)
    (h15 : keys.length ≤ 15 := by decide) : PE X (.Dict keys values pos) (rdV c E (dicE fp)) := PE.mono (pe_disp h hall hl h0 h15) fun σ H Q ⟨N, W, ρ, er, q⟩ => by
  intro p hpn
  have h00 := h0_none er hpn
  have ea := er.apart hpn (o := .dK [])
  refine hp σ _ _ ⟨_, W, ρ, ea, ?_⟩
  unfold dicE at q
  cases hf : fp ρ with
  | no => rw [hf] at q; exact q
  | err x ρ' =>
    rw [hf] at q
    exact fun N' W' H' cv ad t e r => q N' W' H' cv ad ((Stp.apart hpn).trans t) e r
  | ok r =>
    rw [hf] at q
    simp only [Out.bind_ok] at q
    intro N2 W2 H2 t2 e2 kvs rk
    by_cases hc : (r.1.map (·.1)).Nodup ∧ r.1.length ≤ 15
    · rw [if_pos hc] at q
      have hD : upd H p (.dK []) p = some (.dK []) := upd_same
      have nW : ¬ W p := fun z => er.all p (er.wn p z) hpn
      have D2 : N2 p ∧ ¬ W2 p ∧ H2 p = some (.dK []) := by
        refine ⟨t2.kN p (.inr rfl) nW (by rw [hD]; intro z; cases z), fun z => ?_, t2.keep p _ hD nW⟩
        rcases t2.nW p z with w | w
        · exact nW w
        · rw [hD] at w; cases w
      have hm : mergeK [] kvs = kvs := by
        have := merge_nodup kvs [] (by rw [List.nil_append, repk_keys rk]; exact hc.1)
        simpa using this
      refine ⟨D2.2.2, kvs, rfl, by rw [repk_len rk]; exact hc.2, ?_⟩
      rw [hm]
      refine q N2 W2 _ (((Stp.apart hpn).trans t2).upd hpn) (e2.upd D2.1 D2.2.1 h00) _ ⟨p, _, rfl, D2.1, D2.2.1, hpn, h00, upd_same, .dic (rk.move fun b u n z => ⟨n, ?_⟩)⟩
      rw [upd_ne (fun (y : b = p) => n (by rw [y]; exact D2.1))]
      exact z
    · rw [if_neg hc] at q
      exact q.elim
end

/-! ### keyword-only parameters -/
section
variable {P : Program} {w : World} {K : PySem.W.Frag} {mg : Str → Option Value} {base : Heap}
theorem fn_ndD {T : Tg} {x qual : Str} {params : Arguments} {body : List Stmt} {scope : Scope} {dvs : List V} {kws : List (Str × V)} {f : Addr} {fd : FuncData} {NN ps : List Str} {k n : Nat} {hb : Bool} {g : FS} (F : FunD K x qual params body scope dvs kws f fd) (S : FnScope NN ps scope) (hn : ps.length = n + (if hb = true then 1 else 0))
    (hbody : ∀ (cdv : Value) (A : Around) (outer : List Env) (s : Shared) (H : Hp) (E : XK) (c : Cn), c.T = T → Room k (A.deeper (envOfC qual scope s.heap.objs.size f cdv)) →
      Takes (cxOf (L2.CX P w) P w K mg base NN qual scope f cdv A outer s H E) (EX E) → PassesOwn (model P w) (cxOf (L2.CX P w) P w K mg base NN qual scope f cdv A outer s H E).A (cxOf (L2.CX P w) P w K mg base NN qual scope f cdv A outer s H E).env (cxOf (L2.CX P w) P w K mg base NN qual scope f cdv A outer s H E).xe →
      PSs (cxOf (L2.CX P w) P w K mg base NN qual scope f cdv A outer s H E) body (rdS c (EX E) g)) : FnOk P w K mg base (L2.CX P w) (k + 1) f fd ps (spF T hb n (runB hb NN.length g)) := by
  have hpl : ps.length ≤ NN.length := by have := congrArg List.length S.pre; rw [List.length_take] at this; omega
  have lenP : ∀ vs H Q E, spF T hb n (runB hb NN.length g) vs H Q E → vs.length = ps.length := fun vs H Q E h => (spF_len h).trans hn.symm
  refine F.ok S lenP fun cdv A outer s H vs Q E hr hsp => ?_
  have tk : Takes (cxOf (L2.CX P w) P w K mg base NN qual scope f cdv A outer s H E) (EX E) := takes_of rfl rfl rfl rfl
  exact body_nd (fun c hc => hbody cdv A outer s H E c hc hr tk (passes_of rfl)) (lenP _ _ _ _ hsp) hpl hsp
/-- one keyword-only parameter behind n others: how the arguments bind -/
theorem calK_of {T : Tg} {x : Str} {st : Stmt} {f : Addr} {fd : FuncData} {k n : Nat} {ps : List Str} {kn : Str} {dv : V} {dd : D} {m : MF} (F : FunD K x x (defArgs st) (defBody st) (defScope st) [] [(kn, dv)] f fd) (G : FnOk P w K mg base (L2.CX P w) k f fd ps (spF T false (n + 1) m)) (hg : mg x = some (.ref f))
    (hr : ∀ N H, Rep T N H dv dd) (hl : ps.length = n + 1)
    (b1 : ∀ (D : Addr) (doc pm : Value) (an : Option Addr) (cdv ct : Value) (us ks : List Value), us.length = n → ks.length = 1 → KwChain D ([kn].zip ks) (bindArgs (PySem.W.fnOf x x (defArgs st) (defBody st) (defScope st) .none (.ref D) doc pm an cdv ct) ⟨us, []⟩) (ps.zip (us ++ ks)))
    (b2 : ∀ (D : Addr) (doc pm : Value) (an : Option Addr) (cdv ct : Value) (us ws : List Value), us.length = n → ws.length = 1 → bindArgs (PySem.W.fnOf x x (defArgs st) (defBody st) (defScope st) .none (.ref D) doc pm an cdv ct) ⟨us, [kn].zip ws⟩ = pure (ps.zip (us ++ ws))) :
    ∃ f fd ps dvs ds g, FnOk P w K mg base (L2.CX P w) k f fd ps (spF T false (n + [kn].length) m) ∧ mg x = some (.ref f) ∧ PySem.W.keepIn K (.ref f) = true ∧ Vals dvs ds ∧ Binds K fd ps ds ∧ (∀ N H, Reps T N H dvs [dd]) ∧ [dd].length = [kn].length ∧
    KBn K fd ps n [kn] g (fun vs zs => vs ++ zs) := by
  obtain ⟨ds, v1, v2⟩ := F.binds0 (ps := ps) n (by intro z; cases z) (by rw [hl]; rfl) fun D doc pm an cdv ct us ks h1 h2 => b1 D doc pm an cdv ct us ks h1 h2
  obtain ⟨mv, kb⟩ := F.kbinds0 (ps := ps) n [kn] [] (fun us _ ws => us ++ ws) (by intro z; cases z) (fun q hq => by cases hq) (fun r1 _ r3 => Vals.append r1 r3) fun D doc pm an cdv ct us mv ws h1 _ h3 => b2 D doc pm an cdv ct us ws h1 h3
  exact ⟨f, fd, ps, _, ds, _, G, hg, F.kp, v1, v2, fun N H => .cons (hr N H) .nil, rfl, kb⟩
end
structure CalK (P : Program) (w : World) (K : PySem.W.Frag) (mg : Str → Option Value) (base : Heap) (T : Tg) (x : Str) (k n : Nat) (ks : List Str) (dd : List D) (m : MF) : Prop where
  ex : ∃ f fd ps dvs ds g, FnOk P w K mg base (L2.CX P w) k f fd ps (spF T false (n + ks.length) m) ∧ mg x = some (.ref f) ∧ PySem.W.keepIn K (.ref f) = true ∧ Vals dvs ds ∧ Binds K fd ps ds ∧ (∀ N H, Reps T N H dvs dd) ∧ dd.length = ks.length ∧
    KBn K fd ps n ks g (fun vs zs => vs ++ zs)
/-- f(a, ..): the keyword-only ones as they stand; f(a, .., k = v, ..) -/
def callDf (m : MF) (dd : List D) (fa : FA) : FV := fun ρ => (fa ρ).bind fun r => match m (r.1 ++ dd) default with
  | .ok (v, _) => .ok (v, r.2)
  | .err x _ => .err x r.2
  | .no => .no
def callK (m : MF) (fa fk : FA) : FV := fun ρ => (fa ρ).bind fun r => (fk r.2).bind fun s => match m (r.1 ++ s.1) default with
  | .ok (v, _) => .ok (v, s.2)
  | .err x _ => .err x s.2
  | .no => .no
/-! calls with keywords, what is raised wished for at the caller's slots -/
section
variable {X : Cx} {k n : Nat} {f : Addr} {fd : FuncData} {ps ks : List Str} {sp : Sp} {E : L2.St → XK} {x : Str} {p pos : Pos} {e : Expr} {es : List Expr} {kws : List Keyword} {t tkw : TA} {g : List Value → List Value → List Value} {gV : List V → List V → List V}
def tCallNS (n m : Nat) (sp : Sp) (gV : List V → List V → List V) (E : L2.St → XK) (t tkw : TA) : TE := fun σ H Q => t σ H fun as H1 => tkw σ H1 fun bs H2 => as.length = n ∧ bs.length = m ∧ sp (gV as bs) H2 Q (E σ)
theorem nd_runNS {pins : List (Addr × Obj)} {σ : L2.St} {H : Hp} {s : Shared} {Q : VK} {us ws : List Value} {as bs : List V} (F : FnOk X.prog X.w X.K X.mg X.base (L2.CX X.prog X.w) k f fd ps sp) (room : Room k X.A)
    (B : KBn X.K fd ps n ks g gV) (out : PassesAt (L2.CX X.prog X.w) X σ (E σ)) (I : Inv X pins σ H s) (r1 : Vals as us) (r2 : Vals bs ws) (l1 : as.length = n) (l2 : bs.length = ks.length)
    (h : sp (gV as bs) H Q (E σ)) : wpAny (model X.prog X.w) X.A (call (.ref f) us (ks.zip ws)) (EP X pins σ Q) X.xe s := by
  have to := B.to s us ws I.kIn (r1.length.symm.trans l1) (r2.length.symm.trans l2)
  have run := F.run X.A X.stack s H ⟨us, ks.zip ws⟩ (g us ws) (gV as bs) Q (E σ) room I.env0 to (B.rel r1 r2) h
  refine wpAny_call (codeAny_mono run fun res s2 z => ?_)
  match res, z with
  | .error er, z => exact out pins H s er s2 I z
  | .ok (.ret u), z => exact I.after z
  | .ok .next, z => exact z.elim
  | .ok .brk, z => exact z.elim
  | .ok .cont, z => exact z.elim
theorem nd_peNS (F : FnOk X.prog X.w X.K X.mg X.base (L2.CX X.prog X.w) k f fd ps sp) (room : Room k X.A) (hg : Gl X x) (hm : X.mg x = some (.ref f)) (kp : PySem.W.keepIn X.K (.ref f) = true)
    (B : KBn X.K fd ps n ks g gV) (out : ∀ σ, PassesAt (L2.CX X.prog X.w) X σ (E σ)) (ha : PA X (e :: es) t) (hk : PK X kws tkw)
    (all : (backToKw pos (keywordEach kws X.env)).all (·.1.isSome) = true) (names : (backToKw pos (keywordEach kws X.env)).filterMap (·.1) = ks) (db : (x == ("__debug__" : Str)) = false)
    (first : starEach (e :: es) X.env = (false, eval e X.env) :: starEach es X.env) (plain : ((backTo pos (starEach (e :: es) X.env)).any (·.1) || (backToKw pos (keywordEach kws X.env)).any (·.1.isNone)) = false) :
    PE X (.Call (.Name x p) (e :: es) kws pos) (tCallNS n ks.length sp gV E t tkw) := by
  refine ⟨fun pins s σ H Q I h => wpAny_Call_Name_kw (ld_glob I hg hm ?_ db)⟩
  refine PySem.W.callWith_KW (h₀ := X.base) I.ok.mod.kin kp all (thn (ha.run pos pins s σ H _ I h) fun us s1 z1 => ?_) plain first
  obtain ⟨as, H1, I1, r1, q1⟩ := z1
  refine thn (hk.run pos pins s1 σ H1 _ I1 q1) fun ws s2 z2 => ?_
  obtain ⟨bs, H2, I2, r2, l1, l2, q2⟩ := z2
  refine ⟨I2.kIn, ?_⟩
  rw [names]
  exact nd_runNS F room B (out σ) I2 r1 r2 l1 l2 q2
end
section
variable {X : Cx} {c : Cn} {E : WX} {T : Tg} {x : Str} {k j n : Nat} {ks : List Str} {dd : List D} {m : MF} {e : Expr} {es : List Expr} {fa fk : FA} {p pos : Pos} {kws : List Keyword}
theorem PK.mono {t t' : TA} (h : PK X kws t) (m : ∀ σ H Q, t' σ H Q → t σ H Q) : PK X kws t' := ⟨fun p pins s σ H Q I q => h.run p pins s σ H Q I (m σ H Q q)⟩
theorem nk_nil : PK X [] (rdA c E anil) := PK.mono pk_nil fun σ H Q ⟨N, W, ρ, er, q⟩ => q.here er _ .nil
theorem nk_cons {f : FD} {nm : Option Str} {kpos : Pos} (ha : PE X e (rdD c E f)) (hr : PK X kws (rdA c E fk)) : PK X (⟨nm, e, kpos⟩ :: kws) (rdA c E (acons f fk)) := PK.mono (pk_cons ha hr) fun σ H Q ⟨N, W, ρ, er, q⟩ => by
  refine ⟨N, W, ρ, er, q.bind.imp fun N1 W1 H1 r1 t1 e1 q1 v1 rv1 => ?_⟩
  refine ⟨N1, W1, r1.2, e1, q1.bind.imp fun N2 W2 H2 r2 t2 e2 q2 v2 rv2 => ?_⟩
  exact q2.here e2 _ (.cons (rv1.move (e1.mv t2)) rv2)
theorem spP_go {N W N1 W1 : AP1} {H H1 : Hp} {σ : L2.St} {ρ1 : En} {vs : List V} {ds : List D} {Q : VK} {n : Nat} (t1 : Stp N W H N1 W1 H1) (e1 : ER c N1 W1 H1 σ ρ1) (rv : Reps c.T N1 H1 vs ds) (hn : ds.length = n)
    (q : sat c N W H σ E (fun N' W' H' r => ∀ v, VR c H N' W' H' v r.1.1 r.1.2 → Q v H') (match m ds default with | .ok (v, _) => Out.ok (v, ρ1) | .err x _ => Out.err x ρ1 | .no => .no)) : spF c.T false n m vs H1 Q (WE E σ) := by
  refine ⟨N1, none, c.bl, ds, default, vs, ⟨rfl, rfl⟩, e1.all, rv, hn, ?_⟩
  cases hm : m ds default with
  | no => rw [hm] at q; exact q
  | err x' ρ' =>
    rw [hm] at q
    intro N' cv ad H' F' _ rv'
    obtain ⟨e2, t2⟩ := e1.called F' (.inl ⟨rfl, rfl⟩)
    exact q N' W1 H' cv ad (t1.trans t2) e2 rv'
  | ok r2 =>
    obtain ⟨⟨d, fr⟩, ρ2⟩ := r2
    rw [hm] at q
    intro N' v H' F' _ rv'
    obtain ⟨e2, t2⟩ := e1.called F' (.inl ⟨rfl, rfl⟩)
    refine q N' W1 H' (t1.trans t2) e2 v ?_
    cases fr with
    | false => exact rv'
    | true =>
      obtain ⟨a, o, rfl, h1, h2, h3, h4⟩ := rv'
      exact ⟨a, o, rfl, h1, fun z => e1.all a (e1.wn a z) h2, t1.was_none h2, h0_none e1 h2, h3, h4⟩
theorem callD_ok (hT : c.T = T) (tk : Takes X E) (C : CalK X.prog X.w X.K X.mg X.base T x k n ks dd m) (hr : Room j X.A) (hk : k ≤ j) (hg : Gl X x) (ha : PA X (e :: es) (rdA c E fa)) (hs : starEach (e :: es) X.env = (false, eval e X.env) :: starEach es X.env := by rfl)
    (hpl : (backTo pos (starEach es X.env)).any (·.1) = false := by rfl) (hdb : (x == ("__debug__" : Str)) = false := by decide) : PE X (.Call (.Name x p) (e :: es) [] pos) (rdV c E (callDf m dd (cnt n fa))) := by
  obtain ⟨f, fd, ps, dvs, ds, g, F, gm, kp, vd, b, rd, hl, _⟩ := C.ex
  refine PE.mono (pe_callSD F (hr.mono hk) hg gm kp b vd (fun σ => passAt tk σ) ha (hdb := hdb) (he := hs) (hpl := hpl)) fun σ H Q ⟨N, W, ρ, er, q⟩ => ?_
  subst hT
  unfold callDf cnt at q
  refine ⟨N, W, ρ, er, ?_⟩
  cases hf : fa ρ with
  | no => rw [hf] at q; exact q
  | err x' ρ' => rw [hf] at q; exact q
  | ok r =>
    obtain ⟨as, ρ1⟩ := r
    intro N1 W1 H1 t1 e1 vs rv
    simp only [hf, Out.bind_ok] at q
    by_cases hn : as.length = n
    · rw [if_pos hn] at q
      simp only [Out.bind_ok] at q
      exact spP_go t1 e1 (rv.app (rd N1 H1)) (by rw [List.length_append, hn, hl]) q
    · rw [if_neg hn] at q
      exact q.elim
theorem callK_ok (hT : c.T = T) (tk : Takes X E) (C : CalK X.prog X.w X.K X.mg X.base T x k n ks dd m) (hr : Room j X.A) (hk : k ≤ j) (hg : Gl X x) (ha : PA X (e :: es) (rdA c E fa)) (hkw : PK X kws (rdA c E fk)) (hall : (backToKw pos (keywordEach kws X.env)).all (·.1.isSome) = true := by rfl)
    (hks : (backToKw pos (keywordEach kws X.env)).filterMap (·.1) = ks := by rfl) (hdb : (x == ("__debug__" : Str)) = false := by decide) (hs : starEach (e :: es) X.env = (false, eval e X.env) :: starEach es X.env := by rfl)
    (hpl : ((backTo pos (starEach (e :: es) X.env)).any (·.1) || (backToKw pos (keywordEach kws X.env)).any (·.1.isNone)) = false := by rfl) : PE X (.Call (.Name x p) (e :: es) kws pos) (rdV c E (callK m (cnt n fa) (cnt ks.length fk))) := by
  obtain ⟨f, fd, ps, dvs, ds, g, F, gm, kp, vd, b, rd, hl, kb⟩ := C.ex
  refine PE.mono (nd_peNS F (hr.mono hk) hg gm kp kb (fun σ => passAt tk σ) ha hkw hall hks hdb hs hpl) fun σ H Q ⟨N, W, ρ, er, q⟩ => ?_
  subst hT
  unfold callK cnt at q
  refine ⟨N, W, ρ, er, ?_⟩
  cases hf : fa ρ with
  | no => rw [hf] at q; exact q
  | err x' ρ' => rw [hf] at q; exact q
  | ok r =>
    obtain ⟨as, ρ1⟩ := r
    intro N1 W1 H1 t1 e1 vs rv
    simp only [hf, Out.bind_ok] at q
    by_cases hn : as.length = n
    · rw [if_pos hn] at q
      simp only [Out.bind_ok] at q
      refine ⟨N1, W1, ρ1, e1, ?_⟩
      cases hf2 : fk ρ1 with
      | no => rw [hf2] at q; exact q
      | err x' ρ' => rw [hf2] at q; exact sat.step (α := (D × Bool)) (R := fun N' W' H' r => ∀ v, VR c H N' W' H' v r.1.1 r.1.2 → Q v H') (show sat c N W H σ E _ (Out.err x' ρ') from q) t1
      | ok r2 =>
        obtain ⟨bs, ρ2⟩ := r2
        intro N2 W2 H2 t2 e2 zs rz
        simp only [hf2, Out.bind_ok] at q
        by_cases hn2 : bs.length = ks.length
        · rw [if_pos hn2] at q
          simp only [Out.bind_ok] at q
          refine ⟨by rw [rv.length]; exact hn, by rw [rz.length]; exact hn2, ?_⟩
          exact spP_go (t1.trans t2) e2 ((rv.move (e1.mv t2)).app rz) (by rw [List.length_append, hn, hn2]) q
        · rw [if_neg hn2] at q
          exact q.elim
    · rw [if_neg hn] at q
      exact q.elim
end
end ND

end
section
set_option linter.all false
/-! what a mirror answers: rules that go through it -/
namespace ND
open PySem PySem.Spec PyProof.Rows L2
def W {α : Type} (o : Out (α × En)) (Q : α → En → Prop) : Prop := ∃ a ρ, o = .ok (a, ρ) ∧ Q a ρ
/-- a def of the law or of the program -/
def M (m : MF) (ds : List D) (b : Bag) (R : D → Bool → Bag → Prop) : Prop := ∃ d fr ρ, m ds b = .ok ((d, fr), ρ) ∧ R d fr ρ.b
def putB : Bool → D → SD
  | true, d => .ow d
  | false, d => .sh d
theorem put_eq (ρ : En) (i : Nat) (d : D) (fr : Bool) : put ρ i d fr = ⟨ρ.b, ρ.sl.set i (putB fr d)⟩ := by cases fr <;> rfl
def stL : Nat → List D → List SD
  | 0, _ => []
  | n + 1, [] => .un :: stL n []
  | n + 1, d :: ds => .sh d :: stL n ds
def stB : Bool → Nat → List D → List SD
  | true, n, ds => .bag :: stL (n - 1) ds
  | false, n, ds => stL n ds
def RQ (R : D → Bool → Bag → Prop) : Fl → En → Prop
  | .nx, ρ => R .non false ρ.b
  | .rt d fr, ρ => R d fr ρ.b
  | _, _ => False
section
variable {α : Type} {ρ : En} {b : Bag} {d : D} {i n : Nat}
theorem W.mp {o : Out (α × En)} {Q Q' : α → En → Prop} (h : W o Q) (k : ∀ a ρ, Q a ρ → Q' a ρ) : W o Q' := by
  obtain ⟨a, ρ, e, q⟩ := h
  exact ⟨a, ρ, e, k a ρ q⟩
theorem M.mp {m : MF} {ds : List D} {R R' : D → Bool → Bag → Prop} (h : M m ds b R) (k : ∀ d fr b, R d fr b → R' d fr b) : M m ds b R' := by
  obtain ⟨d, fr, ρ, e, q⟩ := h
  exact ⟨d, fr, ρ, e, k _ _ _ q⟩
theorem W.run {o : Out (α × En)} {a : α} {Q : α → En → Prop} (h : o = .ok (a, ρ)) (q : Q a ρ) : W o Q := ⟨a, ρ, h, q⟩
theorem w_ok {a : α} {Q : α → En → Prop} (q : Q a ρ) : W (.ok (a, ρ)) Q := ⟨a, ρ, rfl, q⟩
theorem w_bind {β : Type} {o : Out (α × En)} {k : α × En → Out (β × En)} {Q : β → En → Prop} (h : W o fun a ρ => W (k (a, ρ)) Q) : W (o.bind k) Q := by
  obtain ⟨a, ρ, rfl, q⟩ := h
  exact q
theorem w_ofO {o : Option α} {Q : α → En → Prop} (h : ∃ a, o = some a ∧ Q a ρ) : W (ofO o ρ) Q := by
  obtain ⟨a, rfl, q⟩ := h
  exact ⟨a, ρ, rfl, q⟩
theorem m_run {hb : Bool} {nN : Nat} {g : FS} {ds : List D} {R : D → Bool → Bag → Prop} (e : startE hb nN ds b = ⟨b, stB hb nN ds⟩) (h : W (g ⟨b, stB hb nN ds⟩) (RQ R)) : M (runB hb nN g) ds b R := by
  rw [← e] at h
  obtain ⟨fl, ρ, e, q⟩ := h
  unfold M runB
  rw [e]
  cases fl with
  | nx => exact ⟨.non, false, ρ, rfl, q⟩
  | rt d fr => exact ⟨d, fr, ρ, rfl, q⟩
  | bk => exact q.elim
  | ct => exact q.elim
theorem rq_rt {R : D → Bool → Bag → Prop} {fr : Bool} (h : R d fr ρ.b) : RQ R (.rt d fr) ρ := h
theorem rq_nx {R : D → Bool → Bag → Prop} (h : R .non false ρ.b) : RQ R .nx ρ := h
/-! statements -/
variable {g h k : FS} {f : FV} {t : FT} {Q : Fl → En → Prop}
theorem w_seq (q : W (g ρ) fun fl ρ' => match fl with | .nx => W (h ρ') Q | fl => Q fl ρ') : W (seqS g h ρ) Q := by
  obtain ⟨fl, ρ', e, q⟩ := q
  unfold seqS
  rw [e]
  cases fl with
  | nx => exact q
  | rt d fr => exact ⟨_, _, rfl, q⟩
  | bk => exact ⟨_, _, rfl, q⟩
  | ct => exact ⟨_, _, rfl, q⟩
theorem w_set (q : W (f ρ) fun r ρ' => Q .nx ⟨ρ'.b, ρ'.sl.set i (putB r.2 r.1)⟩) : W (setE i f ρ) Q := by
  obtain ⟨r, ρ', e, q⟩ := q
  exact ⟨_, _, by unfold setE; rw [e]; simp only [Out.bind, put_eq], q⟩
theorem w_ret (q : W (f ρ) fun r ρ' => Q (.rt r.1 r.2) ρ') : W (retS f ρ) Q := by
  obtain ⟨r, ρ', e, q⟩ := q
  exact ⟨_, _, by unfold retS; rw [e]; rfl, q⟩
theorem w_retO_sh (h : ρ.sl[i]? = some (.sh d)) (q : Q (.rt d false) ρ) : W (retO i ρ) Q := ⟨_, _, by unfold retO; rw [h], q⟩
theorem w_retO_ow (h : ρ.sl[i]? = some (.ow d)) (q : Q (.rt d true) (setS ρ i .un)) : W (retO i ρ) Q := ⟨_, _, by unfold retO; rw [h], q⟩
theorem w_retN (q : Q (.rt .non false) ρ) : W (retN ρ) Q := ⟨_, _, rfl, q⟩
theorem w_skip (q : Q .nx ρ) : W (skipS ρ) Q := ⟨_, _, rfl, q⟩
theorem w_brk (q : Q .bk ρ) : W (brkS ρ) Q := ⟨_, _, rfl, q⟩
theorem w_cnt' (q : Q .ct ρ) : W (cntS ρ) Q := ⟨_, _, rfl, q⟩
theorem w_if (q : W (t ρ) fun k ρ' => (k = true → W (g ρ') Q) ∧ (k = false → W (h ρ') Q)) : W (ifS t g h ρ) Q := by
  obtain ⟨b, ρ', e, q1, q2⟩ := q
  unfold ifS
  rw [e]
  cases b with
  | true => exact q1 rfl
  | false => exact q2 rfl
theorem w_drop {f : FD} (q : W (f ρ) fun _ ρ' => Q .nx ρ') : W (dropS f ρ) Q := by
  obtain ⟨r, ρ', e, q⟩ := q
  exact ⟨_, _, by unfold dropS; rw [e]; rfl, q⟩
theorem w_par {j : Nat} {fa : FA} (q : W (fa ρ) fun r ρ' => ∃ d1 d2, r = [d1, d2] ∧ Q .nx ⟨ρ'.b, (ρ'.sl.set i (.sh d1)).set j (.sh d2)⟩) : W (parE i j fa ρ) Q := by
  obtain ⟨r, ρ', e, d1, d2, rfl, q⟩ := q
  exact ⟨_, _, by unfold parE; rw [e]; rfl, q⟩
theorem w_par3 {j l : Nat} {fa : FA} (q : W (fa ρ) fun r ρ' => ∃ d1 d2 d3, r = [d1, d2, d3] ∧ Q .nx ⟨ρ'.b, ((ρ'.sl.set i (.sh d1)).set j (.sh d2)).set l (.sh d3)⟩) : W (parE3 i j l fa ρ) Q := by
  obtain ⟨r, ρ', e, d1, d2, d3, rfl, q⟩ := q
  exact ⟨_, _, by unfold parE3; rw [e]; rfl, q⟩
theorem w_unp {tf : FG} {f : FD} (q : W (f ρ) fun d ρ' => ∃ ρ1, tf d ρ' = some ρ1 ∧ Q .nx ρ1) : W (unpE tf f ρ) Q := by
  obtain ⟨r, ρ', e, ρ1, e1, q⟩ := q
  exact ⟨_, _, by unfold unpE; rw [e]; simp only [Out.bind, e1], q⟩
theorem w_aug {g : D → D → Option D} {f : FD} (hs : ρ.sl[i]? = some (.sh d)) (q : W (f ρ) fun e ρ' => ∃ d', g d e = some d' ∧ Q .nx (setS ρ' i (.sh d'))) : W (augE i g f ρ) Q := by
  obtain ⟨r, ρ', e, d', e1, q⟩ := q
  exact ⟨_, _, by unfold augE; rw [hs]; simp only [e, Out.bind, e1], q⟩
theorem w_bagSt {m : Int} {f : FD} (q : W (f ρ) fun d ρ' => ∃ v b', d = .int v ∧ ρ'.sl[i]? = some .bag ∧ bagSet ρ'.b m v = some b' ∧ Q .nx { ρ' with b := b' }) : W (bagSt i m f ρ) Q := by
  obtain ⟨r, ρ', e, v, b', rfl, e1, e2, q⟩ := q
  exact ⟨_, _, by unfold bagSt; rw [e]; simp only [Out.bind, e1, e2], q⟩
/-! a statement and what follows it -/
theorem ws_seq {l : FS} (q : W (seqS g (seqS h l) ρ) Q) : W (seqS (seqS g h) l ρ) Q := by
  have e : seqS (seqS g h) l = seqS g (seqS h l) := by
    funext ρ
    unfold seqS
    cases g ρ with
    | no => rfl
    | err x r => rfl
    | ok r =>
      obtain ⟨fl, ρ'⟩ := r
      cases fl <;> rfl
  rw [e]
  exact q
theorem ws_set (q : W (f ρ) fun r ρ' => W (h ⟨ρ'.b, ρ'.sl.set i (putB r.2 r.1)⟩) Q) : W (seqS (setE i f) h ρ) Q := w_seq (w_set q)
theorem ws_if (q : W (t ρ) fun b ρ' => (b = true → W (seqS g k ρ') Q) ∧ (b = false → W (seqS h k ρ') Q)) : W (seqS (ifS t g h) k ρ) Q := by
  obtain ⟨b, ρ', e, q1, q2⟩ := q
  have z : seqS (ifS t g h) k ρ = if b = true then seqS g k ρ' else seqS h k ρ' := by
    unfold seqS ifS
    rw [e]
    cases b <;> rfl
  rw [z]
  cases b with
  | true => exact q1 rfl
  | false => exact q2 rfl
theorem ws_skip (q : W (h ρ) Q) : W (seqS skipS h ρ) Q := w_seq (w_skip q)
theorem ws_ret (q : W (retS f ρ) Q) : W (seqS (retS f) h ρ) Q := by
  obtain ⟨fl, ρ', e, q⟩ := q
  refine w_seq ⟨fl, ρ', e, ?_⟩
  unfold retS at e
  cases z : f ρ with
  | no => rw [z] at e; cases e
  | err x r => rw [z] at e; cases e
  | ok r => rw [z] at e; cases e; exact q
theorem ws_retO (q : W (retO i ρ) Q) : W (seqS (retO i) h ρ) Q := by
  obtain ⟨fl, ρ', e, q⟩ := q
  refine w_seq ⟨fl, ρ', e, ?_⟩
  unfold retO at e
  split at e
  · cases e; exact q
  · cases e; exact q
  · cases e
theorem ws_retN (q : W (retN ρ) Q) : W (seqS retN h ρ) Q := w_seq (w_retN (by obtain ⟨_, _, e, q⟩ := q; cases e; exact q))
theorem ws_brk (q : Q .bk ρ) : W (seqS brkS h ρ) Q := w_seq (w_brk q)
theorem ws_cnt (q : Q .ct ρ) : W (seqS cntS h ρ) Q := w_seq (w_cnt' q)
theorem ws_drop {f : FD} (q : W (f ρ) fun _ ρ' => W (h ρ') Q) : W (seqS (dropS f) h ρ) Q := w_seq (w_drop q)
theorem ws_par {j : Nat} {fa : FA} (q : W (fa ρ) fun r ρ' => ∃ d1 d2, r = [d1, d2] ∧ W (h ⟨ρ'.b, (ρ'.sl.set i (.sh d1)).set j (.sh d2)⟩) Q) : W (seqS (parE i j fa) h ρ) Q := w_seq (w_par q)
theorem ws_par3 {j l : Nat} {fa : FA} (q : W (fa ρ) fun r ρ' => ∃ d1 d2 d3, r = [d1, d2, d3] ∧ W (h ⟨ρ'.b, ((ρ'.sl.set i (.sh d1)).set j (.sh d2)).set l (.sh d3)⟩) Q) : W (seqS (parE3 i j l fa) h ρ) Q := w_seq (w_par3 q)
theorem ws_unp {tf : FG} {f : FD} (q : W (f ρ) fun d ρ' => ∃ ρ1, tf d ρ' = some ρ1 ∧ W (h ρ1) Q) : W (seqS (unpE tf f) h ρ) Q := w_seq (w_unp q)
theorem ws_aug {g : D → D → Option D} {f : FD} (hs : ρ.sl[i]? = some (.sh d)) (q : W (f ρ) fun e ρ' => ∃ d', g d e = some d' ∧ W (h (setS ρ' i (.sh d'))) Q) : W (seqS (augE i g f) h ρ) Q := w_seq (w_aug hs q)
theorem ws_bagSt {m : Int} {f : FD} (q : W (f ρ) fun d ρ' => ∃ v b', d = .int v ∧ ρ'.sl[i]? = some .bag ∧ bagSet ρ'.b m v = some b' ∧ W (h { ρ' with b := b' }) Q) : W (seqS (bagSt i m f) h ρ) Q := w_seq (w_bagSt q)
end
/-! expressions -/
section
variable {α : Type} {ρ : En} {b : Bag} {d : D} {i n : Nat} {f fa fb : FD} {fv : FV} {t u : FT} {as : FA} {Q : D → En → Prop} {QV : D × Bool → En → Prop} {QT : Bool → En → Prop} {QA : List D → En → Prop}
theorem w_vr_sh (h : ρ.sl[i]? = some (.sh d)) (q : Q d ρ) : W (vr i ρ) Q := ⟨_, _, by unfold vr; rw [h], q⟩
theorem w_vr_ow (h : ρ.sl[i]? = some (.ow d)) (q : Q d (setS ρ i (.sh d))) : W (vr i ρ) Q := ⟨_, _, by unfold vr; rw [h], q⟩
theorem w_pk (h : peek ρ i = some d) (q : Q d ρ) : W (pk i ρ) Q := by
  refine ⟨d, ρ, ?_, q⟩
  unfold peek at h
  split at h
  · rename_i hh
    cases h
    unfold pk
    rw [hh]
  · rename_i hh
    cases h
    unfold pk
    rw [hh]
  · cases h
theorem w_cst (q : Q d ρ) : W (cst d ρ) Q := ⟨_, _, rfl, q⟩
theorem w_vD (q : W (fv ρ) fun r ρ' => Q r.1 ρ') : W (vD fv ρ) Q := by
  obtain ⟨r, ρ', e, q⟩ := q
  exact ⟨_, _, by unfold vD; rw [e]; rfl, q⟩
theorem w_dV (q : W (f ρ) fun r ρ' => QV (r, false) ρ') : W (dV f ρ) QV := by
  obtain ⟨r, ρ', e, q⟩ := q
  exact ⟨_, _, by unfold dV; rw [e]; rfl, q⟩
theorem w_lift2 {g : D → D → Option D} (q : W (fa ρ) fun a ρ1 => W (fb ρ1) fun c ρ2 => ∃ e, g a c = some e ∧ Q e ρ2) : W (lift2 g fa fb ρ) Q := by
  obtain ⟨a, ρ1, e1, c, ρ2, e2, e, e3, q⟩ := q
  exact ⟨_, _, by unfold lift2; rw [e1]; simp only [Out.bind, e2, e3, ofO], q⟩
theorem w_lift2L {g : D → D → Option (List D)} (q : W (fa ρ) fun a ρ1 => W (fb ρ1) fun c ρ2 => ∃ e, g a c = some e ∧ QV (.lst e, true) ρ2) : W (lift2L g fa fb ρ) QV := by
  obtain ⟨a, ρ1, e1, c, ρ2, e2, e, e3, q⟩ := q
  exact ⟨_, _, by unfold lift2L; rw [e1]; simp only [Out.bind, e2, e3, ofO], q⟩
theorem w_lift2V {g : D → D → Option D} {h : D → D → Option (List D)} (q : W (fa ρ) fun a ρ1 => W (fb ρ1) fun c ρ2 => (∃ e, g a c = some e ∧ QV (e, false) ρ2) ∨ (g a c = none ∧ ∃ e, h a c = some e ∧ QV (.lst e, true) ρ2)) : W (lift2V g h fa fb ρ) QV := by
  obtain ⟨a, ρ1, e1, c, ρ2, e2, ⟨e, e3, q⟩ | ⟨e4, e, e3, q⟩⟩ := q
  · exact ⟨_, _, by unfold lift2V; rw [e1]; simp only [Out.bind, e2, e3, ofO], q⟩
  · exact ⟨_, _, by unfold lift2V; rw [e1]; simp only [Out.bind, e2, e3, e4, ofO], q⟩
theorem w_un1 {g : D → Option D} (q : W (fa ρ) fun a ρ1 => ∃ e, g a = some e ∧ Q e ρ1) : W (un1 g fa ρ) Q := by
  obtain ⟨a, ρ1, e1, e, e3, q⟩ := q
  exact ⟨_, _, by unfold un1; rw [e1]; simp only [Out.bind, e3, ofO], q⟩
theorem w_testB (q : W (f ρ) fun a ρ1 => ∃ k, asB a = some k ∧ QT k ρ1) : W (testB f ρ) QT := by
  obtain ⟨a, ρ1, e1, e, e3, q⟩ := q
  exact ⟨_, _, by unfold testB; rw [e1]; simp only [Out.bind, e3, ofO], q⟩
theorem w_testV (q : W (f ρ) fun a ρ1 => ∃ k, truD a = some k ∧ QT k ρ1) : W (testV f ρ) QT := by
  obtain ⟨a, ρ1, e1, e, e3, q⟩ := q
  exact ⟨_, _, by unfold testV; rw [e1]; simp only [Out.bind, e3, ofO], q⟩
theorem w_notT (q : W (t ρ) fun k ρ1 => QT (!k) ρ1) : W (notT t ρ) QT := by
  obtain ⟨a, ρ1, e1, q⟩ := q
  exact ⟨_, _, by unfold notT; rw [e1]; rfl, q⟩
theorem w_andT (q : W (t ρ) fun k ρ1 => (k = true → W (u ρ1) QT) ∧ (k = false → QT false ρ1)) : W (andT t u ρ) QT := by
  obtain ⟨a, ρ1, e1, q1, q2⟩ := q
  unfold andT
  rw [e1]
  cases a with
  | true => exact q1 rfl
  | false => exact ⟨_, _, rfl, q2 rfl⟩
theorem w_orT (q : W (t ρ) fun k ρ1 => (k = true → QT true ρ1) ∧ (k = false → W (u ρ1) QT)) : W (orT t u ρ) QT := by
  obtain ⟨a, ρ1, e1, q1, q2⟩ := q
  unfold orT
  rw [e1]
  cases a with
  | true => exact ⟨_, _, rfl, q1 rfl⟩
  | false => exact q2 rfl
theorem w_andV (q : W (fa ρ) fun a ρ1 => ∃ k, asB a = some k ∧ (k = true → W (fb ρ1) Q) ∧ (k = false → Q (.bl false) ρ1)) : W (andV fa fb ρ) Q := by
  obtain ⟨a, ρ1, e1, k, e2, q1, q2⟩ := q
  unfold andV
  rw [e1]
  simp only [Out.bind, e2, ofO]
  cases k with
  | true => exact q1 rfl
  | false => exact ⟨_, _, rfl, q2 rfl⟩
theorem w_orV (q : W (fa ρ) fun a ρ1 => ∃ k, asB a = some k ∧ (k = true → Q (.bl true) ρ1) ∧ (k = false → W (fb ρ1) Q)) : W (orV fa fb ρ) Q := by
  obtain ⟨a, ρ1, e1, k, e2, q1, q2⟩ := q
  unfold orV
  rw [e1]
  simp only [Out.bind, e2, ofO]
  cases k with
  | true => exact ⟨_, _, rfl, q1 rfl⟩
  | false => exact q2 rfl
theorem w_notV (q : W (fa ρ) fun a ρ1 => ∃ k, asB a = some k ∧ Q (.bl (!k)) ρ1) : W (notV fa ρ) Q := by
  obtain ⟨a, ρ1, e1, k, e2, q⟩ := q
  exact ⟨_, _, by unfold notV; rw [e1]; simp only [Out.bind, e2, ofO], q⟩
theorem w_ite {β : Type} {x y : En → Out (β × En)} {Q : β → En → Prop} (q : W (t ρ) fun k ρ1 => (k = true → W (x ρ1) Q) ∧ (k = false → W (y ρ1) Q)) : W (iteE t x y ρ) Q := by
  obtain ⟨a, ρ1, e1, q1, q2⟩ := q
  unfold iteE
  rw [e1]
  cases a with
  | true => exact q1 rfl
  | false => exact q2 rfl
theorem w_anil (q : QA [] ρ) : W (anil ρ) QA := ⟨_, _, rfl, q⟩
theorem w_acons (q : W (f ρ) fun d ρ1 => W (as ρ1) fun ds ρ2 => QA (d :: ds) ρ2) : W (acons f as ρ) QA := by
  obtain ⟨a, ρ1, e1, c, ρ2, e2, q⟩ := q
  exact ⟨_, _, by unfold acons; rw [e1]; simp only [Out.bind, e2], q⟩
theorem w_tup (q : W (as ρ) fun ds ρ1 => ds.length ≤ big ∧ Q (.tup ds) ρ1) : W (tupE as ρ) Q := by
  obtain ⟨a, ρ1, e1, h, q⟩ := q
  exact ⟨_, _, by unfold tupE; rw [e1]; simp only [Out.bind, small, if_pos h, ofO], q⟩
theorem w_lst (q : W (as ρ) fun ds ρ1 => ds.length ≤ big ∧ QV (.lst ds, true) ρ1) : W (lstE as ρ) QV := by
  obtain ⟨a, ρ1, e1, h, q⟩ := q
  exact ⟨_, _, by unfold lstE; rw [e1]; simp only [Out.bind, small, if_pos h, ofO], q⟩
theorem w_cnt (q : W (as ρ) fun ds ρ1 => ds.length = n ∧ QA ds ρ1) : W (cnt n as ρ) QA := by
  obtain ⟨a, ρ1, e1, h, q⟩ := q
  exact ⟨_, _, by unfold cnt; rw [e1]; simp only [Out.bind, if_pos h], q⟩
theorem w_callP {m : MF} (q : W (as ρ) fun ds ρ1 => M m ds default fun d fr _ => QV (d, fr) ρ1) : W (callP m as ρ) QV := by
  obtain ⟨a, ρ1, e1, d, fr, ρ2, e2, q⟩ := q
  exact ⟨_, _, by unfold callP; rw [e1]; simp only [Out.bind, e2], q⟩
theorem w_callB {m : MF} (hs : ρ.sl[i]? = some .bag) (q : W (as ρ) fun ds ρ1 => M m ds ρ1.b fun d fr b' => QV (d, fr) { ρ1 with b := b' }) : W (callB i m as ρ) QV := by
  obtain ⟨a, ρ1, e1, d, fr, ρ2, e2, q⟩ := q
  exact ⟨_, _, by unfold callB; rw [hs]; simp only [Out.bind, e1, e2], q⟩
theorem w_callD {m : MF} {dd : List D} (q : W (as ρ) fun ds ρ1 => M m (ds ++ dd) default fun d fr _ => QV (d, fr) ρ1) : W (callDf m dd as ρ) QV := by
  obtain ⟨a, ρ1, e1, d, fr, ρ2, e2, q⟩ := q
  exact ⟨_, _, by unfold callDf; rw [e1]; simp only [Out.bind, e2], q⟩
theorem w_callK {m : MF} {ks : FA} (q : W (as ρ) fun ds ρ1 => W (ks ρ1) fun es ρ2 => M m (ds ++ es) default fun d fr _ => QV (d, fr) ρ2) : W (callK m as ks ρ) QV := by
  obtain ⟨a, ρ1, e1, c, ρ2, e2, d, fr, ρ3, e3, q⟩ := q
  exact ⟨_, _, by unfold callK; rw [e1]; simp only [Out.bind, e2, e3], q⟩
theorem w_bltE {g : List D → Option D} (q : W (as ρ) fun ds ρ1 => ∃ e, g ds = some e ∧ Q e ρ1) : W (bltE g as ρ) Q := by
  obtain ⟨a, ρ1, e1, e, e2, q⟩ := q
  exact ⟨_, _, by unfold bltE; rw [e1]; simp only [Out.bind, e2, ofO], q⟩
theorem w_bltQ {g : D → Option D} (q : W (f ρ) fun d ρ1 => ∃ e, g d = some e ∧ Q e ρ1) : W (bltQ g f ρ) Q := by
  obtain ⟨a, ρ1, e1, e, e2, q⟩ := q
  exact ⟨_, _, by unfold bltQ; rw [e1]; simp only [Out.bind, e2, ofO], q⟩
theorem w_bltQL {g : D → Option (List D)} (q : W (f ρ) fun d ρ1 => ∃ e, g d = some e ∧ QV (.lst e, true) ρ1) : W (bltQL g f ρ) QV := by
  obtain ⟨a, ρ1, e1, e, e2, q⟩ := q
  exact ⟨_, _, by unfold bltQL; rw [e1]; simp only [Out.bind, e2, ofO], q⟩
theorem w_bltL {g : List D → Option (List D)} (q : W (as ρ) fun ds ρ1 => ∃ e, g ds = some e ∧ QV (.lst e, true) ρ1) : W (bltL g as ρ) QV := by
  obtain ⟨a, ρ1, e1, e, e2, q⟩ := q
  exact ⟨_, _, by unfold bltL; rw [e1]; simp only [Out.bind, e2, ofO], q⟩
theorem w_join {fo fe : FD} (q : W (fo ρ) fun s ρ1 => W (fe ρ1) fun l ρ2 => ∃ x e, s = .str x ∧ joinD s l = some e ∧ Q e ρ2) : W (joinE fo fe ρ) Q := by
  obtain ⟨a, ρ1, e1, c, ρ2, e2, x, e, rfl, e3, q⟩ := q
  exact ⟨_, _, by unfold joinE; rw [e1]; simp only [Out.bind, e2, e3, ofO], q⟩
theorem w_sl {l h : FO} (q : W (f ρ) fun d ρ1 => W (l ρ1) fun lo ρ2 => W (h ρ2) fun hi ρ3 => ∃ r, slD d lo hi = some r ∧ QV r ρ3) : W (slE f l h ρ) QV := by
  obtain ⟨a, ρ1, e1, c, ρ2, e2, x, ρ3, e3, r, e4, q⟩ := q
  exact ⟨_, _, by unfold slE; rw [e1]; simp only [Out.bind, e2, e3, e4, ofO], q⟩
theorem w_noP {Q : Option Int → En → Prop} (q : Q none ρ) : W (noP ρ) Q := ⟨_, _, rfl, q⟩
theorem w_parP {Q : Option Int → En → Prop} (q : W (f ρ) fun d ρ1 => ∃ j, asI d = some j ∧ Q (some j) ρ1) : W (parP f ρ) Q := by
  obtain ⟨a, ρ1, e1, e, e2, q⟩ := q
  exact ⟨_, _, by unfold parP; rw [e1]; simp only [Out.bind, e2, ofO], q⟩
theorem w_bagIx {m : Int} (hs : ρ.sl[i]? = some .bag) (q : ∃ e, bagGet ρ.b m = some e ∧ Q e ρ) : W (bagIx i m ρ) Q := by
  obtain ⟨e, h, q⟩ := q
  exact ⟨_, _, by unfold bagIx; rw [hs]; simp only [h, ofO], q⟩
theorem w_seqI (q : W (f ρ) fun d ρ1 => ∃ e, seqOf d = some e ∧ QA e ρ1) : W (seqI f ρ) QA := by
  obtain ⟨a, ρ1, e1, e, e2, q⟩ := q
  exact ⟨_, _, by unfold seqI; rw [e1]; simp only [Out.bind, e2, ofO], q⟩
theorem w_rngI (q : W (as ρ) fun d ρ1 => ∃ e, rngO d = some e ∧ QA e ρ1) : W (rngI as ρ) QA := by
  obtain ⟨a, ρ1, e1, e, e2, q⟩ := q
  exact ⟨_, _, by unfold rngI; rw [e1]; simp only [Out.bind, e2, ofO], q⟩
theorem w_zipI (q : W (as ρ) fun d ρ1 => ∃ e, zipD d = some e ∧ QA e ρ1) : W (zipI as ρ) QA := by
  obtain ⟨a, ρ1, e1, e, e2, q⟩ := q
  exact ⟨_, _, by unfold zipI; rw [e1]; simp only [Out.bind, e2, ofO], q⟩
theorem w_yes (q : QT true ρ) : W (yesT ρ) QT := ⟨_, _, rfl, q⟩
theorem w_meth {g : List D → List D → Option (D × List D)} (ho : ownL ρ i = true) (q : W (as ρ) fun es ρ1 => ∃ ds e ds', ρ1.sl[i]? = some (.ow (.lst ds)) ∧ g ds es = some (e, ds') ∧ Q e (setS ρ1 i (.ow (.lst ds')))) : W (methE i g as ρ) Q := by
  obtain ⟨a, ρ1, e1, ds, e, ds', e2, e3, q⟩ := q
  exact ⟨_, _, by unfold methE; rw [ho]; simp only [e1, Out.bind, e2, e3], q⟩
end
/-! loops and comprehensions -/
section
variable {ρ : En} {fi as : FA} {tf : FG} {fb : FS} {ft : FT} {fe : FD} {vs : List Nat} {ds : List D} {Q : Fl → En → Prop} {QV : D × Bool → En → Prop}
theorem w_forL (J : List D → En → Prop) (st : ∀ (pre : List D) (d : D) (suf : List D), ds = pre ++ d :: suf → ∀ ρ, J pre ρ → ∃ ρ1, tf d ρ = some ρ1 ∧ W (fb ρ1) fun fl ρ2 => match fl with
      | .nx => J (pre ++ [d]) ρ2
      | .ct => J (pre ++ [d]) ρ2
      | .bk => Q .nx ρ2
      | .rt d fr => Q (.rt d fr) ρ2) (q : ∀ ρ, J ds ρ → Q .nx ρ) : ∀ (suf pre : List D) (ρ : En), ds = pre ++ suf → J pre ρ → W (forL tf fb suf ρ) Q
  | [], pre, ρ, e, j => ⟨_, _, rfl, q ρ (by rw [e, List.append_nil]; exact j)⟩
  | d :: suf, pre, ρ, e, j => by
    obtain ⟨ρ1, e1, fl, ρ2, e2, h⟩ := st pre d suf e ρ j
    unfold forL
    rw [e1]
    simp only [e2, Out.bind]
    cases fl with
    | nx => exact w_forL J st q suf (pre ++ [d]) ρ2 (by rw [e, List.append_assoc]; rfl) h
    | ct => exact w_forL J st q suf (pre ++ [d]) ρ2 (by rw [e, List.append_assoc]; rfl) h
    | bk => exact ⟨_, _, rfl, h⟩
    | rt d fr => exact ⟨_, _, rfl, h⟩
theorem w_for (J : List D → En → Prop) (h : W (fi ρ) fun ds ρ1 => J [] ρ1 ∧ (∀ (pre : List D) (d : D) (suf : List D), ds = pre ++ d :: suf → ∀ ρ, J pre ρ → ∃ ρ1, tf d ρ = some ρ1 ∧ W (fb ρ1) fun fl ρ2 => match fl with
      | .nx => J (pre ++ [d]) ρ2
      | .ct => J (pre ++ [d]) ρ2
      | .bk => Q .nx ρ2
      | .rt d fr => Q (.rt d fr) ρ2) ∧ ∀ ρ, J ds ρ → Q .nx ρ) : W (forS fi tf fb ρ) Q := by
  obtain ⟨ds, ρ1, e, j, st, q⟩ := h
  have := w_forL J st q ds [] ρ1 rfl j
  unfold forS
  rw [e]
  exact this
/-- a loop that only keeps something true -/
theorem w_for1 (J : En → Prop) (h : W (fi ρ) fun ds ρ1 => J ρ1 ∧ (∀ d ∈ ds, ∀ ρ, J ρ → ∃ ρ1, tf d ρ = some ρ1 ∧ W (fb ρ1) fun fl ρ2 => fl = .nx ∧ J ρ2) ∧ ∀ ρ, J ρ → Q .nx ρ) : W (forS fi tf fb ρ) Q := by
  refine w_for (fun _ => J) (h.mp fun ds ρ1 ⟨j, st, q⟩ => ⟨j, fun pre d suf e ρ hj => ?_, q⟩)
  obtain ⟨ρ1, e1, w⟩ := st d (by rw [e]; simp) ρ hj
  refine ⟨ρ1, e1, w.mp ?_⟩
  rintro fl ρ2 ⟨rfl, j2⟩
  exact j2
theorem w_lcL (J : En → Prop) (P : D → List D → Prop) (st : ∀ d ∈ ds, ∀ ρ, J ρ → ∃ ρ1, tf d (wipeE vs ρ) = some ρ1 ∧ W (ft ρ1) fun k ρ2 => (k = true → W (fe ρ2) fun e ρ3 => P d [e] ∧ J ρ3) ∧ (k = false → P d [] ∧ J ρ2)) : ∀ (es out : List D) (ρ : En), (∀ d ∈ es, d ∈ ds) → out.length + es.length ≤ big → J ρ →
    ∃ (rs : List (List D)) (ρ' : En), lcL tf ft fe vs es out ρ = .ok (out ++ rs.flatten, ρ') ∧ J ρ' ∧ rs.length = es.length ∧ ∀ (i : Nat) (d : D) (r : List D), es[i]? = some d → rs[i]? = some r → P d r
  | [], out, ρ, _, _, j => ⟨[], ρ, by simp [lcL], j, rfl, fun _ _ _ h => by simp at h⟩
  | d :: es, out, ρ, hm, hl, j => by
    obtain ⟨ρ1, e1, k, ρ2, e2, h1, h2⟩ := st d (hm d (.head _)) ρ j
    simp only [List.length_cons] at hl
    cases k with
    | true =>
      obtain ⟨e, ρ3, e3, p, j3⟩ := h1 rfl
      obtain ⟨rs, ρ', e4, j4, l4, p4⟩ := w_lcL J P st es (out ++ [e]) ρ3 (fun x hx => hm x (.tail _ hx)) (by simp; omega) j3
      refine ⟨[e] :: rs, ρ', ?_, j4, by simp [l4], ?_⟩
      · unfold lcL
        rw [e1]
        simp only [e2, noE, Out.bind, if_true, e3]
        rw [if_pos (by omega), e4]
        simp
      · intro i x r hx hr
        cases i with
        | zero => simp at hx hr; subst hx; subst hr; exact p
        | succ i => simp at hx hr; exact p4 i x r hx hr
    | false =>
      obtain ⟨p, j3⟩ := h2 rfl
      obtain ⟨rs, ρ', e4, j4, l4, p4⟩ := w_lcL J P st es out ρ2 (fun x hx => hm x (.tail _ hx)) (by omega) j3
      refine ⟨[] :: rs, ρ', ?_, j4, by simp [l4], ?_⟩
      · unfold lcL
        rw [e1]
        simp only [e2, noE, Out.bind]
        rw [if_neg (by decide), e4]
        simp
      · intro i x r hx hr
        cases i with
        | zero => simp at hx hr; subst hx; subst hr; exact p
        | succ i => simp at hx hr; exact p4 i x r hx hr
theorem restL_wip (vs : List Nat) : ∀ (i : Nat) (a b c : List SD), wipL vs i b = wipL vs i c → restL vs i a b = restL vs i a c
  | _, [], [], _, _ => by simp [restL]
  | _, [], _ :: _, _, _ => by simp [restL]
  | i, a :: as, b, c, h => by
    cases b with
    | nil =>
      cases c with
      | nil => rfl
      | cons _ _ => simp [wipL] at h
    | cons x b =>
      cases c with
      | nil => simp [wipL] at h
      | cons y c =>
        simp only [wipL, List.cons.injEq] at h
        simp only [restL]
        rw [restL_wip vs (i + 1) as b c h.2]
        cases z : vs.contains i with
        | true => rfl
        | false =>
          rw [z] at h
          have h1 : x = y := h.1
          rw [h1]
theorem restE_wipe {ρ ρ' : En} (h : wipeE vs ρ' = wipeE vs ρ) : restE vs ρ ρ' = restE vs ρ ρ := by
  unfold wipeE at h
  have h1 : ρ'.b = ρ.b := (En.mk.inj h).1
  have h2 : wipL vs 0 ρ'.sl = wipL vs 0 ρ.sl := (En.mk.inj h).2
  unfold restE
  rw [restL_wip vs 0 _ _ _ h2, h1]
theorem restE_wipeB {ρ ρ' : En} {b : Bag} (h : wipeE vs ρ' = { wipeE vs ρ with b := b }) : restE vs ρ ρ' = { restE vs ρ ρ with b := b } := by
  unfold wipeE at h
  have h1 : ρ'.b = b := (En.mk.inj h).1
  have h2 : wipL vs 0 ρ'.sl = wipL vs 0 ρ.sl := (En.mk.inj h).2
  unfold restE
  rw [restL_wip vs 0 _ _ _ h2, h1]
theorem flat_filterMap {f : D → Option D} : ∀ (es : List D) (rs : List (List D)), rs.length = es.length → (∀ (i : Nat) (d : D) (r : List D), es[i]? = some d → rs[i]? = some r → r = (f d).toList) → rs.flatten = es.filterMap f
  | [], [], _, _ => rfl
  | e :: es, r :: rs, h, k => by
    have h0 := k 0 e r rfl rfl
    have h1 := flat_filterMap es rs (by simpa using h) fun i d r hx hr => k (i + 1) d r (by simpa using hx) (by simpa using hr)
    rw [List.flatten_cons, h1, h0, List.filterMap_cons]
    cases f e <;> rfl
/-- a comprehension whose elements are a function of what goes by -/
theorem w_lcF (f : D → Option D) (h : W (fi ρ) fun ds ρ1 => ds.length ≤ big ∧ (∀ d ∈ ds, ∃ ρ2, tf d (wipeE vs ρ1) = some ρ2 ∧ W (ft ρ2) fun k ρ3 => (k = true → W (fe ρ3) fun e ρ4 => f d = some e ∧ wipeE vs ρ4 = wipeE vs ρ1) ∧ (k = false → f d = none ∧ wipeE vs ρ3 = wipeE vs ρ1)) ∧
      QV (.lst (ds.filterMap f), true) (restE vs ρ1 ρ1)) : W (lcE fi tf ft fe vs ρ) QV := by
  obtain ⟨ds, ρ1, e, hl, st, q⟩ := h
  obtain ⟨rs, ρ', e4, j4, l4, p4⟩ := w_lcL (ds := ds) (tf := tf) (ft := ft) (fe := fe) (vs := vs) (fun ρ => wipeE vs ρ = wipeE vs ρ1) (fun d r => r = (f d).toList) (fun d hd ρ j => by
    obtain ⟨ρ2, e2, w⟩ := st d hd
    refine ⟨ρ2, by rw [j]; exact e2, w.mp fun k ρ3 ⟨h1, h2⟩ => ⟨fun hk => (h1 hk).mp fun e ρ4 ⟨p, q⟩ => ⟨by rw [p]; rfl, q⟩, fun hk => ⟨by rw [(h2 hk).1]; rfl, (h2 hk).2⟩⟩⟩) ds [] ρ1 (fun _ h => h) (by simpa using hl) rfl
  refine ⟨_, _, ?_, q⟩
  unfold lcE
  rw [e]
  simp only [Out.bind, e4, noE, List.nil_append]
  rw [flat_filterMap ds rs l4 p4, restE_wipe j4]
theorem flat_one : ∀ (es : List D) (rs : List (List D)) (P : D → D → Prop), rs.length = es.length → (∀ (i : Nat) (d : D) (r : List D), es[i]? = some d → rs[i]? = some r → ∃ e, r = [e] ∧ P d e) → rs.flatten.length = es.length ∧ ∀ (i : Nat) (d e : D), es[i]? = some d → rs.flatten[i]? = some e → P d e
  | [], [], _, _, _ => ⟨rfl, fun _ _ _ h => by simp at h⟩
  | e :: es, r :: rs, P, h, k => by
    obtain ⟨x, rfl, p⟩ := k 0 e r rfl rfl
    obtain ⟨h1, h2⟩ := flat_one es rs P (by simpa using h) fun i d r hx hr => k (i + 1) d r (by simpa using hx) (by simpa using hr)
    refine ⟨by simp [h1], fun i d y hx hr => ?_⟩
    cases i with
    | zero => simp at hx hr; subst hx; subst hr; exact p
    | succ i => simp at hx hr; exact h2 i d y hx (by simpa using hr)
/-- a comprehension whose elements are drawn -/
theorem w_lcB (P : D → D → Prop) (h : W (fi ρ) fun ds ρ1 => ds.length ≤ big ∧ BagOk ρ1.b ∧ (∀ d ∈ ds, ∀ b, BagOk b → ∃ ρ2, tf d { wipeE vs ρ1 with b := b } = some ρ2 ∧ W (ft ρ2) fun k ρ3 => k = true ∧ W (fe ρ3) fun e ρ4 => P d e ∧ BagOk ρ4.b ∧ (wipeE vs ρ4).sl = (wipeE vs ρ1).sl) ∧
      ∀ es b, BagOk b → es.length = ds.length → (∀ (i : Nat) (d e : D), ds[i]? = some d → es[i]? = some e → P d e) → QV (.lst es, true) { restE vs ρ1 ρ1 with b := b }) : W (lcE fi tf ft fe vs ρ) QV := by
  obtain ⟨ds, ρ1, e, hl, hb, st, q⟩ := h
  obtain ⟨rs, ρ', e4, j4, l4, p4⟩ := w_lcL (ds := ds) (tf := tf) (ft := ft) (fe := fe) (vs := vs) (fun ρ => BagOk ρ.b ∧ (wipeE vs ρ).sl = (wipeE vs ρ1).sl) (fun d r => ∃ e, r = [e] ∧ P d e) (fun d hd ρ j => by
    obtain ⟨ρ2, e2, w⟩ := st d hd ρ.b j.1
    refine ⟨ρ2, ?_, w.mp fun k ρ3 ⟨h1, h2⟩ => ⟨fun hk => h2.mp fun e ρ4 ⟨p, q⟩ => ⟨⟨e, rfl, p⟩, q⟩, fun hk => by rw [h1] at hk; cases hk⟩⟩
    rw [← e2]
    congr 1
    show wipeE vs ρ = ⟨ρ.b, (wipeE vs ρ1).sl⟩
    rw [← j.2]
    rfl) ds [] ρ1 (fun _ h => h) (by simpa using hl) ⟨hb, rfl⟩
  obtain ⟨h1, h2⟩ := flat_one ds rs P l4 p4
  refine ⟨_, _, ?_, q rs.flatten ρ'.b j4.1 h1 h2⟩
  unfold lcE
  rw [e]
  simp only [Out.bind, e4, noE, List.nil_append]
  have : restE vs ρ1 ρ' = { restE vs ρ1 ρ1 with b := ρ'.b } := restE_wipeB (by
    show (⟨_, _⟩ : En) = ⟨_, _⟩
    congr 1
    exact j4.2)
  rw [this]
end
end ND

end
section
set_option linter.all false
/-! single operators on data -/
namespace ND
open PySem PySem.Spec PyProof.Rows L2
theorem ex_one {α : Type} {o : Option α} {a : α} {Q : α → Prop} (h : o = some a) (q : Q a) : ∃ a, o = some a ∧ Q a := ⟨a, h, q⟩
theorem ex_bag {d : D} {s : Option SD} {f : Int → Option Bag} {v : Int} {b : Bag} {Q : Bag → Prop} (h1 : d = .int v) (h2 : s = some .bag) (h3 : f v = some b) (q : Q b) : ∃ v b', d = .int v ∧ s = some .bag ∧ f v = some b' ∧ Q b' := ⟨v, b, h1, h2, h3, q⟩
theorem ex_par {l : List D} {a b : D} {Q : D → D → Prop} (h : l = [a, b]) (q : Q a b) : ∃ a b, l = [a, b] ∧ Q a b := ⟨a, b, h, q⟩
theorem ex_par3 {l : List D} {a b c : D} {Q : D → D → D → Prop} (h : l = [a, b, c]) (q : Q a b c) : ∃ a b c, l = [a, b, c] ∧ Q a b c := ⟨a, b, c, h, q⟩
theorem ex_join {d o : D} {x : Str} {Q : Str → D → Prop} {g : Str → Option D} (h : d = .str x) (h1 : g x = some o) (q : Q x o) : ∃ x e, d = .str x ∧ g x = some e ∧ Q x e := ⟨x, o, h, h1, q⟩
theorem ex_mul {i j : Int} {Q : D → Prop} (h : -(2 ^ 64) < j ∧ j < 2 ^ 64) (q : Q (.int (i * j))) : ∃ e, mulD (.int i) (.int j) = some e ∧ Q e := ⟨_, by show (if _ then _ else _) = _; rw [if_pos (.inr h)], q⟩
theorem ex_mul' {i j : Int} {Q : D → Prop} (h : -(2 ^ 64) < i ∧ i < 2 ^ 64) (q : Q (.int (i * j))) : ∃ e, mulD (.int i) (.int j) = some e ∧ Q e := ⟨_, by show (if _ then _ else _) = _; rw [if_pos (.inl h)], q⟩
theorem ex_mod {i j : Int} {Q : D → Prop} (h : 0 < j) (q : Q (.int (i % j))) : ∃ e, modD (.int i) (.int j) = some e ∧ Q e := ⟨_, by show (if _ then _ else _) = _; rw [if_pos h], q⟩
theorem ex_fdiv {i j : Int} {Q : D → Prop} (h : 0 < j) (h1 : j < 1073741824) (q : Q (.int (i / j))) : ∃ e, fdivD (.int i) (.int j) = some e ∧ Q e := ⟨_, by show (if _ then _ else _) = _; rw [if_pos ⟨h, h1⟩], q⟩
theorem ex_pow {i j : Int} {Q : D → Prop} (h : 0 ≤ j ∧ j ≤ 1000000) (h1 : i.natAbs < 2 ^ 64) (q : Q (.int (i ^ j.toNat))) : ∃ e, powD (.int i) (.int j) = some e ∧ Q e := ⟨_, by show (if _ then _ else _) = _; rw [if_pos ⟨h.1, h.2, h1⟩], q⟩
theorem eqi (i j : Int) : PyData.eqv (.int i) (.int j) = decide (i = j) := by
  unfold PyData.eqv
  rw [Bool.eq_iff_iff]
  simp
theorem ex_eqi {i j : Int} {Q : D → Prop} (q : Q (.bl (decide (i = j)))) : ∃ e, bD eqD (.int i) (.int j) = some e ∧ Q e := ⟨_, by rw [← eqi]; rfl, q⟩
theorem eqb (i j : Bool) : PyData.eqv (.bool i) (.bool j) = (i == j) := by
  unfold PyData.eqv
  rfl
theorem ex_neb {i j : Bool} {Q : D → Prop} (q : Q (.bl (!(i == j)))) : ∃ e, nD eqD (.bl i) (.bl j) = some e ∧ Q e := ⟨_, by rw [← eqb]; rfl, q⟩
theorem ex_eqb {i j : Bool} {Q : D → Prop} (q : Q (.bl (i == j))) : ∃ e, bD eqD (.bl i) (.bl j) = some e ∧ Q e := ⟨_, by rw [← eqb]; rfl, q⟩
theorem atI_in {α : Type} {ds : List α} {i : Int} (h0 : 0 ≤ i) (h1 : i < ds.length) : ∃ d, atI ds i = some d ∧ d ∈ ds := by
  have h2 : i.toNat < ds.length := by omega
  refine ⟨ds[i.toNat], ?_, List.getElem_mem h2⟩
  unfold atI ixN
  rw [if_pos h0, if_pos h1]
  exact List.getElem?_eq_getElem h2
theorem ex_ix {ds : List D} {i : Int} {Q : D → Prop} (h0 : 0 ≤ i) (h1 : i < ds.length) (q : ∀ d ∈ ds, Q d) : ∃ e, ixD (.lst ds) (.int i) = some e ∧ Q e := by
  obtain ⟨d, e, m⟩ := atI_in h0 h1
  exact ⟨d, e, q d m⟩
theorem ex_ixT {ds : List D} {i : Int} {Q : D → Prop} (h0 : 0 ≤ i) (h1 : i < ds.length) (q : ∀ d ∈ ds, Q d) : ∃ e, ixD (.tup ds) (.int i) = some e ∧ Q e := by
  obtain ⟨d, e, m⟩ := atI_in h0 h1
  exact ⟨d, e, q d m⟩
theorem ex_ixns {ns : List Int} {i : Int} {Q : D → Prop} (h0 : 0 ≤ i) (h1 : decide (i < ((ns.map D.int).length : Int)) = true) (q : ∀ n : Int, Q (.int n)) : ∃ e, ixD (.lst (ns.map D.int)) (.int i) = some e ∧ Q e :=
  ex_ix h0 (of_decide_eq_true h1) fun d hd => by
    obtain ⟨n, _, rfl⟩ := List.mem_map.mp hd
    exact q n
end ND

end
section
set_option linter.all false
/-! comprehensions over what a list is made of; kinds; texts -/
namespace ND
open PySem PySem.Spec PyProof.Rows L2
section
variable {β : Type} {ρ : En} {fi : FA} {tf : FG} {ft : FT} {fe : FD} {vs : List Nat} {QV : D × Bool → En → Prop}
theorem lcM_go (toD h : β → D) (ys : List β) (ρ1 : En) (st : ∀ y ∈ ys, ∃ ρ2, tf (toD y) (wipeE vs ρ1) = some ρ2 ∧ W (ft ρ2) fun k ρ3 => k = true ∧ W (fe ρ3) fun e ρ4 => e = h y ∧ wipeE vs ρ4 = wipeE vs ρ1) : ∀ (zs : List β) (out : List D) (ρ : En), (∀ y ∈ zs, y ∈ ys) → out.length + zs.length ≤ big → wipeE vs ρ = wipeE vs ρ1 →
    ∃ ρ', lcL tf ft fe vs (zs.map toD) out ρ = .ok (out ++ zs.map h, ρ') ∧ wipeE vs ρ' = wipeE vs ρ1
  | [], out, ρ, _, _, e => ⟨ρ, by simp [lcL], e⟩
  | z :: zs, out, ρ, hm, hl, e => by
    simp only [List.length_cons] at hl
    obtain ⟨ρ2, e2, k, ρ3, e3, rfl, x, ρ4, e4, rfl, e5⟩ := st z (hm z (.head _))
    obtain ⟨ρ', e6, e7⟩ := lcM_go toD h ys ρ1 st zs (out ++ [h z]) ρ4 (fun y hy => hm y (.tail _ hy)) (by simp; omega) e5
    refine ⟨ρ', ?_, e7⟩
    simp only [List.map_cons]
    unfold lcL
    rw [e, e2]
    simp only [e3, noE, Out.bind, if_true, e4]
    rw [if_pos (by omega), e6]
    simp
/-- a comprehension over the image of a list -/
theorem w_lcM (toD h : β → D) (ys : List β) (q : W (fi ρ) fun ds ρ1 => ds = ys.map toD ∧ ys.length ≤ big ∧ (∀ y ∈ ys, ∃ ρ2, tf (toD y) (wipeE vs ρ1) = some ρ2 ∧ W (ft ρ2) fun k ρ3 => k = true ∧ W (fe ρ3) fun e ρ4 => e = h y ∧ wipeE vs ρ4 = wipeE vs ρ1) ∧
      QV (.lst (ys.map h), true) (restE vs ρ1 ρ1)) : W (lcE fi tf ft fe vs ρ) QV := by
  obtain ⟨ds, ρ1, e, rfl, hl, st, q⟩ := q
  obtain ⟨ρ', e1, e2⟩ := lcM_go toD h ys ρ1 st ys [] ρ1 (fun _ h => h) (by simpa using hl) rfl
  refine ⟨_, _, ?_, q⟩
  unfold lcE
  rw [e]
  simp only [Out.bind, e1, noE, List.nil_append]
  rw [restE_wipe e2]
end
theorem w_dic {ρ : En} {fp : FPs} {QV : D × Bool → En → Prop} (q : W (fp ρ) fun ps ρ1 => ((ps.map (·.1)).Nodup ∧ ps.length ≤ 15) ∧ QV (.dic ps, true) ρ1) : W (dicE fp ρ) QV := by
  obtain ⟨ps, ρ1, e, h, q⟩ := q
  exact ⟨_, _, by unfold dicE; rw [e]; simp only [Out.bind, if_pos h], q⟩
theorem w_pnil {ρ : En} {Q : List (Key × D) → En → Prop} (q : Q [] ρ) : W (pnil ρ) Q := ⟨_, _, rfl, q⟩
theorem w_pcons {ρ : En} {fk fv : FD} {r : FPs} {Q : List (Key × D) → En → Prop} (q : W (fk ρ) fun a ρ1 => W (fv ρ1) fun c ρ2 => W (r ρ2) fun s ρ3 => ∃ k, keyOf a = some k ∧ Q ((k, c) :: s) ρ3) : W (pcons fk fv r ρ) Q := by
  obtain ⟨a, ρ1, e1, c, ρ2, e2, s, ρ3, e3, k, e4, q⟩ := q
  exact ⟨_, _, by unfold pcons; rw [e1]; simp only [Out.bind, e2, e3, e4], q⟩
theorem len_app (x y : Str) : (x ++ y).length = x.length + y.length := by
  show (x.cps ++ y.cps).size = x.cps.size + y.cps.size
  simp
theorem isi1 {d : D} {a t : String} {k : Bool} (h : tyD d = some a) (h1 : (tys.contains t && (subB a t == k)) = true) : isiD [d, .opq (.ty t)] = some (.bl k) := by
  rw [Bool.and_eq_true] at h1
  obtain ⟨h1, h2⟩ := h1
  show ((tyD d).bind fun a => if tys.contains t = true then some (subB a t) else none).map D.bl = _
  rw [h]
  simp only [Option.bind_some, if_pos h1, Option.map_some, eq_of_beq h2]
theorem ex_isiT {d : D} {a t : String} {Q : D → Prop} (h : tyD d = some a) (h1 : (tys.contains t && (subB a t == true)) = true) (q : Q (.bl true)) : ∃ e, isiD [d, .opq (.ty t)] = some e ∧ Q e := ⟨_, isi1 h h1, q⟩
theorem ex_isiF {d : D} {a t : String} {Q : D → Prop} (h : tyD d = some a) (h1 : (tys.contains t && (subB a t == false)) = true) (q : Q (.bl false)) : ∃ e, isiD [d, .opq (.ty t)] = some e ∧ Q e := ⟨_, isi1 h h1, q⟩
theorem isi2 {d : D} {a t u : String} {k : Bool} (h : tyD d = some a) (h1 : (tys.contains t && tys.contains u && ((subB a t || subB a u) == k)) = true) : isiD [d, .tup [.opq (.ty t), .opq (.ty u)]] = some (.bl k) := by
  rw [Bool.and_eq_true, Bool.and_eq_true] at h1
  obtain ⟨⟨h1, h3⟩, h2⟩ := h1
  have e1 : isiOne d (.opq (.ty t)) = some (subB a t) := by
    show ((tyD d).bind fun a => if tys.contains t = true then some (subB a t) else none) = _
    rw [h]
    simp only [Option.bind_some, if_pos h1]
  have e2 : isiOne d (.opq (.ty u)) = some (subB a u) := by
    show ((tyD d).bind fun a => if tys.contains u = true then some (subB a u) else none) = _
    rw [h]
    simp only [Option.bind_some, if_pos h3]
  show ((tyD d).bind fun _ => (isiMany d [.opq (.ty t), .opq (.ty u)]).map D.bl) = _
  rw [h]
  simp only [Option.bind_some, isiMany, e1, e2, Option.map_some]
  rw [← eq_of_beq h2]
  simp
theorem ex_isi2T {d : D} {a t u : String} {Q : D → Prop} (h : tyD d = some a) (h1 : (tys.contains t && tys.contains u && ((subB a t || subB a u) == true)) = true) (q : Q (.bl true)) : ∃ e, isiD [d, .tup [.opq (.ty t), .opq (.ty u)]] = some e ∧ Q e := ⟨_, isi2 h h1, q⟩
theorem ex_isi2F {d : D} {a t u : String} {Q : D → Prop} (h : tyD d = some a) (h1 : (tys.contains t && tys.contains u && ((subB a t || subB a u) == false)) = true) (q : Q (.bl false)) : ∃ e, isiD [d, .tup [.opq (.ty t), .opq (.ty u)]] = some e ∧ Q e := ⟨_, isi2 h h1, q⟩
theorem shaped_str {x : Str} (h : PySem.PyData.canLay0 (.str x) = true) : SeqAt.shaped (.str x) = true := by
  unfold SeqAt.shaped
  rw [h]
  rfl
abbrev okS (x : Str) : Bool := x.cps.all (· < 0x110000)
theorem ex_eqs {x y : Str} {Q : D → Prop} (hx : okS x = true) (hy : okS y = true) (q : Q (.bl (x == y))) : ∃ e, bD eqD (.str x) (.str y) = some e ∧ Q e := by
  refine ⟨_, ?_, q⟩
  show (if (SeqAt.shaped (.str x) && SeqAt.shaped (.str y)) = true then some (PyData.eqv (.str x) (.str y)) else none).map D.bl = _
  rw [shaped_str (by unfold PyData.canLay0; exact hx), shaped_str (by unfold PyData.canLay0; exact hy)]
  simp only [Bool.and_self, if_true, Option.map_some]
  rfl
theorem okS_app {x y : Str} (hx : okS x = true) (hy : okS y = true) : okS (x ++ y) = true := by
  show (x.cps ++ y.cps).all (· < 0x110000) = true
  rw [Array.all_append]
  simp only [Bool.and_eq_true]
  exact ⟨hx, hy⟩
theorem okS_slice {x : Str} (hx : okS x = true) (lo hi : Option Int) : okS (Txt.slice x lo hi) = true := by
  unfold Txt.slice
  split
  · exact hx
  · unfold okS at hx ⊢
    rw [Array.all_eq_true'] at hx ⊢
    intro c hc
    obtain ⟨i, _, h⟩ := List.mem_filterMap.mp (by simpa using hc)
    exact hx c (Array.mem_of_getElem? h)
theorem ex_addS {x y : Str} {Q : D → Prop} (hx : okS x = true) (hy : okS y = true) (h : x.length + y.length ≤ big) (q : ∀ z, okS z = true → z.length = x.length + y.length → Q (.str z)) : ∃ e, addD (.str x) (.str y) = some e ∧ Q e := ⟨_, by show (if _ then _ else _) = _; rw [if_pos h], q _ (okS_app hx hy) (len_app x y)⟩
theorem or_addS {x y : Str} {Q : D → Prop} {C : Prop} (hx : okS x = true) (hy : okS y = true) (h : x.length + y.length ≤ big) (q : ∀ z, okS z = true → z.length = x.length + y.length → Q (.str z)) : (∃ e, addD (.str x) (.str y) = some e ∧ Q e) ∨ C := .inl (ex_addS hx hy h q)
theorem ex_slS {x : Str} {lo hi : Option Int} {Q : D × Bool → Prop} (h : x.length ≤ big) (hx : okS x = true) (q : ∀ y, okS y = true → y.length ≤ x.length → Q (.str y, false)) : ∃ r, slD (.str x) lo hi = some r ∧ Q r := ⟨_, by show (if _ then _ else _) = _; rw [if_pos h], q _ (okS_slice hx lo hi) (Txt.slice_le x lo hi)⟩
theorem ex_lenS {x : Str} {Q : D → Prop} (h : x.length ≤ big) (q : Q (.int x.length)) : ∃ e, lenD (.str x) = some e ∧ Q e := ⟨_, by show (if _ then _ else _) = _; rw [if_pos h], q⟩
theorem inS_one (c : Nat) (y : Str) : inD (.str ⟨#[c]⟩) (.str y) = some (decide (c ∈ y.cps.toList)) := by
  show some _ = _
  rw [StrLaws.found_one]
theorem ex_inS1 {c : Nat} {y : Str} {Q : D → Prop} (q : Q (.bl (decide (c ∈ y.cps.toList)))) : ∃ e, bD inD (.str ⟨#[c]⟩) (.str y) = some e ∧ Q e := ⟨_, by unfold bD; rw [inS_one]; rfl, q⟩
theorem str_ext {x y : Str} (h : x.cps.toList = y.cps.toList) : x = y := by
  cases x; cases y
  congr 1
  exact Array.toList_inj.mp h
theorem glued_one (c : Nat) (cs : List Nat) : Txt.join ⟨#[]⟩ ((c :: cs).map fun c => (⟨#[c]⟩ : Str)) = ⟨(c :: cs).toArray⟩ := by
  apply str_ext
  unfold Txt.join Builtin.Str.glued
  simp only [List.map_cons, List.drop_succ_cons, List.drop_zero, List.headD_cons]
  have : ∀ (ds : List Nat) (a : Array Nat), (List.foldl (fun acc p => acc ++ (#[] : Array Nat) ++ p.cps) a (ds.map fun c => (⟨#[c]⟩ : Str))).toList = a.toList ++ ds := by
    intro ds
    induction ds with
    | nil => intro a; simp
    | cons d ds ih => intro a; simp only [List.map_cons, List.foldl_cons]; rw [ih]; simp
  rw [this]
  simp
theorem joinD_one (cs : List Nat) (h0 : cs ≠ []) (h : cs.length ≤ big) : joinD (.str ⟨#[]⟩) (.lst (cs.map fun c => D.str ⟨#[c]⟩)) = some (.str ⟨cs.toArray⟩) := by
  have e : ∀ ds : List Nat, strsD (ds.map fun c => D.str ⟨#[c]⟩) = some (ds.map fun c => (⟨#[c]⟩ : Str)) := by
    intro ds
    induction ds with
    | nil => rfl
    | cons d ds ih => simp only [List.map_cons, strsD, ih, Option.map_some]
  have l : ∀ ds : List Nat, ((ds.map fun c => (⟨#[c]⟩ : Str)).map (·.length)).sum = ds.length := by
    intro ds
    induction ds with
    | nil => rfl
    | cons d ds ih => simp only [List.map_cons, List.sum_cons, List.length_cons]; rw [ih]; show 1 + ds.length = ds.length + 1; omega
  show ((strsD (cs.map fun c => D.str ⟨#[c]⟩)).bind fun ys => if (ys.map (·.length)).sum + ys.length * (⟨#[]⟩ : Str).length ≤ big then some (D.str (Txt.join ⟨#[]⟩ ys)) else none) = _
  rw [e]
  simp only [Option.bind_some]
  rw [l, if_pos (by show cs.length + _ * 0 ≤ big; omega)]
  cases cs with
  | nil => exact absurd rfl h0
  | cons c cs => rw [glued_one]
end ND

end
section
set_option linter.all false
set_option maxRecDepth 100000
/-! bits; a tuple many times; while -/
namespace ND
open PySem PySem.Spec PyProof.Rows L2
variable {X : Cx}
def shlD : D → D → Option D
  | .int i, .int j => if 0 ≤ j ∧ (Builtin.Int.intBits i : Int) + j ≤ 2 ^ 27 then some (.int (i * 2 ^ j.toNat)) else none
  | _, _ => none
theorem od_shl : OpD X (binaryOp .LShift) shlD := opd_keep op_shlW fun T N H v1 v2 d1 d2 d r1 r2 e => by
  unfold shlD at e
  split at e <;> try cases e
  rename_i i j
  split at e <;> simp only [Option.some.injEq, reduceCtorEq] at e
  rename_i hc
  subst e
  exact ⟨_, .int _, fun Q q => ⟨_, _, r1.int_inv, r2.int_inv, hc, q⟩⟩
def shrD : D → D → Option D
  | .int i, .int j => if 0 ≤ j then some (.int (i / 2 ^ j.toNat)) else none
  | _, _ => none
theorem od_shr : OpD X (binaryOp .RShift) shrD := opd_keep op_shr fun T N H v1 v2 d1 d2 d r1 r2 e => by
  unfold shrD at e
  split at e <;> try cases e
  rename_i i j
  split at e <;> simp only [Option.some.injEq, reduceCtorEq] at e
  rename_i hc
  subst e
  exact ⟨_, .int _, fun Q q => ⟨_, _, r1.int_inv, r2.int_inv, hc, q⟩⟩
def bandD : D → D → Option D
  | .int i, .int j => some (.int (Builtin.bitAnd i j))
  | _, _ => none
theorem od_band : OpD X (binaryOp .BitAnd) bandD := opd_keep op_and fun T N H v1 v2 d1 d2 d r1 r2 e => by
  unfold bandD at e
  split at e <;> simp only [Option.some.injEq, reduceCtorEq] at e
  subst e
  exact ⟨_, .int _, fun Q q => ⟨_, _, r1.int_inv, r2.int_inv, q⟩⟩
def borD : D → D → Option D
  | .int i, .int j => some (.int (Builtin.bitOr i j))
  | _, _ => none
theorem od_bor : OpD X (binaryOp .BitOr) borD := opd_keep op_or fun T N H v1 v2 d1 d2 d r1 r2 e => by
  unfold borD at e
  split at e <;> simp only [Option.some.injEq, reduceCtorEq] at e
  subst e
  exact ⟨_, .int _, fun Q q => ⟨_, _, r1.int_inv, r2.int_inv, q⟩⟩
def bxorD : D → D → Option D
  | .int i, .int j => some (.int (Builtin.bitXor i j))
  | _, _ => none
theorem od_bxor : OpD X (binaryOp .BitXor) bxorD := opd_keep op_xor fun T N H v1 v2 d1 d2 d r1 r2 e => by
  unfold bxorD at e
  split at e <;> simp only [Option.some.injEq, reduceCtorEq] at e
  subst e
  exact ⟨_, .int _, fun Q q => ⟨_, _, r1.int_inv, r2.int_inv, q⟩⟩
def repTD : D → D → Option D
  | .tup xs, .int k => if xs ≠ [] ∧ 2 ≤ k ∧ k ≤ 1000 ∧ xs.length ≤ 1000 then some (.tup (List.replicate k.toNat xs).flatten) else none
  | _, _ => none
theorem Reps.repn {T : Tg} {N : AP1} {H : Hp} {vs : List V} {ds : List D} (h : Reps T N H vs ds) : ∀ n : Nat, Reps T N H (List.replicate n vs).flatten (List.replicate n ds).flatten
  | 0 => .nil
  | n + 1 => by
    rw [List.replicate_succ, List.replicate_succ, List.flatten_cons, List.flatten_cons]
    exact h.app (Reps.repn h n)
theorem od_rept : OpD X (binaryOp .Mult) repTD := ⟨_, op_repT, fun T N H v1 v2 d1 d2 d Q al r1 r2 e q => by
  unfold repTD at e
  split at e <;> try cases e
  rename_i xs k
  split at e <;> simp only [Option.some.injEq, reduceCtorEq] at e
  rename_i hc
  obtain ⟨c1, c2, c3, c4⟩ := hc
  subst e
  obtain ⟨a, vs, rfl, na, ha, qa⟩ := r1.tup_inv
  refine ⟨a, k, vs, rfl, r2.int_inv, .of ha, fun z => ?_, c2, c3, by rw [qa.length]; exact c4, fun p hp => ?_⟩
  · subst z
    cases qa
    exact c1 rfl
  · have kk : ∀ b u, H b = some u → upd H p (.tup (List.replicate k.toNat vs).flatten) b = some u := fun b u h => by
      rw [upd_ne (ne_of_none h hp)]; exact h
    exact q _ _ kk (.ref (fun z => al p z hp) upd_same (.tup ((Reps.repn qa k.toNat).move fun b u n h => ⟨n, kk b u h⟩)))⟩
/-! ### while -/
def whL (t : FT) (g : FS) : Nat → FS
  | 0 => fun _ => .no
  | n + 1 => fun ρ => (t ρ).bind fun r => if r.1 = true then (g r.2).bind fun s => match s.1 with
      | .nx => whL t g n s.2
      | .ct => whL t g n s.2
      | .bk => .ok (.nx, s.2)
      | .rt d fr => .ok (.rt d fr, s.2)
    else .ok (.nx, r.2)
theorem ns_while {c : Cn} {E : WX} {ft : FT} {fb : FS} {t : Expr} {body : List Stmt} {pos : Pos} (n : Nat) (hp : PassesOwn (model X.prog X.w) X.A X.env X.xe) (hc : PT X t (rdT c E ft)) (hb : PSs X body (rdS c E fb)) :
    PS X (.While t body [] pos) (rdS c E (whL ft fb n)) := PS.mono (ps_while hp hc hb) fun D σ H ⟨N, W, ρ, er, q⟩ => by
  refine ⟨fun m σ H => ∃ N W ρ, ER c N W H σ ρ ∧ satS c N W H E D (whL ft fb m ρ), ⟨n, N, W, ρ, er, q⟩, ?_⟩
  rintro m σ2 H2 ⟨N2, W2, ρ2, e2, q2⟩
  cases m with
  | zero => exact q2.elim
  | succ m =>
    refine ⟨N2, W2, ρ2, e2, (satS.bind (σ := σ2) q2).imp fun N1 W1 H1 r1 t1 e1 q1 => ?_⟩
    obtain ⟨k, ρ1⟩ := r1
    obtain ⟨q1, _⟩ := q1
    cases k with
    | false => exact q1 N1 W1 H1 σ2 (.refl _ _ _) e1
    | true =>
      refine ⟨fun σ' H' => ∃ N W ρ, ER c N W H' σ' ρ ∧ satS c N W H' E D (whL ft fb m ρ), fun σ' H' h => ⟨m, Nat.lt_succ_self m, h⟩, N1, W1, ρ1, e1, ?_⟩
      have again : ∀ {ρ5 : En}, satS c N1 W1 H1 E D (whL ft fb m ρ5) → ∀ N' W' H5 σ5, Stp N1 W1 H1 N' W' H5 → ER c N' W' H5 σ5 ρ5 → ∃ N W ρ, ER c N W H5 σ5 ρ ∧ satS c N W H5 E D (whL ft fb m ρ) :=
        fun {ρ5} z N' W' H5 σ5 t5 e5 => ⟨N', W', ρ5, e5, z.step t5⟩
      have q3 : satS c N1 W1 H1 E D ((fb ρ1).bind fun s => match s.1 with
        | .nx => whL ft fb m s.2
        | .ct => whL ft fb m s.2
        | .bk => .ok (.nx, s.2)
        | .rt d fr => .ok (.rt d fr, s.2)) := q1
      match hm : fb ρ1 with
      | .ok (.nx, ρ5) => rw [hm] at q3; exact again q3
      | .ok (.ct, ρ5) => rw [hm] at q3; exact again q3
      | .ok (.bk, ρ5) => rw [hm] at q3; exact q3
      | .ok (.rt d fr, ρ5) => rw [hm] at q3; exact q3
      | .err x ρ5 => rw [hm] at q3; exact q3
      | .no => rw [hm] at q3; exact q3.elim
end ND

end
section
set_option Elab.async false
set_option linter.all false
set_option maxRecDepth 100000
set_option maxHeartbeats 4000000
/-! enumerate of a tuple -/
namespace PySem
open AutoSeq1 (wpAny_loadPart')
theorem nd_enum_newT (l : Addr) (items : Array Value) (n : Nat) (dct : Option Addr) (sl : Array (Option Value)) :
    Meets (Builtin.«enumerate.__new__» ⟨[.type "enumerate", .ref l], []⟩) (fun _ R s => s.heap.get? l = some { cls := .type "tuple", dict := dct, data := .seq items n, slots := sl } ∧
      R (.ok (.ret (.ref (s.heap.push { cls := .type "tuple_iterator", data := .fields #[.ref l, .int 0 0] }).objs.size)))
        { s with heap := (s.heap.push { cls := .type "tuple_iterator", data := .fields #[.ref l, .int 0 0] }).push { cls := .type "enumerate", data := .fields #[.none, .bool false, .ref s.heap.objs.size, rawInt 0, .none, .none] } }) :=
  .of_wp fun prog w A R s h => by
    obtain ⟨hp, g, d, tk, os⟩ := s; obtain ⟨hl, h⟩ := h
    have hsub := sub_enumerate
    have hL : Heap.IsTuple (Shared.heap ⟨hp, g, d, tk, os⟩) l items := ⟨_, hl, rfl, n, rfl⟩
    wp_walk using wpAny_loadPart' hl
    refine wpAny_stack_any fun st => wpAny_pure ?_
    split
    · rename_i c _ _ _ _ _
      cases (c == Value.type "enumerate")
      · wp_walk using wpAny_loadPart' hl, wpAny_pyIter_tuple hL
        exact ⟨_, rfl, h⟩
      · wp_walk using wpAny_loadPart' hl, wpAny_pyIter_tuple hL
        exact ⟨_, rfl, h⟩
    · wp_walk using wpAny_loadPart' hl, wpAny_pyIter_tuple hL
      exact ⟨_, rfl, h⟩
theorem nd_call_enumT {prog : Program} {w : World} {A : Around} {E : Value → Shared → Prop} {s : Shared} {l : Addr} {items : Array Value} {Q : Value → Shared → Prop} (hL : s.heap.IsTuple l items)
    (h : ∀ h', IsEnum h' (s.heap.objs.size + 1) s.heap.objs.size 0 .none → h'.IsTupleIter s.heap.objs.size l 0 → h'.objs.size = s.heap.objs.size + 2 →
      (∀ b o, s.heap.get? b = some o → h'.get? b = some o) → Q (.ref (s.heap.objs.size + 1)) { s with heap := h' }) :
    wpAny (model prog w) A (call (.type "enumerate") [.ref l]) Q E s := by
  obtain ⟨⟨c, dct, dt, sl⟩, hl, hc, n, hd⟩ := hL
  replace hc : c = .type "tuple" := hc
  replace hd : dt = .seq items n := hd
  subst hc hd
  refine callType_new F.called_enumerate (by decide) (F.typeCall_enumerate_1 _) (F.newCall_enumerate_1 _) (fun obj => F.args_object_init_2 obj _) F.entry_enumerate_new
    (nd_enum_newT l items n dct sl) ⟨hl, ?_⟩
  have hz : (s.heap.push { cls := .type "tuple_iterator", data := .fields #[.ref l, .int 0 0] }).objs.size = s.heap.objs.size + 1 := Heap.size_push ..
  show _ ∧ _
  rw [hz]
  have he : IsEnum ((s.heap.push { cls := .type "tuple_iterator", data := .fields #[.ref l, .int 0 0] }).push
      { cls := .type "enumerate", data := .fields #[.none, .bool false, .ref s.heap.objs.size, rawInt 0, .none, .none] }) (s.heap.objs.size + 1) s.heap.objs.size 0 .none := by
    have := Heap.get?_push_size (s.heap.push { cls := .type "tuple_iterator", data := .fields #[.ref l, .int 0 0] })
      (o := { cls := .type "enumerate", data := .fields #[.none, .bool false, .ref s.heap.objs.size, rawInt 0, .none, .none] }) rfl
    rw [hz] at this; exact this
  refine ⟨⟨_, he, rfl⟩, h _ he ⟨_, Heap.get?_push_of_some _ (Heap.get?_push_size _ rfl), rfl, rfl⟩ (by rw [Heap.size_push, hz]) fun b o x => Heap.get?_push_of_some _ (Heap.get?_push_of_some _ x)⟩
end PySem
namespace ND
open PySem PySem.Spec PyProof.Rows L2
theorem draws_end {prog : Program} {w : World} {A : Around} (hh : A.handled = none) (it t : Addr) (items : Array Value) (i : Nat) (hx : items[i]? = none) :
    Draws prog w A it [it, t] i (fun _ _ => True) (fun j h => j = i ∧ h.IsTupleIter it t i ∧ h.IsTuple t items) where
  live := fun _ _ st => let ⟨o, ho, _⟩ := st.2.1; ⟨o, ho⟩
  frame := fun _ _ _ st hk => ⟨st.1, st.2.1.at fun o e => hk it (by simp) o e, st.2.2.at fun o e => hk t (by simp) o e⟩
  item := fun j s Q E hi st hQ => by
    obtain ⟨rfl, _⟩ := st
    omega
  done := fun s Q E st hE => wpAny_nextOf_tuple_end hh st.2.1 st.2.2 hx hE
/-- the tuple at a as it stands at each turn, each item in a new pair -/
def IteT (K : PySem.W.Frag) (a : Addr) : It :=
  ⟨fun i H => ∃ (xs : List V) (x : V), SqT K H a xs ∧ xs[i]? = some x, fun i H v H' => ∃ T x, v = .ref T ∧ H T = none ∧ H' = upd H T (.tup [.int (i : Nat), x]) ∧ ∀ xs, SqT K H a xs → xs[i]? = some x, fun i H => ∃ xs : List V, SqT K H a xs ∧ xs.length ≤ i⟩
theorem turn_enumT {P : Program} {w : World} {K : PySem.W.Frag} {elts : List Expr} {kk : Nat} {tpos : Pos} (a e it : Addr) (hai : a ≠ it) (hea : e ≠ a) :
    Turn P w K (.Tuple elts kk tpos) (IteT K a) [e, it] e (fun i h => (∃ old, IsEnum h e it ((i : Nat) : Int) old) ∧ h.IsTupleIter it a i ∧ e ≠ it) where
  mem := by simp
  obj := fun i h st b hb => by
    obtain ⟨⟨old, he⟩, ⟨o, ho, hc, hd⟩, _⟩ := st
    have e' : b = e ∨ b = it := by simpa using hb
    rcases e' with z | z
    · rw [z]; exact ⟨_, he, fun v q => nomatch q⟩
    · rw [z]; exact ⟨o, ho, fun v q => by rw [hd] at q; cases q⟩
  keep := fun i h h' st k => let ⟨⟨old, he⟩, hi, hne⟩ := st; ⟨⟨old, k e (by simp) _ he⟩, hi.at fun o q => k it (by simp) o q, hne⟩
  item := by
    intro X hP hw hK hc i pins s σ H E I hf st hg
    subst hP hw hK
    obtain ⟨⟨old, he⟩, hit, hne⟩ := st
    obtain ⟨xs, x, hq, hx⟩ := hg
    obtain ⟨its, rv, p, _⟩ := I.tuple hq
    obtain ⟨u, hu, ru⟩ := rv.get hx
    have hel : e < s.heap.objs.size := Heap.lt_size he
    have hil : it < s.heap.objs.size := by obtain ⟨_, q, _⟩ := hit; exact Heap.lt_size q
    have hlt : i < its.toArray.size := by
      have := (List.getElem?_eq_some_iff.mp hu).1
      simpa using this
    refine wpAny_pyNext_enum_itemC (Draws.tuple (A := X.A.in1) (I.ok.hd hc) it a hai its.toArray) he ⟨hit, p⟩ hlt hne (by simp [hne, hea]) fun y h' tk hy ho hs' hT hsz hk => ?_
    have hyu : y = u := by
      have h1 : its.toArray[i]? = some y := hy
      have h2 : its.toArray[i]? = some u := by simpa using hu
      rw [h1] at h2
      exact Option.some.inj h2
    subst hyu
    refine ⟨_, rfl, wpAny_letOwnedTupleGo_enum (s := { s with heap := h', toks := tk + 1 }) ho fun h'' he' sb => ?_⟩
    have hT2 : h''.get? s.heap.objs.size = some { cls := .type "tuple", data := .seq #[.int i tk, y] } := (sb.2 _ (Nat.ne_of_gt hel)).trans hT
    have new : ObjOk X.prog X.w (upd H s.heap.objs.size (.tup [.int (i : Nat), x])) h'' s.heap.objs.size (.tup [.int (i : Nat), x]) :=
      ⟨by show 2 ≤ sizeLine; decide, [.int i tk, y], .cons ⟨_, rfl⟩ (.cons ru .nil), ⟨_, hT2, rfl, _, rfl⟩⟩
    have I1 : Inv X pins σ (upd H s.heap.objs.size (.tup [.int (i : Nat), x])) { s with heap := h'', toks := tk + 1 } :=
      I.turnedNew (ch := [e, it]) (fun b ob hb q => (sb.2 b (fun z => hb (by simp [z]))).trans (hk b ob (fun z => hb (by simp [z])) (fun z => hb (by simp [z])) q)) hf (Nat.le_refl _) new
    refine ⟨.ref s.heap.objs.size, _, I1, rfl, ⟨_, x, rfl, I.hok.fresh (Nat.le_refl _), rfl, fun ys hy => by rw [I.tuple_inj hy hq]; exact hx⟩, ⟨⟨y, ?_⟩, hs'.1.at fun o q => (sb.2 it (Ne.symm hne)).trans q, hne⟩, fun b hb => ?_⟩
    · have e1 : ((i + 1 : Nat) : Int) = (i : Int) + 1 := by omega
      rw [e1]; exact he'
    · have hb' : b < s.heap.objs.size := by
        have e' : b = e ∨ b = it := by simpa using hb
        rcases e' with z | z
        · rw [z]; exact hel
        · rw [z]; exact hil
      rw [upd_ne (Nat.ne_of_lt hb')]
      exact (hf b hb).1
  done := by
    intro X hP hw hK hc i pins s σ H E I hf st hg
    subst hP hw hK
    obtain ⟨⟨old, he⟩, hit, hne⟩ := st
    obtain ⟨xs, hq, hx⟩ := hg
    obtain ⟨its, rv, p, _⟩ := I.tuple hq
    obtain ⟨f0, f1, f2, f3, f4, f5⟩ := hf it (by simp)
    have hl := rv.length
    exact wpAny_pyNext_enum_endD (draws_end (A := X.A.in1) (I.ok.hd hc) it a its.toArray i (by simp; omega)) he ⟨rfl, hit, p⟩ fun h' eb => ⟨rfl, I.turned (t' := s.toks) (fun b o hb q => eb b o hb q) f0 f1 f3 f4 f5⟩
  self := fun A i s Q E st h => let ⟨⟨_, he⟩, _⟩ := st; wpAny_pyIter_enum he h
def iEnumA (K : PySem.W.Frag) (ta : TA) : TI := fun σ H R => ta σ H fun vs H1 => ∃ a xs, vs = [.ref a] ∧ ((SqL K H1 a xs ∧ R (Ite K a) H1) ∨ (SqT K H1 a xs ∧ R (IteT K a) H1))
theorem pi_enumA {X : Cx} {e : Expr} {ta : TA} {p pos tpos : Pos} {elts : List Expr} {kk : Nat} (hg : Gl X "enumerate") (hm : X.mg "enumerate" = none) (ha : PA X [e] ta) (hs : starEach [e] X.env = [(false, eval e X.env)] := by rfl) :
    PI X (.Tuple elts kk tpos) (.Call (.Name "enumerate" p) [e] [] pos) (iEnumA X.K ta) := by
  refine ⟨fun pins s σ H R I h => ?_⟩
  refine Call_ (ld_blt I hg hm boot_enumerate (PyProof.Rows.callWith_type1 (thn (ha.run pos pins s σ H _ I h) fun us s1 ⟨vs, H1, I1, r1, q1⟩ => ?_) hs rfl))
  obtain ⟨a, xs, ex, q1⟩ := q1
  subst ex
  cases r1 with
  | cons r rr =>
    cases rr
    cases r
    have fresh2 : ∀ b, b ∈ [s1.heap.objs.size + 1, s1.heap.objs.size] → FpOk X pins H1 b := fun b hb => by
      have e' : b = s1.heap.objs.size + 1 ∨ b = s1.heap.objs.size := by simpa using hb
      have hle : s1.heap.objs.size ≤ b := by
        rcases e' with z | z
        · rw [z]; exact Nat.le_add_right _ _
        · rw [z]; exact Nat.le_refl _
      exact I1.fpOk hle (I1.hok.fresh hle)
    rcases q1 with ⟨hq, q⟩ | ⟨hq, q⟩
    · obtain ⟨its, rv, p', hz⟩ := I1.list hq
      refine call_enumerate_list p'.isList fun h' he hit hsz hk => wpAny_pyIter_enum he ?_
      have I2 : Inv X pins σ H1 { s1 with heap := h' } := I1.kept (t' := s1.toks) hk
      exact ⟨s1.heap.objs.size + 1, [s1.heap.objs.size + 1, s1.heap.objs.size], _, _, H1, rfl, I2, turn_enum a (s1.heap.objs.size + 1) s1.heap.objs.size, ⟨⟨.none, he⟩, hit, Nat.succ_ne_self _⟩, fresh2, q⟩
    · obtain ⟨its, rv, p', _⟩ := I1.tuple hq
      have hlt : a < s1.heap.objs.size := by obtain ⟨o, ho, _⟩ := id p'; exact Heap.lt_size ho
      refine nd_call_enumT (show s1.heap.IsTuple a its.toArray from p') fun h' he hit hsz hk => wpAny_pyIter_enum he ?_
      have I2 : Inv X pins σ H1 { s1 with heap := h' } := I1.kept (t' := s1.toks) hk
      exact ⟨s1.heap.objs.size + 1, [s1.heap.objs.size + 1, s1.heap.objs.size], _, _, H1, rfl, I2, turn_enumT a (s1.heap.objs.size + 1) s1.heap.objs.size (Nat.ne_of_lt hlt) (Nat.ne_of_gt (Nat.lt_succ_of_lt hlt)), ⟨⟨.none, he⟩, hit, Nat.succ_ne_self _⟩, fresh2, q⟩
def enumL : Nat → List D → List D
  | _, [] => []
  | i, d :: ds => .tup [.int (i : Nat), d] :: enumL (i + 1) ds
theorem enumL_len : ∀ (ds : List D) (i : Nat), (enumL i ds).length = ds.length
  | [], _ => rfl
  | _ :: ds, i => by simp only [enumL, List.length_cons]; rw [enumL_len ds (i + 1)]
theorem enumL_get : ∀ (ds : List D) (i j : Nat) (d : D), (enumL i ds)[j]? = some d → ∃ x, ds[j]? = some x ∧ d = .tup [.int ((i + j : Nat) : Int), x]
  | [], _, _, _, h => by simp [enumL] at h
  | x :: ds, i, 0, d, h => by
    simp [enumL] at h
    exact ⟨x, rfl, h.symm⟩
  | x :: ds, i, j + 1, d, h => by
    simp only [enumL, List.getElem?_cons_succ] at h
    obtain ⟨y, h1, h2⟩ := enumL_get ds (i + 1) j d h
    refine ⟨y, by simpa using h1, ?_⟩
    rw [h2, show i + 1 + j = i + (j + 1) by omega]
def enumD : List D → Option (List D)
  | [.lst xs] => some (enumL 0 xs)
  | [.tup xs] => some (enumL 0 xs)
  | _ => none
def enumI (fa : FA) : FA := fun ρ => (fa ρ).bind fun r => ofO (enumD r.1) r.2
theorem enum_src {c : Cn} {a : Addr} {oa : HO} {vs : List V} {ds : List D} {J : It}
    (go : ∀ H i, H a = some oa → i < vs.length → J.go i H) (stop : ∀ H i, H a = some oa → vs.length ≤ i → J.stop i H)
    (yld : ∀ H i x H', H a = some oa → J.yld i H x H' → ∃ T u, x = .ref T ∧ H T = none ∧ H' = upd H T (.tup [.int (i : Nat), u]) ∧ vs[i]? = some u) :
    Srcs c J (enumL 0 ds) (fun N H => At c.T a oa vs ds N H) where
  keep := fun N W H N' W' H' σ ρ ⟨h1, h2, h3⟩ e t => ⟨(e.mv t a oa h1 h2).1, (e.mv t a oa h1 h2).2, h3.move (e.mv t)⟩
  side := fun N H D u ⟨h1, h2, h3⟩ hD => by
    have nd : ∀ b, ¬ N b → b ≠ D := fun b n z => n (z ▸ hD)
    exact ⟨h1, by rw [upd_ne (nd a h1)]; exact h2, h3.move fun b w n z => ⟨n, by rw [upd_ne (nd b n)]; exact z⟩⟩
  more := fun N H D ⟨h1, h2, h3⟩ hD => ⟨fun z => z.elim h1 (ne_of_none h2 hD), h2, h3.move fun b w n z => ⟨fun y => y.elim n (ne_of_none z hD), z⟩⟩
  go := fun N H i ⟨h1, h2, h3⟩ hi => go H i h2 (by rw [h3.length]; rw [enumL_len] at hi; exact hi)
  stop := fun N H i ⟨h1, h2, h3⟩ hi => stop H i h2 (by rw [h3.length]; rw [enumL_len] at hi; exact hi)
  yld := fun N H i x H' d ⟨h1, h2, h3⟩ al y hd => by
    obtain ⟨T, u, rfl, hT, rfl, hu⟩ := yld H i x H' h2 y
    obtain ⟨d1, e1, rfl⟩ := enumL_get ds 0 i d hd
    obtain ⟨u', hu', ru⟩ := h3.get e1
    rw [hu] at hu'
    cases hu'
    have k : ∀ b w, H b = some w → upd H T (.tup [.int (i : Nat), u]) b = some w := fun b w z => by
      rw [upd_ne (ne_of_none z hT)]; exact z
    have mv : ∀ b w, ¬ N b → H b = some w → ¬ N b ∧ upd H T (.tup [.int (i : Nat), u]) b = some w := fun b w n z => ⟨n, k b w z⟩
    rw [show 0 + i = i by omega]
    exact ⟨k, .ref (fun z => al T z hT) upd_same (.tup (.cons (.int _) (.cons (ru.move mv) .nil))), ⟨h1, k _ _ h2, h3.move mv⟩⟩
theorem ni_enum {X : Cx} {c : Cn} {E : WX} {e : Expr} {fa : FA} {pos p tpos : Pos} {elts : List Expr} {kk : Nat} (hg : Gl X "enumerate") (hm : X.mg "enumerate" = none) (ha : PA X [e] (rdA c E fa)) (hs : starEach [e] X.env = [(false, eval e X.env)] := by rfl) :
    PI X (.Tuple elts kk tpos) (.Call (.Name "enumerate" p) [e] [] pos) (rdI c E (enumI fa)) := PI.mono (pi_enumA hg hm ha hs) fun σ H R ⟨N, W, ρ, er, q⟩ => by
  refine ⟨N, W, ρ, er, q.bind.imp fun N1 W1 H1 r1 t1 e1 q1 vs rv => ?_⟩
  obtain ⟨ds, hd, q2⟩ := ofO_ok q1 e1
  have q3 := q2 N1 W1 H1 (.refl _ _ _) e1
  obtain ⟨ds1, ρ1⟩ := r1
  dsimp only at hd rv
  unfold enumD at hd
  split at hd <;> simp only [Option.some.injEq, reduceCtorEq] at hd
  · subst hd
    cases rv with
    | cons r1 r2 =>
      cases r2
      obtain ⟨a, vs, rfl, n, h2, h3⟩ := r1.lst_inv
      have sq : ∀ {H : Hp} {a : Addr} {vs : List V}, H a = some (.lst vs) → SqL X.K H a vs := fun h => .of h
      exact ⟨a, vs, rfl, .inl ⟨sq h2, q3 _ _ (enum_src (fun H i h hi => ⟨vs, vs[i], sq h, by simp [hi]⟩) (fun H i h hi => ⟨vs, sq h, hi⟩)
        fun H i x H' h y => by obtain ⟨T, u, e1, e2, e3, e4⟩ := y; exact ⟨T, u, e1, e2, e3, e4 vs (sq h)⟩) ⟨n, h2, h3⟩⟩⟩
  · subst hd
    cases rv with
    | cons r1 r2 =>
      cases r2
      obtain ⟨a, vs, rfl, n, h2, h3⟩ := r1.tup_inv
      have sq : ∀ {H : Hp} {a : Addr} {vs : List V}, H a = some (.tup vs) → SqT X.K H a vs := fun h => .of h
      exact ⟨a, vs, rfl, .inr ⟨sq h2, q3 _ _ (enum_src (fun H i h hi => ⟨vs, vs[i], sq h, by simp [hi]⟩) (fun H i h hi => ⟨vs, sq h, hi⟩)
        fun H i x H' h y => by obtain ⟨T, u, e1, e2, e3, e4⟩ := y; exact ⟨T, u, e1, e2, e3, e4 vs (sq h)⟩) ⟨n, h2, h3⟩⟩⟩
end ND

end
section
set_option linter.all false
set_option maxRecDepth 100000
/-! ints of the module -/
namespace ND
open PySem PySem.Spec PyProof.Rows L2
theorem nd_glI {X : Cx} {c : Cn} {E : WX} {pos : Pos} {x : Str} {i : Int} (hm : ∃ t, X.mg x = some (.int i t)) (hg : Gl X x) (hd : (x == ("__debug__" : Str)) = false := by decide) : PE X (.Name x pos) (rdD c E (cst (.int i))) := by
  obtain ⟨t, hm⟩ := hm
  exact PE.mono (pe_glob (v := .int i) hg hm ⟨_, rfl⟩ hd) fun σ H Q ⟨N, W, ρ, er, q⟩ => q.here er _ (.int i)
end ND

end
section
set_option linter.all false
set_option maxRecDepth 100000
/-! ~x, x.bit_length(), min and max of two, starred items -/
namespace ND
open PySem PySem.Spec PyProof.Rows L2
section
variable {X : Cx} {c : Cn} {E : WX} {pos p apos : Pos} {e : Expr} {es : List Expr} {f : FD} {fr : FA}
def invD : D → Option D
  | .int i => some (.int (Builtin.bitNot i))
  | _ => none
theorem nd_inv (h : PE X e (rdD c E f)) : PE X (.UnaryOp .Invert e pos) (rdD c E (un1 invD f)) := PE.mono (pe_un un_inv h) fun σ H Q ⟨N, W, ρ, er, q⟩ => by
  refine ⟨N, W, ρ, er, q.bind.imp fun N1 W1 H1 r1 t1 e1 q1 v1 rv1 => ?_⟩
  obtain ⟨d, hd, q2⟩ := ofO_ok q1 e1
  unfold invD at hd
  split at hd <;> cases hd
  rename_i i hi
  rw [hi] at rv1
  exact ⟨i, rv1.int_inv, q2 N1 W1 H1 (.refl _ _ _) e1 _ (.int _)⟩
def bitsD : D → Option D
  | .int i => some (.int (Builtin.Int.intBits i : Nat))
  | _ => none
theorem nd_bits (h : PE X e (rdD c E f)) (hbase : attributeBase e "bit_length" X.env (eval e X.env) = eval e X.env := by rfl) (hline : (apos.endLine == pos.line) = true := by rfl) : PE X (.Call (.Attribute e "bit_length" apos) [] [] pos) (rdD c E (un1 bitsD f)) := PE.mono (pe_bits h hbase hline) fun σ H Q ⟨N, W, ρ, er, q⟩ => by
  refine ⟨N, W, ρ, er, q.bind.imp fun N1 W1 H1 r1 t1 e1 q1 v1 rv1 => ?_⟩
  obtain ⟨d, hd, q2⟩ := ofO_ok q1 e1
  unfold bitsD at hd
  split at hd <;> cases hd
  rename_i i hi
  rw [hi] at rv1
  exact ⟨i, rv1.int_inv, q2 N1 W1 H1 (.refl _ _ _) e1 _ (.int _)⟩
def minD : List D → Option D
  | [.int i, .int j] => some (.int (if j < i then j else i))
  | _ => none
theorem cd_min (hc : X.calm = true) : CallD X (.builtin "min") minD := ⟨_, call_min2 hc, fun T N H vs ds d Q al r h q => by
  unfold minD at h
  split at h <;> cases h
  cases r with
  | cons r1 r2 => cases r2 with
    | cons r2 r3 =>
      cases r3
      have e1 := r1.int_inv
      have e2 := r2.int_inv
      subst e1 e2
      exact ⟨_, _, rfl, q _ H (fun _ _ h => h) (.int _)⟩⟩
def maxD : List D → Option D
  | [.int i, .int j] => some (.int (if j > i then j else i))
  | _ => none
theorem cd_max (hc : X.calm = true) : CallD X (.builtin "max") maxD := ⟨_, call_max2 hc, fun T N H vs ds d Q al r h q => by
  unfold maxD at h
  split at h <;> cases h
  cases r with
  | cons r1 r2 => cases r2 with
    | cons r2 r3 =>
      cases r3
      have e1 := r1.int_inv
      have e2 := r2.int_inv
      subst e1 e2
      exact ⟨_, _, rfl, q _ H (fun _ _ h => h) (.int _)⟩⟩
def astar (f : FD) (g : FA) : FA := fun ρ => (f ρ).bind fun r => (ofO (listD r.1) r.2).bind fun l => (g l.2).bind fun s => .ok (l.1 ++ s.1, s.2)
theorem na_star (he : PE X e (rdD c E f)) (hr : PA X es (rdA c E fr)) (hs : starEach (.Starred e p :: es) X.env = (true, eval e X.env) :: starEach es X.env := by rfl) : PA X (.Starred e p :: es) (rdA c E (astar f fr)) := PA.mono (StX.pa_star he hr hs) fun σ H Q ⟨N, W, ρ, er, q⟩ => by
  refine ⟨N, W, ρ, er, q.bind.imp fun N1 W1 H1 r1 t1 e1 q1 v1 rv1 => ?_⟩
  obtain ⟨d1, ρ1⟩ := r1
  dsimp only at q1 rv1 e1
  cases hd : listD d1 with
  | none => rw [hd] at q1; exact q1.elim
  | some ds =>
    rw [hd] at q1
    have q1' : sat c N1 W1 H1 σ E (fun N' _ H' r => ∀ v, Reps c.T N' H' v r.1 → Q v H') ((fr ρ1).bind fun s => .ok (ds ++ s.1, s.2)) := q1
    clear q1
    rename _ => q1
    unfold listD at hd
    split at hd <;> cases hd
    · obtain ⟨a, vs, rfl, n, h2, h3⟩ := rv1.lst_inv
      refine ⟨a, vs, rfl, .inr (.of h2), N1, W1, ρ1, e1, q1.bind.imp fun N2 W2 H2 r2 t2 e2 q2 v2 rv2 => ?_⟩
      exact q2.here e2 _ ((h3.move (e1.mv t2)).app rv2)
    · obtain ⟨a, vs, rfl, n, h2, h3⟩ := rv1.tup_inv
      refine ⟨a, vs, rfl, .inl (.of h2), N1, W1, ρ1, e1, q1.bind.imp fun N2 W2 H2 r2 t2 e2 q2 v2 rv2 => ?_⟩
      exact q2.here e2 _ ((h3.move (e1.mv t2)).app rv2)
end
end ND

end
section
set_option linter.all false
set_option maxRecDepth 100000
/-! sorted of a list of ints -/
namespace ND
open PySem PySem.Spec PyProof.Rows L2
theorem sorted_unique : ∀ {l1 l2 : List Int}, l1.Perm l2 → l1.Pairwise (· ≤ ·) → l2.Pairwise (· ≤ ·) → l1 = l2
  | [], l2, h, _, _ => (List.Perm.nil_eq h)
  | a :: l1, [], h, _, _ => absurd h.length_eq (by simp)
  | a :: l1, b :: l2, h, h1, h2 => by
    have e : a = b := by
      rw [List.pairwise_cons] at h1 h2
      have m1 : a ∈ b :: l2 := h.subset (.head _)
      have m2 : b ∈ a :: l1 := h.symm.subset (.head _)
      rcases List.mem_cons.mp m1 with e | m1
      · exact e
      · rcases List.mem_cons.mp m2 with e | m2
        · exact e.symm
        · have := h2.1 a m1
          have := h1.1 b m2
          omega
    subst e
    rw [sorted_unique (List.Perm.cons_inv h) (List.pairwise_cons.mp h1).2 (List.pairwise_cons.mp h2).2]
def srtI (ns : List Int) : List Int := ns.mergeSort fun a b => decide (a ≤ b)
theorem srtI_perm (ns : List Int) : (srtI ns).Perm ns := List.mergeSort_perm ..
theorem srtI_sorted (ns : List Int) : (srtI ns).Pairwise (· ≤ ·) := by
  have := List.pairwise_mergeSort (le := fun a b : Int => decide (a ≤ b)) (fun a b c h1 h2 => by simp at h1 h2 ⊢; omega) (fun a b => by simp; omega) ns
  exact this.imp fun h => by simpa using h
def sortedD : D → Option (List D)
  | .lst ds => (intsD ds).map fun ns => (srtI ns).map .int
  | _ => none
theorem ints_repsN {T : Tg} {N : AP1} {H : Hp} : ∀ ns : List Int, Reps T N H (ns.map V.int) (ns.map D.int)
  | [] => .nil
  | n :: ns => .cons (.int n) (ints_repsN ns)
theorem cq_sortedI {X : Cx} : CallQL X (.builtin "sorted") sortedD := ⟨_, cr_sortedI, fun c N H v d es Q r h q => by
  unfold sortedD at h
  split at h
  · rename_i ds
    obtain ⟨a, vs, rfl, h2, h3⟩ := r.seq
    cases e : intsD ds with
    | none => rw [e] at h; cases h
    | some ns =>
      rw [e] at h
      cases h
      have := ints_rep h3 e
      subst this
      refine ⟨a, ns, rfl, .of h2, fun ns' p hp hs hn => ?_⟩
      have e2 : ns' = srtI ns := sorted_unique (hp.trans (srtI_perm ns).symm) hs (srtI_sorted ns)
      subst e2
      exact q p _ hn (ints_repsN _)
  · cases h⟩
end ND

end
section
set_option linter.all false
set_option maxRecDepth 100000
/-! tuple(range(n)), list(range(n)) -/
namespace ND
open PySem PySem.Spec PyProof.Rows L2
section
variable {X : Cx} {c : Cn} {E : WX} {pos p p2 pos2 : Pos} {a : Expr} {f : FD}
def rgD : D → Option (List D)
  | .int n => if n ≤ 100000 ∧ -100000 ≤ n then some (rng 0 n.toNat) else none
  | _ => none
theorem rng_reps {T : Tg} {N : AP1} {H : Hp} (n : Int) : Reps T N H (rgV 0 n) (rng 0 n.toNat) := by
  unfold rgV rng
  rw [show (n - 0).toNat = n.toNat by omega]
  generalize List.range n.toNat = l
  induction l with
  | nil => exact .nil
  | cons i l ih => exact .cons (.int _) ih
def tupRgE (f : FD) : FD := fun ρ => (f ρ).bind fun r => (ofO (rgD r.1) r.2).bind fun s => .ok (.tup s.1, s.2)
def lstRgE (f : FD) : FV := fun ρ => (f ρ).bind fun r => (ofO (rgD r.1) r.2).bind fun s => .ok ((.lst s.1, true), s.2)
theorem nd_tupRg (hc : X.calm = true) (hg : Gl X "tuple") (hm : X.mg "tuple" = none) (hg2 : Gl X "range") (hm2 : X.mg "range" = none) (h : PE X a (rdD c E f)) (na2 : starEach [a] X.env = (false, eval a X.env) :: starEach [] X.env := by rfl)
    (na : starEach [.Call (.Name "range" p2) [a] [] pos2] X.env = (false, eval (.Call (.Name "range" p2) [a] [] pos2) X.env) :: starEach [] X.env := by rfl) :
    PE X (.Call (.Name "tuple" p) [.Call (.Name "range" p2) [a] [] pos2] [] pos) (rdD c E (tupRgE f)) := PE.mono (pe_tupRg hc hg hm (prg_1 hg2 hm2 h na2) na) fun σ H Q ⟨N, W, ρ, er, q⟩ => by
  refine ⟨N, W, ρ, er, q.bind.imp fun N1 W1 H1 r1 t1 e1 q1 v1 rv1 => ?_⟩
  obtain ⟨d1, ρ1⟩ := r1
  dsimp only at q1 rv1 e1
  cases hd : rgD d1 with
  | none => rw [hd] at q1; exact q1.elim
  | some ds =>
    rw [hd] at q1
    have q2 : sat c N1 W1 H1 σ E (fun N' _ H' r => ∀ v, Rep c.T N' H' v r.1 → Q v H') (.ok (.tup ds, ρ1)) := q1
    unfold rgD at hd
    split at hd <;> try cases hd
    rename_i n
    split at hd <;> cases hd
    rename_i hb
    refine ⟨n, rv1.int_inv, ⟨by omega, by omega, by omega, by omega, by omega⟩, fun l hl => ?_⟩
    exact new_tup (.refl _ _ _) e1 hl (rng_reps n) fun N' W' H' t e v rv => q2 N' W' H' t e v rv
theorem nd_lstRg (hc : X.calm = true) (hg : Gl X "list") (hm : X.mg "list" = none) (hg2 : Gl X "range") (hm2 : X.mg "range" = none) (h : PE X a (rdD c E f)) (na2 : starEach [a] X.env = (false, eval a X.env) :: starEach [] X.env := by rfl)
    (na : starEach [.Call (.Name "range" p2) [a] [] pos2] X.env = (false, eval (.Call (.Name "range" p2) [a] [] pos2) X.env) :: starEach [] X.env := by rfl) :
    PE X (.Call (.Name "list" p) [.Call (.Name "range" p2) [a] [] pos2] [] pos) (rdV c E (lstRgE f)) := PE.mono (pe_listRg hc hg hm (prg_1 hg2 hm2 h na2) na) fun σ H Q ⟨N, W, ρ, er, q⟩ => by
  refine ⟨N, W, ρ, er, q.bind.imp fun N1 W1 H1 r1 t1 e1 q1 v1 rv1 => ?_⟩
  obtain ⟨d1, ρ1⟩ := r1
  dsimp only at q1 rv1 e1
  cases hd : rgD d1 with
  | none => rw [hd] at q1; exact q1.elim
  | some ds =>
    rw [hd] at q1
    have q2 : sat c N1 W1 H1 σ E (fun N' W' H' r => ∀ v, VR c H N' W' H' v r.1.1 r.1.2 → Q v H') (.ok ((.lst ds, true), ρ1)) := q1
    unfold rgD at hd
    split at hd <;> try cases hd
    rename_i n
    split at hd <;> cases hd
    rename_i hb
    refine ⟨n, rv1.int_inv, ⟨by omega, by omega, by omega, by omega, by omega⟩, fun l hl => ?_⟩
    exact new_list (.refl _ _ _) e1 hl (rng_reps n) fun N' W' H' t e v rv => q2 N' W' H' t e v (rv.back t1)
end
end ND

end
section
set_option Elab.async false
set_option linter.all false
set_option maxRecDepth 100000
set_option maxHeartbeats 2000000
/-! sorted of tuples of ints, of the empty ones too -/
namespace PySem.W
open PySem PySem.SeqAt PySem.Calls PyProof.Rows
theorem nd_call_tuple_lt {prog : Program} {w : World} {A : Around} {s : Shared} {E : Value → Shared → Prop} {Q : Value → Shared → Prop} {l b : Addr} {items items2 : Array Value} {e r : Nat → Bool} (hl : s.heap.IsTuple l items) (hb : s.heap.IsTuple b items2)
    (he : ∀ j (h1 : j < items.size) (h2 : j < items2.size), EqAt A.in1 s items[j] items2[j] (e j)) (hr : ∀ j (h1 : j < items.size) (h2 : j < items2.size), e j = false → RcLt A.in1 s items[j] items2[j] (r j))
    (h : Q (.bool (firstLt e r (decide (items.size < items2.size)) (List.range (min items.size items2.size)))) s) : wpAny (model prog w) A (call (.builtin "tuple.__lt__") [.ref l, .ref b]) Q E s := by
  obtain ⟨⟨cls, dd, data, sl⟩, ho, hc, n, hd⟩ := id hl
  obtain ⟨⟨cls2, dd2, data2, sl2⟩, ho2, hc2, n2, hd2⟩ := id hb
  simp only at hc hd hc2 hd2
  subst hc hd hc2 hd2
  exact call_meets F.slot_tuple_lt ⟨_, ho, rfl⟩ F.entry_tuple_lt (F.args_tuple_lt_2 _ _) (tuple_ltAt l b items items2 n n2 dd dd2 sl sl2 e r) ⟨ho, ho2, he, hr, h⟩
section
variable {prog : Program} {w : World} {A : Around} {s : Shared}
theorem nd_kind_empty {E : Value → Shared → Prop} {vs : List Value} {Q : SortKind → Shared → Prop} (h2 : 2 ≤ vs.length) (hT : ∀ v ∈ vs, ∃ l, v = .ref l ∧ s.heap.IsTuple l #[]) (h : Q oneType' s) : wpAny (model prog w) A (keyKind' vs.toArray) Q E s := by
  obtain ⟨v₁, v₂, rest, rfl⟩ : ∃ v₁ v₂ rest, vs = v₁ :: v₂ :: rest := by
    match vs, h2 with
    | [], h2 => simp at h2
    | [_], h2 => simp at h2
    | v₁ :: v₂ :: rest, _ => exact ⟨v₁, v₂, rest, rfl⟩
  have hL : ∀ v ∈ v₁ :: v₂ :: rest, Looks (model prog w) s.heap (typeOf v) (.type "tuple") := fun v hv => by
    obtain ⟨l, rfl, o, ho, hc, n, hd⟩ := hT v hv
    show Looks (model prog w) s.heap (typeOf (Value.ref _)) (Value.type "tuple")
    exact hc ▸ (Looks.ld ho).andThen .now
  rw [keyKind'_eq, List.mapM_toArray, map_eq_pure_bind]
  refine wpAny_bind (wpAny_bind (kas_mapM (r := none) _ (fun v hv Q' hq => ?_) (wpAny_pure ?_)))
  · rw [kas_first_eq]
    refine wpAny_bind ((hL v hv).here ?_)
    rw [if_neg (by decide)]
    obtain ⟨l, rfl, hl⟩ := hT v hv
    obtain ⟨o, ho, hc, n, hd⟩ := id hl
    exact wpAny_bind (wpAny_listItems ho hd (wpAny_pure hq))
  · rw [if_neg (by simp), if_neg (by simp)]
    rw [oneTypeOnly'_eq, List.mapM_toArray, map_eq_pure_bind]
    refine wpAny_bind (wpAny_bind (wpAny_bind (kas_mapM (r := Value.type "tuple") _ (fun v hv Q' hq => (hL v hv).here hq) (wpAny_pure ?_))))
    have hall : ((List.map (fun _ => Value.type "tuple") (v₁ :: v₂ :: rest)).toArray.all fun x => x == Value.type "tuple") = true := by
      simp only [List.all_toArray, List.all_map, List.all_eq_true]
      intro _ _
      show (Value.type "tuple" == Value.type "tuple") = true
      decide
    have h0 : (List.map (fun _ => Value.type "tuple") (v₁ :: v₂ :: rest)).toArray[0]? = some (Value.type "tuple") := by simp
    rw [h0]
    simp only [hall, if_true]
    exact wpAny_pure (wpAny_pure h)
theorem nd_sorts_empty {vs : List Value} {ds : List PyData} (e : EachIs (fun v d => ∃ as, Reads s.heap v d as) vs ds) (hd : ∀ d ∈ ds, d = .tuple []) (hu : A.units + 1 < cLine) : SortsAt prog w A s (dataKind s.heap ds) vs := by
  have hal : AllAlike ds := fun d h d' h' => by
    rw [hd d h, hd d' h']
    simp [alike, alikeAll]
  refine ⟨fun v hv => ?_, oneType', ?_, fun h2 E Q hq => ?_⟩
  · obtain ⟨d, hd, as, r⟩ := e.left v hv
    exact ⟨_, dataKind_some hal hd r⟩
  · intro E x y a b Q ha hb hq
    obtain ⟨d, as, hd1, ra, rfl⟩ := dataKind_inv ha
    obtain ⟨d', as', hd2, rb, rfl⟩ := dataKind_inv hb
    have z1 := hd d hd1
    have z2 := hd d' hd2
    subst z1 z2
    cases ra with
    | @tuple l o xs n _ _ h1 h2 h3 h4 =>
      cases rb with
      | @tuple l' o' xs' n' _ _ k1 k2 k3 k4 =>
        have n1 : xs.size = 0 := by simpa using SeqAt.ReadsAll.length _ _ _ h4
        have n2 : xs'.size = 0 := by simpa using SeqAt.ReadsAll.length _ _ _ k4
        have hq' : Q false s := by
          have : (dataKind s.heap ds).blt (keyToks (.tuple [])) (keyToks (.tuple [])) = false := lex_irrefl _
          rw [this] at hq
          exact hq
        rw [keyLt'_oneType, oneLt'_eq]
        simp only [if_true]
        refine wpAny_bind (wpAny_cRoomFor (show A.units < cLine by omega) ?_)
        refine wpAny_bind (wpAny_callSpecialIfBound?_slot (T := "tuple") ⟨_, h1, h2⟩ F.slot_tuple_lt (nd_call_tuple_lt (e := fun _ => true) (r := fun _ => false) ⟨_, h1, h2, _, h3⟩ ⟨_, k1, k2, _, k3⟩ (fun j j1 _ => by omega) (fun j j1 _ _ => by omega) ?_))
        rw [n1, n2]
        exact wpAny_truthy_bool hq'
  · refine nd_kind_empty h2 (fun v hv => ?_) hq
    obtain ⟨d, hd1, as, r⟩ := e.left v hv
    have z := hd d hd1
    subst z
    cases r with
    | @tuple l o xs n _ _ h1 h2 h3 h4 =>
      have n1 : xs.size = 0 := by simpa using SeqAt.ReadsAll.length _ _ _ h4
      have n2 : xs = #[] := Array.eq_empty_of_size_eq_zero n1
      subst n2
      exact ⟨l, rfl, o, h1, h2, n, h3⟩
end
end PySem.W
namespace PySem.W
open PySem PySem.SeqAt PySem.Calls PyProof.Rows
theorem nd_sorted_tups {prog : Program} {w : World} {A : Around} {s : Shared} {E : Value → Shared → Prop} {β : Type} {vs : List Value} {bs : List β} {enc : β → PyData} {R : Value → β → Prop} {l : Addr} {Q : Value → Shared → Prop} (hl : s.heap.IsList l vs.toArray) (e : EachIs R vs bs)
    (er : EachIs (fun v b => ∃ as, Reads s.heap v (enc b) as) vs bs) (hal : AllAlike (bs.map enc)) (hk : Sortable (bs.map enc) ∨ ∀ d ∈ bs.map enc, d = .tuple []) (hL : bs.length ≤ sizeLine)
    (hu : ∀ b, b ∈ bs → A.units + 2 + (enc b).depth < cLine) (hu1 : A.units + 3 < cLine) (h : ∀ out, out.length = bs.length → EachIs R out (bs.mergeSort (dataLe false enc)) → Q (.ref (s.heap.objs.size + 1)) { s with heap := sortedAll s.heap vs (List.toArray out) }) :
    wpAny (model prog w) A (call (.builtin "sorted") [.ref l]) Q E s := by
  have er' : EachIs (fun v b => ∃ as, Reads (sortingHeap (copyHeap s.heap vs) (s.heap.objs.size + 1) vs) v (enc b) as) vs bs := er.mono fun _ _ ⟨as, r⟩ => ⟨as, PyProof.Rows.Reads.keeps (fun _ _ => sorting_copy_old) r⟩
  have S : SortsAt prog w A.in1.in1 { s with heap := sortingHeap (copyHeap s.heap vs) (s.heap.objs.size + 1) vs } (dataKind (sortingHeap (copyHeap s.heap vs) (s.heap.objs.size + 1) vs) (bs.map enc)) vs := by
    rcases hk with hk | hk
    · exact SortsAt.data (s := { s with heap := sortingHeap (copyHeap s.heap vs) (s.heap.objs.size + 1) vs }) (each_map (R := fun v d => ∃ as, Reads (sortingHeap (copyHeap s.heap vs) (s.heap.objs.size + 1) vs) v d as) enc er') hal hk (bound_map hu)
    · exact nd_sorts_empty (s := { s with heap := sortingHeap (copyHeap s.heap vs) (s.heap.objs.size + 1) vs }) (each_map (R := fun v d => ∃ as, Reads (sortingHeap (copyHeap s.heap vs) (s.heap.objs.size + 1) vs) v d as) enc er') hk hu1
  exact sorted_vals hl S (by rw [e.length]; exact hL) (h _ (by rw [sortVals_length false rfl]; exact e.length) (sortVals_data false e er' hal))
theorem nd_dataLe_rowsT {β : Type} (x : β → List Int) : dataLe false (fun b => .tuple ((x b).map .int)) = fun p q => decide (x p ≤ x q) := by
  rw [← dataLe_rows]
  unfold dataLe
  simp only [keyToks]
end PySem.W
namespace ND
open PySem PySem.Spec PyProof.Rows L2
def rST (K : PySem.W.Frag) (u : Prop) : List V → Hp → VK → Prop := fun vs H Q => ∃ (a : Addr) (ys : List V) (k : V → List Int) (n : Nat), vs = [V.ref a] ∧ SqL K H a ys ∧ (∀ y ∈ ys, ∃ t, y = .ref t ∧ SqT K H t ((k y).map V.int) ∧ (k y).length = n) ∧ u ∧
  ∀ (zs : List V) (p : Addr), zs.Perm ys → zs.Pairwise (fun x y => k x ≤ k y) → H p = none → Q (.ref p) (upd H p (.lst zs))
theorem ints_readsAll {h : Heap} : ∀ {ns : List Int} {us : List Value}, Vals (ns.map V.int) us → ∃ as, ReadsAll h us (ns.map PyData.int) as
  | [], _, .nil => ⟨_, .nil⟩
  | _ :: _, _, .cons r rr => by
    obtain ⟨t, rfl⟩ := r
    obtain ⟨as, q⟩ := ints_readsAll rr
    exact ⟨_, .cons (.int _ _) q⟩
theorem each_vals {R : Value → V → Prop} : ∀ {ys : List V} {its : List Value}, Vals ys its → (∀ y ∈ ys, ∀ v, RelV y v → R v y) → PySem.W.EachIs R its ys
  | [], _, .nil, _ => .nil
  | y :: ys, _, .cons r rr, h => .cons (h y (.head _) _ r) (each_vals rr fun z hz => h z (.tail _ hz))
theorem vals_each : ∀ {ys : List V} {its : List Value}, PySem.W.EachIs (fun v y => RelV y v) its ys → Vals ys its
  | [], _, .nil => .nil
  | _ :: _, _, .cons r rr => .cons r (vals_each rr)
theorem cr_sortedT {X : Cx} : CallR X (.builtin "sorted") (rST X.K (X.A.units + 64 < cLine)) := by
  intro pins s σ H vs us Q I r h
  obtain ⟨a, ys, k, n, rfl, hs, hk, hu, q⟩ := h
  obtain ⟨its, rv, hl, hz⟩ := I.list hs
  rw [Vals.ref1 r]
  have hlen0 := rv.length
  have e : PySem.W.EachIs (fun v y => RelV y v) its ys := each_vals rv fun y _ v h => h
  have er : PySem.W.EachIs (fun v b => ∃ as, Reads s.heap v (.tuple ((k b).map PyData.int)) as) its ys := each_vals rv fun y hy v h => by
    obtain ⟨t, rfl, ht, _⟩ := hk y hy
    obtain ⟨its', rv', p, _⟩ := I.tuple ht
    obtain rfl : v = Value.ref t := h
    obtain ⟨o, ho, hc, m, hd⟩ := id p
    obtain ⟨as, q⟩ := ints_readsAll (h := s.heap) rv'
    exact ⟨as, .tuple ho hc hd (by simpa using q)⟩
  have hal : PySem.W.AllAlike (ys.map fun b => PyData.tuple ((k b).map PyData.int)) := .of fun b b' => by
    simp only [PySem.W.alike]
    exact PySem.W.alike_ints _ _
  have hdep : ∀ b, (PyData.tuple ((k b).map PyData.int)).depth = 1 := fun b => by
    simp only [PyData.depth, PySem.W.depth_ints]
  have hk2 : PySem.W.Sortable (ys.map fun b => PyData.tuple ((k b).map PyData.int)) ∨ ∀ d ∈ ys.map (fun b => PyData.tuple ((k b).map PyData.int)), d = .tuple [] := by
    cases n with
    | zero =>
      refine .inr fun d hd => ?_
      obtain ⟨y, hy, rfl⟩ := List.mem_map.mp hd
      obtain ⟨t, _, _, h0⟩ := hk y hy
      rw [List.length_eq_zero_iff.mp h0]
      rfl
    | succ n =>
      refine .inl (.inl fun d hd => ?_)
      obtain ⟨y, hy, rfl⟩ := List.mem_map.mp hd
      obtain ⟨t, _, _, h0⟩ := hk y hy
      cases z : k y with
      | nil => rw [z] at h0; cases h0
      | cons i is => exact ⟨_, _, rfl⟩
  refine PySem.W.nd_sorted_tups (enc := fun b => PyData.tuple ((k b).map PyData.int)) hl.isList e er hal hk2 hz (fun b _ => by rw [hdep]; omega) (by omega) fun out ho eo => ?_
  rw [PySem.W.nd_dataLe_rowsT] at eo
  have hperm : (ys.mergeSort fun p q => decide (k p ≤ k q)).Perm ys := List.mergeSort_perm ..
  have hsort : (ys.mergeSort fun p q => decide (k p ≤ k q)).Pairwise (fun x y => k x ≤ k y) := by
    have := List.pairwise_mergeSort (le := fun p q : V => decide (k p ≤ k q)) (fun a b c h1 h2 => by
      simp only [decide_eq_true_eq] at h1 h2 ⊢
      exact List.le_trans h1 h2) (fun a b => by
      simp only [Bool.or_eq_true, decide_eq_true_eq]
      exact List.le_total _ _) ys
    exact this.imp fun h => by simpa using h
  obtain ⟨ep, he'⟩ := PyProof.Rows.sortedAll_at s.heap its out.toArray
  have hlen : (ys.mergeSort fun p q => decide (k p ≤ k q)).length ≤ sizeLine := by
    rw [hperm.length_eq]
    exact hz
  exact ⟨.ref _, upd H (s.heap.objs.size + 1) (.lst _), I.laid (t' := s.toks) (fun _ _ => PyProof.Rows.sortedAll_old) (Nat.le_succ _) ⟨hlen, out, ep, vals_each eo, he'⟩, rfl, q _ _ hperm hsort (I.hok.fresh (Nat.le_succ _))⟩
end ND

end
section
set_option linter.all false
set_option maxRecDepth 100000
/-! sorted, as a function of data -/
namespace ND
open PySem PySem.Spec PyProof.Rows L2
def rowOf : D → Option (List Int)
  | .tup ds => intsD ds
  | _ => none
def rowsOf : List D → Option (List (List Int))
  | [] => some []
  | d :: ds => match rowOf d, rowsOf ds with
    | some k, some ks => some (k :: ks)
    | _, _ => none
def srtR (ks : List (List Int)) : List (List Int) := ks.mergeSort fun a b => decide (a ≤ b)
theorem srtR_perm (ks : List (List Int)) : (srtR ks).Perm ks := List.mergeSort_perm ..
theorem srtR_sorted (ks : List (List Int)) : (srtR ks).Pairwise (· ≤ ·) := by
  have := List.pairwise_mergeSort (le := fun a b : List Int => decide (a ≤ b)) (fun a b c h1 h2 => by
    simp only [decide_eq_true_eq] at h1 h2 ⊢
    exact List.le_trans h1 h2) (fun a b => by
    simp only [Bool.or_eq_true, decide_eq_true_eq]
    exact List.le_total _ _) ks
  exact this.imp fun h => by simpa using h
theorem rows_unique : ∀ {l1 l2 : List (List Int)}, l1.Perm l2 → l1.Pairwise (· ≤ ·) → l2.Pairwise (· ≤ ·) → l1 = l2
  | [], l2, h, _, _ => (List.Perm.nil_eq h)
  | a :: l1, [], h, _, _ => absurd h.length_eq (by simp)
  | a :: l1, b :: l2, h, h1, h2 => by
    have e : a = b := by
      rw [List.pairwise_cons] at h1 h2
      have m1 : a ∈ b :: l2 := h.subset (.head _)
      have m2 : b ∈ a :: l1 := h.symm.subset (.head _)
      rcases List.mem_cons.mp m1 with e | m1
      · exact e
      · rcases List.mem_cons.mp m2 with e | m2
        · exact e.symm
        · exact List.le_antisymm (h1.1 b m2) (h2.1 a m1)
    subst e
    rw [rows_unique (List.Perm.cons_inv h) (List.pairwise_cons.mp h1).2 (List.pairwise_cons.mp h2).2]
def sameLen (ks : List (List Int)) : Bool := ks.all fun k => k.length == (ks.headD []).length
def rowD (k : List Int) : D := .tup (k.map .int)
def sortedA : D → Option (List D)
  | .lst ds => match intsD ds with
    | some ns => some ((srtI ns).map .int)
    | none => (rowsOf ds).bind fun ks => if sameLen ks = true then some ((srtR ks).map rowD) else none
  | _ => none
theorem rows_rep {T : Tg} {N : AP1} {H : Hp} : ∀ {vs : List V} {ds : List D} {ks : List (List Int)}, Reps T N H vs ds → rowsOf ds = some ks → ds = ks.map rowD ∧ vs.length = ks.length ∧ ∀ (i : Nat) (v : V) (k : List Int), vs[i]? = some v → ks[i]? = some k → ∃ t : Addr, v = V.ref t ∧ H t = some (.tup (k.map V.int)) ∧ ¬ N t
  | _, _, ks, .nil, h => by
    simp only [rowsOf, Option.some.injEq] at h
    subst h
    exact ⟨rfl, rfl, fun i v k h => by simp at h⟩
  | _, _, ks, .cons (d := d) r rr, h => by
    simp only [rowsOf] at h
    split at h
    · rename_i k ks' h1 h2
      cases h
      obtain ⟨e1, e2, e3⟩ := rows_rep rr h2
      unfold rowOf at h1
      split at h1
      · rename_i ds1
        obtain ⟨t, ws, rfl, n, ht, rw'⟩ := r.tup_inv
        have e4 := ints_rep rw' h1
        subst e4
        have e5 : ds1 = k.map D.int := by
          clear rw' r ht
          induction ds1 generalizing k with
          | nil => simp only [intsD, Option.some.injEq] at h1; subst h1; rfl
          | cons x xs ih =>
            cases x <;> simp only [intsD, Option.map_eq_some_iff, reduceCtorEq] at h1
            obtain ⟨k', h3, rfl⟩ := h1
            rw [ih _ h3]
            rfl
        refine ⟨by rw [e5, e1]; rfl, by simp [e2], fun i v k1 hv hk1 => ?_⟩
        cases i with
        | zero =>
          simp only [List.getElem?_cons_zero, Option.some.injEq] at hv hk1
          subst hv hk1
          exact ⟨t, rfl, ht, n⟩
        | succ i =>
          simp only [List.getElem?_cons_succ] at hv hk1
          exact e3 i v k1 hv hk1
      · cases h1
    · cases h
open Classical in
noncomputable def keyAt (H : Hp) (y : V) : List Int := if h : ∃ (k : List Int) (t : Addr), y = .ref t ∧ H t = some (.tup (k.map V.int)) then h.choose else []
theorem mapInt_inj : ∀ {a b : List Int}, a.map V.int = b.map V.int → a = b
  | [], [], _ => rfl
  | [], _ :: _, h => by cases h
  | _ :: _, [], h => by cases h
  | a :: as, b :: bs, h => by
    simp only [List.map_cons, List.cons.injEq, V.int.injEq] at h
    rw [h.1, mapInt_inj h.2]
theorem keyAt_eq {H : Hp} {t : Addr} {k : List Int} (h : H t = some (.tup (k.map V.int))) : keyAt H (.ref t) = k := by
  have q : ∃ (k : List Int) (t' : Addr), (V.ref t : V) = .ref t' ∧ H t' = some (.tup (k.map V.int)) := ⟨k, t, rfl, h⟩
  unfold keyAt
  rw [dif_pos q]
  obtain ⟨t', e1, e2⟩ := q.choose_spec
  cases e1
  rw [h] at e2
  injection e2 with e2
  injection e2 with e2
  exact (mapInt_inj e2).symm
theorem sorted_reps {T : Tg} {N : AP1} {H : Hp} : ∀ (zs : List V), (∀ z ∈ zs, ∃ t : Addr, z = V.ref t ∧ H t = some (.tup ((keyAt H z).map V.int)) ∧ ¬ N t) → Reps T N H zs ((zs.map (keyAt H)).map rowD)
  | [], _ => .nil
  | z :: zs, h => by
    obtain ⟨t, e, h1, h2⟩ := h z (.head _)
    refine .cons ?_ (sorted_reps zs fun y hy => h y (.tail _ hy))
    have : Rep T N H (.ref t) (.tup ((keyAt H z).map D.int)) := .ref h2 h1 (.tup (ints_repsN _))
    subst e
    exact this
theorem cq_sorted {X : Cx} (hu : X.A.units + 64 < cLine) : CallQL X (.builtin "sorted") sortedA := ⟨_, cr_sortedI.or cr_sortedT, fun c N H v d es Q r h q => by
  unfold sortedA at h
  split at h
  · rename_i ds
    obtain ⟨a, vs, rfl, h2, h3⟩ := r.seq
    cases e : intsD ds with
    | some ns =>
      rw [e] at h
      cases h
      have := ints_rep h3 e
      subst this
      refine .inl ⟨a, ns, rfl, .of h2, fun ns' p hp hs hn => ?_⟩
      have e2 : ns' = srtI ns := sorted_unique (hp.trans (srtI_perm ns).symm) hs (srtI_sorted ns)
      subst e2
      exact q p _ hn (ints_repsN _)
    | none =>
      rw [e] at h
      cases e1 : rowsOf ds with
      | none => rw [e1] at h; cases h
      | some ks =>
        rw [e1] at h
        simp only [Option.bind_some] at h
        split at h
        · rename_i hl
          cases h
          obtain ⟨k1, k2, k3⟩ := rows_rep h3 e1
          have hv : ∀ (i : Nat) (v : V), vs[i]? = some v → ∃ (t : Addr) (k : List Int), v = V.ref t ∧ H t = some (.tup (k.map V.int)) ∧ ¬ N t ∧ ks[i]? = some k := fun i v hv => by
            have hi : i < ks.length := by
              have := (List.getElem?_eq_some_iff.mp hv).1
              omega
            obtain ⟨t, t1, t2, t3⟩ := k3 i v ks[i] hv (List.getElem?_eq_getElem hi)
            exact ⟨t, ks[i], t1, t2, t3, List.getElem?_eq_getElem hi⟩
          have hk : vs.map (keyAt H) = ks := by
            apply List.ext_getElem?
            intro i
            rw [List.getElem?_map]
            cases z : vs[i]? with
            | none =>
              rw [List.getElem?_eq_none_iff] at z
              rw [List.getElem?_eq_none_iff.mpr (by omega)]
              rfl
            | some v =>
              obtain ⟨t, k, rfl, t2, t3, t4⟩ := hv i v z
              rw [t4, Option.map_some, keyAt_eq t2]
          have hm : ∀ z ∈ vs, ∃ t : Addr, z = V.ref t ∧ H t = some (.tup ((keyAt H z).map V.int)) ∧ ¬ N t := fun z hz => by
            obtain ⟨i, hi, rfl⟩ := List.getElem_of_mem hz
            obtain ⟨t, k, e1, t2, t3, t4⟩ := hv i _ (List.getElem?_eq_getElem hi)
            refine ⟨t, e1, ?_, t3⟩
            rw [e1, keyAt_eq t2]
            exact t2
          refine .inr ⟨a, vs, keyAt H, (ks.headD []).length, rfl, .of h2, fun y hy => ?_, hu, fun zs p hp hs hn => ?_⟩
          · obtain ⟨t, e1, t2, t3⟩ := hm y hy
            refine ⟨t, e1, .of t2, ?_⟩
            have : keyAt H y ∈ ks := hk ▸ List.mem_map_of_mem hy
            exact eq_of_beq (List.all_eq_true.mp hl _ this)
          · have e2 : zs.map (keyAt H) = srtR ks := rows_unique ((hp.map _).trans (by rw [hk]; exact (srtR_perm ks).symm)) (List.pairwise_map.mpr hs) (srtR_sorted ks)
            rw [← e2] at q
            exact q p _ hn (sorted_reps zs fun z hz => hm z (hp.subset hz))
        · cases h
  · cases h⟩
end ND

end
section
set_option Elab.async false
set_option linter.all false
set_option maxRecDepth 100000
/-! ND28: calls to which slots lend what they hold, at any place. -/
namespace ND
open PySem PySem.Spec PyProof.Rows L2
/-- an argument: shared data, or what a slot holds -/
inductive AI where
  | d (d : D) | s (j : Nat)
abbrev FAI := En → Out (List AI × En)
def iNil : FAI := fun ρ => .ok ([], ρ)
def iCons (f : FD) (g : FAI) : FAI := fun ρ => (f ρ).bind fun r => (g r.2).bind fun s => .ok (.d r.1 :: s.1, s.2)
def iSlot (j : Nat) (g : FAI) : FAI := fun ρ => match peek ρ j with
  | some _ => (g ρ).bind fun s => .ok (.s j :: s.1, s.2)
  | none => .no
def lendOk : SD → Option D
  | .sh d => some d
  | .ow (.tup _) => none
  | .ow d => some d
  | _ => none
def fillD (ρ : En) : List AI → Option (List D)
  | [] => some []
  | .d d :: r => (fillD ρ r).map (d :: ·)
  | .s j :: r => (ρ.sl[j]?.bind lendOk).bind fun d => (fillD ρ r).map (d :: ·)
def lendG (m : MF) (n : Nat) (fa : FAI) : FV := fun ρ => (fa ρ).bind fun r => match fillD r.2 r.1 with
  | some ds => if ds.length = n then match m ds default with
    | .ok (v, _) => if noV v = true then .ok (v, r.2) else .no
    | .err x _ => if noX x = true then .err x r.2 else .no
    | .no => .no
    else .no
  | none => .no
def lendH (i : Nat) (m : MF) (n : Nat) (fa : FAI) : FV := fun ρ => match ρ.sl[i]? with
  | some .bag => (fa ρ).bind fun r => match fillD r.2 r.1 with
    | some ds => if ds.length = n ∧ r.2.b.me.isNone = true then match m ds r.2.b with
      | .ok (v, ρ') => if noV v = true ∧ ρ'.b.me.isNone = true then .ok (v, { r.2 with b := ρ'.b }) else .no
      | .err x ρ' => if noX x = true ∧ ρ'.b.me.isNone = true then .err x { r.2 with b := ρ'.b } else .no
      | .no => .no
      else .no
    | none => .no
  | _ => .no
section
variable {c : Cn} {N W N' : AP1} {H H' : Hp} {σ : L2.St} {ρ : En}
inductive RA (c : Cn) (N : AP1) (H : Hp) (σ : L2.St) : List V → List AI → Prop
  | nil : RA c N H σ [] []
  | d {v : V} {d : D} {vs : List V} {is : List AI} : Rep c.T N H v d → RA c N H σ vs is → RA c N H σ (v :: vs) (.d d :: is)
  | s {v : V} {j : Nat} {vs : List V} {is : List AI} : σ[j]? = some (some v) → RA c N H σ vs is → RA c N H σ (v :: vs) (.s j :: is)
theorem RA.move {is : List AI} {vs : List V} (r : RA c N H σ vs is) (h : ∀ a o, ¬ N a → H a = some o → ¬ N' a ∧ H' a = some o) : RA c N' H' σ vs is := by
  induction r with
  | nil => exact .nil
  | d a _ ih => exact .d (a.move h) ih
  | s a _ ih => exact .s a ih
def rdAI (c : Cn) (E : WX) (f : FAI) : TA := fun σ H Q => ∃ N W ρ, ER c N W H σ ρ ∧ sat c N W H σ E (fun N' _ H' r => ∀ v, RA c N' H' σ v r.1 → Q v H') (f ρ)
/-- what is lent -/
def LA (is : List AI) (ρ : En) (σ : L2.St) : AP1 := fun a => ∃ j d, AI.s j ∈ is ∧ ρ.sl[j]? = some (.ow d) ∧ (∀ ds, d ≠ .tup ds) ∧ σ[j]? = some (some (V.ref a))
theorem lendOk_ow {d d' : D} (h : lendOk (.ow d) = some d') : d = d' ∧ ∀ ds, d ≠ .tup ds := by
  cases d <;> simp only [lendOk, Option.some.injEq, reduceCtorEq] at h <;> exact ⟨h, fun ds z => by cases z⟩
theorem fill_ok (e : ER c N W H σ ρ) (L : AP1) : ∀ {is : List AI} {vs : List V} {ds : List D}, RA c N H σ vs is → (∀ j, AI.s j ∈ is → ∀ a d, ρ.sl[j]? = some (.ow d) → (∀ ds, d ≠ .tup ds) → σ[j]? = some (some (V.ref a)) → L a) → fillD ρ is = some ds → Reps c.T (fun b => N b ∧ ¬ L b) H vs ds
  | _, _, ds, .nil, _, h => by
    simp only [fillD, Option.some.injEq] at h
    subst h; exact .nil
  | _, _, ds, .d (is := is) r q, hL, h => by
    simp only [fillD, Option.map_eq_some_iff] at h
    obtain ⟨es, h, rfl⟩ := h
    exact .cons (r.move fun a o n z => ⟨fun y => n y.1, z⟩) (fill_ok e L q (fun j hj => hL j (.tail _ hj)) h)
  | _, _, ds, .s (j := j) (is := is) r q, hL, h => by
    simp only [fillD, Option.bind_eq_some_iff, Option.map_eq_some_iff] at h
    obtain ⟨d, ⟨sd, h1, h2⟩, es, h3, rfl⟩ := h
    refine .cons ?_ (fill_ok e L q (fun j hj => hL j (.tail _ hj)) h3)
    cases sd with
    | un => cases h2
    | bag => cases h2
    | sh d0 =>
      simp only [lendOk, Option.some.injEq] at h2
      subst h2
      obtain ⟨v, k1, k2⟩ := e.sh j _ h1
      rw [r] at k1
      cases k1
      exact k2.move fun a o n z => ⟨fun y => n y.1, z⟩
    | ow d0 =>
      obtain ⟨rfl, nt⟩ := lendOk_ow h2
      obtain ⟨a, o, k1, k2, k3, k4, k5⟩ := e.ow j _ h1
      rw [r] at k1
      cases k1
      exact .ref (fun z => z.2 (hL j (.head _) a _ h1 nt r)) k4 (k5.move fun a o n z => ⟨fun y => n y.1, z⟩)
theorem LA.own {is : List AI} {a : Addr} (e : ER c N W H σ ρ) (h : LA is ρ σ a) : W a ∧ c.bg ≠ some a ∧ ∃ o, H a = some o ∧ isTupO o = false := by
  obtain ⟨j, d, _, h1, nt, h2⟩ := h
  obtain ⟨a', o, k1, k2, k3, k4, k5⟩ := e.ow j _ h1
  rw [h2] at k1
  cases k1
  refine ⟨k2, k3, o, k4, ?_⟩
  cases k5 with
  | tup _ => exact absurd rfl (nt _)
  | lst _ => rfl
  | dic _ => rfl
  | dct _ => rfl
  | ins _ => rfl
theorem lentG {bg : Option Addr} {b' : Bag} {L : AP1} (e : ER c N W H σ ρ) (hL : ∀ a, L a → W a ∧ c.bg ≠ some a ∧ ∃ o, H a = some o ∧ isTupO o = false)
    (F : Fnl (fun b => N b ∧ ¬ L b) bg H N' H') (hbg : bg = none ∧ b' = ρ.b ∨ bg = c.bg ∧ ρ.b.me = none ∧ b'.me = none ∧ ∀ z, bg = some z → BagAt c.T N' H' z c.bl b') :
    ER c (fun b => N' b ∨ L b) W H' σ { ρ with b := b' } ∧ Stp N W H (fun b => N' b ∨ L b) W H' ∧ ∀ a, L a → ∃ o, H' a = some o ∧ isTupO o = false := by
  have hN : ∀ a, L a → N a := fun a h => e.wn a (hL a h).1
  have nb : ∀ a, L a → bg ≠ some a := fun a h z => by
    rcases hbg with ⟨y, _⟩ | ⟨y, _⟩
    · rw [y] at z; cases z
    · exact (hL a h).2.1 (y ▸ z)
  have ha' : ∀ a, L a → ∃ o, H' a = some o ∧ isTupO o = false := fun a h => by
    obtain ⟨_, _, o, h1, h2⟩ := hL a h
    exact ⟨o, F.keep a _ h1 (nb a h), h2⟩
  have F2 : Fnl N bg H (fun b => N' b ∨ L b) H' := ⟨F.keep, fun b h => h.elim (fun y => (F.nN b y).elim (fun z => .inl z.1) .inr) (fun y => .inl (hN b y)), fun b h => by
    by_cases z : L b
    · exact .inr z
    · exact .inl (F.kN b ⟨h, z⟩), F.al, fun b h => h.elim (F.all b) (fun y => by
      obtain ⟨o, z, _⟩ := ha' b y
      rw [z]; intro w; cases w)⟩
  have hbg2 : bg = none ∧ b' = ρ.b ∨ bg = c.bg ∧ ∀ z, bg = some z → BagAt c.T (fun b => N' b ∨ L b) H' z c.bl b' := by
    rcases hbg with y | ⟨y1, y2⟩
    · exact .inl y
    · refine .inr ⟨y1, fun z hz => ?_⟩
      obtain ⟨m1, m2, y2⟩ := y2
      obtain ⟨k1, k2, k3, k4⟩ := (y2 z hz).law m2
      refine ⟨.inl k1, .inl ⟨m2, fun y => y.elim k2 fun q => ?_, k3, k4⟩⟩
      obtain ⟨_, k5, _, _⟩ := (e.bag z (y1 ▸ hz)).2.2.law m1
      exact k5 (hN _ q)
  obtain ⟨e2, t2⟩ := e.called F2 hbg2
  exact ⟨e2, t2, ha'⟩
theorem lentG_val {L : AP1} {HB : Hp} {N0 W0 : AP1} {v : V} {d : D} {fr : Bool} (e : ER c N W H σ ρ) (t : Stp N0 W0 HB N W H) (ha' : ∀ a, L a → ∃ o, H' a = some o ∧ isTupO o = false) (r : VF c.T H N' H' v d fr) (hn : noV (d, fr) = true) :
    VR c HB (fun b => N' b ∨ L b) W H' v d fr := by
  have key : ∀ b o, ¬ N' b → H' b = some o → isTupO o = true → ¬ (N' b ∨ L b) := fun b o n h k z => z.elim n fun y => by
    obtain ⟨u, h2, h3⟩ := ha' b y
    rw [h] at h2
    cases h2
    rw [k] at h3
    cases h3
  cases fr with
  | false => exact noL_rep key d r hn
  | true =>
    obtain ⟨p, o, rfl, h1, h2, h3, h4⟩ := r
    refine ⟨p, o, rfl, .inl h1, fun z => e.all p (e.wn p z) h2, t.was_none h2, h0_none e h2, h3, ?_⟩
    cases d <;> simp only [noV, reduceCtorEq] at hn
    cases h4 with
    | lst q => exact .lst (noLs_rep key _ q hn)
theorem lentG_x {L : AP1} {cv : Value} {ad : Option Addr} {x : D} (ha' : ∀ a, L a → ∃ o, H' a = some o ∧ isTupO o = false) (r : XR c.T N' H' cv ad x) (hn : noX x = true) : XR c.T (fun b => N' b ∨ L b) H' cv ad x := by
  have key : ∀ b o, ¬ N' b → H' b = some o → isTupO o = true → ¬ (N' b ∨ L b) := fun b o n h k z => z.elim n fun y => by
    obtain ⟨u, h2, h3⟩ := ha' b y
    rw [h] at h2
    cases h2
    rw [k] at h3
    cases h3
  cases x with
  | exc t fs =>
    obtain ⟨e, d, fv, h1, h2, h3, h4⟩ := r
    exact ⟨e, d, fv, h1, h2, key d _ h3 h2 rfl, noFs_rep key fs h4 hn⟩
  | _ => exact r.elim
end
section
variable {X : Cx} {c : Cn} {E : WX} {T : Tg} {x : Str} {k l n : Nat} {m : MF} {e : Expr} {es : List Expr} {f : FD} {fa g : FAI} {p pos : Pos}
theorem na_inil : PA X [] (rdAI c E iNil) := PA.mono pa_nil fun σ H Q ⟨N, W, ρ, er, q⟩ => q.here er _ .nil
theorem na_icons (ha : PE X e (rdD c E f)) (hr : PA X es (rdAI c E g)) (hs : starEach (e :: es) X.env = (false, eval e X.env) :: starEach es X.env := by rfl) : PA X (e :: es) (rdAI c E (iCons f g)) := PA.mono (pa_cons ha hr hs) fun σ H Q ⟨N, W, ρ, er, q⟩ => by
  refine ⟨N, W, ρ, er, q.bind.imp fun N1 W1 H1 r1 t1 e1 q1 v1 rv1 => ?_⟩
  refine ⟨N1, W1, r1.2, e1, q1.bind.imp fun N2 W2 H2 r2 t2 e2 q2 v2 rv2 => ?_⟩
  exact q2.here e2 _ (.d (rv1.move (e1.mv t2)) rv2)
theorem na_islot (j : Nat) {y : Str} {py : Pos} (hr : PA X es (rdAI c E g)) (hN : X.N[j]? = some y := by rfl)
    (hv : Vis X.env.scope y := by first | exact Or.inl rfl | exact Or.inr (Or.inl rfl) | exact Or.inr (Or.inr rfl)) (hs : starEach (.Name y py :: es) X.env = (false, eval (.Name y py) X.env) :: starEach es X.env := by rfl)
    (hd : (y == ("__debug__" : Str)) = false := by decide) (hcd : (y == ("__classdict__" : Str)) = false := by decide) : PA X (.Name y py :: es) (rdAI c E (iSlot j g)) := PA.mono (pa_cons (pe_var hN hv hd hcd) hr hs) fun σ H Q ⟨N, W, ρ, er, q⟩ => by
  unfold iSlot at q
  cases hp : peek ρ j with
  | none => rw [hp] at q; exact q.elim
  | some d =>
    rw [hp] at q
    obtain ⟨v, hv, _⟩ := peek_ok er hp
    refine ⟨v, hv, N, W, ρ, er, ?_⟩
    have q : sat c N W H σ E _ ((g ρ).bind _) := q
    refine q.bind.imp fun N1 W1 H1 r1 t1 e1 q1 v1 rv1 => ?_
    exact q1.here e1 _ (.s hv rv1)
theorem RA.len {N : AP1} {H : Hp} {σ : L2.St} {ρ : En} : ∀ {vs : List V} {is : List AI} {ds : List D}, RA c N H σ vs is → fillD ρ is = some ds → vs.length = ds.length
  | _, _, ds, .nil, h => by simp only [fillD, Option.some.injEq] at h; subst h; rfl
  | _, _, ds, .d _ q, h => by
    simp only [fillD, Option.map_eq_some_iff] at h
    obtain ⟨es, h, rfl⟩ := h
    simp [q.len h]
  | _, _, ds, .s _ q, h => by
    simp only [fillD, Option.bind_eq_some_iff, Option.map_eq_some_iff] at h
    obtain ⟨d, _, es, h3, rfl⟩ := h
    simp [q.len h3]
theorem lendG_ok (hT : c.T = T) (tk : Takes X E) (C : Cal X.prog X.w X.K X.mg X.base T x k false n m) (hr : Room l X.A) (hk : k ≤ l) (hg : Gl X x) (ha : PA X (e :: es) (rdAI c E fa)) (hs : starEach (e :: es) X.env = (false, eval e X.env) :: starEach es X.env := by rfl)
    (hpl : (backTo pos (starEach es X.env)).any (·.1) = false := by rfl) (hdb : (x == ("__debug__" : Str)) = false := by decide) :
    PE X (.Call (.Name x p) (e :: es) [] pos) (rdV c E (lendG m n fa)) := by
  obtain ⟨f, fd, ps, F, g, kp, b⟩ := C.ex
  refine PE.mono (pe_callS F (hr.mono hk) hg g kp b (fun σ => passAt tk σ) ha (hdb := hdb) (he := hs) (hpl := hpl)) fun σ H Q ⟨N, W, ρ, er, q⟩ => ?_
  subst hT
  unfold lendG at q
  refine ⟨N, W, ρ, er, ?_⟩
  cases hf : fa ρ with
  | no => rw [hf] at q; exact q
  | err x' ρ' => rw [hf] at q; exact q
  | ok r =>
    obtain ⟨is, ρ1⟩ := r
    intro N1 W1 H1 t1 e1 vs rv
    simp only [hf, Out.bind_ok] at q
    cases hfi : fillD ρ1 is with
    | none => rw [hfi] at q; exact q.elim
    | some ds =>
      rw [hfi] at q
      dsimp only at q
      by_cases hn : ds.length = n
      · rw [if_pos hn] at q
        show spF c.T false n m vs H1 Q (WE E σ)
        have hL : ∀ a, LA is ρ1 σ a → W1 a ∧ c.bg ≠ some a ∧ ∃ o, H1 a = some o ∧ isTupO o = false := fun a h => h.own e1
        refine ⟨fun b => N1 b ∧ ¬ LA is ρ1 σ b, none, c.bl, ds, default, vs, ⟨rfl, rfl⟩, fun b hb => e1.all b hb.1, fill_ok e1 _ rv (fun j hj a d h1 h2 h3 => ⟨j, d, hj, h1, h2, h3⟩) hfi, hn, ?_⟩
        cases hm : m ds default with
        | no => rw [hm] at q; exact q
        | err x' ρ' =>
          rw [hm] at q
          dsimp only at q
          by_cases hv : noX x' = true
          · rw [if_pos hv] at q
            intro N' cv ad H' F' _ rv'
            obtain ⟨e2, t2, ha2⟩ := lentG e1 hL F' (.inl ⟨rfl, rfl⟩)
            exact q _ W1 H' cv ad (t1.trans t2) e2 (lentG_x ha2 rv' hv)
          · rw [if_neg hv] at q
            exact q.elim
        | ok r2 =>
          obtain ⟨⟨d, fr⟩, ρ2⟩ := r2
          rw [hm] at q
          dsimp only at q
          by_cases hv : noV (d, fr) = true
          · rw [if_pos hv] at q
            intro N' v H' F' _ rv'
            obtain ⟨e2, t2, ha2⟩ := lentG e1 hL F' (.inl ⟨rfl, rfl⟩)
            exact q _ W1 H' (t1.trans t2) e2 v (lentG_val e1 t1 ha2 rv' hv)
          · rw [if_neg hv] at q
            exact q.elim
      · rw [if_neg hn] at q
        exact q.elim
theorem lendH_ok (i : Nat) {y : Str} {py : Pos} (hT : c.T = T) (tk : Takes X E) (C : Cal X.prog X.w X.K X.mg X.base T x k true n m) (hr : Room l X.A) (hk : k ≤ l) (hg : Gl X x) (ha : PA X es (rdAI c E fa)) (hN : X.N[i]? = some y := by rfl)
    (hv : Vis X.env.scope y := by first | exact Or.inl rfl | exact Or.inr (Or.inl rfl) | exact Or.inr (Or.inr rfl)) (hs : starEach (.Name y py :: es) X.env = (false, eval (.Name y py) X.env) :: starEach es X.env := by rfl)
    (hpl : (backTo pos (starEach es X.env)).any (·.1) = false := by rfl)
    (hdb : (x == ("__debug__" : Str)) = false := by decide) (hd : (y == ("__debug__" : Str)) = false := by decide) (hcd : (y == ("__classdict__" : Str)) = false := by decide) :
    PE X (.Call (.Name x p) (.Name y py :: es) [] pos) (rdV c E (lendH i m n fa)) := by
  obtain ⟨f, fd, ps, F, g, kp, b⟩ := C.ex
  refine PE.mono (pe_callS F (hr.mono hk) hg g kp b (fun σ => passAt tk σ) (pa_cons (pe_var hN hv hd hcd) ha hs) (hdb := hdb) (he := hs) (hpl := hpl)) fun σ H Q ⟨N, W, ρ, er, q⟩ => ?_
  subst hT
  unfold lendH at q
  cases hsl : ρ.sl[i]? with
  | none => rw [hsl] at q; exact q.elim
  | some sd =>
    rw [hsl] at q
    cases sd with
    | un => exact q.elim
    | sh d => exact q.elim
    | ow d => exact q.elim
    | bag =>
      obtain ⟨a0, hbg, hσ⟩ := er.bs i hsl
      refine ⟨.ref a0, hσ, N, W, ρ, er, ?_⟩
      cases hf : fa ρ with
      | no => simp only [hf, Out.bind_no] at q; exact q
      | err x' ρ' => simp only [hf, Out.bind_err] at q; exact q
      | ok r =>
        obtain ⟨is, ρ1⟩ := r
        intro N1 W1 H1 t1 e1 vs rv
        simp only [hf, Out.bind_ok] at q
        cases hfi : fillD ρ1 is with
        | none => rw [hfi] at q; exact q.elim
        | some ds =>
          rw [hfi] at q
          dsimp only at q
          by_cases hn : ds.length = n ∧ ρ1.b.me.isNone = true
          · rw [if_pos hn] at q
            show spF c.T true n m (.ref a0 :: vs) H1 Q (WE E σ)
            have hL : ∀ a, LA is ρ1 σ a → W1 a ∧ c.bg ≠ some a ∧ ∃ o, H1 a = some o ∧ isTupO o = false := fun a h => h.own e1
            have hm1 : ρ1.b.me = none := by simpa using hn.2
            obtain ⟨b1, b2, hbag⟩ := e1.bag a0 hbg
            obtain ⟨b3, b4, b5, b6⟩ := hbag.law hm1
            refine ⟨fun b => N1 b ∧ ¬ LA is ρ1 σ b, some a0, c.bl, ds, ρ1.b, vs, ⟨a0, rfl, rfl, ⟨b3, fun z => (hL _ z).2.1 hbg⟩, .inl ⟨hm1, fun z => b4 z.1, b5, b6⟩⟩, fun b hb => e1.all b hb.1, fill_ok e1 _ rv (fun j hj a d h1 h2 h3 => ⟨j, d, hj, h1, h2, h3⟩) hfi, hn.1, ?_⟩
            cases hm : m ds ρ1.b with
            | no => rw [hm] at q; exact q
            | err x' ρ' =>
              rw [hm] at q
              dsimp only at q
              by_cases hv : noX x' = true ∧ ρ'.b.me.isNone = true
              · rw [if_pos hv] at q
                intro N' cv ad H' F' bk rv'
                obtain ⟨e2, t2, ha2⟩ := lentG e1 hL F' (.inr ⟨hbg.symm, hm1, by simpa using hv.2, bk⟩)
                exact q _ W1 H' cv ad (t1.trans t2) e2 (lentG_x ha2 rv' hv.1)
              · rw [if_neg hv] at q
                exact q.elim
            | ok r2 =>
              obtain ⟨⟨d, fr⟩, ρ2⟩ := r2
              rw [hm] at q
              dsimp only at q
              by_cases hv : noV (d, fr) = true ∧ ρ2.b.me.isNone = true
              · rw [if_pos hv] at q
                intro N' v H' F' bk rv'
                obtain ⟨e2, t2, ha2⟩ := lentG e1 hL F' (.inr ⟨hbg.symm, hm1, by simpa using hv.2, bk⟩)
                exact q _ W1 H' (t1.trans t2) e2 v (lentG_val e1 t1 ha2 rv' hv.1)
              · rw [if_neg hv] at q
                exact q.elim
          · rw [if_neg hn] at q
            exact q.elim
end
end ND

end
section
set_option Elab.async false
set_option linter.all false
set_option maxRecDepth 100000
set_option maxHeartbeats 2000000
/-! NX29: exceptions of the program's own classes: made, held as values, raised. -/
namespace ND
open PySem PySem.Spec PyProof.Rows L2

/-! ### the call of such a class -/
section
variable {X : Cx} {pins : List (Addr × Obj)} {σ : L2.St} {H1 : Hp} {s1 : Shared} {C fI : Addr} {k : Nat} {fd : FuncData} {ps : List Str} {sp : Sp}
theorem nx_call {us : List Value} {vs : List V} {R : Addr → Hp → Prop} {Q : Value → Shared → Prop} (T : OexC X.K C) (iC : PySem.W.findIn X.K (.ref C) "__init__" = some (some (.ref fI)))
    (tI : PySem.W.typeIn X.K (.ref fI) = some (.type "function")) (F1 : FnOk X.prog X.w X.K X.mg X.base (L2.CX X.prog X.w) k fI fd ps sp) (hr : Room (k + 1) X.A) (hb : Binds X.K fd ps [])
    (I1 : Inv X pins σ H1 s1) (r1 : Vals vs us) (hz : vs.length ≤ 1000) (h : ∀ a, H1 a = none → sp (.ref a :: vs) (upd H1 a (exo a C none)) (fun v H2 => v = .non ∧ R a H2) E0)
    (fin : ∀ a s2 s3, s1.heap.objs.size ≤ a → (∀ b o, s1.heap.get? b = some o → s2.heap.get? b = some o) → s2.os = s1.os → Inv X pins σ (upd H1 a (exo a C none)) s2 →
      CE X.stack X.prog X.w (upd H1 a (exo a C none)) s2 (fun v H2 => v = .non ∧ R a H2) .none s3 → Q (.ref a) s3) : wpAny (model X.prog X.w) X.A (call (.ref C) us) Q X.xe s1 := by
  obtain ⟨nm, qn, Nn, bs, bm, sn, sub, ab, col, dd, k0, k1, k2, k3, k5, look, tail⟩ := T.cls
  obtain ⟨hp, gs, dr, tk, os⟩ := s1
  have big : hp.objs.size ≤ hp.objs.size + 1 := Nat.le_add_right _ 1
  have free : H1 (hp.objs.size + 1) = none := I1.hok.fresh big
  have stay : ∀ b o, hp.get? b = some o → ((hp.push (PySem.W.kdv_tup us)).push (PySem.HandSPX.excO C hp.objs.size)).get? b = some o := fun b o z =>
    Heap.get?_push_of_some _ (Heap.get?_push_of_some _ z)
  have here : ((hp.push (PySem.W.kdv_tup us)).push (PySem.HandSPX.excO C hp.objs.size)).get? (hp.objs.size + 1) = some (PySem.HandSPX.excO C hp.objs.size) := by
    heap_get
  have I2 := I1.laid (t' := tk) (a := hp.objs.size + 1) (o := exo (hp.objs.size + 1) C none) stay big (exo_ok here)
  have r2 : Vals (V.ref (hp.objs.size + 1) :: vs) (Value.ref (hp.objs.size + 1) :: us) := .cons rfl r1
  have want := h (hp.objs.size + 1) free
  have many : (Value.ref (hp.objs.size + 1) :: us ++ []).length = ps.length := by
    rw [List.append_nil]
    exact r2.length.symm.trans (F1.len _ _ _ _ want)
  have few : us.length ≤ sizeLine := by
    have := r1.length
    rw [sizeLine_eq]
    omega
  have bnd := hb _ (Value.ref (hp.objs.size + 1) :: us) I2.kIn many
  rw [List.append_nil] at bnd
  have run := F1.run _ X.stack _ _ ⟨Value.ref (hp.objs.size + 1) :: us, []⟩ _ _ _ E0 (hr.make C us []) (I2.env0.make C us []) bnd r2 want
  refine wpAny_call (PySem.HandSPX.call_own PySem.F.excBase_ValueError (fun Y => PySem.HandSPX.refsVE_contains Y bm tail) (I1.kIn _ _ look) (PySem.W.looks_findIn I1.kIn iC)
    (fun self => PySem.W.bind_fn I1.kIn self tI) few (codeAny_mono run fun res s3 z => ?_))
  match res, z with
  | .error er, z => exact passL pins σ _ _ er s3 I2 z
  | .ok (.ret u), z =>
    obtain ⟨v, H2, z1, z2, z3, z4, z5, rfl, z6⟩ := id z
    obtain rfl : u = Value.none := z5
    exact ⟨rfl, fin (hp.objs.size + 1) ⟨(hp.push (PySem.W.kdv_tup us)).push (PySem.HandSPX.excO C hp.objs.size), gs, dr, tk, os⟩ s3 big stay rfl I2 z⟩
  | .ok .next, z => exact z.elim
  | .ok .brk, z => exact z.elim
  | .ok .cont, z => exact z.elim
end

/-! ### __init__(self, ..): self.f = f; ..; self.code = '..' -/
def mkF {α : Type} (ns : List Str) (code : α) (xs : List α) : List (Str × α) := (("code" : Str), code) :: (ns.zip xs).reverse
def spXI (C : Addr) (ns : List Str) (code : Str) : Sp := fun vs H Q _ => ∃ a us, vs = .ref a :: us ∧ us.length = ns.length ∧ H a = some (exo a C none) ∧
  ∀ d H', H d = none → d ≠ a → H' a = some (exo a C (some d)) → H' d = some (exd d (mkF ns (.str code) us)) → (∀ b, b ≠ a → b ≠ d → H' b = H b) → Q .non H'
theorem exo_ne_exd {e C : Addr} {d : Option Addr} {x : Addr} {fs : List (Str × V)} (h : exo e C d = exd x fs) : True := trivial
/-- self.f = y, the first one; a further one -/
theorem ost_1 {K : PySem.W.Frag} {a C : Addr} {f : Str} {y : V} {σ : L2.St} {H : Hp} {D : Ends} (O : OexC K C) (no : PySem.W.findIn K (.ref C) f = some none) (ha : H a = some (exo a C none))
    (q : ∀ d H', H d = none → d ≠ a → H' a = some (exo a C (some d)) → H' d = some (exd d [(f, y)]) → (∀ b, b ≠ a → b ≠ d → H' b = H b) → D.nx σ H') :
    ∃ a' C' : Addr, V.ref a = .ref a' ∧ OexC K C' ∧ PySem.W.findIn K (.ref C') f = some none ∧
      ((H a' = some (exo a' C' none) ∧ ∀ dx, H dx = none → dx ≠ a' → D.nx σ (upd (upd H dx (exd dx [(f, y)])) a' (exo a' C' (some dx)))) ∨
        ∃ (dx : Addr) (fs : List (Str × V)), H a' = some (exo a' C' (some dx)) ∧ H dx = some (exd dx fs) ∧ fs.length ≤ 900 ∧ D.nx σ (upd H dx (exd dx ((f, y) :: fs)))) :=
  ⟨a, C, rfl, O, no, .inl ⟨ha, fun d n ne => q d _ n ne upd_same (by rw [upd_ne ne, upd_same]) fun b h1 h2 => by rw [upd_ne h1, upd_ne h2]⟩⟩
theorem ost_2 {K : PySem.W.Frag} {a C d : Addr} {f : Str} {y : V} {fs : List (Str × V)} {σ : L2.St} {H H0 : Hp} {D : Ends} (O : OexC K C) (no : PySem.W.findIn K (.ref C) f = some none) (hl : fs.length ≤ 900)
    (ne : d ≠ a) (ha : H a = some (exo a C (some d))) (hd : H d = some (exd d fs)) (hk : ∀ b, b ≠ a → b ≠ d → H b = H0 b)
    (q : ∀ H', H' a = some (exo a C (some d)) → H' d = some (exd d ((f, y) :: fs)) → (∀ b, b ≠ a → b ≠ d → H' b = H0 b) → D.nx σ H') :
    ∃ a' C' : Addr, V.ref a = .ref a' ∧ OexC K C' ∧ PySem.W.findIn K (.ref C') f = some none ∧
      ((H a' = some (exo a' C' none) ∧ ∀ dx, H dx = none → dx ≠ a' → D.nx σ (upd (upd H dx (exd dx [(f, y)])) a' (exo a' C' (some dx)))) ∨
        ∃ (dx : Addr) (fs : List (Str × V)), H a' = some (exo a' C' (some dx)) ∧ H dx = some (exd dx fs) ∧ fs.length ≤ 900 ∧ D.nx σ (upd H dx (exd dx ((f, y) :: fs)))) :=
  ⟨a, C, rfl, O, no, .inr ⟨d, fs, ha, hd, hl, q _ (by rw [upd_ne (Ne.symm ne)]; exact ha) upd_same fun b h1 h2 => by rw [upd_ne h2]; exact hk b h1 h2⟩⟩

/-! ### what a class is known by -/
structure XcOk (P : Program) (w : World) (K : PySem.W.Frag) (mg : Str → Option Value) (base : Heap) (T : Tg) (x : Str) (t : Nat) (ns : List Str) (code : Str) : Prop where
  oex : OexC K (T.cl t)
  g : mg x = some (.ref (T.cl t))
  ex : ∃ fI fd ps, FnOk P w K mg base (L2.CX P w) 1 fI fd ps (spXI (T.cl t) ns code) ∧ Binds K fd ps [] ∧ PySem.W.findIn K (.ref (T.cl t)) "__init__" = some (some (.ref fI)) ∧ PySem.W.typeIn K (.ref fI) = some (.type "function")
theorem mkF_rep {T : Tg} {N : AP1} {H : Hp} {ns : List Str} {code : Str} {vs : List V} {ds : List D} (r : Reps T N H vs ds) : RepF T N H (mkF ns (.str code) vs) (mkF ns (.str code) ds) := by
  have app : ∀ {fs fs2 : List (Str × V)} {gs gs2 : List (Str × D)}, RepF T N H fs gs → RepF T N H fs2 gs2 → RepF T N H (fs ++ fs2) (gs ++ gs2) := by
    intro fs fs2 gs gs2 a b
    induction fs generalizing gs with
    | nil => cases a; exact b
    | cons f fs ih => cases a with | cons a1 a2 => exact .cons a1 (ih a2)
  have key : ∀ (ds : List D) (vs : List V) (ns : List Str), Reps T N H vs ds → RepF T N H (ns.zip vs).reverse (ns.zip ds).reverse := by
    intro ds
    induction ds with
    | nil => intro vs ns r; cases r; cases ns <;> exact .nil
    | cons d ds ih =>
      intro vs ns r
      cases r with
      | cons r1 r2 =>
        cases ns with
        | nil => exact .nil
        | cons n ns =>
          simp only [List.zip_cons_cons, List.reverse_cons]
          exact app (ih _ ns r2) (.cons r1 .nil)
  exact .cons (.str code) (key ds vs ns r)

/-! ### as a value -/
def excE (t : Nat) (ns : List Str) (code : Str) (fa : FA) : FD := fun ρ => (fa ρ).bind fun r => if r.1.length = ns.length ∧ ns.length ≤ 100 then .ok (.xv t (mkF ns (.str code) r.1), r.2) else .no
def raiseS (t : Nat) (ns : List Str) (code : Str) (fa : FA) : FS := fun ρ => (fa ρ).bind fun r => if r.1.length = ns.length ∧ ns.length ≤ 100 then .err (.exc t (mkF ns (.str code) r.1)) r.2 else .no
section
variable {X : Cx} {c : Cn} {E : WX} {T : Tg} {x : Str} {t j : Nat} {ns : List Str} {code : Str} {e : Expr} {es : List Expr} {fa : FA} {p pos pos' : Pos}
theorem exc_val {N W N1 W1 : AP1} {H H1 H2 : Hp} {σ : L2.St} {ρ : En} {a d : Addr} {vs : List V} {ds : List D} {Q : VK} (t1 : Stp N W H N1 W1 H1) (e1 : ER c N1 W1 H1 σ ρ) (rv : Reps c.T N1 H1 vs ds) (n1 : H1 a = none)
    (hd : upd H1 a (exo a (c.T.cl t) none) d = none) (ne : d ≠ a) (ha : H2 a = some (exo a (c.T.cl t) (some d))) (hdd : H2 d = some (exd d (mkF ns (.str code) vs))) (hk : ∀ b, b ≠ a → b ≠ d → H2 b = upd H1 a (exo a (c.T.cl t) none) b)
    (q : sat c N W H σ E (fun N' _ H' r => ∀ v, Rep c.T N' H' v r.1 → Q v H') (.ok (D.xv t (mkF ns (.str code) ds), ρ))) : Q (.ref a) H2 := by
  rw [upd_ne ne] at hd
  have k : ∀ b o, H1 b = some o → H2 b = some o := fun b o z => by
    have h1 : b ≠ a := ne_of_none z n1
    rw [hk b h1 (ne_of_none z hd), upd_ne h1]
    exact z
  refine q N1 W1 H2 (t1.trans (.grow e1.all k)) (e1.grow k) _ (.exc (fun z => e1.all a z n1) (fun z => e1.all d z hd) ha hdd ?_)
  exact (mkF_rep rv).move fun b o n z => ⟨n, k b o z⟩
theorem nd_exc (hT : c.T = T) (B : XcOk X.prog X.w X.K X.mg X.base T x t ns code) (hr : Room j X.A) (hk : 2 ≤ j) (hg : Gl X x) (ha : PA X (e :: es) (rdA c E fa)) (hdb : (x == ("__debug__" : Str)) = false := by decide)
    (he : starEach (e :: es) X.env = (false, eval e X.env) :: starEach es X.env := by rfl) (hpl : (backTo pos (starEach es X.env)).any (·.1) = false := by rfl) :
    PE X (.Call (.Name x p) (e :: es) [] pos) (rdD c E (excE t ns code fa)) := by
  obtain ⟨fI, fd, ps, F1, hb, iC, tI⟩ := B.ex
  subst hT
  refine ⟨fun pins s σ H Q I ⟨N, W, ρ, er, q⟩ => wpAny_Call_Name_kw (ld_glob I hg B.g ?_ hdb)⟩
  unfold excE at q
  refine PySem.W.callWith_K (h₀ := X.base) I.ok.mod.kin B.oex.kC (thn (ha.run pos pins s σ H (fun vs H1 => vs.length ≤ 1000 ∧ ∀ a, H1 a = none → spXI (c.T.cl t) ns code (.ref a :: vs) (upd H1 a (exo a (c.T.cl t) none)) (fun v H2 => v = .non ∧ Q (.ref a) H2) E0) I ⟨N, W, ρ, er, ?_⟩) fun us s1 z => ?_) he hpl
  · cases hf : fa ρ with
    | no => rw [hf] at q; exact q
    | err x' ρ' => rw [hf] at q; exact q
    | ok r =>
      obtain ⟨ds, ρ1⟩ := r
      intro N1 W1 H1 t1 e1 vs rv
      simp only [hf, Out.bind_ok] at q
      by_cases hn : ds.length = ns.length ∧ ns.length ≤ 100
      · rw [if_pos hn] at q
        have hl : vs.length = ds.length := rv.length
        refine ⟨by rw [hl, hn.1]; omega, fun a n1 => ⟨a, vs, rfl, hl.trans hn.1, upd_same, fun d H' n2 ne h1 h2 h3 => ⟨rfl, ?_⟩⟩⟩
        exact exc_val t1 e1 rv n1 n2 ne h1 h2 h3 q
      · rw [if_neg hn] at q
        exact q.elim
  · obtain ⟨vs, H1, I1, r1, hz, q1⟩ := z
    refine ⟨I1.kIn, ?_⟩
    show wpAny _ _ (call (.ref (c.T.cl t)) us) _ _ _
    refine nx_call (R := fun a H2 => Q (.ref a) H2) B.oex iC tI F1 (hr.mono hk) hb I1 r1 hz q1 fun a s2 s3 ha2 st os I2 ce => ?_
    obtain ⟨v, H2, I3, rv, _, q3⟩ := I2.after ce
    exact ⟨.ref a, H2, I3, rfl, q3⟩
theorem nd_exc0 (hT : c.T = T) (B : XcOk X.prog X.w X.K X.mg X.base T x t [] code) (hr : Room j X.A) (hk : 2 ≤ j) (hg : Gl X x) (hdb : (x == ("__debug__" : Str)) = false := by decide) :
    PE X (.Call (.Name x p) [] [] pos) (rdD c E (excE t [] code anil)) := by
  obtain ⟨fI, fd, ps, F1, hb, iC, tI⟩ := B.ex
  subst hT
  refine ⟨fun pins s σ H Q I ⟨N, W, ρ, er, q⟩ => wpAny_Call_Name_kw (ld_glob I hg B.g ?_ hdb)⟩
  unfold excE at q
  simp only [anil, Out.bind_ok] at q
  rw [if_pos ⟨rfl, by decide⟩] at q
  refine PySem.W.callWith_K0 I.kIn B.oex.kC ?_
  show wpAny _ _ (call (.ref (c.T.cl t)) []) _ _ _
  refine nx_call (us := []) (vs := []) (R := fun a H2 => Q (.ref a) H2) B.oex iC tI F1 (hr.mono hk) hb I .nil (Nat.zero_le _) (fun a n1 => ⟨a, [], rfl, rfl, upd_same, fun d H' n2 ne h1 h2 h3 => ⟨rfl, ?_⟩⟩) fun a s2 s3 ha2 st os I2 ce => ?_
  · exact exc_val (.refl _ _ _) er .nil n1 n2 ne h1 h2 h3 q
  · obtain ⟨v, H2, I3, rv, _, q3⟩ := I2.after ce
    exact ⟨.ref a, H2, I3, rfl, q3⟩

/-! ### raised -/
def RX (C : Addr) (H1 : Hp) (Q : XK) : Addr → Hp → Prop := fun a H2 => ∃ (d : Addr) (fs : List (Str × V)), H2 a = some (exo a C (some d)) ∧ H2 d = some (exd d fs) ∧ H1 d = none ∧ Q (.ref C) (some d) (upd (L2.del H2 a) d (.xd fs))
theorem nx_mk {pins : List (Addr × Obj)} {σ : L2.St} {H1 : Hp} {C a : Addr} {s1 s2 s3 : Shared} {Q : XK} (O : OexC X.K C) (I1 : Inv X pins σ H1 s1) (ha : s1.heap.objs.size ≤ a) (st : ∀ b o, s1.heap.get? b = some o → s2.heap.get? b = some o)
    (os : s2.os = s1.os) (ce : CE X.stack X.prog X.w (upd H1 a (exo a C none)) s2 (fun v H2 => v = .non ∧ RX C H1 Q a H2) .none s3) : MkP X pins σ Q (.ref a) s3 := by
  obtain ⟨hp, g1, d1, t1, os1⟩ := s1
  obtain ⟨hp2, g2, d2, t2, os2⟩ := s2
  obtain ⟨h3, g3, d3, t3, os3⟩ := s3
  obtain ⟨v, H2, o3, bare, un, hok, rv, rfl, d, fs, ea, ed, n1, q⟩ := ce
  exact mk_end (raises_own O.exC O.tyC) I1 ha st un hok ((show os3 = os2 from o3).trans os) bare ea ed n1 q
theorem raise_val {N W N1 W1 : AP1} {H H1 H2 : Hp} {σ : L2.St} {ρ : En} {a d : Addr} {vs : List V} {ds : List D} {D' : Ends} (t1 : Stp N W H N1 W1 H1) (e1 : ER c N1 W1 H1 σ ρ) (rv : Reps c.T N1 H1 vs ds) (n1 : H1 a = none)
    (hd : upd H1 a (exo a (c.T.cl t) none) d = none) (ne : d ≠ a) (ha : H2 a = some (exo a (c.T.cl t) (some d))) (hdd : H2 d = some (exd d (mkF ns (.str code) vs))) (hk : ∀ b, b ≠ a → b ≠ d → H2 b = upd H1 a (exo a (c.T.cl t) none) b)
    (q : satS c N W H E D' (.err (D.exc t (mkF ns (.str code) ds)) ρ)) : RX (c.T.cl t) H1 (fun cls d H' => E cls d σ H') a H2 := by
  rw [upd_ne ne] at hd
  refine ⟨d, _, ha, hdd, hd, ?_⟩
  have k : ∀ b o, H1 b = some o → upd (L2.del H2 a) d (.xd (mkF ns (.str code) vs)) b = some o := fun b o z => by
    have h1 : b ≠ a := ne_of_none z n1
    have h2 : b ≠ d := ne_of_none z hd
    rw [upd_ne h2, L2.del_ne h1, hk b h1 h2, upd_ne h1]
    exact z
  refine q N1 W1 _ σ _ _ (t1.trans (.grow e1.all k)) (e1.grow k) ⟨rfl, d, _, rfl, upd_same, fun z => e1.all d z hd, ?_⟩
  exact (mkF_rep rv).move fun b o n z => ⟨n, k b o z⟩
theorem ns_raise (hT : c.T = T) (tk : Takes X E) (B : XcOk X.prog X.w X.K X.mg X.base T x t ns code) (hr : Room j X.A) (hk : 2 ≤ j) (hg : Gl X x) (ha : PA X (e :: es) (rdA c E fa)) (hc : X.calm = true := by rfl) (hdb : (x == ("__debug__" : Str)) = false := by decide)
    (he : starEach (e :: es) X.env = (false, eval e X.env) :: starEach es X.env := by rfl) (hpl : (backTo pos (starEach es X.env)).any (·.1) = false := by rfl) :
    PS X (.Raise (some (.Call (.Name x p) (e :: es) [] pos)) none pos') (rdS c E (raiseS t ns code fa)) := by
  obtain ⟨fI, fd, ps, F1, hb, iC, tI⟩ := B.ex
  subst hT
  have mk : PMk X (.Call (.Name x p) (e :: es) [] pos) (fun σ H Q => rdA c E fa σ H fun vs H1 => vs.length ≤ 1000 ∧ ∀ a, H1 a = none → spXI (c.T.cl t) ns code (.ref a :: vs) (upd H1 a (exo a (c.T.cl t) none)) (fun v H2 => v = .non ∧ RX (c.T.cl t) H1 Q a H2) E0) := by
    intro pins s σ H Q I z
    refine wpAny_Call_Name_kw (ld_glob I hg B.g ?_ hdb)
    refine PySem.W.callWith_K (h₀ := X.base) I.ok.mod.kin B.oex.kC (thn (ha.run pos pins s σ H _ I z) fun us s1 z => ?_) he hpl
    obtain ⟨vs, H1, I1, r1, hz, q1⟩ := z
    refine ⟨I1.kIn, ?_⟩
    show wpAny _ _ (call (.ref (c.T.cl t)) us) _ _ _
    exact nx_call (R := RX (c.T.cl t) H1 Q) B.oex iC tI F1 (hr.mono hk) hb I1 r1 hz q1 fun a s2 s3 ha2 st os I2 ce => nx_mk B.oex I1 ha2 st os ce
  refine PS.mono (L2.ps_raise hc tk mk) fun D' σ H ⟨N, W, ρ, er, q⟩ => ⟨N, W, ρ, er, ?_⟩
  unfold raiseS at q
  cases hf : fa ρ with
  | no => rw [hf] at q; exact q
  | err x' ρ' =>
    rw [hf] at q
    exact fun N' W' H' cv ad t e r => q N' W' H' σ cv ad t e r
  | ok r =>
    obtain ⟨ds, ρ1⟩ := r
    intro N1 W1 H1 t1 e1 vs rv
    simp only [hf, Out.bind_ok] at q
    by_cases hn : ds.length = ns.length ∧ ns.length ≤ 100
    · rw [if_pos hn] at q
      have hl : vs.length = ds.length := rv.length
      refine ⟨by rw [hl, hn.1]; omega, fun a n1 => ⟨a, vs, rfl, hl.trans hn.1, upd_same, fun d H' n2 ne h1 h2 h3 => ⟨rfl, ?_⟩⟩⟩
      exact raise_val t1 e1 rv n1 n2 ne h1 h2 h3 q
    · rw [if_neg hn] at q
      exact q.elim
theorem ns_raise0 (hT : c.T = T) (tk : Takes X E) (B : XcOk X.prog X.w X.K X.mg X.base T x t [] code) (hr : Room j X.A) (hk : 2 ≤ j) (hg : Gl X x) (hc : X.calm = true := by rfl) (hdb : (x == ("__debug__" : Str)) = false := by decide) :
    PS X (.Raise (some (.Call (.Name x p) [] [] pos)) none pos') (rdS c E (raiseS t [] code anil)) := by
  obtain ⟨fI, fd, ps, F1, hb, iC, tI⟩ := B.ex
  subst hT
  have mk : PMk X (.Call (.Name x p) [] [] pos) (fun σ H Q => ∀ a, H a = none → spXI (c.T.cl t) [] code (.ref a :: []) (upd H a (exo a (c.T.cl t) none)) (fun v H2 => v = .non ∧ RX (c.T.cl t) H Q a H2) E0) := by
    intro pins s σ H Q I z
    refine wpAny_Call_Name_kw (ld_glob I hg B.g ?_ hdb)
    refine PySem.W.callWith_K0 I.kIn B.oex.kC ?_
    show wpAny _ _ (call (.ref (c.T.cl t)) []) _ _ _
    exact nx_call (us := []) (vs := []) (R := RX (c.T.cl t) H Q) B.oex iC tI F1 (hr.mono hk) hb I .nil (Nat.zero_le _) z fun a s2 s3 ha2 st os I2 ce => nx_mk B.oex I ha2 st os ce
  refine PS.mono (L2.ps_raise hc tk mk) fun D' σ H ⟨N, W, ρ, er, q⟩ a n1 => ⟨a, [], rfl, rfl, upd_same, fun d H' n2 ne h1 h2 h3 => ⟨rfl, ?_⟩⟩
  unfold raiseS at q
  simp only [anil, Out.bind_ok] at q
  rw [if_pos ⟨rfl, by decide⟩] at q
  exact raise_val (.refl _ _ _) er .nil n1 n2 ne h1 h2 h3 q
end
end ND

end
section
set_option Elab.async false
set_option linter.all false
set_option maxRecDepth 100000
set_option maxHeartbeats 2000000
/-! NX30: try with clauses that may bind a name. -/
namespace ND
open PySem PySem.Spec PyProof.Rows L2

/-- a clause: its class, the slot of its name, its suite -/
structure Cl3 where
  c : Value
  i : Option Nat
  ts : Addr → Value → Option Addr → TS
def endD (D : Ends) : Option Nat → Ends
  | none => D
  | some i => { nx := fun σ H => D.nx (σ.set i none) H, rt := D.rt, bk := fun σ H => D.bk (σ.set i none) H, ct := fun σ H => D.ct (σ.set i none) H }
def inS (a : Addr) (σ : L2.St) : Option Nat → L2.St
  | none => σ
  | some i => σ.set i (some (.ref a))
def wCl (K : PySem.W.Frag) (Wo : WX) (D : Ends) : List Cl3 → WX
  | [] => Wo
  | q :: r => fun cls d σ H => ∃ b, PySem.W.exmOne K cls q.c = some b ∧ (b = true → ∀ a, H a = none → q.ts a cls d (endD D q.i) (inS a σ q.i) H) ∧ (b = false → wCl K Wo D r cls d σ H)
inductive HdX (X : Cx) : List ExceptHandler → List Cl3 → Prop
  | nil : HdX X [] []
  | bare {x : Str} {c : Value} {ts : Addr → Value → Option Addr → TS} {b0 : Stmt} {suite : List Stmt} {np p2 : Pos} {hds : List ExceptHandler} {l : List Cl3} (hc : Names X x c)
      (su : ∀ (a : Addr) (oe : Obj) (cls : Value) (d : Option Addr) (pn : List (Addr × Obj)), Zc cls d oe → (∃ vs, oe.data = .fields vs) → PSs (X.suite a ((a, oe) :: pn)) (b0 :: suite) (ts a cls d)) (r : HdX X hds l) :
      HdX X (.ExceptHandler (some (.Name x np)) none (b0 :: suite) p2 :: hds) (⟨c, none, ts⟩ :: l)
  | named {x n : Str} {i : Nat} {c : Value} {ts : Addr → Value → Option Addr → TS} {b0 : Stmt} {suite : List Stmt} {np p2 : Pos} {hds : List ExceptHandler} {l : List Cl3} (hN : X.N.Nodup) (hi : X.N[i]? = some n) (hl : X.env.kindOf n = some .local) (hc : Names X x c)
      (su : ∀ (a : Addr) (oe : Obj) (cls : Value) (d : Option Addr) (pn : List (Addr × Obj)), Zc cls d oe → (∃ vs, oe.data = .fields vs) → PSs (X.suite a ((a, oe) :: pn)) (b0 :: suite) (ts a cls d)) (r : HdX X hds l) :
      HdX X (.ExceptHandler (some (.Name x np)) (some n) (b0 :: suite) p2 :: hds) (⟨c, some i, ts⟩ :: l)

section
variable {X : Cx} {pins : List (Addr × Obj)} {Wo : WX} {D : Ends}
/-- what is caught stands on the ground: the clauses are asked -/
theorem nx_clauses {B : Heap} {a : Addr} {cls : Value} {d : Option Addr} {σ' : L2.St} {H' : Hp} {sI s' : Shared} {h3 : Heap} (ok : X.Ok) (hfr : X.A.frames = some (X.env :: X.outer)) (hs : X.stack = X.env :: X.outer) (hf : X.env.frame = some X.env.locals) (tk : Takes X Wo)
    (J : Inv X pins σ' H' sI) (nb : ∀ b o, sI.heap.get? b = some o → b ∉ frs X.stack → B.get? b = some o) (up : sI.heap.UpToSlots h3) (os : s'.os = sI.os) (ag : AllBare s'.gens) (na : H' a = none)
    (fl3 : PySem.HandSPX.FlyingZ B (X.env :: X.outer) a (Zc cls d) h3) : ∀ {hds : List ExceptHandler} {l : List Cl3}, HdX X hds l → wCl X.K Wo D l cls d σ' H' →
      wpAny (model X.prog X.w) X.A (handleBy (.ref a) X.env hds) (SP X pins D) X.xe { s' with heap := h3 } := by
  have notFr : ∀ {h : Heap} {o : Obj} {vs : Array Value}, h.FunFrames B (X.env :: X.outer) → h.get? a = some o → o.data = .fields vs → a ∉ frs (X.env :: X.outer) := fun {h o vs} ff e dd hm => by
    obtain ⟨_, o2, e2, no⟩ := ff.mem hm
    cases e.symm.trans e2
    exact no _ dd
  obtain ⟨oe3, vs3, he3, hz3, hd3⟩ := fl3.there
  have nfr := notFr fl3.2.2.1 he3 hd3
  have nL : a ≠ X.env.locals := fun z => nfr (List.mem_filterMap.mpr ⟨X.env, List.mem_cons_self, hf.trans (congrArg some z.symm)⟩)
  have nF : a ∉ X.fs := fun hm => by
    obtain ⟨e, me, q⟩ := List.mem_filterMap.mp hm
    exact nfr (List.mem_filterMap.mpr ⟨e, .tail _ me, q⟩)
  have J3 : Inv X pins σ' H' { s' with heap := h3 } := J.landed nb fl3.1 up os ag
  have S3 := J3.suite he3 hd3 na nL nF
  have LT : PySem.W.Looks (model X.prog X.w) h3 (typeOf (.ref a)) cls := fun A Q E s k q => wpAny_typeOf_ref (k _ _ he3) (hz3.1 ▸ q)
  have named : ∀ {x : Str} {c : Value} {np : Pos} {Q : Value → Shared → Prop} {E : Value → Shared → Prop}, Names X x c → Q c { s' with heap := h3 } →
      wpAny (model X.prog X.w) (X.A.mark (some (.ref a))) (eval (.Name x np) X.env) Q E { s' with heap := h3 } := fun {x c np Q E} hc q => by
    rcases hc with ⟨g1, g2, g3 | ⟨g3, g4, g5⟩⟩
    · exact ld_glob (X := X.suite a ((a, oe3) :: (X.pn ++ pins))) S3 g1 g3 q g2
    · exact ld_blt (X := X.suite a ((a, oe3) :: (X.pn ++ pins))) S3 g1 g3 g4 q g5 g2
  intro hds l hk
  induction hk with
  | nil =>
    intro w
    refine wpAny_handleBy_nil ?_
    obtain ⟨_, _, _, oe, vs, Tb, oT, tv, he, _, hd, h1, _⟩ := id fl3
    unfold PySem.passOn
    refine wpAny_bind (wpAny_field he hd h1 ?_)
    rw [if_neg (by simp : ¬ ((Value.ref Tb == Value.none) = true))]
    have go : wpAny (model X.prog X.w) X.A (setFlight (.ref a) X.env.frame) (fun _ s4 => wpAny (model X.prog X.w) X.A (throw (.ref a) : Sem Flow) (SP X pins D) X.xe s4) X.xe { s' with heap := h3 } := by
      rw [hf]
      refine PySem.HandSPX.setFlight_upZ fl3 fun h4 hh4 up4 => wpAny_throw (tk _ _ ⟨a, B, sI, pins, σ', H', cls, d, rfl, J, nb, up.trans up4, .inr (.inr ?_), na, os, ag, w⟩)
      rw [hs]
      exact hh4
    first | exact wpAny_bind (wpAny_pure (wpAny_bind go)) | exact wpAny_bind go
  | @bare x c ts b0 suite np p2 hds2 l2 hc su r ih =>
    intro w
    obtain ⟨b, hb1, yes, no⟩ := w
    refine wpAny_handleBy_cons (codeAny_handlers_test ?_) (by intro q; cases q)
    refine named hc ((PySem.W.exm_one (M := model X.prog X.w) J3.kIn LT hb1).here ?_)
    cases b with
    | false => exact ih (no rfl)
    | true =>
      refine codeAny_handlers_suite (PySem.HandSPX.lands_againZ fl3 fun h4 fl4 up4 => ?_)
      obtain ⟨oe4, vs4, he4, hz4, hd4⟩ := fl4.there
      have S4 := (J.landed (s' := { s' with heap := h4 }) nb fl4.1 (up.trans up4) os ag).suite he4 hd4 na nL nF
      refine wpAny_mono ((su a oe4 cls d (X.pn ++ pins) hz4 ⟨_, hd4⟩).run [] _ _ H' _ S4 (yes rfl a na)) (fun f s6 z => ?_) (fun _ _ z => False.elim z)
      cases f with
      | next => obtain ⟨_, _, S6, q6⟩ := z; exact ⟨_, _, S6.unsuite ok, q6⟩
      | brk => obtain ⟨_, _, S6, q6⟩ := z; exact ⟨_, _, S6.unsuite ok, q6⟩
      | cont => obtain ⟨_, _, S6, q6⟩ := z; exact ⟨_, _, S6.unsuite ok, q6⟩
      | ret u => obtain ⟨_, _, _, S6, r6, q6⟩ := z; exact ⟨_, _, _, S6.unsuite ok, r6, q6⟩
  | @named x n i c ts b0 suite np p2 hds2 l2 hN hi hl hc su r ih =>
    intro w
    obtain ⟨b, hb1, yes, no⟩ := w
    refine wpAny_handleBy_cons (codeAny_handlers_test ?_) (by intro q; cases q)
    refine named hc ((PySem.W.exm_one (M := model X.prog X.w) J3.kIn LT hb1).here ?_)
    cases b with
    | false => exact ih (no rfl)
    | true =>
      refine codeAny_handlers_suite_as (PySem.HandSPX.lands_againZ fl3 fun h4 fl4 up4 => ?_)
      obtain ⟨oe4, vs4, he4, hz4, hd4⟩ := fl4.there
      have S4 := (J.landed (s' := { s' with heap := h4 }) nb fl4.1 (up.trans up4) os ag).suite he4 hd4 na nL nF
      refine store_ok (X := X.suite a ((a, oe4) :: (X.pn ++ pins))) (v := .ref a) S4 hN hi (.inl hl) rfl (fun s5 S5 => ?_) (.inr hl)
      refine wpAny_mono ((su a oe4 cls d (X.pn ++ pins) hz4 ⟨_, hd4⟩).run [] s5 _ H' _ S5 (yes rfl a na)) (fun f s6 z => ?_) (fun _ _ z => False.elim z)
      have fin : ∀ {σ6 : L2.St} {H6 : Hp} {Q : Shared → Prop}, Inv (X.suite a ((a, oe4) :: (X.pn ++ pins))) [] σ6 H6 s6 → (∀ s7, Inv X pins (σ6.set i none) H6 s7 → Q s7) →
          wpAny (model X.prog X.w) X.A (do bindName X.env n .none; unbindBehindTheSuite X.env n p2) (fun _ s7 => Q s7) X.xe s6 := fun S6 hq => gone_ok (S6.unsuite ok) hN hi hl hq
      cases f with
      | next => obtain ⟨_, _, S6, q6⟩ := z; exact fin S6 fun s7 J7 => ⟨_, _, J7, q6⟩
      | brk => obtain ⟨_, _, S6, q6⟩ := z; exact fin S6 fun s7 J7 => ⟨_, _, J7, q6⟩
      | cont => obtain ⟨_, _, S6, q6⟩ := z; exact fin S6 fun s7 J7 => ⟨_, _, J7, q6⟩
      | ret u => obtain ⟨_, _, _, S6, r6, q6⟩ := z; exact fin S6 fun s7 J7 => ⟨_, _, _, J7, r6, q6⟩
theorem ps_tryX {body : List Stmt} {h0 : ExceptHandler} {hds : List ExceptHandler} {l : List Cl3} {pos : Pos} {tb : WX → TS} (hs : X.stack = X.env :: X.outer) (hf : X.env.frame = some X.env.locals) (tk : Takes X Wo)
    (hb : ∀ (W : WX) (pn : List (Addr × Obj)) (xe : Value → Shared → Prop), Takes (X.tr pn xe) W → PassesOwn (model X.prog X.w) X.A X.env xe → PSs (X.tr pn xe) body (tb W))
    (hh : HdX X (h0 :: hds) l) : PS X (.Try body (h0 :: hds) [] [] pos) (fun D σ H => tb (wCl X.K Wo D l) D σ H) := by
  refine ⟨fun pins s σ H D I h => wpAny_Try_except ?_⟩
  have ok := I.ok
  have hfr : X.A.frames = some (X.env :: X.outer) := by rw [ok.frames, hs]
  have run := (hb (wCl X.K Wo D l) (X.pn ++ pins) (fun e s1 => wpAny (model X.prog X.w) X.A (noteFrame e X.env) (fun _ s2 => wpAny (model X.prog X.w) X.A (setFlight e none) (fun _ s3 =>
    wpAny (model X.prog X.w) X.A (handleBy e X.env (h0 :: hds)) (SP X pins D) X.xe s3) X.xe s2) X.xe s1) (fun u s' xx => by
      obtain ⟨a, B, sI, pins', σ', H', cls, d, rfl, J', nb, up, sky, na, os, ag, w⟩ := xx
      have sky2 : Sky B (X.env :: X.outer) a (Zc cls d) X.env.locals s'.heap := hs ▸ sky
      show wpAny (model X.prog X.w) X.A (noteFrame (.ref a) X.env) _ _ _
      refine Sky.land Zc.steady hfr hf sky2 fun h3 fl3 up3 => ?_
      exact nx_clauses ok hfr hs hf tk (J'.ofTry ok) nb (up.trans up3) os ag na fl3 hh w) PassesOwn.looking).run [] s σ H D (I.toTry _) h
  refine wpAny_mono run (fun f s1 z => ?_) fun e s1 he => he
  cases f with
  | next => obtain ⟨_, _, J, q⟩ := z; exact wpAny_execs_nil ⟨_, _, J.ofTry ok, q⟩
  | brk => obtain ⟨_, _, J, q⟩ := z; exact ⟨_, _, J.ofTry ok, q⟩
  | cont => obtain ⟨_, _, J, q⟩ := z; exact ⟨_, _, J.ofTry ok, q⟩
  | ret u => obtain ⟨_, _, _, J, r, q⟩ := z; exact ⟨_, _, _, J.ofTry ok, r, q⟩
end
/-- e.f in the suite, e the exception that is handled -/
theorem nx_attr {X : Cx} {a : Addr} {oe : Obj} {cls : Value} {d : Option Addr} {pn : List (Addr × Obj)} {e : Expr} {te : TE} {pos : Pos} {f : Str} (hz : Zc cls d oe) (hf : ∃ vs, oe.data = .fields vs) (he : PE (X.suite a ((a, oe) :: pn)) e te)
    (hb : attributeBase e f X.env (eval e X.env) = eval e X.env) :
    PE (X.suite a ((a, oe) :: pn)) (.Attribute e f pos) (fun σ H Q => te σ H fun x H1 => x = .ref a ∧ ∃ (C dd : Addr) (fs : List (Str × V)) (v : V), cls = .ref C ∧ XfC X.K C ∧ PySem.W.findIn X.K (.ref C) f = some none ∧ d = some dd ∧ H1 dd = some (.xd fs) ∧ fs.lookup f = some v ∧ Q v H1) := by
  refine ⟨fun pins s σ H Q I h => attr_of hb (thn (he.run pins s σ H _ I h) fun u s1 z => ?_)⟩
  obtain ⟨x, H1, I1, rx, rfl, C, dd, fs, v, rfl, O, no, rfl, ed, l, q⟩ := z
  obtain rfl : u = Value.ref a := rx
  have ha := (I1.pin (a, oe) (List.mem_append_left _ List.mem_cons_self)).1
  obtain ⟨vs, hd⟩ := hf
  obtain ⟨mA, hns, hr⟩ := (show ObjOk X.prog X.w H1 s1.heap dd (.xd fs) from I1.hok dd _ ed)
  obtain ⟨od, ho, hl⟩ := lookIn_ns hns
  have rel := hr f
  rw [l] at rel
  obtain ⟨u, hu, ru⟩ := RelO.some_of (v := v) (o := mA f) rel
  have J : PySem.W.InstAt s1.heap a oe C (some od) := ⟨ha, hz.1, by unfold PySem.W.notCls; rw [hd] <;> rfl, by rw [hz.2]; exact ho⟩
  exact PySem.HandSPX.exc_get I1.kIn J O.ga O.gg O.exC (PySem.W.findObj_own O.hdC no rfl (by rw [hl, hu])) (handed_of ru) ⟨v, H1, I1.tok _, ru, q⟩
end ND

end
section
set_option Elab.async false
set_option linter.all false
set_option maxRecDepth 100000
set_option maxHeartbeats 2000000
/-! NX31: try over mirrors; attributes of the exception that is handled. -/
namespace ND
open PySem PySem.Spec PyProof.Rows L2

/-! ### data without an exception that is handled -/
mutual
def exF : D → Bool
  | .tup ds => exFs ds
  | .lst ds => exFs ds
  | .dic ks => exFk ks
  | .dct ks => exFt ks
  | .ins _ fs => exFf fs
  | .xv _ fs => exFf fs
  | .exc _ _ => false
  | _ => true
def exFs : List D → Bool
  | [] => true
  | d :: ds => exF d && exFs ds
def exFk : List (Key × D) → Bool
  | [] => true
  | (_, d) :: ds => exF d && exFk ds
def exFt : List (List Key × D) → Bool
  | [] => true
  | (_, d) :: ds => exF d && exFt ds
def exFf : List (Str × D) → Bool
  | [] => true
  | (_, d) :: ds => exF d && exFf ds
end
def Tg.at (T : Tg) (q : Addr × Addr × Nat) : Tg := ⟨T.cl, some q⟩
section
variable {T : Tg} {N : AP1} {H : Hp} {q : Addr × Addr × Nat}
mutual
theorem Rep.into (h : T.cx = none) : ∀ {v : V} {d : D}, Rep T N H v d → Rep (T.at q) N H v d
  | _, _, .non => .non
  | _, _, .bl b => .bl b
  | _, _, .int i => .int i
  | _, _, .str x => .str x
  | _, _, .opq v => .opq v
  | _, _, .ref n e t => .ref n e (Top.into h t)
  | _, _, .exc n1 n2 e1 e2 r => .exc (T := T.at q) n1 n2 e1 e2 (RepF.into h r)
  | _, _, .cls t => .cls (T := T.at q) t
  | _, _, .cau c _ _ _ => by rw [h] at c; cases c
theorem Top.into (h : T.cx = none) : ∀ {o : HO} {d : D}, Top T N H o d → Top (T.at q) N H o d
  | _, _, .tup r => .tup (Reps.into h r)
  | _, _, .lst r => .lst (Reps.into h r)
  | _, _, .dic r => .dic (RepK.into h r)
  | _, _, .dct r => .dct (RepT.into h r)
  | _, _, .ins r => .ins (T := T.at q) (RepF.into h r)
theorem Reps.into (h : T.cx = none) : ∀ {vs : List V} {ds : List D}, Reps T N H vs ds → Reps (T.at q) N H vs ds
  | _, _, .nil => .nil
  | _, _, .cons r s => .cons (Rep.into h r) (Reps.into h s)
theorem RepK.into (h : T.cx = none) : ∀ {vs : List (Key × V)} {ds : List (Key × D)}, RepK T N H vs ds → RepK (T.at q) N H vs ds
  | _, _, .nil => .nil
  | _, _, .cons r s => .cons (Rep.into h r) (RepK.into h s)
theorem RepT.into (h : T.cx = none) : ∀ {vs : List (List Key × V)} {ds : List (List Key × D)}, RepT T N H vs ds → RepT (T.at q) N H vs ds
  | _, _, .nil => .nil
  | _, _, .cons r s => .cons (Rep.into h r) (RepT.into h s)
theorem RepF.into (h : T.cx = none) : ∀ {vs : List (Str × V)} {ds : List (Str × D)}, RepF T N H vs ds → RepF (T.at q) N H vs ds
  | _, _, .nil => .nil
  | _, _, .cons r s => .cons (Rep.into h r) (RepF.into h s)
end
mutual
theorem Rep.out : ∀ {v : V} {d : D}, Rep (T.at q) N H v d → exF d = true → Rep T N H v d
  | _, _, .non, _ => .non
  | _, _, .bl b, _ => .bl b
  | _, _, .int i, _ => .int i
  | _, _, .str x, _ => .str x
  | _, _, .opq v, _ => .opq v
  | _, _, .ref n e t, h => .ref n e (Top.out t h)
  | _, _, .exc n1 n2 e1 e2 r, h => .exc (T := T) n1 n2 e1 e2 (RepF.out r (by simpa [exF] using h))
  | _, _, .cls t, _ => .cls (T := T) t
  | _, _, .cau _ _ _ _, h => by simp [exF] at h
theorem Top.out : ∀ {o : HO} {d : D}, Top (T.at q) N H o d → exF d = true → Top T N H o d
  | _, _, .tup r, h => .tup (Reps.out r (by simpa [exF] using h))
  | _, _, .lst r, h => .lst (Reps.out r (by simpa [exF] using h))
  | _, _, .dic r, h => .dic (RepK.out r (by simpa [exF] using h))
  | _, _, .dct r, h => .dct (RepT.out r (by simpa [exF] using h))
  | _, _, .ins r, h => .ins (T := T) (RepF.out r (by simpa [exF] using h))
theorem Reps.out : ∀ {vs : List V} {ds : List D}, Reps (T.at q) N H vs ds → exFs ds = true → Reps T N H vs ds
  | _, _, .nil, _ => .nil
  | _, _, .cons r s, h => by
    simp only [exFs, Bool.and_eq_true] at h
    exact .cons (Rep.out r h.1) (Reps.out s h.2)
theorem RepK.out : ∀ {vs : List (Key × V)} {ds : List (Key × D)}, RepK (T.at q) N H vs ds → exFk ds = true → RepK T N H vs ds
  | _, _, .nil, _ => .nil
  | _, _, .cons r s, h => by
    simp only [exFk, Bool.and_eq_true] at h
    exact .cons (Rep.out r h.1) (RepK.out s h.2)
theorem RepT.out : ∀ {vs : List (List Key × V)} {ds : List (List Key × D)}, RepT (T.at q) N H vs ds → exFt ds = true → RepT T N H vs ds
  | _, _, .nil, _ => .nil
  | _, _, .cons r s, h => by
    simp only [exFt, Bool.and_eq_true] at h
    exact .cons (Rep.out r h.1) (RepT.out s h.2)
theorem RepF.out : ∀ {vs : List (Str × V)} {ds : List (Str × D)}, RepF (T.at q) N H vs ds → exFf ds = true → RepF T N H vs ds
  | _, _, .nil, _ => .nil
  | _, _, .cons r s, h => by
    simp only [exFf, Bool.and_eq_true] at h
    exact .cons (Rep.out r h.1) (RepF.out s h.2)
end
end

/-! ### environments, in a suite and behind it -/
def meF (b : Bag) : Bool := match b.me with
  | none => true
  | some (_, fs) => exFf fs
section
variable {T : Tg} {N : AP1} {H : Hp} {q : Addr × Addr × Nat} {a l : Addr} {b : Bag}
theorem BagAt.into (x : BagAt T N H a l b) (h : T.cx = none) : BagAt (T.at q) N H a l b := by
  rcases x.at_ with h1 | ⟨t, fs, dx, fv, h1, h2, h3⟩
  · exact ⟨x.apart, .inl h1⟩
  · exact ⟨x.apart, .inr ⟨t, fs, dx, fv, h1, h2, h3.into h⟩⟩
theorem BagAt.out (x : BagAt (T.at q) N H a l b) (h : meF b = true) : BagAt T N H a l b := by
  rcases x.at_ with h1 | ⟨t, fs, dx, fv, h1, h2, h3⟩
  · exact ⟨x.apart, .inl h1⟩
  · refine ⟨x.apart, .inr ⟨t, fs, dx, fv, h1, h2, h3.out ?_⟩⟩
    unfold meF at h
    rw [h1] at h
    exact h
end
abbrev Cn.at (c : Cn) (q : Addr × Addr × Nat) : Cn := { c with T := c.T.at q }
def slF : SD → SD
  | .sh d => if exF d = true then .sh d else .un
  | .ow d => if exF d = true then .ow d else .un
  | s => s
section
variable {c : Cn} {N W : AP1} {H : Hp} {σ : L2.St} {ρ : En} {q : Addr × Addr × Nat}
theorem ER.into (e : ER c N W H σ ρ) (h : c.T.cx = none) : ER (c.at q) N W H σ ρ :=
  ⟨e.keep, e.n0, e.sub, e.new, e.all, e.wn, e.wnew, fun a z => ⟨(e.bag a z).1, (e.bag a z).2.1, (e.bag a z).2.2.into h⟩, e.len, fun i d z => by
    obtain ⟨v, h1, h2⟩ := e.sh i d z
    exact ⟨v, h1, h2.into h⟩, fun i d z => by
    obtain ⟨a, o, h1, h2, h3, h4, h5⟩ := e.ow i d z
    exact ⟨a, o, h1, h2, h3, h4, h5.into h⟩, e.inj, e.bs⟩
/-- what of the slots is kept, without what must not be kept -/
theorem ER.outF {f : SD → SD} (e : ER (c.at q) N W H σ ρ) (hm : meF ρ.b = true) (hf : ∀ s, f s = .un ∨ (f s = s ∧ (∀ d, s = .sh d → exF d = true) ∧ ∀ d, s = .ow d → exF d = true)) : ER c N W H σ { ρ with sl := ρ.sl.map f } := by
  have get : ∀ (i : Nat) (s : SD), (ρ.sl.map f)[i]? = some s → s = .un ∨ (ρ.sl[i]? = some s ∧ (∀ d, s = .sh d → exF d = true) ∧ ∀ d, s = .ow d → exF d = true) := by
    intro i s z
    rw [List.getElem?_map] at z
    cases y : ρ.sl[i]? with
    | none => rw [y] at z; cases z
    | some s0 =>
      rw [y] at z
      cases z
      rcases hf s0 with h | ⟨h, h1, h2⟩
      · exact .inl h
      · rw [h]
        exact .inr ⟨rfl, h1, h2⟩
  refine ⟨e.keep, e.n0, e.sub, e.new, e.all, e.wn, e.wnew, fun a z => ⟨(e.bag a z).1, (e.bag a z).2.1, (e.bag a z).2.2.out hm⟩, by show σ.length = (ρ.sl.map f).length; rw [List.length_map]; exact e.len, fun i d z => ?_, fun i d z => ?_, fun i j di dj a z1 z2 s1 s2 => ?_, fun i z => ?_⟩
  · rcases get i _ z with y | ⟨y, h1, _⟩
    · cases y
    · obtain ⟨v, k1, k2⟩ := e.sh i d y
      exact ⟨v, k1, k2.out (h1 d rfl)⟩
  · rcases get i _ z with y | ⟨y, _, h2⟩
    · cases y
    · obtain ⟨a, o, k1, k2, k3, k4, k5⟩ := e.ow i d y
      exact ⟨a, o, k1, k2, k3, k4, k5.out (h2 d rfl)⟩
  · rcases get i _ z1 with y | ⟨y1, _⟩
    · cases y
    · rcases get j _ z2 with y | ⟨y2, _⟩
      · cases y
      · exact e.inj i j di dj a y1 y2 s1 s2
  · rcases get i _ z with y | ⟨y, _⟩
    · cases y
    · exact e.bs i y
theorem slF_ok : ∀ s, slF s = .un ∨ (slF s = s ∧ (∀ d, s = .sh d → exF d = true) ∧ ∀ d, s = .ow d → exF d = true) := by
  intro s
  cases s with
  | un => exact .inl rfl
  | bag => exact .inr ⟨rfl, (fun d z => by cases z), (fun d z => by cases z)⟩
  | sh d =>
    by_cases h : exF d = true
    · exact .inr ⟨if_pos h, (fun e z => by cases z; exact h), (fun e z => by cases z)⟩
    · exact .inl (if_neg h)
  | ow d =>
    by_cases h : exF d = true
    · exact .inr ⟨if_pos h, (fun e z => by cases z), (fun e z => by cases z; exact h)⟩
    · exact .inl (if_neg h)
/-- a name goes -/
theorem ER.gone (e : ER c N W H σ ρ) (i : Nat) : ER c N W H (σ.set i none) (setS ρ i .un) := by
  have u := e.unset (i := i)
  have get : ∀ (j : Nat) (s : SD), (setS ρ i .un).sl[j]? = some s → s ≠ .un → i ≠ j := fun j s z h y => by
    subst y
    have hi : i < ρ.sl.length := by
      have := (List.getElem?_eq_some_iff.mp z).1
      simpa [setS] using this
    rw [sl_same hi] at z
    cases z
    exact h rfl
  refine ⟨u.keep, u.n0, u.sub, u.new, u.all, u.wn, u.wnew, u.bag, by rw [List.length_set]; exact u.len, fun j d z => ?_, fun j d z => ?_, fun j k dj dk a z1 z2 s1 s2 => ?_, fun j z => ?_⟩
  · rw [List.getElem?_set_ne (get j _ z (by intro y; cases y))]
    exact u.sh j d z
  · rw [List.getElem?_set_ne (get j _ z (by intro y; cases y))]
    exact u.ow j d z
  · rw [List.getElem?_set_ne (get j _ z1 (by intro y; cases y))] at s1
    rw [List.getElem?_set_ne (get k _ z2 (by intro y; cases y))] at s2
    exact u.inj j k dj dk a z1 z2 s1 s2
  · rw [List.getElem?_set_ne (get j _ z (by intro y; cases y))]
    exact u.bs j z
end

/-! ### try -/
abbrev CL := Nat × Option Nat × FS
def bindX (t : Nat) (fs : List (Str × D)) (ρ : En) : Option Nat → En
  | none => ρ
  | some i => setS ρ i (.sh (.exc t fs))
def wipeX (ρ : En) : Option Nat → En
  | none => ρ
  | some i => setS ρ i .un
def cleanE (ρ : En) (i : Option Nat) : En := wipeX { ρ with sl := ρ.sl.map slF } i
def suiteR (i : Option Nat) : Out (Fl × En) → Out (Fl × En)
  | .ok (.rt d fr, ρ) => if exF d = true ∧ meF ρ.b = true then .ok (.rt d fr, { ρ with sl := ρ.sl.map fun _ => .un }) else .no
  | .ok (.nx, ρ) => if meF ρ.b = true then .ok (.nx, cleanE ρ i) else .no
  | .ok (.bk, ρ) => if meF ρ.b = true then .ok (.bk, cleanE ρ i) else .no
  | .ok (.ct, ρ) => if meF ρ.b = true then .ok (.ct, cleanE ρ i) else .no
  | _ => .no
def trySel (sub : Nat → Nat → Option Bool) (t : Nat) (fs : List (Str × D)) (ρ : En) : List CL → Out (Fl × En)
  | [] => .err (.exc t fs) ρ
  | q :: r => match sub t q.1 with
    | some true => suiteR q.2.1 (q.2.2 (bindX t fs ρ q.2.1))
    | some false => trySel sub t fs ρ r
    | none => .no
def tryS (gb : FS) (sub : Nat → Nat → Option Bool) (l : List CL) : FS := fun ρ => match gb ρ with
  | .err (.exc t fs) ρ1 => trySel sub t fs ρ1 l
  | .err _ _ => .no
  | r => r
def toCl (c : Cn) (q : CL) : Cl3 := ⟨.ref (c.T.cl q.1), q.2.1, fun a cls d D σ H => ∃ t dd, cls = .ref (c.T.cl t) ∧ d = some dd ∧ rdS (c.at (a, dd, t)) EN q.2.2 D σ H⟩
section
variable {X : Cx} {c : Cn} {E : WX} {T : Tg}
theorem suite_end {N W N' W' : AP1} {H H' : Hp} {D : Ends} {q : Addr × Addr × Nat} {i : Option Nat} {m : Out (Fl × En)} (z : satS c N W H E D (suiteR i m)) (s : Stp N W H N' W' H') : satS (c.at q) N' W' H' EN (endD D i) m := by
  have back : ∀ {N2 W2 : AP1} {H2 : Hp} {σ : L2.St} {ρ : En}, meF ρ.b = true → ER (c.at q) N2 W2 H2 σ ρ → ER c N2 W2 H2 (match i with | none => σ | some i => σ.set i none) (cleanE ρ i) := fun {N2 W2 H2 σ ρ} hm e => by
    have e1 := e.outF hm slF_ok
    cases i with
    | none => exact e1
    | some i => exact e1.gone i
  match m, z with
  | .ok (.nx, ρ), z =>
    intro N2 W2 H2 σ t e
    have z : satS c N W H E D (if meF ρ.b = true then .ok (.nx, cleanE ρ i) else .no) := z
    by_cases hm : meF ρ.b = true
    · rw [if_pos hm] at z
      have := z N2 W2 H2 _ (s.trans t) (back hm e)
      cases i <;> exact this
    · rw [if_neg hm] at z
      exact z.elim
  | .ok (.bk, ρ), z =>
    intro N2 W2 H2 σ t e
    have z : satS c N W H E D (if meF ρ.b = true then .ok (.bk, cleanE ρ i) else .no) := z
    by_cases hm : meF ρ.b = true
    · rw [if_pos hm] at z
      have := z N2 W2 H2 _ (s.trans t) (back hm e)
      cases i <;> exact this
    · rw [if_neg hm] at z
      exact z.elim
  | .ok (.ct, ρ), z =>
    intro N2 W2 H2 σ t e
    have z : satS c N W H E D (if meF ρ.b = true then .ok (.ct, cleanE ρ i) else .no) := z
    by_cases hm : meF ρ.b = true
    · rw [if_pos hm] at z
      have := z N2 W2 H2 _ (s.trans t) (back hm e)
      cases i <;> exact this
    · rw [if_neg hm] at z
      exact z.elim
  | .ok (.rt d fr, ρ), z =>
    intro N2 W2 H2 σ v t e r
    have z : satS c N W H E D (if exF d = true ∧ meF ρ.b = true then .ok (.rt d fr, { ρ with sl := ρ.sl.map fun _ => .un }) else .no) := z
    by_cases hh : exF d = true ∧ meF ρ.b = true
    · rw [if_pos hh] at z
      have h := hh.1
      have := z N2 W2 H2 σ v (s.trans t) (e.outF hh.2 fun _ => .inl rfl) (by
        cases fr with
        | false => exact Rep.out r h
        | true =>
          obtain ⟨a, o, h1, h2, h3, h4, h5, h6, h7⟩ := r
          exact ⟨a, o, h1, h2, h3, h4, h5, h6, Top.out h7 h⟩)
      cases i <;> exact this
    · rw [if_neg hh] at z
      exact z.elim
  | .err x ρ, z => exact z.elim
  | .no, z => exact z.elim
theorem sel_ok {sub : Nat → Nat → Option Bool} (hx : c.T.cx = none) (fac : ∀ t u b, sub t u = some b → PySem.W.exmOne X.K (.ref (c.T.cl t)) (.ref (c.T.cl u)) = some b) {N W N' W' : AP1} {H H' : Hp} {t : Nat} {fs : List (Str × D)} {D' : Ends} {ρ : En} {σ : L2.St} {cv : Value} {ad : Option Addr}
    (s : Stp N W H N' W' H') (e : ER c N' W' H' σ ρ) (r : XR c.T N' H' cv ad (.exc t fs)) : ∀ {l : List CL}, satS c N W H E D' (trySel sub t fs ρ l) → wCl X.K E D' (l.map (toCl c)) cv ad σ H'
  | [], z => z N' W' H' σ cv ad s e r
  | q :: l, z => by
    obtain ⟨rfl, d, fv, rfl, hd, hn, rf⟩ := id r
    unfold trySel at z
    cases hs : sub t q.1 with
    | none => rw [hs] at z; exact z.elim
    | some b =>
      rw [hs] at z
      refine ⟨b, fac t q.1 b hs, fun hb a na => ?_, fun hb => ?_⟩
      · subst hb
        refine ⟨t, d, rfl, rfl, N', W', bindX t fs ρ q.2.1, ?_, suite_end (q := (a, d, t)) z s⟩
        have e1 := e.into (q := (a, d, t)) hx
        have rv : Rep (c.at (a, d, t)).T N' H' (.ref a) (.exc t fs) := .cau (T := c.T.at (a, d, t)) rfl hn hd (rf.into hx)
        show ER (c.at (a, d, t)) N' W' H' (inS a σ q.2.1) (bindX t fs ρ q.2.1)
        cases q.2.1 with
        | none => exact e1
        | some i => exact e1.setSh rv
      · subst hb
        exact sel_ok hx fac s e r z
/-- the clauses of a try -/
inductive HdR (X : Cx) (c : Cn) : List ExceptHandler → List CL → Prop
  | nil : HdR X c [] []
  | bare {x : Str} {t : Nat} {g : FS} {b0 : Stmt} {suite : List Stmt} {np p2 : Pos} {hds : List ExceptHandler} {l : List CL} (hc : Names X x (.ref (c.T.cl t)))
      (su : ∀ (a : Addr) (oe : Obj) (cls : Value) (d : Option Addr) (pn : List (Addr × Obj)) (u : Nat) (dd : Addr), Zc cls d oe → (∃ vs, oe.data = .fields vs) → cls = .ref (c.T.cl u) → d = some dd → PSs (X.suite a ((a, oe) :: pn)) (b0 :: suite) (rdS (c.at (a, dd, u)) EN g)) (r : HdR X c hds l) :
      HdR X c (.ExceptHandler (some (.Name x np)) none (b0 :: suite) p2 :: hds) ((t, none, g) :: l)
  | named {x n : Str} {i t : Nat} {g : FS} {b0 : Stmt} {suite : List Stmt} {np p2 : Pos} {hds : List ExceptHandler} {l : List CL} (hN : X.N.Nodup) (hi : X.N[i]? = some n) (hl : X.env.kindOf n = some .local) (hc : Names X x (.ref (c.T.cl t)))
      (su : ∀ (a : Addr) (oe : Obj) (cls : Value) (d : Option Addr) (pn : List (Addr × Obj)) (u : Nat) (dd : Addr), Zc cls d oe → (∃ vs, oe.data = .fields vs) → cls = .ref (c.T.cl u) → d = some dd → PSs (X.suite a ((a, oe) :: pn)) (b0 :: suite) (rdS (c.at (a, dd, u)) EN g)) (r : HdR X c hds l) :
      HdR X c (.ExceptHandler (some (.Name x np)) (some n) (b0 :: suite) p2 :: hds) ((t, some i, g) :: l)
theorem some_suite {X : Cx} {sts : List Stmt} {g : FS} {a : Addr} {cls : Value} {d : Option Addr} (h : ∀ t dd, cls = .ref (c.T.cl t) → d = some dd → PSs X sts (rdS (c.at (a, dd, t)) EN g)) : PSs X sts (fun D σ H => ∃ t dd, cls = .ref (c.T.cl t) ∧ d = some dd ∧ rdS (c.at (a, dd, t)) EN g D σ H) :=
  ⟨fun pins s σ H D I ⟨t, dd, h1, h2, q⟩ => (h t dd h1 h2).run pins s σ H D I q⟩
theorem HdR.to : ∀ {hds : List ExceptHandler} {l : List CL}, HdR X c hds l → HdX X hds (l.map (toCl c))
  | _, _, .nil => .nil
  | _, _, .bare hc su r => .bare hc (fun a oe cls d pn hz hf => some_suite fun t dd h1 h2 => su a oe cls d pn t dd hz hf h1 h2) r.to
  | _, _, .named hN hi hl hc su r => .named hN hi hl hc (fun a oe cls d pn hz hf => some_suite fun t dd h1 h2 => su a oe cls d pn t dd hz hf h1 h2) r.to
theorem ns_try {body : List Stmt} {h0 : ExceptHandler} {hds : List ExceptHandler} {l : List CL} {pos : Pos} {gb : FS} {sub : Nat → Nat → Option Bool} (hx : c.T.cx = none) (fac : ∀ t u b, sub t u = some b → PySem.W.exmOne X.K (.ref (c.T.cl t)) (.ref (c.T.cl u)) = some b)
    (hs : X.stack = X.env :: X.outer) (hf : X.env.frame = some X.env.locals) (tk : Takes X E)
    (hb : ∀ (W : WX) (pn : List (Addr × Obj)) (xe : Value → Shared → Prop), Takes (X.tr pn xe) W → PassesOwn (model X.prog X.w) X.A X.env xe → PSs (X.tr pn xe) body (rdS c W gb))
    (hh : HdR X c (h0 :: hds) l) : PS X (.Try body (h0 :: hds) [] [] pos) (rdS c E (tryS gb sub l)) := PS.mono (ps_tryX hs hf tk hb hh.to) fun D σ H ⟨N, W, ρ, er, q⟩ => by
  refine ⟨N, W, ρ, er, ?_⟩
  unfold tryS at q
  match hm : gb ρ, q with
  | .ok (.nx, ρ1), q => exact q
  | .ok (.bk, ρ1), q => exact q
  | .ok (.ct, ρ1), q => exact q
  | .ok (.rt d fr, ρ1), q => exact q
  | .no, q => exact q
  | .err (.exc t fs) ρ1, q => exact fun N' W' H' σ' cv ad s e r => sel_ok hx fac s e r q
  | .err .non _, q => exact q.elim
  | .err (.bl _) _, q => exact q.elim
  | .err (.int _) _, q => exact q.elim
  | .err (.str _) _, q => exact q.elim
  | .err (.tup _) _, q => exact q.elim
  | .err (.lst _) _, q => exact q.elim
  | .err (.dic _) _, q => exact q.elim
  | .err (.dct _) _, q => exact q.elim
  | .err (.ins _ _) _, q => exact q.elim
  | .err (.xv _ _) _, q => exact q.elim
  | .err (.cls _) _, q => exact q.elim
  | .err (.opq _) _, q => exact q.elim

/-! ### e.f in a suite -/
def xatE (okc : Nat → Bool) (f : Str) (fe : FD) : FD := fun ρ => (fe ρ).bind fun r => match r.1 with
  | .exc t fs => if okc t = true then ofO (fs.lookup f) r.2 else .no
  | _ => .no
theorem RepF.get {T : Tg} {N : AP1} {H : Hp} {f : Str} : ∀ {fv : List (Str × V)} {fs : List (Str × D)} {d : D}, RepF T N H fv fs → fs.lookup f = some d → ∃ v, fv.lookup f = some v ∧ Rep T N H v d
  | _, _, _, .nil, h => by cases h
  | _, _, d, .cons (k := k) (v := v) r s, h => by
    simp only [List.lookup] at h ⊢
    cases e : f == k with
    | true =>
      rw [e] at h
      cases h
      exact ⟨v, rfl, r⟩
    | false =>
      rw [e] at h
      exact RepF.get s h
theorem nd_xat {a : Addr} {oe : Obj} {cls : Value} {d : Option Addr} {pn : List (Addr × Obj)} {u : Nat} {dd : Addr} {e : Expr} {fe : FD} {pos : Pos} {f : Str} {okc : Nat → Bool} (hz : Zc cls d oe) (hf : ∃ vs, oe.data = .fields vs) (hcls : cls = .ref (c.T.cl u)) (hd : d = some dd)
    (fac : ∀ t, okc t = true → XfC X.K (c.T.cl t) ∧ PySem.W.findIn X.K (.ref (c.T.cl t)) f = some none) (he : PE (X.suite a ((a, oe) :: pn)) e (rdD (c.at (a, dd, u)) EN fe)) (hb : attributeBase e f X.env (eval e X.env) = eval e X.env := by rfl) :
    PE (X.suite a ((a, oe) :: pn)) (.Attribute e f pos) (rdD (c.at (a, dd, u)) EN (xatE okc f fe)) := PE.mono (nx_attr hz hf he hb) fun σ H Q ⟨N, W, ρ, er, q⟩ => by
  unfold xatE at q
  refine ⟨N, W, ρ, er, q.bind.imp fun N1 W1 H1 r1 t1 e1 q1 v rv => ?_⟩
  obtain ⟨d1, ρ1⟩ := r1
  dsimp only at q1 rv
  split at q1
  · rename_i t fs
    by_cases hk : okc t = true
    · rw [if_pos hk] at q1
      cases hl : fs.lookup f with
      | none => rw [hl] at q1; exact q1.elim
      | some dv =>
        rw [hl] at q1
        cases rv with
        | ref _ _ tp => cases tp
        | cau hc hn hdd rf =>
          have hc : some (a, dd, u) = some _ := hc
          cases hc
          obtain ⟨v, hv, rv2⟩ := rf.get hl
          exact ⟨rfl, c.T.cl u, dd, _, v, hcls, (fac u hk).1, (fac u hk).2, hd, hdd, hv, q1 N1 W1 H1 (.refl _ _ _) e1 v rv2⟩
    · rw [if_neg hk] at q1
      exact q1.elim
  · exact q1.elim
end
end ND

end
section
set_option Elab.async false
set_option linter.all false
set_option maxRecDepth 100000
set_option maxHeartbeats 2000000
/-! NX32: isinstance with the program's own classes. -/
namespace ND
open PySem PySem.Spec PyProof.Rows L2

/-- a kind: a built-in type; a class with instances; a class of exceptions -/
inductive Cc where
  | ty (n : String) | ow (t : Nat) | ex (t : Nat)
  deriving DecidableEq
def Cc.v (T : Tg) : Cc → Value
  | .ty n => .type n
  | .ow t => .ref (T.cl t)
  | .ex t => .ref (T.cl t)
def kiD : D → Option Cc
  | .ins t _ => some (.ow t)
  | .xv t _ => some (.ex t)
  | d => (tyD d).map .ty
def clD : D → Option Cc
  | .opq (.ty n) => some (.ty n)
  | .cls t => some (.ow t)
  | _ => none
/-- what is asked of an exception's class -/
structure KcE (K : PySem.W.Frag) (C : Addr) : Prop where
  cl : (PySem.W.clsIn K C).isSome = true
  ga : PySem.W.findIn K (.ref C) "__getattribute__" = some (some (.builtin "BaseException.__getattribute__"))
  gg : PySem.W.findIn K (.ref C) "__getattr__" = some none
  sb : PySem.W.subIn K (.ref C) (.type "BaseException") = some true
  ca : PySem.W.findIn K (.ref C) "__class__" = some (some (.builtin "object.__class__"))
  cg : PySem.W.specialIn K (.builtin "object.__class__") "__get__" = some (some (.builtin "getset_descriptor.__get__"))
  ct : PySem.W.takesIn K (.builtin "object.__class__") = some true
  mo : PySem.W.mroIn K C (.type "object") = some true
structure KcI (K : PySem.W.Frag) (C : Addr) : Prop where
  cl : L2.Cls K C
  ca : PySem.W.findIn K (.ref C) "__class__" = some (some (.builtin "object.__class__"))
  cg : PySem.W.specialIn K (.builtin "object.__class__") "__get__" = some (some (.builtin "getset_descriptor.__get__"))
  ct : PySem.W.takesIn K (.builtin "object.__class__") = some true
  mo : PySem.W.mroIn K C (.type "object") = some true
def KcOf (K : PySem.W.Frag) (T : Tg) : Cc → Prop
  | .ty _ => True
  | .ow t => KcI K (T.cl t)
  | .ex t => KcE K (T.cl t)
abbrev Tab := Cc → Cc → Option Bool
def TabOk (K : PySem.W.Frag) (T : Tg) (tab : Tab) : Prop := ∀ a b k, tab a b = some k → PySem.W.kitOne K (a.v T) (b.v T) = some k ∧ KcOf K T a
/-- built-in types among themselves -/
def tabB (tab : Tab) : Tab := fun a b => match a, b with
  | .ty a, .ty b => if tys.contains a = true ∧ tys.contains b = true then some (subB a b) else none
  | a, b => tab a b
theorem tabB_ok {K : PySem.W.Frag} {T : Tg} {tab : Tab} (h : TabOk K T tab) : TabOk K T (tabB tab) := by
  intro a b k e
  match a, b with
  | .ty a, .ty b =>
    unfold tabB at e
    dsimp only at e
    split at e
    · rename_i hh
      cases e
      exact ⟨kit_ty (tys_ok a (by simpa using hh.1) b (by simpa using hh.2)), trivial⟩
    · cases e
  | .ty a, .ow b => exact h _ _ _ e
  | .ty a, .ex b => exact h _ _ _ e
  | .ow a, .ty b => exact h _ _ _ e
  | .ow a, .ow b => exact h _ _ _ e
  | .ow a, .ex b => exact h _ _ _ e
  | .ex a, .ty b => exact h _ _ _ e
  | .ex a, .ow b => exact h _ _ _ e
  | .ex a, .ex b => exact h _ _ _ e
def anyX (tab : Tab) (a : Cc) : List D → Option Bool
  | [] => some false
  | t :: ts => match (clD t).bind (tab a) with
    | some k => (anyX tab a ts).map fun l => k || l
    | none => none
def isiX (tab : Tab) : List D → Option D
  | [_, .tup []] => none
  | [d, .tup ts] => (kiD d).bind fun a => (anyX (tabB tab) a ts).map .bl
  | [d, t] => (kiD d).bind fun a => ((clD t).bind (tabB tab a)).map .bl
  | _ => none

/-- what isinstance may be asked of a value -/
def KitV (X : Cx) (H : Hp) (x : V) (t : Value) : Prop := ∀ (pins : List (Addr × Obj)) (σ : L2.St) (s : Shared) (u : Value), Inv X pins σ H s → RelV x u → ∃ Z : Heap → Prop, PySem.W.KitX X.K u t Z ∧ Z s.heap ∧ u ≠ .builtin "__main__.__loader__#opaque"
theorem kit_exo {X : Cx} {H : Hp} {a C : Addr} {d : Addr} {fs : List (Str × V)} (k : KcE X.K C) (h1 : H a = some (exo a C (some d))) (h2 : H d = some (exd d fs)) : KitV X H (.ref a) (.ref C) := by
  intro pins σ s u I r
  cases (show u = Value.ref a from r)
  obtain ⟨t1, e1⟩ := exo_at I.hok h1
  obtain ⟨mA, ⟨od, es, ep, e2, hr⟩, _⟩ := exd_at I.hok h2
  exact ⟨_, PySem.W.kitx_exc (od := some od) k.cl k.ga k.gg k.sb k.ca k.cg k.ct k.mo, ⟨e1, rfl, rfl, e2⟩, fun z => nomatch z⟩
theorem kit_rep {X : Cx} {T : Tg} {N : AP1} {H : Hp} {v : V} {d : D} {a : Cc} (r : Rep T N H v d) (h : kiD d = some a) (kc : KcOf X.K T a) : KitV X H v (a.v T) := by
  have bi : ∀ {n}, tyD d = some n → KitV X H v (.type n) := fun {n} e pins σ s u I rx => kit_of I rx (tyD_ok r e)
  cases d with
  | ins t fs =>
    cases h
    obtain ⟨p, dx, gs, rfl, _, e, _⟩ := r.ins_inv
    exact fun pins σ s u I rx => kit_of I rx (.base (.ins e kc.cl kc.ca kc.cg kc.ct kc.mo))
  | xv t fs =>
    cases h
    cases r with
    | ref _ _ tp => cases tp
    | exc n1 n2 e1 e2 _ => exact kit_exo kc e1 e2
  | non => cases h; exact bi rfl
  | bl b => cases h; exact bi rfl
  | int i => cases h; exact bi rfl
  | str x => cases h; exact bi rfl
  | tup ds => cases h; exact bi rfl
  | lst ds => cases h; exact bi rfl
  | dic ds => cases h; exact bi rfl
  | dct ds => cases h; exact bi rfl
  | exc t fs => cases h
  | cls t => cases h
  | opq v => cases h
theorem cls_v {T : Tg} {N : AP1} {H : Hp} {v : V} {d : D} {b : Cc} (r : Rep T N H v d) (h : clD d = some b) : ClsV v (b.v T) := by
  cases d with
  | opq u =>
    cases r.opq_inv
    cases v <;> cases h
    exact .ty _
  | cls t =>
    cases h
    cases r with
    | ref _ _ tp => cases tp
    | cls => exact .own _
  | _ => cases h
theorem any_v {K : PySem.W.Frag} {T : Tg} {N : AP1} {H : Hp} {tab : Tab} (ok : TabOk K T tab) {a : Cc} : ∀ {us : List V} {ts : List D} {k : Bool}, Reps T N H us ts → anyX tab a ts = some k → ∃ ws, Paired ClsV us ws ∧ PySem.W.kitAny K (a.v T) ws = some k ∧ (ts ≠ [] → KcOf K T a)
  | _, _, k, .nil, h => by
    cases h
    exact ⟨[], .nil, rfl, fun z => absurd rfl z⟩
  | _, _, k, .cons (d := t) s1 s2, h => by
    unfold anyX at h
    cases h1 : (clD t).bind (tab a) with
    | none => rw [h1] at h; cases h
    | some b =>
      rw [h1] at h
      obtain ⟨c, hc, hb⟩ := Option.bind_eq_some_iff.mp h1
      obtain ⟨l, hl, rfl⟩ := Option.map_eq_some_iff.mp h
      obtain ⟨ws, p1, p2, _⟩ := any_v ok s2 hl
      obtain ⟨k1, k2⟩ := ok _ _ _ hb
      refine ⟨_, .cons (cls_v s1 hc) p1, kitAny_cons k1 (fun z => ?_) (fun z => ?_), fun _ => k2⟩
      · subst z; exact p2
      · subst z; rfl
/-- isinstance, one class or a tuple of classes -/
def rIsX (X : Cx) : List V → Hp → VK → Prop := fun xs H Q => ∃ (x c : V) (t : Value) (b : Bool), xs = [x, c] ∧ KitV X H x t ∧
  ((∃ u, ClsV c u ∧ PySem.W.kitOne X.K t u = some b) ∨ ∃ (tp : Addr) (cs : List V) (us : List Value), c = .ref tp ∧ H tp = some (.tup cs) ∧ Paired ClsV cs us ∧ PySem.W.kitAny X.K t us = some b) ∧ Q (.bl b) H
theorem call_isX {X : Cx} : CallR X (.builtin "isinstance") (rIsX X) := by
  rintro pins s σ H xs us Q I r ⟨x, c, t, b, rfl, kv, how, q⟩
  obtain ⟨u, w, rfl, rx, rc⟩ := vals2 r
  obtain ⟨Z, z1, z2, z3⟩ := kv pins σ s u I rx
  rcases how with ⟨y, k, e⟩ | ⟨tp, cs, ys, rfl, ht, k, e⟩
  · obtain rfl := k.eq rc
    exact PySem.W.kia_one z1 I.kIn z2 e z3 fun tk => ⟨.bl b, H, I.tok tk, rfl, q⟩
  · cases (show w = Value.ref tp from rc)
    obtain ⟨_, its, rv, ⟨oc, od, dt, sl⟩, g1, g2, n, g3⟩ := (show ObjOk X.prog X.w H s.heap tp (.tup cs) from I.hok tp _ ht)
    obtain rfl := ClsV.all k rv
    dsimp only at g2 g3
    subst g2 g3
    exact PySem.W.kia_tup z1 I.kIn z2 g1 e z3 fun tk => ⟨.bl b, H, I.tok tk, rfl, q⟩
section
variable {X : Cx} {c : Cn} {E : WX} {T : Tg} {x : Str} {p pos : Pos} {e : Expr} {es : List Expr} {fa : FA} {tab : Tab}
theorem nd_isX (hT : c.T = T) (ok : TabOk X.K T tab) (hg : Gl X x) (hm : X.mg x = none) (hv : bootBuiltins x = some (.builtin "isinstance")) (ha : PA X (e :: es) (rdA c E fa)) (hn : x ≠ "__name__" := by decide) (hdb : (x == ("__debug__" : Str)) = false := by decide)
    (hs : starEach (e :: es) X.env = (false, eval e X.env) :: starEach es X.env := by rfl) (hpl : (backTo pos (starEach es X.env)).any (·.1) = false := by rfl) : PE X (.Call (.Name x p) (e :: es) [] pos) (rdD c E (bltE (isiX tab) fa)) := by
  refine PE.mono (pe_callB (call_isX (X := X)) hg hm hv ha hn hdb hs hpl) fun σ H Q ⟨N, W, ρ, er, q⟩ => ?_
  subst hT
  have ok2 := tabB_ok ok
  refine ⟨N, W, ρ, er, q.bind.imp fun N1 W1 H1 r1 t1 e1 q1 vs rv => ?_⟩
  obtain ⟨ds, ρ1⟩ := r1
  dsimp only at q1 rv
  obtain ⟨d, hd, q2⟩ := ofO_ok q1 e1
  unfold isiX at hd
  split at hd
  · cases hd
  · rename_i d0 ts hne
    have hne : ts ≠ [] := fun z => hne z
    obtain ⟨a, ha, hd⟩ := Option.bind_eq_some_iff.mp hd
    obtain ⟨k, hk, rfl⟩ := Option.map_eq_some_iff.mp hd
    cases rv with
    | cons r1 r2 => cases r2 with
      | cons r2 r3 =>
        cases r3
        obtain ⟨tp, ws, rfl, _, h2, h3⟩ := r2.tup_inv
        obtain ⟨us, p1, p2, p3⟩ := any_v ok2 h3 hk
        exact ⟨_, _, _, k, rfl, kit_rep r1 ha (p3 hne), .inr ⟨tp, ws, us, rfl, h2, p1, p2⟩, q2 N1 W1 H1 (.refl _ _ _) e1 _ (.bl _)⟩
  · obtain ⟨a, ha, hd⟩ := Option.bind_eq_some_iff.mp hd
    obtain ⟨k, hk, rfl⟩ := Option.map_eq_some_iff.mp hd
    obtain ⟨b, hb, hk⟩ := Option.bind_eq_some_iff.mp hk
    cases rv with
    | cons r1 r2 => cases r2 with
      | cons r2 r3 =>
        cases r3
        obtain ⟨k1, k2⟩ := ok2 _ _ _ hk
        exact ⟨_, _, _, k, rfl, kit_rep r1 ha k2, .inl ⟨_, cls_v r2 hb, k1⟩, q2 N1 W1 H1 (.refl _ _ _) e1 _ (.bl _)⟩
  · cases hd
end
/-- where isinstance is asked of built-in kinds alone -/
theorem kiD_ty {d : D} {n : String} (h : tyD d = some n) : kiD d = some (.ty n) := by
  cases d <;> first | (cases h; done) | (simp only [kiD, h, Option.map_some])
theorem tyD_tys {d : D} {n : String} (h : tyD d = some n) : tys.contains n = true := by
  have := tyD_mem h
  simpa using this
theorem isX_one {tab : Tab} {d : D} {a b : Cc} {t : D} {k : Bool} (h : kiD d = some a) (hb : clD t = some b) (hk : tabB tab a b = some k) : isiX tab [d, t] = some (.bl k) := by
  have go : isiX tab [d, t] = (kiD d).bind fun a => ((clD t).bind (tabB tab a)).map .bl := by
    cases t <;> first | rfl | (cases hb; done)
  rw [go, h, hb]
  simp only [Option.bind_some, hk, Option.map_some]
theorem isX_two {tab : Tab} {d : D} {a b b2 : Cc} {t t2 : D} {k k2 : Bool} (h : kiD d = some a) (hb : clD t = some b) (hk : tabB tab a b = some k) (hb2 : clD t2 = some b2) (hk2 : tabB tab a b2 = some k2) : isiX tab [d, .tup [t, t2]] = some (.bl (k || k2)) := by
  show ((kiD d).bind fun a => (anyX (tabB tab) a [t, t2]).map D.bl) = some (D.bl (k || k2))
  simp only [h, Option.bind_some, anyX, hb, hb2, hk, hk2, Option.map_some, Bool.or_false]
theorem tabB_ty {tab : Tab} {a b : String} {k : Bool} (h1 : tys.contains a = true) (h2 : (tys.contains b && (subB a b == k)) = true) : tabB tab (.ty a) (.ty b) = some k := by
  rw [Bool.and_eq_true] at h2
  show (if tys.contains a = true ∧ tys.contains b = true then some (subB a b) else none) = _
  rw [if_pos ⟨h1, h2.1⟩, eq_of_beq h2.2]
section
variable {tab : Tab} {d : D} {Q : D → Prop} {a t u : String}
theorem ex_isXT (h : tyD d = some a) (h1 : (tys.contains t && (subB a t == true)) = true) (q : Q (.bl true)) : ∃ e, isiX tab [d, .opq (.ty t)] = some e ∧ Q e := ⟨_, isX_one (kiD_ty h) rfl (tabB_ty (tyD_tys h) h1), q⟩
theorem ex_isXF (h : tyD d = some a) (h1 : (tys.contains t && (subB a t == false)) = true) (q : Q (.bl false)) : ∃ e, isiX tab [d, .opq (.ty t)] = some e ∧ Q e := ⟨_, isX_one (kiD_ty h) rfl (tabB_ty (tyD_tys h) h1), q⟩
theorem ex_isX2T (h : tyD d = some a) (h1 : (tys.contains t && tys.contains u && ((subB a t || subB a u) == true)) = true) (q : Q (.bl true)) : ∃ e, isiX tab [d, .tup [.opq (.ty t), .opq (.ty u)]] = some e ∧ Q e := by
  rw [Bool.and_eq_true, Bool.and_eq_true] at h1
  refine ⟨_, isX_two (kiD_ty h) rfl (tabB_ty (k := subB a t) (tyD_tys h) (by rw [h1.1.1]; simp)) rfl (tabB_ty (k := subB a u) (tyD_tys h) (by rw [h1.1.2]; simp)), ?_⟩
  rw [eq_of_beq h1.2]
  exact q
theorem ex_isX2F (h : tyD d = some a) (h1 : (tys.contains t && tys.contains u && ((subB a t || subB a u) == false)) = true) (q : Q (.bl false)) : ∃ e, isiX tab [d, .tup [.opq (.ty t), .opq (.ty u)]] = some e ∧ Q e := by
  rw [Bool.and_eq_true, Bool.and_eq_true] at h1
  refine ⟨_, isX_two (kiD_ty h) rfl (tabB_ty (k := subB a t) (tyD_tys h) (by rw [h1.1.1]; simp)) rfl (tabB_ty (k := subB a u) (tyD_tys h) (by rw [h1.1.2]; simp)), ?_⟩
  rw [eq_of_beq h1.2]
  exact q
end
end ND

end
section
set_option Elab.async false
set_option linter.all false
set_option maxRecDepth 100000
set_option maxHeartbeats 2000000
/-! NX33: what the classes of exceptions are known by; their table. -/
namespace ND
open PySem PySem.Spec PyProof.Rows L2

/-- a class of exceptions, whole -/
structure XcC (K : PySem.W.Frag) (C : Addr) : Prop where
  oex : OexC K C
  ga : PySem.W.findIn K (.ref C) "__getattribute__" = some (some (.builtin "BaseException.__getattribute__"))
  gg : PySem.W.findIn K (.ref C) "__getattr__" = some none
  ca : PySem.W.findIn K (.ref C) "__class__" = some (some (.builtin "object.__class__"))
/-- of all programs -/
structure ObC (K : PySem.W.Frag) : Prop where
  cg : PySem.W.specialIn K (.builtin "object.__class__") "__get__" = some (some (.builtin "getset_descriptor.__get__"))
  ct : PySem.W.takesIn K (.builtin "object.__class__") = some true
section
variable {K : PySem.W.Frag} {C : Addr} {nm q : Str} {N : Addr} {bs bm : List Value} {sn : List Str} {sub : List Value} {ab : Bool} {col : Option Bool} {dd : Option Addr} {k0 k1 k2 k3 k5 : Option Value} {nid : String}
theorem exc_sub (h : K.lookup C = some (excClassObj nm q C N bs bm true sn sub ab col dd k0 k1 k2 k3 k5 nid)) (v : Value) : PySem.W.subIn K (.ref C) v = some ((Value.ref C :: bm).contains v) := by
  show PySem.W.mroIn K C v = _
  unfold PySem.W.mroIn PySem.W.clsIn
  rw [h]
  rfl
theorem exc_subT (h : K.lookup C = some (excClassObj nm q C N bs bm true sn sub ab col dd k0 k1 k2 k3 k5 nid)) (r : PySem.HandSPX.refsVE bm = true) (n : String) : PySem.W.subIn K (.ref C) (.type n) = some (PySem.HandSPX.veTail.contains (.type n)) := by
  rw [exc_sub h]
  have e : (Value.ref C :: bm).contains (.type n) = bm.contains (.type n) := by
    rw [List.contains_cons]
    have : (Value.type n == Value.ref C) = false := rfl
    rw [this, Bool.false_or]
  rw [e, PySem.HandSPX.refsVE_contains n bm r]
theorem exc_ty (h : K.lookup C = some (excClassObj nm q C N bs bm true sn sub ab col dd k0 k1 k2 k3 k5 nid)) : PySem.W.typeIn K (.ref C) = some (.type "type") := by
  show (K.lookup C).map (·.cls) = _
  rw [h]
  rfl
theorem exc_is (h : K.lookup C = some (excClassObj nm q C N bs bm true sn sub ab col dd k0 k1 k2 k3 k5 nid)) : (PySem.W.clsIn K C).isSome = true := by
  unfold PySem.W.clsIn
  rw [h]
  rfl
theorem exc_hd (h : K.lookup C = some (excClassObj nm q C N bs bm true sn sub ab col dd k0 k1 k2 k3 k5 nid)) : PySem.W.hasDictIn K C = true := by
  unfold PySem.W.hasDictIn PySem.W.clsIn
  rw [h]
  rfl
theorem xcC_mk (h : K.lookup C = some (excClassObj nm q C N bs bm true sn sub ab col dd k0 k1 k2 k3 k5 "ValueError.__new__")) (r : PySem.HandSPX.refsVE bm = true) (sa : PySem.W.findIn K (.ref C) "__setattr__" = some (some (.builtin "object.__setattr__")))
    (ga : PySem.W.findIn K (.ref C) "__getattribute__" = some (some (.builtin "BaseException.__getattribute__"))) (gg : PySem.W.findIn K (.ref C) "__getattr__" = some none) (ca : PySem.W.findIn K (.ref C) "__class__" = some (some (.builtin "object.__class__")))
    (kp : PySem.W.keepIn K (.ref C) = true) : XcC K C :=
  ⟨⟨⟨_, _, _, _, _, _, _, _, _, _, _, _, _, _, _, h, r⟩, sa, by rw [exc_subT h r] <;> decide +kernel, exc_ty h, kp⟩, ga, gg, ca⟩
end
section
variable {K : PySem.W.Frag} {C D : Addr}
theorem XcC.look (x : XcC K C) : ∃ nm q N bs bm sn sub ab col dd k0 k1 k2 k3 k5, K.lookup C = some (excClassObj nm q C N bs bm true sn sub ab col dd k0 k1 k2 k3 k5 "ValueError.__new__") ∧ PySem.HandSPX.refsVE bm = true := x.oex.cls
theorem XcC.kc (x : XcC K C) (o : ObC K) : KcE K C := by
  obtain ⟨_, _, _, _, _, _, _, _, _, _, _, _, _, _, _, h, r⟩ := x.look
  refine ⟨exc_is h, x.ga, x.gg, x.oex.exC, x.ca, o.cg, o.ct, ?_⟩
  show PySem.W.subIn K (.ref C) (.type "object") = some true
  rw [exc_subT h r] <;> decide +kernel
theorem meta_tys : ∀ n ∈ tys, PySem.W.kitMeta n = true := by decide +kernel
theorem ve_tys : ∀ n ∈ tys, PySem.HandSPX.veTail.contains (.type n) = false := by decide +kernel
theorem XcC.one (x : XcC K C) {n : String} (h : tys.contains n = true) : PySem.W.kitOne K (.ref C) (.type n) = some false := by
  obtain ⟨_, _, _, _, _, _, _, _, _, _, _, _, _, _, _, h1, r⟩ := x.look
  have hn : n ∈ tys := by simpa using h
  unfold PySem.W.kitOne PySem.W.kitCls
  have e : (Value.ref C == Value.type n) = false := rfl
  rw [e]
  dsimp only
  rw [if_neg Bool.false_ne_true, if_pos (meta_tys n hn), exc_subT h1 r, ve_tys n hn]
theorem XcC.two (x : XcC K C) (y : XcC K D) {b : Bool} (h : PySem.W.subIn K (.ref C) (.ref D) = some b) : PySem.W.kitOne K (.ref C) (.ref D) = some b := by
  obtain ⟨_, _, _, _, _, _, _, _, _, _, _, _, _, _, _, h1, _⟩ := x.look
  obtain ⟨_, _, _, _, _, _, _, _, _, _, _, _, _, _, _, h2, _⟩ := y.look
  unfold PySem.W.kitOne
  by_cases e : (Value.ref C == Value.ref D) = true
  · rw [if_pos e]
    have : Value.ref C = Value.ref D := eq_of_beq e
    rw [← this, exc_sub h1, List.contains_cons, BEq.rfl, Bool.true_or] at h
    exact h
  · rw [if_neg e]
    unfold PySem.W.kitCls
    dsimp only
    rw [exc_is h2, exc_ty h2]
    exact h
theorem XcC.exm (x : XcC K C) (y : XcC K D) {b : Bool} (h : PySem.W.subIn K (.ref C) (.ref D) = some b) : PySem.W.exmOne K (.ref C) (.ref D) = some b := by
  obtain ⟨_, _, _, _, _, _, _, _, _, _, _, _, _, _, _, h2, _⟩ := y.look
  exact PySem.W.exm_ref y.oex.exC (exc_hd h2) y.oex.tyC h
theorem mro_tys : ∀ n ∈ tys, ((PySem.fastBuiltinMro n).map fun l => l.all fun v => match v with | .type _ => true | _ => false) = some true := by decide +kernel
theorem XcC.ofTy (y : XcC K D) {n : String} (h : tys.contains n = true) : PySem.W.kitOne K (.type n) (.ref D) = some false := by
  obtain ⟨_, _, _, _, _, _, _, _, _, _, _, _, _, _, _, h2, _⟩ := y.look
  have hn : n ∈ tys := by simpa using h
  unfold PySem.W.kitOne PySem.W.kitCls
  have e : (Value.type n == Value.ref D) = false := rfl
  rw [e]
  dsimp only
  rw [if_neg Bool.false_ne_true, exc_is h2, exc_ty h2]
  show (PySem.fastBuiltinMro n).map (·.contains (Value.ref D)) = some false
  have m := mro_tys n hn
  cases hl : PySem.fastBuiltinMro n with
  | none => rw [hl] at m; cases m
  | some l =>
    rw [hl] at m
    simp only [Option.map_some, Option.some.injEq] at m ⊢
    rw [Bool.eq_false_iff]
    intro z
    have z1 : Value.ref D ∈ l := by simpa using z
    have z2 := List.all_eq_true.mp m _ z1
    cases z2
end
/-- the table of a program that has these classes alone -/
def tabG (n : Nat) (l : List ((Nat × Nat) × Bool)) : Tab := fun a b => match a, b with
  | .ex t, .ty s => if t < n ∧ tys.contains s = true then some false else none
  | .ex t, .ow u => if t < n ∧ u < n then l.lookup (t, u) else none
  | .ty s, .ow u => if u < n ∧ tys.contains s = true then some false else none
  | _, _ => none
theorem lookup_mem {α β : Type} [BEq α] [LawfulBEq α] {k : α} {v : β} : ∀ {l : List (α × β)}, l.lookup k = some v → (k, v) ∈ l
  | [], h => by cases h
  | (a, b) :: l, h => by
    rw [List.lookup_cons] at h
    split at h
    · rename_i e
      cases h
      rw [eq_of_beq e]
      exact .head _
    · exact .tail _ (lookup_mem h)
theorem tabG_ok {K : PySem.W.Frag} {T : Tg} {n : Nat} {l : List ((Nat × Nat) × Bool)} (o : ObC K) (h : ∀ t, t < n → XcC K (T.cl t)) (hl : ∀ p ∈ l, PySem.W.subIn K (.ref (T.cl p.1.1)) (.ref (T.cl p.1.2)) = some p.2) : TabOk K T (tabG n l) := by
  intro a b k e
  unfold tabG at e
  split at e
  · split at e
    · rename_i hh
      cases e
      exact ⟨(h _ hh.1).one hh.2, (h _ hh.1).kc o⟩
    · cases e
  · split at e
    · rename_i hh
      exact ⟨(h _ hh.1).two (h _ hh.2) (hl _ (lookup_mem e)), (h _ hh.1).kc o⟩
    · cases e
  · split at e
    · rename_i hh
      cases e
      exact ⟨(h _ hh.1).ofTy hh.2, trivial⟩
    · cases e
  · cases e
/-- the def of a class's body -/
def clsDef (s : Stmt) (j : Nat) : Stmt := match s with
  | .ClassDef _ _ _ b _ _ _ _ _ _ _ => b.getD j (.Pass ⟨0, 0, 0, 0⟩)
  | _ => .Pass ⟨0, 0, 0, 0⟩
theorem keep_func {K : PySem.W.Frag} {f : Addr} {oc : Value} {od : Option Addr} {fd : FuncData} {sl : Array (Option Value)} (h : K.lookup f = some ⟨oc, od, .func fd, sl⟩) : PySem.W.keepIn K (.ref f) = true := by
  unfold PySem.W.keepIn
  dsimp only
  rw [h]
theorem nd_cls {X : Cx} {c : Cn} {E : WX} {T : Tg} {pos : Pos} {x : Str} {t : Nat} (hT : c.T = T) (hm : X.mg x = some (.ref (T.cl t))) (hg : Gl X x) (hd : (x == ("__debug__" : Str)) = false := by decide) : PE X (.Name x pos) (rdD c E (cst (.cls t))) := by
  subst hT
  exact PE.mono (pe_glob (v := .ref (c.T.cl t)) hg hm rfl hd) fun σ H Q ⟨N, W, ρ, er, q⟩ => q.here er _ (.cls t)
end ND

end
section
set_option Elab.async false
set_option linter.all false
set_option maxRecDepth 100000
set_option maxHeartbeats 2000000
/-! NX34: order of texts; W rules for kinds of exceptions; raise, try as seen by W. -/
namespace ND
open PySem PySem.Spec PyProof.Rows L2
def cmpS (p : List Nat → List Nat → Bool) : D → D → Option Bool
  | .str x, .str y => some (p x.cps.toList y.cps.toList)
  | _, _ => none
def leS : D → D → Option Bool := cmpS fun x y => !decide (y < x)
def ltS : D → D → Option Bool := cmpS fun x y => decide (x < y)
section
variable {X : Cx}
theorem od_leS : OpD X (compareOp .LtE) (bD leS) := ⟨_, op_le_str, fun T N H v1 v2 d1 d2 d Q al r1 r2 e q => by
  simp only [bD, Option.map_eq_some_iff] at e
  obtain ⟨k, e, rfl⟩ := e
  unfold leS cmpS at e
  split at e <;> simp only [Option.some.injEq, reduceCtorEq] at e
  subst e
  exact ⟨_, _, r1.str_inv, r2.str_inv, q _ H (fun _ _ h => h) (.bl _)⟩⟩
theorem od_ltS : OpD X (compareOp .Lt) (bD ltS) := ⟨_, op_lt_str, fun T N H v1 v2 d1 d2 d Q al r1 r2 e q => by
  simp only [bD, Option.map_eq_some_iff] at e
  obtain ⟨k, e, rfl⟩ := e
  unfold ltS cmpS at e
  split at e <;> simp only [Option.some.injEq, reduceCtorEq] at e
  subst e
  exact ⟨_, _, r1.str_inv, r2.str_inv, q _ H (fun _ _ h => h) (.bl _)⟩⟩
end
/-! kinds, as W asks -/
section
variable {tab : Tab} {Q : D → Prop} {s u : String} {t : Nat} {fs : List (Str × D)}
theorem ex_isXE (h1 : (tab (.ex t) (.ty s) == some false) = true) (q : Q (.bl false)) : ∃ e, isiX tab [.xv t fs, .opq (.ty s)] = some e ∧ Q e :=
  ⟨_, isX_one (b := .ty s) rfl rfl (by show tab (.ex t) (.ty s) = _; exact eq_of_beq h1), q⟩
theorem ex_isXE2 (h1 : (tab (.ex t) (.ty s) == some false) = true) (h2 : (tab (.ex t) (.ty u) == some false) = true) (q : Q (.bl (false || false))) : ∃ e, isiX tab [.xv t fs, .tup [.opq (.ty s), .opq (.ty u)]] = some e ∧ Q e :=
  ⟨_, isX_two (b := .ty s) (b2 := .ty u) rfl rfl (by show tab (.ex t) (.ty s) = _; exact eq_of_beq h1) rfl (by show tab (.ex t) (.ty u) = _; exact eq_of_beq h2), q⟩
end
theorem w_chn {g g' : D → D → Option D} {fa fb fc : FD} {ρ : En} {Q : D → En → Prop} (q : W (fa ρ) fun a ρ1 => W (fb ρ1) fun c ρ2 => ∃ e, g a c = some e ∧ ∃ k, asB e = some k ∧ (k = true → W (fc ρ2) fun f ρ3 => ∃ r, g' c f = some r ∧ Q r ρ3) ∧ (k = false → Q (.bl false) ρ2)) : W (chn g g' fa fb fc ρ) Q := by
  obtain ⟨a, ρ1, e1, c, ρ2, e2, e, e3, k, e4, q1, q2⟩ := q
  unfold chn
  rw [e1]
  simp only [Out.bind, e2, e3, Option.bind_some, e4, ofO]
  cases k with
  | true =>
    obtain ⟨f, ρ3, e5, r, e6, q⟩ := q1 rfl
    exact ⟨_, _, by rw [if_pos rfl, e5]; simp only [Out.bind, e6], q⟩
  | false => exact ⟨_, _, rfl, q2 rfl⟩
theorem w_excE {t : Nat} {ns : List Str} {code : Str} {fa : FA} {ρ : En} {Q : D → En → Prop} (q : W (fa ρ) fun ds ρ1 => (ds.length = ns.length ∧ ns.length ≤ 100) ∧ Q (.xv t (mkF ns (.str code) ds)) ρ1) : W (excE t ns code fa ρ) Q := by
  obtain ⟨ds, ρ1, e, h, q⟩ := q
  exact ⟨_, _, by unfold excE; rw [e]; simp only [Out.bind, if_pos h], q⟩
end ND

end
section
set_option Elab.async false
set_option linter.all false
set_option maxRecDepth 100000
set_option maxHeartbeats 2000000
/-! NX35: instances: attributes, making, methods, properties. -/
namespace ND
open PySem PySem.Spec PyProof.Rows L2

/-! ### o.f of a value -/
def FldOk (K : PySem.W.Frag) (T : Tg) (f : Str) (ts : List Nat) : Prop := ∀ t ∈ ts, L2.Cls K (T.cl t) ∧ L2.NoAttr K (T.cl t) f
def fldE (ts : List Nat) (f : Str) (fe : FD) : FD := fun ρ => (fe ρ).bind fun r => match r.1 with
  | .ins t fs => if ts.contains t = true then ofO (fs.lookup f) r.2 else .no
  | _ => .no
section
variable {X : Cx} {c : Cn} {E : WX} {T : Tg} {e : Expr} {fe : FD} {f : Str} {ts : List Nat} {pos : Pos}
theorem nd_fld (hT : c.T = T) (ok : FldOk X.K T f ts) (he : PE X e (rdD c E fe)) (hb : attributeBase e f X.env (eval e X.env) = eval e X.env := by rfl) : PE X (.Attribute e f pos) (rdD c E (fldE ts f fe)) := by
  subst hT
  refine PE.mono (pe_fld he hb) fun σ H Q ⟨N, W, ρ, er, q⟩ => ?_
  unfold fldE at q
  refine ⟨N, W, ρ, er, q.bind.imp fun N1 W1 H1 r1 t1 e1 q1 v rv => ?_⟩
  obtain ⟨d1, ρ1⟩ := r1
  dsimp only at q1 rv
  split at q1
  · rename_i t fs
    by_cases ht : ts.contains t = true
    · rw [if_pos ht] at q1
      obtain ⟨a, dx, fv, rfl, _, h1, h2⟩ := rv.ins_inv
      obtain ⟨k1, k2⟩ := ok t (by simpa using ht)
      obtain ⟨d, hd, q2⟩ := ofO_ok q1 e1
      obtain ⟨u, hu, ru⟩ := h2.get hd
      exact ⟨a, _, dx, fv, u, rfl, h1, k1, k2, hu, q2 N1 W1 H1 (.refl _ _ _) e1 u ru⟩
    · rw [if_neg ht] at q1
      exact q1.elim
  · exact q1.elim

/-! ### self.f where self is changed (the bag is the object) -/
def selfE (i : Nat) (ts : List Nat) (f : Str) : FD := fun ρ => match ρ.sl[i]?, ρ.b.me with
  | some .bag, some (t, fs) => if ts.contains t = true then ofO (fs.lookup f) ρ else .no
  | _, _ => .no
theorem nd_self {x : Str} {px : Pos} (i : Nat) (hT : c.T = T) (ok : FldOk X.K T f ts) (hN : X.N[i]? = some x := by rfl) (hv : Vis X.env.scope x := by first | exact Or.inl rfl | exact Or.inr (Or.inl rfl) | exact Or.inr (Or.inr rfl))
    (hd : (x == ("__debug__" : Str)) = false := by decide) (hcd : (x == ("__classdict__" : Str)) = false := by decide) (hb : attributeBase (.Name x px) f X.env (eval (.Name x px) X.env) = eval (.Name x px) X.env := by rfl) :
    PE X (.Attribute (.Name x px) f pos) (rdD c E (selfE i ts f)) := by
  subst hT
  refine PE.mono (pe_fld (pe_var hN hv hd hcd) hb) fun σ H Q ⟨N, W, ρ, er, q⟩ => ?_
  unfold selfE at q
  split at q
  · rename_i t fs hs hme
    by_cases ht : ts.contains t = true
    · rw [if_pos ht] at q
      obtain ⟨a, hbg, hσ⟩ := er.bs i hs
      obtain ⟨dx, fv, h1, h2⟩ := (er.bag a hbg).2.2.obj hme
      obtain ⟨k1, k2⟩ := ok t (by simpa using ht)
      obtain ⟨d, hd, q2⟩ := ofO_ok q er
      obtain ⟨u, hu, ru⟩ := h2.get hd
      exact ⟨.ref a, hσ, a, _, dx, fv, u, rfl, h1, k1, k2, hu, q2 N W H (.refl _ _ _) er u ru⟩
    · rw [if_neg ht] at q
      exact q.elim
  · exact q.elim
/-- an attribute is set -/
def putD (f : Str) (d : D) : List (Str × D) → List (Str × D)
  | [] => [(f, d)]
  | (g, x) :: r => if g = f then (g, d) :: r else (g, x) :: putD f d r
theorem RepF.put {T : Tg} {N : AP1} {H : Hp} {v : V} {d : D} (r : Rep T N H v d) : ∀ {fv : List (Str × V)} {fs : List (Str × D)}, RepF T N H fv fs → RepF T N H (putF f v fv) (putD f d fs)
  | _, _, .nil => .cons r .nil
  | _, _, .cons (k := k) r1 r2 => by
    unfold putF putD
    by_cases h : k = f
    · rw [if_pos h, if_pos h]
      exact .cons r r2
    · rw [if_neg h, if_neg h]
      exact .cons r1 (RepF.put r r2)
theorem RepF.length {T : Tg} {N : AP1} {H : Hp} : ∀ {fv : List (Str × V)} {fs : List (Str × D)}, RepF T N H fv fs → fv.length = fs.length
  | _, _, .nil => rfl
  | _, _, .cons _ r => congrArg (· + 1) (RepF.length r)
def selfS (i : Nat) (ts : List Nat) (f : Str) (fe : FD) : FS := fun ρ => (fe ρ).bind fun r => match r.2.sl[i]?, r.2.b.me with
  | some .bag, some (t, fs) => if ts.contains t = true ∧ fs.length < 1000 then .ok (.nx, { r.2 with b := { r.2.b with me := some (t, putD f r.1 fs) } }) else .no
  | _, _ => .no
theorem ER.selfset {N W : AP1} {H : Hp} {σ : L2.St} {ρ : En} {a : Addr} {dx : Addr} {t : Nat} {fs : List (Str × D)} {fv : List (Str × V)} (e : ER c N W H σ ρ) (hb : c.bg = some a) (hr : RepF c.T N H fv fs) :
    ER c N W (L2.upd H a (.ins (c.T.cl t) dx fv)) σ { ρ with b := { ρ.b with me := some (t, fs) } } ∧ Stp N W H N W (L2.upd H a (.ins (c.T.cl t) dx fv)) := by
  obtain ⟨w, h0, hbag⟩ := e.bag a hb
  have na := hbag.apart
  have mv : ∀ z u, ¬ N z → H z = some u → ¬ N z ∧ L2.upd H a (.ins (c.T.cl t) dx fv) z = some u := fun z u n q => ⟨n, by rw [upd_ne (fun (y : z = a) => n (by rw [y]; exact na))]; exact q⟩
  have al : ∀ z, H z ≠ none → L2.upd H a (.ins (c.T.cl t) dx fv) z ≠ none := fun z hz => by
    by_cases y : z = a
    · subst y; rw [upd_same]; intro y; cases y
    · rw [upd_ne y]; exact hz
  refine ⟨⟨fun z u k1 k2 => ?_, e.n0, e.sub, e.new, fun z hz => al z (e.all z hz), e.wn, e.wnew, fun z hz => ?_, e.len, fun i d q => ?_, fun i d q => ?_, e.inj, e.bs⟩, ⟨fun z u hz nw => by rw [upd_ne (fun (y : z = a) => nw (by rw [y]; exact w))]; exact hz, fun _ h => .inl h, fun _ h => .inl h, fun _ h _ _ => h, al⟩⟩
  · rw [upd_ne (fun (y : z = a) => k2 (by rw [hb, y]))]
    exact e.keep z u k1 k2
  · have hz : c.bg = some z := hz
    rw [hb] at hz
    cases hz
    exact ⟨w, h0, na, .inr ⟨t, fs, dx, fv, rfl, upd_same, hr.move mv⟩⟩
  · obtain ⟨v, k1, k2⟩ := e.sh i d q
    exact ⟨v, k1, k2.move mv⟩
  · obtain ⟨z, u, k1, k2, k3, k4, k5⟩ := e.ow i d q
    exact ⟨z, u, k1, k2, k3, by rw [upd_ne (fun (y : z = a) => k3 (by rw [y]; exact hb))]; exact k4, k5.move mv⟩
theorem ns_self {x : Str} {px p' : Pos} (i : Nat) (hT : c.T = T) (ok : FldOk X.K T f ts) (he : PE X e (rdD c E fe)) (hN : X.N[i]? = some x := by rfl) (hv : Vis X.env.scope x := by first | exact Or.inl rfl | exact Or.inr (Or.inl rfl) | exact Or.inr (Or.inr rfl))
    (hd : (x == ("__debug__" : Str)) = false := by decide) (hcd : (x == ("__classdict__" : Str)) = false := by decide) (hs : swapsWith e (some (.Attribute (.Name x px) f p')) pos.line X.env = pure false := by rfl) :
    PS X (.Assign [.Attribute (.Name x px) f p'] e pos) (rdS c E (selfS i ts f fe)) := by
  subst hT
  refine PS.mono (ps_fld (pe_var hN hv hd hcd) he hs) fun D' σ H ⟨N, W, ρ, er, q⟩ => ?_
  unfold selfS at q
  refine ⟨N, W, ρ, er, (satS.bind (σ := σ) q).imp fun N1 W1 H1 r1 t1 e1 q1 v1 rv1 => ?_⟩
  obtain ⟨d, ρ1⟩ := r1
  obtain ⟨q1, _⟩ := q1
  dsimp only at q1 rv1
  split at q1
  · rename_i t fs hsl hme
    by_cases hc : ts.contains t = true ∧ fs.length < 1000
    · rw [if_pos hc] at q1
      obtain ⟨a, hbg, hσ⟩ := e1.bs i hsl
      obtain ⟨dx, fv, h1, h2⟩ := (e1.bag a hbg).2.2.obj hme
      obtain ⟨k1, k2⟩ := ok t (by simpa using hc.1)
      obtain ⟨e2, t2⟩ := e1.selfset (t := t) (dx := dx) hbg (h2.put (f := f) rv1)
      exact ⟨.ref a, hσ, a, _, dx, fv, rfl, h1, k1, k2, by rw [h2.length]; exact hc.2, q1 N1 W1 _ σ t2 e2⟩
    · rw [if_neg hc] at q1
      exact q1.elim
  · exact q1.elim
end
end ND

end
section
set_option Elab.async false
set_option linter.all false
set_option maxRecDepth 100000
set_option maxHeartbeats 2000000
/-! NX36: methods of values, making. -/
namespace ND
open PySem PySem.Spec PyProof.Rows L2

/-- a method of a class, as what it does to data -/
structure Mth (P : Program) (w : World) (K : PySem.W.Frag) (mg : Str → Option Value) (base : Heap) (T : Tg) (t : Nat) (m : Str) (k : Nat) (hb : Bool) (n : Nat) (mm : MF) : Prop where
  cl : L2.Cls K (T.cl t)
  ex : ∃ f fd ps, FnOk P w K mg base (L2.CX P w) k f fd ps (spF T hb n mm) ∧ L2.Meth K (T.cl t) m f ∧ Binds K fd ps []
section
variable {X : Cx} {o e : Expr} {es : List Expr} {m : Str} {apos pos : Pos} {ta : TE} {t : TA} {E : L2.St → XK}
theorem nx_mth {pl : Sem Bool} (ho : PE X o ta) (ha : PA X (e :: es) t) (hx : ∀ σ, PassesAt (L2.CX X.prog X.w) X σ (E σ))
    (hst : starEach (e :: es) X.env = (false, eval e X.env) :: starEach es X.env := by rfl) (hpl : (backTo pos (starEach es X.env)).any (·.1) = false := by rfl)
    (ht : eval (.Call (.Attribute o m apos) (e :: es) [] pos) X.env = (do
      let ov ← eval o X.env
      standAt apos.atName
      let (f, first) ← holding [ov] (getMethod ov m pl)
      callWith pos f first (backTo pos (starEach (e :: es) X.env)) (backToKw pos (keywordEach [] X.env))) := by rfl) :
    PE X (.Call (.Attribute o m apos) (e :: es) [] pos) (fun σ H Q => ta σ H fun x H1 => ∃ (a C dx : Addr) (fs : List (Str × V)) (f : Addr) (k : Nat) (fd : FuncData) (ps : List Str) (sp : Sp), x = .ref a ∧ H1 a = some (.ins C dx fs) ∧ L2.Cls X.K C ∧ L2.Meth X.K C m f ∧
      FnOk X.prog X.w X.K X.mg X.base (L2.CX X.prog X.w) k f fd ps sp ∧ Room k X.A ∧ Binds X.K fd ps [] ∧ fs.lookup m = none ∧ t σ H1 fun vs H2 => sp (x :: vs) H2 Q (E σ)) := by
  refine ⟨fun pins s σ H Q I z => PySem.W.methodCall_KW (pl := pl) (thn (ho.run pins s σ H _ I z) fun u s1 y => ?_) ht⟩
  obtain ⟨x, H1, I1, rx, a, C, dx, fs, f, k, fd, ps, sp, rfl, ea, c, hm, F, hr, hb, l, q⟩ := y
  obtain rfl : u = Value.ref a := rx
  refine getmeth_ok I1 ea c hm l (PySem.W.callWith_K (first := [.ref a]) (h₀ := X.base) I1.ok.mod.kin hm.kp (thn (ha.run pos pins s1 σ H1 _ I1 q) fun us s2 y2 => ?_) hst hpl)
  obtain ⟨vs, H2, I2, r, q2⟩ := y2
  exact ⟨I2.kIn, run_fnS (us := .ref a :: us) (vs := .ref a :: vs) F hr hb (hx σ) I2 (.cons rfl r) q2⟩
theorem nx_mth0 {pl : Sem Bool} (ho : PE X o ta) (hx : ∀ σ, PassesAt (L2.CX X.prog X.w) X σ (E σ))
    (ht : eval (.Call (.Attribute o m apos) [] [] pos) X.env = (do
      let ov ← eval o X.env
      standAt apos.atName
      let (f, first) ← holding [ov] (getMethod ov m pl)
      callWith pos f first (backTo pos (starEach [] X.env)) (backToKw pos (keywordEach [] X.env))) := by rfl) :
    PE X (.Call (.Attribute o m apos) [] [] pos) (fun σ H Q => ta σ H fun x H1 => ∃ (a C dx : Addr) (fs : List (Str × V)) (f : Addr) (k : Nat) (fd : FuncData) (ps : List Str) (sp : Sp), x = .ref a ∧ H1 a = some (.ins C dx fs) ∧ L2.Cls X.K C ∧ L2.Meth X.K C m f ∧
      FnOk X.prog X.w X.K X.mg X.base (L2.CX X.prog X.w) k f fd ps sp ∧ Room k X.A ∧ Binds X.K fd ps [] ∧ fs.lookup m = none ∧ sp [x] H1 Q (E σ)) := by
  refine ⟨fun pins s σ H Q I z => PySem.W.methodCall_KW (pl := pl) (thn (ho.run pins s σ H _ I z) fun u s1 y => ?_) ht⟩
  obtain ⟨x, H1, I1, rx, a, C, dx, fs, f, k, fd, ps, sp, rfl, ea, c, hm, F, hr, hb, l, q⟩ := y
  obtain rfl : u = Value.ref a := rx
  exact getmeth_ok I1 ea c hm l (PySem.W.callWith_K0 (first := [.ref a]) I1.kIn hm.kp (run_fnS (us := [.ref a]) (vs := [.ref a]) F hr hb (hx σ) I1 (.cons rfl .nil) q))
end
/-- what a call leaves to its caller (as callP) -/
def outP (ρ : En) : Out ((D × Bool) × En) → Out ((D × Bool) × En)
  | .ok (v, _) => .ok (v, ρ)
  | .err x _ => .err x ρ
  | .no => .no
theorem callP_eq {m : MF} {fa : FA} {ρ : En} : callP m fa ρ = (fa ρ).bind fun r => outP r.2 (m r.1 default) := by
  unfold callP
  cases fa ρ with
  | ok r => rfl
  | err x ρ' => rfl
  | no => rfl
section
variable {c : Cn} {E : WX}
/-- a call's promise from what the caller wants of its outcome -/
theorem call_sp {N W N1 W1 : AP1} {H H1 : Hp} {σ : L2.St} {ρ1 : En} {n : Nat} {m : MF} {vs : List V} {ds : List D} {Q : VK} (t1 : Stp N W H N1 W1 H1) (e1 : ER c N1 W1 H1 σ ρ1) (rv : Reps c.T N1 H1 vs ds) (hn : ds.length = n)
    (q : sat c N1 W1 H1 σ E (fun N' W' H' r => ∀ v, VR c H N' W' H' v r.1.1 r.1.2 → Q v H') (outP ρ1 (m ds default))) : spF c.T false n m vs H1 Q (WE E σ) := by
  refine ⟨N1, none, c.bl, ds, default, vs, ⟨rfl, rfl⟩, e1.all, rv, hn, ?_⟩
  cases hm : m ds default with
  | no => rw [hm] at q; exact q
  | err x' ρ' =>
    rw [hm] at q
    intro N' cv ad H' F' _ rv'
    obtain ⟨e2, t2⟩ := e1.called F' (.inl ⟨rfl, rfl⟩)
    exact q N' W1 H' cv ad t2 e2 rv'
  | ok r2 =>
    obtain ⟨⟨d, fr⟩, ρ2⟩ := r2
    rw [hm] at q
    intro N' v H' F' _ rv'
    obtain ⟨e2, t2⟩ := e1.called F' (.inl ⟨rfl, rfl⟩)
    refine q N' W1 H' t2 e2 v ?_
    cases fr with
    | false => exact rv'
    | true =>
      obtain ⟨a, o, rfl, h1, h2, h3, h4⟩ := rv'
      exact ⟨a, o, rfl, h1, fun z => e1.all a (e1.wn a z) h2, t1.was_none h2, h0_none e1 h2, h3, h4⟩
end
/-- o.m(..), o a value: by the class of o -/
abbrev Sel := List (Nat × MF)
def methV (sel : Sel) (m : Str) (n : Nat) (fo : FD) (fa : FA) : FV := fun ρ => (fo ρ).bind fun r => match r.1 with
  | .ins t fs => match sel.lookup t with
    | some mm => if (fs.lookup m).isNone = true then (fa r.2).bind fun s => if s.1.length = n then outP s.2 (mm (.ins t fs :: s.1) default) else .no else .no
    | none => .no
  | _ => .no
def SelOk (P : Program) (w : World) (K : PySem.W.Frag) (mg : Str → Option Value) (base : Heap) (T : Tg) (m : Str) (k n : Nat) (sel : Sel) : Prop := ∀ p ∈ sel, Mth P w K mg base T p.1 m k false n p.2
theorem RepF.none {T : Tg} {N : AP1} {H : Hp} {f : Str} : ∀ {fv : List (Str × V)} {fs : List (Str × D)}, RepF T N H fv fs → fs.lookup f = none → fv.lookup f = none
  | _, _, .nil, _ => rfl
  | _, _, .cons (k := k) _ r, h => by
    rw [List.lookup_cons] at h ⊢
    split at h
    · cases h
    · exact RepF.none r h
section
variable {X : Cx} {c : Cn} {E : WX} {T : Tg} {o e : Expr} {es : List Expr} {fo : FD} {fa : FA} {m : Str} {sel : Sel} {k j n : Nat} {apos pos : Pos}
theorem nd_mth {pl : Sem Bool} (hT : c.T = T) (tk : Takes X E) (S : SelOk X.prog X.w X.K X.mg X.base T m k (n + 1) sel) (hr : Room j X.A) (hk : k ≤ j) (ho : PE X o (rdD c E fo)) (ha : PA X (e :: es) (rdA c E fa))
    (hst : starEach (e :: es) X.env = (false, eval e X.env) :: starEach es X.env := by rfl) (hpl : (backTo pos (starEach es X.env)).any (·.1) = false := by rfl)
    (ht : eval (.Call (.Attribute o m apos) (e :: es) [] pos) X.env = (do
      let ov ← eval o X.env
      standAt apos.atName
      let (f, first) ← holding [ov] (getMethod ov m pl)
      callWith pos f first (backTo pos (starEach (e :: es) X.env)) (backToKw pos (keywordEach [] X.env))) := by rfl) :
    PE X (.Call (.Attribute o m apos) (e :: es) [] pos) (rdV c E (methV sel m n fo fa)) := by
  subst hT
  refine PE.mono (nx_mth (pl := pl) ho ha (fun σ => passAt tk σ) hst hpl ht) fun σ H Q ⟨N, W, ρ, er, q⟩ => ?_
  unfold methV at q
  refine ⟨N, W, ρ, er, q.bind.imp fun N1 W1 H1 r1 t1 e1 q1 v rv => ?_⟩
  obtain ⟨d1, ρ1⟩ := r1
  dsimp only at q1 rv
  split at q1
  · rename_i t fs
    split at q1
    · rename_i mm hs
      by_cases hl : (fs.lookup m).isNone = true
      · rw [if_pos hl] at q1
        obtain ⟨a, dx, fv, rfl, n1, h1, h2⟩ := id rv.ins_inv
        obtain ⟨cl, f, fd, ps, F, hm, hb⟩ := S _ (lookup_mem hs)
        refine ⟨a, _, dx, fv, f, k, fd, ps, _, rfl, h1, cl, hm, F, hr.mono hk, hb, h2.none (by simpa using hl), ?_⟩
        refine ⟨N1, W1, ρ1, e1, q1.bind.imp fun N2 W2 H2 r2 t2 e2 q2 vs rvs => ?_⟩
        obtain ⟨ds, ρ2⟩ := r2
        dsimp only at q2 rvs
        by_cases hn : ds.length = n
        · rw [if_pos hn] at q2
          exact call_sp (ds := .ins t fs :: ds) (t1.trans t2) e2 (.cons (rv.move (e1.mv t2)) rvs) (by rw [List.length_cons, hn]) q2
        · rw [if_neg hn] at q2
          exact q2.elim
      · rw [if_neg hl] at q1
        exact q1.elim
    · exact q1.elim
  · exact q1.elim
def methV0 (sel : Sel) (m : Str) (fo : FD) : FV := fun ρ => (fo ρ).bind fun r => match r.1 with
  | .ins t fs => match sel.lookup t with
    | some mm => if (fs.lookup m).isNone = true then outP r.2 (mm [.ins t fs] default) else .no
    | none => .no
  | _ => .no
theorem nd_mth0 {pl : Sem Bool} (hT : c.T = T) (tk : Takes X E) (S : SelOk X.prog X.w X.K X.mg X.base T m k 1 sel) (hr : Room j X.A) (hk : k ≤ j) (ho : PE X o (rdD c E fo))
    (ht : eval (.Call (.Attribute o m apos) [] [] pos) X.env = (do
      let ov ← eval o X.env
      standAt apos.atName
      let (f, first) ← holding [ov] (getMethod ov m pl)
      callWith pos f first (backTo pos (starEach [] X.env)) (backToKw pos (keywordEach [] X.env))) := by rfl) :
    PE X (.Call (.Attribute o m apos) [] [] pos) (rdV c E (methV0 sel m fo)) := by
  subst hT
  refine PE.mono (nx_mth0 (pl := pl) ho (fun σ => passAt tk σ) ht) fun σ H Q ⟨N, W, ρ, er, q⟩ => ?_
  unfold methV0 at q
  refine ⟨N, W, ρ, er, q.bind.imp fun N1 W1 H1 r1 t1 e1 q1 v rv => ?_⟩
  obtain ⟨d1, ρ1⟩ := r1
  dsimp only at q1 rv
  split at q1
  · rename_i t fs
    split at q1
    · rename_i mm hs
      by_cases hl : (fs.lookup m).isNone = true
      · rw [if_pos hl] at q1
        obtain ⟨a, dx, fv, rfl, n1, h1, h2⟩ := id rv.ins_inv
        obtain ⟨cl, f, fd, ps, F, hm, hb⟩ := S _ (lookup_mem hs)
        exact ⟨a, _, dx, fv, f, k, fd, ps, _, rfl, h1, cl, hm, F, hr.mono hk, hb, h2.none (by simpa using hl), call_sp (ds := [.ins t fs]) t1 e1 (.cons rv .nil) rfl q1⟩
      · rw [if_neg hl] at q1
        exact q1.elim
    · exact q1.elim
  · exact q1.elim
/-! ### a property -/
structure Prp (P : Program) (w : World) (K : PySem.W.Frag) (mg : Str → Option Value) (base : Heap) (T : Tg) (t : Nat) (f : Str) (k : Nat) (mm : MF) : Prop where
  cl : L2.Cls K (T.cl t)
  ex : ∃ p g fd ps, FnOk P w K mg base (L2.CX P w) k g fd ps (spF T false 1 mm) ∧ L2.PropOf K (T.cl t) f p g ∧ Binds K fd ps []
def propE (t0 : Nat) (mm : MF) (fo : FD) : FV := fun ρ => (fo ρ).bind fun r => match r.1 with
  | .ins t fs => if t = t0 then match mm [.ins t fs] default with
    | .ok (v, _) => .ok (v, r.2)
    | _ => .no else .no
  | _ => .no
theorem nd_prop {t0 : Nat} {f : Str} {mm : MF} (hT : c.T = T) (S : Prp X.prog X.w X.K X.mg X.base T t0 f k mm) (hr : Room j X.A) (hk : k + 1 ≤ j) (ho : PE X o (rdD c E fo)) (hb : attributeBase o f X.env (eval o X.env) = eval o X.env := by rfl) :
    PE X (.Attribute o f pos) (rdV c E (propE t0 mm fo)) := by
  subst hT
  obtain ⟨cl, p, g, fd, ps, F, hp, hbi⟩ := S
  refine PE.mono (pe_prop (CX := L2.CX X.prog X.w) (E := L2.E0) ho cl hp F (hr.mono hk) hbi .nil passL hb) fun σ H Q ⟨N, W, ρ, er, q⟩ => ?_
  unfold propE at q
  refine ⟨N, W, ρ, er, q.bind.imp fun N1 W1 H1 r1 t1 e1 q1 v rv => ?_⟩
  obtain ⟨d1, ρ1⟩ := r1
  dsimp only at q1 rv
  split at q1
  · rename_i t fs
    by_cases ht : t = t0
    · rw [if_pos ht] at q1
      subst ht
      obtain ⟨a, dx, fv, rfl, n1, h1, h2⟩ := id rv.ins_inv
      refine ⟨a, dx, fv, rfl, h1, ?_⟩
      cases hm : mm [.ins t fs] default with
      | no => rw [hm] at q1; exact q1.elim
      | err x' ρ' => rw [hm] at q1; exact q1.elim
      | ok r2 =>
        rw [hm] at q1
        exact call_sp (E := EN) (ds := [.ins t fs]) t1 e1 (.cons rv .nil) rfl (by rw [hm]; exact q1)
    · rw [if_neg ht] at q1
      exact q1.elim
  · exact q1.elim
end
end ND

end
section
set_option Elab.async false
set_option linter.all false
set_option maxRecDepth 100000
set_option maxHeartbeats 2000000
/-! NX37: making an instance. -/
namespace ND
open PySem PySem.Spec PyProof.Rows L2

/-! ### the library's making, what is raised wished for at the caller's slots -/
def newH (H : Hp) (C x dx : Addr) : Hp := upd (upd H dx (.own x)) x (.ins C dx [])
section
variable {X : Cx} {k n : Nat} {f C : Addr} {fd : FuncData} {ps ks : List Str} {ds : List Value} {dvs : List V} {sp : Sp} {E : L2.St → XK} {x : Str} {p pos : Pos} {e : Expr} {es : List Expr} {kws : List Keyword} {t tk : TA} {g : List Value → List Value → List Value} {gV : List V → List V → List V}
  {pins : List (Addr × Obj)} {σ : L2.St} {H : Hp} {s : Shared} {Q : VK} {us ws : List Value} {vs zs : List V}
theorem nx_made (M : L2.Mk X.K C f) (F : FnOk X.prog X.w X.K X.mg X.base (L2.CX X.prog X.w) k f fd ps sp) (room : Room (k + 1) X.A) (out : PassesAt (L2.CX X.prog X.w) X σ (E σ)) (I : Inv X pins σ H s) (kw : List (Str × Value)) {bs : List Value} {ys : List V}
    (bind : ∀ (s : Shared) (self : Value), X.K.In s.heap → (self :: bs).length = ps.length → BindsTo s fd ⟨self :: us, kw⟩ (ps.zip (self :: bs))) (r : Vals ys bs)
    (h : ∀ y dy, H y = none → H dy = none → dy ≠ y → sp (.ref y :: ys) (newH H C y dy) (fun v H2 => v = .non ∧ Q (.ref y) H2) (E σ)) :
    wpAny (model X.prog X.w) X.A (call (.ref C) us kw) (EP X pins σ Q) X.xe s := by
  have want := h (s.heap.objs.size + 1) s.heap.objs.size (I.hok.fresh (Nat.le_succ _)) (I.hok.fresh (Nat.le_refl _)) (Nat.ne_of_lt (Nat.lt_succ_self _))
  have J := Inv.made (C := C) I
  have rr : Vals (V.ref (s.heap.objs.size + 1) :: ys) (Value.ref (s.heap.objs.size + 1) :: bs) := .cons rfl r
  have many : (Value.ref (s.heap.objs.size + 1) :: bs).length = ps.length := by
    have e := rr.length
    rw [F.len _ _ _ _ want] at e
    exact e.symm
  have run := F.run _ X.stack _ _ ⟨Value.ref (s.heap.objs.size + 1) :: us, kw⟩ (Value.ref (s.heap.objs.size + 1) :: bs) _ _ (E σ) (room.make C us kw) (J.env0.make C us kw) (bind _ _ J.kIn many) rr want
  refine wpAny_call (make_map (f := f) I.kIn M.makes M.init (beq_iff_eq.mp M.fn) (codeAny_mono run fun res s2 z => ?_))
  match res, z with
  | .error er, z => exact out pins _ _ er s2 J z
  | .ok (.ret u), z =>
    obtain ⟨v, H', I3, rv, rfl, q⟩ := J.after z
    exact ⟨rv, ⟨V.ref (s.heap.objs.size + 1), H', I3, rfl, q⟩⟩
  | .ok .next, z => exact z.elim
  | .ok .brk, z => exact z.elim
  | .ok .cont, z => exact z.elim
theorem nx_make (M : L2.Mk X.K C f) (F : FnOk X.prog X.w X.K X.mg X.base (L2.CX X.prog X.w) k f fd ps sp) (room : Room (k + 1) X.A) (hg : Gl X x) (hm : X.mg x = some (.ref C)) (hb : Binds X.K fd ps ds) (hd : Vals dvs ds) (out : ∀ σ, PassesAt (L2.CX X.prog X.w) X σ (E σ))
    (ha : PA X (e :: es) t) (hdb : (x == ("__debug__" : Str)) = false := by decide) (he : starEach (e :: es) X.env = (false, eval e X.env) :: starEach es X.env := by rfl) (hpl : (backTo pos (starEach es X.env)).any (·.1) = false := by rfl) :
    PE X (.Call (.Name x p) (e :: es) [] pos) (fun σ H Q => t σ H fun vs H1 => ∀ y dy, H1 y = none → H1 dy = none → dy ≠ y → sp (.ref y :: (vs ++ dvs)) (newH H1 C y dy) (fun v H2 => v = .non ∧ Q (.ref y) H2) (E σ)) := by
  refine ⟨fun pins s σ H Q I z => wpAny_Call_Name_kw (ld_glob I hg hm ?_ hdb)⟩
  refine PySem.W.callWith_K (h₀ := X.base) I.ok.mod.kin M.kp (thn (ha.run pos pins s σ H _ I z) fun us s1 z1 => ?_) he hpl
  obtain ⟨vs, H1, I1, r, q⟩ := z1
  exact ⟨I1.kIn, nx_made M F room (out σ) I1 [] (fun s self hk hl => hb s (self :: us) hk hl) (r.append hd) q⟩
theorem nx_make0 (M : L2.Mk X.K C f) (F : FnOk X.prog X.w X.K X.mg X.base (L2.CX X.prog X.w) k f fd ps sp) (room : Room (k + 1) X.A) (hg : Gl X x) (hm : X.mg x = some (.ref C)) (hb : Binds X.K fd ps ds) (hd : Vals dvs ds) (out : ∀ σ, PassesAt (L2.CX X.prog X.w) X σ (E σ))
    (hdb : (x == ("__debug__" : Str)) = false := by decide) :
    PE X (.Call (.Name x p) [] [] pos) (fun σ H1 Q => ∀ y dy, H1 y = none → H1 dy = none → dy ≠ y → sp (.ref y :: dvs) (newH H1 C y dy) (fun v H2 => v = .non ∧ Q (.ref y) H2) (E σ)) := by
  refine ⟨fun pins s σ H Q I z => wpAny_Call_Name_kw (ld_glob I hg hm ?_ hdb)⟩
  exact PySem.W.callWith_K0 I.kIn M.kp (nx_made (us := []) M F room (out σ) I [] (fun s self hk hl => hb s [self] hk hl) hd z)
theorem nx_makeK (M : L2.Mk X.K C f) (F : FnOk X.prog X.w X.K X.mg X.base (L2.CX X.prog X.w) k f fd ps sp) (room : Room (k + 1) X.A) (hg : Gl X x) (hm : X.mg x = some (.ref C)) (hb : KBn X.K fd ps (n + 1) ks (fun us ws => us ++ ws) (fun vs zs => vs ++ zs)) (out : ∀ σ, PassesAt (L2.CX X.prog X.w) X σ (E σ))
    (ha : PA X (e :: es) t) (hkw : PK X kws tk) (hall : (backToKw pos (keywordEach kws X.env)).all (·.1.isSome) = true := by rfl) (hks : (backToKw pos (keywordEach kws X.env)).filterMap (·.1) = ks := by rfl) (hdb : (x == ("__debug__" : Str)) = false := by decide)
    (he : starEach (e :: es) X.env = (false, eval e X.env) :: starEach es X.env := by rfl) (hpl : ((backTo pos (starEach (e :: es) X.env)).any (·.1) || (backToKw pos (keywordEach kws X.env)).any (·.1.isNone)) = false := by rfl) :
    PE X (.Call (.Name x p) (e :: es) kws pos) (fun σ H Q => t σ H fun vs H1 => tk σ H1 fun zs H2 => vs.length = n ∧ zs.length = ks.length ∧ ∀ y dy, H2 y = none → H2 dy = none → dy ≠ y → sp (.ref y :: (vs ++ zs)) (newH H2 C y dy) (fun v H3 => v = .non ∧ Q (.ref y) H3) (E σ)) := by
  refine ⟨fun pins s σ H Q I z => wpAny_Call_Name_kw (ld_glob I hg hm ?_ hdb)⟩
  refine PySem.W.callWith_KW (h₀ := X.base) I.ok.mod.kin M.kp hall (thn (ha.run pos pins s σ H _ I z) fun us s1 z1 => ?_) hpl he
  obtain ⟨vs, H1, I1, r, q⟩ := z1
  refine thn (hkw.run pos pins s1 σ H1 _ I1 q) fun ws s2 z2 => ?_
  obtain ⟨zs, H2, I2, rz, l1, l2, q2⟩ := z2
  refine ⟨I2.kIn, ?_⟩
  rw [hks]
  exact nx_made M F room (out σ) I2 (ks.zip ws) (fun s self hk hl => hb.to s (self :: us) ws hk (by rw [List.length_cons, ← r.length, l1]) (rz.length.symm.trans l2)) (r.append rz) q2
end

/-! ### as what it does to data -/
def objB (t : Nat) (fs : List (Str × D)) : Bag := { (default : Bag) with me := some (t, fs) }
def outM (ρ : En) : Out ((D × Bool) × En) → Out ((D × Bool) × En)
  | .ok ((.non, _), ρ') => match ρ'.b.me with
    | some (t, fs) => .ok ((.ins t fs, true), ρ)
    | none => .no
  | .ok _ => .no
  | .err x _ => .err x ρ
  | .no => .no
def makeE (t : Nat) (m : MF) (dd : List D) (fa : FA) : FV := fun ρ => (fa ρ).bind fun r => outM r.2 (m (r.1 ++ dd) (objB t []))
def makeK (t : Nat) (m : MF) (fa fk : FA) : FV := fun ρ => (fa ρ).bind fun r => (fk r.2).bind fun s => outM s.2 (m (r.1 ++ s.1) (objB t []))
section
variable {c : Cn} {E : WX}
theorem make_sp {N W N1 W1 : AP1} {H H1 : Hp} {σ : L2.St} {ρ1 : En} {n t : Nat} {m : MF} {vs : List V} {ds : List D} {Q : VK} {y dy : Addr} (t1 : Stp N W H N1 W1 H1) (e1 : ER c N1 W1 H1 σ ρ1) (rv : Reps c.T N1 H1 vs ds) (hn : ds.length = n) (ny : H1 y = none) (nd : H1 dy = none) (ne : dy ≠ y)
    (q : sat c N1 W1 H1 σ E (fun N' W' H' r => ∀ v, VR c H N' W' H' v r.1.1 r.1.2 → Q v H') (outM ρ1 (m ds (objB t [])))) : spF c.T true n m (.ref y :: vs) (newH H1 (c.T.cl t) y dy) (fun v H2 => v = .non ∧ Q (.ref y) H2) (WE E σ) := by
  have k : ∀ b o, H1 b = some o → newH H1 (c.T.cl t) y dy b = some o := fun b o z => by
    unfold newH
    rw [upd_ne (ne_of_none z ny), upd_ne (ne_of_none z nd)]
    exact z
  have kn : ∀ b, newH H1 (c.T.cl t) y dy b = none → H1 b = none := fun b z => by
    cases w : H1 b with
    | none => rfl
    | some o => rw [k b o w] at z; cases z
  have at_ : newH H1 (c.T.cl t) y dy y = some (.ins (c.T.cl t) dy []) := upd_same
  have mv : ∀ b o, ¬ N1 b → H1 b = some o → ¬ (N1 b ∨ b = y) ∧ newH H1 (c.T.cl t) y dy b = some o := fun b o n z => ⟨fun w => w.elim n (ne_of_none z ny), k b o z⟩
  refine ⟨fun b => N1 b ∨ b = y, some y, c.bl, ds, objB t [], vs, ⟨y, rfl, rfl, .inr rfl, .inr ⟨t, [], dy, [], rfl, at_, .nil⟩⟩, fun b hb => ?_, rv.move mv, hn, ?_⟩
  · rcases hb with hb | rfl
    · exact fun z => e1.all b hb (kn b z)
    · rw [at_]; intro z; cases z
  have down : ∀ {N' : AP1} {H' : Hp}, Fnl (fun b => N1 b ∨ b = y) (some y) (newH H1 (c.T.cl t) y dy) N' H' → Fnl N1 none H1 N' H' := fun {N' H'} F =>
    ⟨fun b o z _ => F.keep b o (k b o z) fun w => ne_of_none z ny (Option.some.inj w).symm, fun b z => (F.nN b z).elim (fun w => w.elim .inl fun w => .inr (w ▸ ny)) fun w => .inr (kn b w), fun b z => F.kN b (.inl z), fun b z => F.al b fun w => z (kn b w), F.all⟩
  cases hm : m ds (objB t []) with
  | no => rw [hm] at q; exact q
  | err x' ρ' =>
    rw [hm] at q
    intro N' cv ad H' F' _ rv'
    obtain ⟨e2, t2⟩ := e1.called (down F') (.inl ⟨rfl, rfl⟩)
    exact q N' W1 H' cv ad t2 e2 rv'
  | ok r2 =>
    obtain ⟨⟨d, fr⟩, ρ2⟩ := r2
    rw [hm] at q
    intro N' v H' F' bk rv'
    obtain ⟨e2, t2⟩ := e1.called (down F') (.inl ⟨rfl, rfl⟩)
    have dn : d = .non := by
      cases d <;> first | rfl | exact q.elim
    subst dn
    have vn : v = .non := by
      cases fr with
      | false => exact Rep.non_inv rv'
      | true => obtain ⟨_, _, _, _, _, _, tp⟩ := rv'; cases tp
    refine ⟨vn, ?_⟩
    have bk := bk y rfl
    cases hme : ρ2.b.me with
    | none =>
      have q : sat c N1 W1 H1 σ E _ (match ρ2.b.me with | some (t, fs) => Out.ok ((D.ins t fs, true), ρ1) | none => Out.no) := q
      rw [hme] at q
      exact q.elim
    | some z =>
      obtain ⟨t', fs⟩ := z
      have q : sat c N1 W1 H1 σ E _ (match ρ2.b.me with | some (t, fs) => Out.ok ((D.ins t fs, true), ρ1) | none => Out.no) := q
      rw [hme] at q
      obtain ⟨dx, fv, h1, h2⟩ := bk.obj hme
      exact q N' W1 H' t2 e2 _ ⟨y, _, rfl, bk.apart, fun z => e1.all y (e1.wn y z) ny, t1.was_none ny, h0_none e1 ny, h1, .ins h2⟩
end
/-- a class that may be made: its __init__, with what stands for the keyword-only ones -/
structure Mkr (P : Program) (w : World) (K : PySem.W.Frag) (mg : Str → Option Value) (base : Heap) (T : Tg) (x : Str) (t k n : Nat) (dd : List D) (m : MF) : Prop where
  ex : ∃ f fd ps dvs ds, FnOk P w K mg base (L2.CX P w) k f fd ps (spF T true (n + dd.length) m) ∧ L2.Mk K (T.cl t) f ∧ mg x = some (.ref (T.cl t)) ∧ Vals dvs ds ∧ Binds K fd ps ds ∧ ∀ N H, Reps T N H dvs dd
structure MkrK (P : Program) (w : World) (K : PySem.W.Frag) (mg : Str → Option Value) (base : Heap) (T : Tg) (x : Str) (t k n : Nat) (ks : List Str) (m : MF) : Prop where
  ex : ∃ f fd ps, FnOk P w K mg base (L2.CX P w) k f fd ps (spF T true (n + ks.length) m) ∧ L2.Mk K (T.cl t) f ∧ mg x = some (.ref (T.cl t)) ∧ KBn K fd ps (n + 1) ks (fun us ws => us ++ ws) (fun vs zs => vs ++ zs)
section
variable {X : Cx} {c : Cn} {E : WX} {T : Tg} {x : Str} {t k j n : Nat} {ks : List Str} {dd : List D} {m : MF} {e : Expr} {es : List Expr} {fa fk : FA} {p pos : Pos} {kws : List Keyword}
theorem nd_make (hT : c.T = T) (tk : Takes X E) (B : Mkr X.prog X.w X.K X.mg X.base T x t k n dd m) (hr : Room j X.A) (hk : k + 1 ≤ j) (hg : Gl X x) (ha : PA X (e :: es) (rdA c E fa)) (hdb : (x == ("__debug__" : Str)) = false := by decide)
    (he : starEach (e :: es) X.env = (false, eval e X.env) :: starEach es X.env := by rfl) (hpl : (backTo pos (starEach es X.env)).any (·.1) = false := by rfl) : PE X (.Call (.Name x p) (e :: es) [] pos) (rdV c E (makeE t m dd (cnt n fa))) := by
  obtain ⟨f, fd, ps, dvs, ds, F, M, g, vd, b, rd⟩ := B.ex
  subst hT
  refine PE.mono (nx_make M F (hr.mono hk) hg g b vd (fun σ => passAt tk σ) ha hdb he hpl) fun σ H Q ⟨N, W, ρ, er, q⟩ => ?_
  unfold makeE cnt at q
  refine ⟨N, W, ρ, er, (sat.bind (sat.bind q)).imp fun N1 W1 H1 r1 t1 e1 q1 vs rv y dy ny nd ne => ?_⟩
  obtain ⟨ds1, ρ1⟩ := r1
  dsimp only at q1 rv
  by_cases hn : ds1.length = n
  · rw [if_pos hn] at q1
    exact make_sp t1 e1 (rv.app (rd _ _)) (by rw [List.length_append, hn]) ny nd ne (q1.here e1)
  · rw [if_neg hn] at q1
    exact q1.elim
theorem nd_make0 (hT : c.T = T) (tk : Takes X E) (B : Mkr X.prog X.w X.K X.mg X.base T x t k 0 dd m) (hr : Room j X.A) (hk : k + 1 ≤ j) (hg : Gl X x) (hdb : (x == ("__debug__" : Str)) = false := by decide) : PE X (.Call (.Name x p) [] [] pos) (rdV c E (makeE t m dd (cnt 0 anil))) := by
  obtain ⟨f, fd, ps, dvs, ds, F, M, g, vd, b, rd⟩ := B.ex
  subst hT
  refine PE.mono (nx_make0 M F (hr.mono hk) hg g b vd (fun σ => passAt tk σ) hdb) fun σ H Q ⟨N, W, ρ, er, q⟩ y dy ny nd ne => ?_
  exact make_sp (.refl _ _ _) er (rd _ _) (by rw [Nat.zero_add]) ny nd ne q
theorem nd_makeK (hT : c.T = T) (tk : Takes X E) (B : MkrK X.prog X.w X.K X.mg X.base T x t k n ks m) (hr : Room j X.A) (hk : k + 1 ≤ j) (hg : Gl X x) (ha : PA X (e :: es) (rdA c E fa)) (hkw : PK X kws (rdA c E fk))
    (hall : (backToKw pos (keywordEach kws X.env)).all (·.1.isSome) = true := by rfl) (hks : (backToKw pos (keywordEach kws X.env)).filterMap (·.1) = ks := by rfl) (hdb : (x == ("__debug__" : Str)) = false := by decide)
    (he : starEach (e :: es) X.env = (false, eval e X.env) :: starEach es X.env := by rfl) (hpl : ((backTo pos (starEach (e :: es) X.env)).any (·.1) || (backToKw pos (keywordEach kws X.env)).any (·.1.isNone)) = false := by rfl) :
    PE X (.Call (.Name x p) (e :: es) kws pos) (rdV c E (makeK t m (cnt n fa) (cnt ks.length fk))) := by
  obtain ⟨f, fd, ps, F, M, g, b⟩ := B.ex
  subst hT
  refine PE.mono (nx_makeK M F (hr.mono hk) hg g b (fun σ => passAt tk σ) ha hkw hall hks hdb he hpl) fun σ H Q ⟨N, W, ρ, er, q⟩ => ?_
  unfold makeK cnt at q
  refine ⟨N, W, ρ, er, (sat.bind (sat.bind q)).imp fun N1 W1 H1 r1 t1 e1 q1 vs rv => ?_⟩
  obtain ⟨ds1, ρ1⟩ := r1
  dsimp only at q1 rv
  by_cases hn : ds1.length = n
  · rw [if_pos hn] at q1
    have q1 := q1.here e1
    refine ⟨N1, W1, ρ1, e1, (sat.bind (sat.bind q1)).imp fun N2 W2 H2 r2 t2 e2 q2 zs rz => ?_⟩
    obtain ⟨ds2, ρ2⟩ := r2
    dsimp only at q2 rz
    by_cases hn2 : ds2.length = ks.length
    · rw [if_pos hn2] at q2
      refine ⟨rv.length.trans hn, rz.length.trans hn2, fun y dy ny nd ne => ?_⟩
      exact make_sp (t1.trans t2) e2 ((rv.move (e1.mv t2)).app rz) (by rw [List.length_append, hn, hn2]) ny nd ne (q2.here e2)
    · rw [if_neg hn2] at q2
      exact q2.elim
  · rw [if_neg hn] at q1
    exact q1.elim
end
end ND

end
section
set_option Elab.async false
set_option linter.all false
set_option maxRecDepth 100000
set_option maxHeartbeats 2000000
/-! NX38: dicts that change: d[k], k in d, d[k] = v, {}. -/
namespace ND
open PySem PySem.Spec PyProof.Rows L2

section
variable {κ : Type} [DecidableEq κ]
def valD (ks : List (κ × D)) (k : κ) : Option D := (ks.find? fun p => decide (p.1 = k)).map (·.2)
def putKD (ks : List (κ × D)) (k : κ) (d : D) : List (κ × D) := if (ks.any fun p => decide (p.1 = k)) = true then ks.map (fun p => if p.1 = k then (p.1, d) else p) else ks ++ [(k, d)]
/-- entries one by one -/
inductive RepE (T : Tg) (N : AP1) (H : Hp) : List (κ × V) → List (κ × D) → Prop
  | nil : RepE T N H [] []
  | cons {k : κ} {v : V} {vs : List (κ × V)} {d : D} {ds : List (κ × D)} : Rep T N H v d → RepE T N H vs ds → RepE T N H ((k, v) :: vs) ((k, d) :: ds)
variable {T : Tg} {N : AP1} {H : Hp} {k : κ} {v : V} {d : D} {vs : List (κ × V)} {ks : List (κ × D)}
theorem RepE.val (r : RepE T N H vs ks) : (valV vs k = none ∧ valD ks k = none) ∨ ∃ v d, valV vs k = some v ∧ valD ks k = some d ∧ Rep T N H v d := by
  induction r with
  | nil => exact .inl ⟨rfl, rfl⟩
  | @cons k' v' vs' d' ds' r1 r2 ih =>
    unfold valV valD at *
    by_cases h : k' = k
    · simp only [List.find?_cons, h, decide_true]
      exact .inr ⟨_, _, rfl, rfl, r1⟩
    · simp only [List.find?_cons, h, decide_false]
      exact ih
theorem RepE.any (r : RepE T N H vs ks) : (vs.any fun p => decide (p.1 = k)) = ks.any fun p => decide (p.1 = k) := by
  induction r with
  | nil => rfl
  | cons r1 r2 ih => simp only [List.any_cons, ih]
theorem RepE.app {vs2 : List (κ × V)} {ks2 : List (κ × D)} (r : RepE T N H vs ks) (s : RepE T N H vs2 ks2) : RepE T N H (vs ++ vs2) (ks ++ ks2) := by
  induction r with
  | nil => exact s
  | cons r1 r2 ih => exact .cons r1 ih
theorem RepE.upd (rv : Rep T N H v d) (r : RepE T N H vs ks) : RepE T N H (vs.map (fun p => if p.1 = k then (p.1, v) else p)) (ks.map (fun p => if p.1 = k then (p.1, d) else p)) := by
  induction r with
  | nil => exact .nil
  | @cons k' v' vs' d' ds' r1 r2 ih =>
    simp only [List.map_cons]
    by_cases h : k' = k
    · rw [if_pos h, if_pos h]; exact .cons rv ih
    · rw [if_neg h, if_neg h]; exact .cons r1 ih
theorem RepE.put (rv : Rep T N H v d) (r : RepE T N H vs ks) : RepE T N H (putK vs k v) (putKD ks k d) := by
  unfold putK putKD
  rw [r.any (k := k)]
  split
  · exact r.upd rv
  · exact r.app (.cons rv .nil)
theorem RepE.len (r : RepE T N H vs ks) : vs.length = ks.length := by
  induction r with
  | nil => rfl
  | cons r1 r2 ih => simp only [List.length_cons, ih]
end
section
variable {T : Tg} {N : AP1} {H : Hp}
theorem RepK.e : ∀ {vs : List (Key × V)} {ds : List (Key × D)}, RepK T N H vs ds → RepE T N H vs ds
  | _, _, .nil => .nil
  | _, _, .cons r s => .cons r (RepK.e s)
theorem RepT.e : ∀ {vs : List (List Key × V)} {ds : List (List Key × D)}, RepT T N H vs ds → RepE T N H vs ds
  | _, _, .nil => .nil
  | _, _, .cons r s => .cons r (RepT.e s)
theorem RepE.k {vs : List (Key × V)} {ds : List (Key × D)} (r : RepE T N H vs ds) : RepK T N H vs ds := by
  induction r with
  | nil => exact .nil
  | cons r1 r2 ih => exact .cons r1 ih
theorem RepE.t {vs : List (List Key × V)} {ds : List (List Key × D)} (r : RepE T N H vs ds) : RepT T N H vs ds := by
  induction r with
  | nil => exact .nil
  | cons r1 r2 ih => exact .cons r1 ih
end
/-- a key that is a tuple -/
def keysOf : List D → Option (List Key)
  | [] => some []
  | d :: ds => (keyOf d).bind fun k => (keysOf ds).map fun ks => k :: ks
theorem keysOf_ok {T : Tg} {N : AP1} {H : Hp} : ∀ {vs : List V} {ds : List D} {k : List Key}, Reps T N H vs ds → keysOf ds = some k → vs = k.map kV
  | _, _, k, .nil, h => by cases h; rfl
  | _, _, k, .cons r s, h => by
    unfold keysOf at h
    obtain ⟨k0, h0, h⟩ := Option.bind_eq_some_iff.mp h
    obtain ⟨k1, h1, rfl⟩ := Option.map_eq_some_iff.mp h
    rw [keyOf_ok r h0, keysOf_ok s h1]
    rfl
/-- what a dict holds at a key: not asked rightly; nothing; a thing -/
def lookD : D → D → Option (Option D)
  | .dic ks, k => (keyOf k).map (valD ks)
  | .dct ks, .tup ds => (keysOf ds).map (valD ks)
  | _, _ => none
section
variable {c : Cn} {N W : AP1} {H : Hp} {v u : V} {x k : D}
theorem look_ok (r : Pk c N H v x) (s : Rep c.T N H u k) {o : Option D} (h : lookD x k = some o) : ∃ a, v = .ref a ∧ ((o = none ∧ DGet H a u none) ∨ ∃ d w, o = some d ∧ DGet H a u (some w) ∧ Rep c.T N H w d) := by
  have fin : ∀ {a : Addr} {o' : HO}, H a = some o' → Top c.T N H o' x → ((o = none ∧ DGet H a u none) ∨ ∃ d w, o = some d ∧ DGet H a u (some w) ∧ Rep c.T N H w d) := by
    intro a o' ha t
    unfold lookD at h
    split at h
    · obtain ⟨kk, h1, rfl⟩ := Option.map_eq_some_iff.mp h
      cases keyOf_ok s h1
      cases t with
      | dic q =>
        rcases q.e.val (k := kk) with ⟨g1, g2⟩ | ⟨w, d, g1, g2, g3⟩
        · exact .inl ⟨g2, by rw [← g1]; exact DGet.k ha⟩
        · exact .inr ⟨d, w, g2, by rw [← g1]; exact DGet.k ha, g3⟩
    · obtain ⟨kk, h1, rfl⟩ := Option.map_eq_some_iff.mp h
      obtain ⟨b, ws, rfl, _, hb, hr⟩ := s.tup_inv
      cases keysOf_ok hr h1
      cases t with
      | dct q =>
        rcases q.e.val (k := kk) with ⟨g1, g2⟩ | ⟨w, d, g1, g2, g3⟩
        · exact .inl ⟨g2, by rw [← g1]; exact DGet.t ha hb⟩
        · exact .inr ⟨d, w, g2, by rw [← g1]; exact DGet.t ha hb, g3⟩
    · cases h
  rcases r with r | ⟨a, o', rfl, h1, h2⟩
  · cases r with
    | ref n e t => exact ⟨_, rfl, fin e t⟩
    | opq => cases h
    | cau => cases h
    | cls => cases h
    | exc => cases h
    | non => cases h
    | bl => cases h
    | int => cases h
    | str => cases h
  · exact ⟨a, rfl, fin h1 h2⟩
end
/-! ### d[k], of a value; of a name's dict that stays its own -/
def getD (x k : D) : Option D := (lookD x k).bind id
section
variable {X : Cx} {c : Cn} {E : WX} {a b e : Expr} {fa fb f : FD} {pos px p : Pos} {x : Str}
theorem ix_dict (hu : X.A.units + 1 < cLine) : IxR X (fun x y H Q => ∃ (a : Addr) (v : V), x = .ref a ∧ DGet H a y (some v) ∧ Q v H) := by
  rintro value slice pins s σ H x y v u Q I rx ry ⟨a, w, rfl, g, q⟩ hs
  obtain rfl : v = Value.ref a := rx
  exact tail_any (dict_typeIs I g) PySem.F.slot_dict_getitem.lookup (d_getItem hu I g ry fun z s3 I3 rz => ⟨w, H, I3, rz, q⟩) hs
def ixG (x k : D) : Option D := match lookD x k with
  | some r => r
  | none => ixD x k
theorem ixG_val {K : PySem.W.Frag} {N : AP1} {H : Hp} {v u : V} {x k d : D} (r : Pk c N H v x) (s : Rep c.T N H u k) (h : ixG x k = some d) : ∃ w, Rep c.T N H w d ∧ ∀ Q : VK, Q w H → (rIx K v u H Q ∨ ∃ (a : Addr) (z : V), v = .ref a ∧ DGet H a u (some z) ∧ Q z H) := by
  unfold ixG at h
  cases hl : lookD x k with
  | none =>
    rw [hl] at h
    obtain ⟨w, rw', z⟩ := ix_val (K := K) r s h
    exact ⟨w, rw', fun Q q => .inl (z Q q)⟩
  | some o =>
    rw [hl] at h
    obtain ⟨a, rfl, g | ⟨d', w, g1, g2, g3⟩⟩ := look_ok r s hl
    · rw [g.1] at h; cases h
    · rw [g1] at h; cases h
      exact ⟨w, g3, fun Q q => .inr ⟨a, w, rfl, g2, q⟩⟩
theorem nd_ixG (hu : X.A.units + 1 < cLine) (ha : PE X a (rdD c E fa)) (hb : PE X b (rdD c E fb)) (hs : PlainIx b := by exact fun _ _ => rfl) : PE X (.Subscript a b pos) (rdD c E (lift2 ixG fa fb)) := PE.mono (pe_ix (ix_seq.or (ix_dict hu)) ha hb hs) fun σ H Q h => two h fun N W H2 ρ2 v1 v2 d1 d2 er r1 r2 q => by
  obtain ⟨d, hd, q⟩ := ofO_ok q er
  obtain ⟨v, rv, z⟩ := ixG_val (K := X.K) (.inl r1) r2 hd
  exact z Q (q N W H2 (.refl _ _ _) er v rv)
def pixG (i : Nat) (fb : FD) : FD := fun ρ => match peek ρ i with
  | none => .no
  | some _ => (fb ρ).bind fun r => match peek r.2 i with
    | none => .no
    | some d => ofO (ixG d r.1) r.2
theorem nd_pixG (i : Nat) (hu : X.A.units + 1 < cLine) (hb : PE X b (rdD c E fb)) (hN : X.N[i]? = some x := by rfl) (hv : Vis X.env.scope x := by first | exact Or.inl rfl | exact Or.inr (Or.inl rfl) | exact Or.inr (Or.inr rfl)) (hd : (x == ("__debug__" : Str)) = false := by decide)
    (hcd : (x == ("__classdict__" : Str)) = false := by decide) (hs : PlainIx b := by exact fun _ _ => rfl) : PE X (.Subscript (.Name x px) b pos) (rdD c E (pixG i fb)) := PE.mono (pe_ix (ix_seq.or (ix_dict hu)) (pe_var hN hv hd hcd) hb hs) fun σ H Q ⟨N, W, ρ, er, q⟩ => by
  unfold pixG at q
  cases h1 : peek ρ i with
  | none => rw [h1] at q; exact q.elim
  | some d0 =>
    rw [h1] at q
    obtain ⟨v, hv1, _⟩ := peek_ok er h1
    refine ⟨v, hv1, N, W, ρ, er, (sat.bind q).imp fun N1 W1 H1 r1 t1 e1 q1 v1 rv1 => ?_⟩
    cases h2 : peek r1.2 i with
    | none => rw [h2] at q1; exact q1.elim
    | some d =>
      rw [h2] at q1
      obtain ⟨v', hv2, pk⟩ := peek_ok e1 h2
      rw [hv1] at hv2
      cases hv2
      obtain ⟨d1, hd1, q2⟩ := ofO_ok q1 e1
      obtain ⟨w, rw', z⟩ := ixG_val (K := X.K) pk rv1 hd1
      exact z Q (q2 N1 W1 H1 (.refl _ _ _) e1 w rw')

/-! ### k in d -/
def inG (k x : D) : Option Bool := match lookD x k with
  | some r => some r.isSome
  | none => inD k x
theorem op_inDct (hu : X.A.units + 1 < cLine) : OpR X (compareOp .In) (fun y x H Q => ∃ (a : Addr) (o : Option V), x = .ref a ∧ DGet H a y o ∧ Q (.bl o.isSome) H) := by
  rintro pins s σ H y x v u Q I ry rx ⟨a, o, rfl, g, q⟩
  obtain rfl : u = Value.ref a := rx
  exact d_in hu I g ry fun s3 I3 => ⟨.bl o.isSome, H, I3, rfl, q⟩
theorem op_notInDct (hu : X.A.units + 1 < cLine) : OpR X (compareOp .NotIn) (fun y x H Q => ∃ (a : Addr) (o : Option V), x = .ref a ∧ DGet H a y o ∧ Q (.bl (!o.isSome)) H) := by
  rintro pins s σ H y x v u Q I ry rx ⟨a, o, rfl, g, q⟩
  obtain rfl : u = Value.ref a := rx
  exact d_notIn hu I g ry fun s3 I3 => ⟨.bl (!o.isSome), H, I3, rfl, q⟩
theorem inG_get {T : Tg} {N : AP1} {H : Hp} {v u : V} {x k : D} {o : Option D} (r : Rep T N H v x) (s : Rep T N H u k) (h : lookD x k = some o) : ∃ (a : Addr) (w : Option V), v = .ref a ∧ DGet H a u w ∧ w.isSome = o.isSome := by
  obtain ⟨a, rfl, ⟨g1, g2⟩ | ⟨d, w, g1, g2, _⟩⟩ := look_ok (c := ⟨T, none, 0, H, N⟩) (.inl r) s h
  · exact ⟨a, none, rfl, g2, by rw [g1]; rfl⟩
  · exact ⟨a, some w, rfl, g2, by rw [g1]; rfl⟩
theorem od_inG (hu : X.A.units + 1 < cLine) : OpD X (compareOp .In) (bD inG) := opd_keep ((op_in_str.or op_in_seq).or (op_inDct hu)) fun T N H v1 v2 d1 d2 d r1 r2 e => by
  simp only [bD, Option.map_eq_some_iff] at e
  obtain ⟨k, e, rfl⟩ := e
  refine ⟨_, .bl _, fun Q z => ?_⟩
  unfold inG at e
  split at e
  · rename_i o hl
    cases e
    obtain ⟨a, w, h1, h2, h3⟩ := inG_get r2 r1 hl
    exact .inr ⟨a, w, h1, h2, by rw [h3]; exact z⟩
  · rcases in_val (K := X.K) r1 r2 e with ⟨i, j, h1, h2, rfl⟩ | ⟨p, xs, h1, h2, h3, h4, rfl⟩
    · exact .inl (.inl ⟨i, j, h1, h2, z⟩)
    · exact .inl (.inr ⟨p, xs, h1, h2, h3, h4, z⟩)
theorem od_notinG (hu : X.A.units + 1 < cLine) : OpD X (compareOp .NotIn) (nD inG) := opd_keep ((op_notIn_str.or op_notIn_seq).or (op_notInDct hu)) fun T N H v1 v2 d1 d2 d r1 r2 e => by
  simp only [nD, Option.map_eq_some_iff] at e
  obtain ⟨k, e, rfl⟩ := e
  refine ⟨_, .bl _, fun Q z => ?_⟩
  unfold inG at e
  split at e
  · rename_i o hl
    cases e
    obtain ⟨a, w, h1, h2, h3⟩ := inG_get r2 r1 hl
    exact .inr ⟨a, w, h1, h2, by rw [h3]; exact z⟩
  · rcases in_val (K := X.K) r1 r2 e with ⟨i, j, h1, h2, rfl⟩ | ⟨p, xs, h1, h2, h3, h4, rfl⟩
    · exact .inl (.inl ⟨i, j, h1, h2, z⟩)
    · exact .inl (.inr ⟨p, xs, h1, h2, h3, h4, z⟩)

/-! ### d[k] = v -/
def setDc (x k d : D) : Option D := match x with
  | .dic ks => (keyOf k).bind fun k => if ks.length < big then some (.dic (putKD ks k d)) else none
  | .dct ks => match k with
    | .tup ds => (keysOf ds).bind fun k => if ks.length < big then some (.dct (putKD ks k d)) else none
    | _ => none
  | _ => none
def setDS (i : Nat) (fi f : FD) : FS := fun ρ => (f ρ).bind fun r => match peek r.2 i with
  | none => .no
  | some _ => (fi r.2).bind fun s => match s.2.sl[i]? with
    | some (.ow x) => match setDc x s.1 r.1 with
      | some y => .ok (.nx, setS s.2 i (.ow y))
      | none => .no
    | _ => .no
theorem dput_ok {T : Tg} {N : AP1} {H : Hp} {a : Addr} {o : HO} {u w : V} {x k d y : D} (ha : H a = some o) (t : Top T N H o x) (s : Rep T N H u k) (rw' : Rep T N H w d) (h : setDc x k d = some y) : ∃ o', DPut H a u w (upd H a o') ∧ Top T N H o' y := by
  unfold setDc at h
  split at h
  · obtain ⟨kk, h1, h⟩ := Option.bind_eq_some_iff.mp h
    split at h <;> cases h
    rename_i hl
    cases keyOf_ok s h1
    cases t with
    | dic q => exact ⟨_, DPut.k ha (by rw [q.e.len]; exact Nat.lt_of_lt_of_le hl (by decide)), .dic (q.e.put rw').k⟩
  · split at h
    · obtain ⟨kk, h1, h⟩ := Option.bind_eq_some_iff.mp h
      split at h <;> cases h
      rename_i hl
      obtain ⟨b, ws, rfl, _, hb, hr⟩ := s.tup_inv
      cases keysOf_ok hr h1
      cases t with
      | dct q => exact ⟨_, DPut.t ha hb (by rw [q.e.len]; exact Nat.lt_of_lt_of_le hl (by decide)), .dct (q.e.put rw').t⟩
    · cases h
  · cases h
theorem ns_setDS (i : Nat) {fi : FD} (he : PE X e (rdD c E f)) (ho : PE X (.Name x px) (tVar i)) (hi : PE X b (rdD c E fi)) (ps : ∀ {te to ti : TE}, PE X e te → PE X (.Name x px) to → PE X b ti → PS X (.Assign [.Subscript (.Name x px) b p] e pos) (tAsg te (gSub to ti rSetD))) :
    PS X (.Assign [.Subscript (.Name x px) b p] e pos) (rdS c E (setDS i fi f)) := PS.mono (ps he ho hi) fun D' σ H ⟨N, W, ρ, er, q⟩ => by
  refine ⟨N, W, ρ, er, (satS.bind (σ := σ) q).imp fun N1 W1 H1 r1 t1 e1 q1 v1 rv1 => ?_⟩
  obtain ⟨q1, _⟩ := q1
  cases h1 : peek r1.2 i with
  | none => rw [h1] at q1; exact q1.elim
  | some d0 =>
    rw [h1] at q1
    obtain ⟨v, hv1, _⟩ := peek_ok e1 h1
    refine ⟨v, hv1, N1, W1, r1.2, e1, (satS.bind (σ := σ) q1).imp fun N2 W2 H2 r2 t2 e2 q2 v2 rv2 => ?_⟩
    obtain ⟨q2, _⟩ := q2
    split at q2
    · rename_i x' hs
      split at q2
      · rename_i y hy
        obtain ⟨a, o, k1, k2, k3, k4, k5⟩ := e2.ow i _ hs
        rw [hv1] at k1
        cases k1
        obtain ⟨o', g1, g2⟩ := dput_ok k4 k5 rv2 (rv1.move (e1.mv t2)) hy
        obtain ⟨e3, t3⟩ := e2.own hs hv1 g2
        exact ⟨a, _, rfl, g1, q2 N2 W2 _ σ t3 e3⟩
      · exact q2.elim
    · exact q2.elim

/-! ### {} whose keys will be tuples; ints or texts -/
theorem new_obj {N W N2 W2 : AP1} {H H2 : Hp} {σ : L2.St} {ρ2 : En} {p : Addr} {o : HO} {d : D} {Q : VK} (t : Stp N W H N2 W2 H2) (er2 : ER c N2 W2 H2 σ ρ2) (hp : H2 p = none) (tp : ∀ N' H', Top c.T N' H' o d)
    (q : ∀ N' W' H', Stp N W H N' W' H' → ER c N' W' H' σ ρ2 → ∀ v, VR c H N' W' H' v d true → Q v H') : Q (.ref p) (upd H2 p o) := by
  have ea := er2.apart hp (o := o)
  have hH : H p = none := t.was_none hp
  have h0 : c.H0 p = none := h0_none er2 hp
  exact q _ _ _ (t.trans (.apart hp)) ea (.ref p) ⟨p, _, rfl, .inr rfl, fun z => er2.all p (er2.wn p z) hp, hH, h0, upd_same, tp _ _⟩
def newE (d : D) : FV := fun ρ => .ok ((d, true), ρ)
theorem nd_dnew {o : HO} {d : D} (h : PE X e (fun _ H Q => ∀ p, H p = none → Q (.ref p) (upd H p o))) (tp : ∀ (T : Tg) (N : AP1) (H : Hp), Top T N H o d) : PE X e (rdV c E (newE d)) := PE.mono h fun σ H Q ⟨N, W, ρ, er, q⟩ p hp =>
  new_obj (.refl _ _ _) er hp (fun N' H' => tp c.T N' H') fun N' W' H' t e v rv => q N' W' H' t e v rv
theorem nd_dnewT : PE X (.Dict [] [] pos) (rdV c E (newE (.dct []))) := nd_dnew pe_dnewT fun T N H => .dct .nil
theorem nd_dnewK : PE X (.Dict [] [] pos) (rdV c E (newE (.dic []))) := nd_dnew pe_dnewK fun T N H => .dic .nil
end
/-! W -/
section
variable {ρ : En} {i : Nat} {fi fb f : FD} {QV : D × Bool → En → Prop} {Q : Fl → En → Prop} {QD : D → En → Prop}
theorem w_newE {d : D} (q : QV (d, true) ρ) : W (newE d ρ) QV := ⟨_, _, rfl, q⟩
theorem w_setDS (q : W (f ρ) fun d ρ1 => ∃ p, peek ρ1 i = some p ∧ W (fi ρ1) fun k ρ2 => ∃ x, ρ2.sl[i]? = some (.ow x) ∧ ∃ y, setDc x k d = some y ∧ Q .nx (setS ρ2 i (.ow y))) : W (setDS i fi f ρ) Q := by
  obtain ⟨d, ρ1, e1, p, hp, k, ρ2, e2, x, h1, y, h2, q⟩ := q
  exact ⟨_, _, by unfold setDS; rw [e1]; simp only [Out.bind, hp, e2, h1, h2], q⟩
theorem ws_setDS {h : FS} (q : W (f ρ) fun d ρ1 => ∃ p, peek ρ1 i = some p ∧ W (fi ρ1) fun k ρ2 => ∃ x, ρ2.sl[i]? = some (.ow x) ∧ ∃ y, setDc x k d = some y ∧ W (h (setS ρ2 i (.ow y))) Q) : W (seqS (setDS i fi f) h ρ) Q := w_seq (w_setDS q)
theorem w_pixG (q : ∃ p, peek ρ i = some p ∧ W (fb ρ) fun k ρ1 => ∃ x, peek ρ1 i = some x ∧ ∃ d, ixG x k = some d ∧ QD d ρ1) : W (pixG i fb ρ) QD := by
  obtain ⟨p, hp, k, ρ1, e1, x, h1, d, h2, q⟩ := q
  exact ⟨_, _, by unfold pixG; rw [hp]; simp only [Out.bind, e1, h1, h2, ofO], q⟩
end
end ND

end
section
set_option Elab.async false
set_option linter.all false
set_option maxRecDepth 100000
set_option maxHeartbeats 2000000
/-! NX39: order of nested data; min and max of a list. -/
namespace ND
open PySem PySem.Spec PyProof.Rows L2
/-- a tuple's order, through and through (alike ones) -/
def ordT (f : PyData → PyData → Bool) : D → D → Option Bool
  | .tup xs, .tup ys => match toPy (.tup xs), toPy (.tup ys) with
    | some p, some q => if PySem.W.alike p q = true ∧ p.depth ≤ 60 then some (f p q) else none
    | _, _ => none
  | _, _ => none
def leT : D → D → Option Bool := ordT fun p q => !PySem.W.dataLt q p
def ltT : D → D → Option Bool := ordT fun p q => PySem.W.dataLt p q
def rOrd (K : PySem.W.Frag) (f : PyData → PyData → Bool) : R2 := fun x y H Q => ∃ p q, Dp K H x p ∧ Dp K H y q ∧ PySem.W.alike p q = true ∧ p ≠ .none ∧ p.depth ≤ 60 ∧ Q (.bl (f p q)) H
section
variable {X : Cx}
theorem op_leT' (hu : X.A.units + 64 < cLine) : OpR X (compareOp .LtE) (rOrd X.K fun p q => !PySem.W.dataLt q p) := by
  rintro pins s σ H x y v u Q I rx ry ⟨p, q, h1, h2, h3, h4, h5, h6⟩
  obtain ⟨as, r1⟩ := Dp.reads I p x v h1 rx
  obtain ⟨bs, r2⟩ := Dp.reads I q y u h2 ry
  exact PySem.W.le_data r1 r2 h3 h4 (by omega) ⟨.bl _, H, I, rfl, h6⟩
theorem op_ltT' (hu : X.A.units + 64 < cLine) : OpR X (compareOp .Lt) (rOrd X.K fun p q => PySem.W.dataLt p q) := by
  rintro pins s σ H x y v u Q I rx ry ⟨p, q, h1, h2, h3, h4, h5, h6⟩
  obtain ⟨as, r1⟩ := Dp.reads I p x v h1 rx
  obtain ⟨bs, r2⟩ := Dp.reads I q y u h2 ry
  exact PySem.W.lt_data r1 r2 h3 h4 (by omega) ⟨.bl _, H, I, rfl, h6⟩
theorem ordT_val {T : Tg} {N : AP1} {H : Hp} {v u : V} {d e : D} {f : PyData → PyData → Bool} {k : Bool} (r : Rep T N H v d) (s : Rep T N H u e) (h : ordT f d e = some k) : ∃ p q, Dp X.K H v p ∧ Dp X.K H u q ∧ PySem.W.alike p q = true ∧ p ≠ .none ∧ p.depth ≤ 60 ∧ f p q = k := by
  unfold ordT at h
  split at h
  · split at h
    · rename_i p q hp hq
      split at h <;> cases h
      rename_i hc
      refine ⟨p, q, dp_of _ r hp, dp_of _ s hq, hc.1, ?_, hc.2, rfl⟩
      intro z
      subst z
      simp only [toPy, Option.map_eq_some_iff, reduceCtorEq, and_false, exists_false] at hp
    · cases h
  · cases h
theorem od_leT (hu : X.A.units + 64 < cLine) : OpD X (compareOp .LtE) (bD leT) := opd_keep (op_leT' hu) fun T N H v1 v2 d1 d2 d r1 r2 e => by
  simp only [bD, Option.map_eq_some_iff] at e
  obtain ⟨k, e, rfl⟩ := e
  obtain ⟨p, q, h1, h2, h3, h4, h5, h6⟩ := ordT_val (X := X) r1 r2 e
  exact ⟨_, .bl _, fun Q z => ⟨p, q, h1, h2, h3, h4, h5, by dsimp only; rw [h6]; exact z⟩⟩
theorem od_ltT (hu : X.A.units + 64 < cLine) : OpD X (compareOp .Lt) (bD ltT) := opd_keep (op_ltT' hu) fun T N H v1 v2 d1 d2 d r1 r2 e => by
  simp only [bD, Option.map_eq_some_iff] at e
  obtain ⟨k, e, rfl⟩ := e
  obtain ⟨p, q, h1, h2, h3, h4, h5, h6⟩ := ordT_val (X := X) r1 r2 e
  exact ⟨_, .bl _, fun Q z => ⟨p, q, h1, h2, h3, h4, h5, by dsimp only; rw [h6]; exact z⟩⟩
end
/-! ### min, max of a list -/
def intsL : List D → Option (List Int)
  | [] => some []
  | .int i :: ds => (intsL ds).map fun is => i :: is
  | _ :: _ => none
theorem intsL_rep {T : Tg} {N : AP1} {H : Hp} : ∀ {vs : List V} {ds : List D} {is : List Int}, Reps T N H vs ds → intsL ds = some is → vs = is.map V.int
  | _, _, is, .nil, h => by cases h; rfl
  | _, _, is, .cons (d := d) r s, h => by
    cases d <;> simp only [intsL, reduceCtorEq] at h
    obtain ⟨js, h1, rfl⟩ := Option.map_eq_some_iff.mp h
    rw [r.int_inv, intsL_rep s h1]
    rfl
def foldI (f : Int → Int → Int) : D → Option D
  | .lst ds => match intsL ds with
    | some (i :: is) => some (.int (is.foldl f i))
    | _ => none
  | _ => none
theorem foldl_ext {f : Int → Int → Int} (R : Int → Int → Prop) (rf : ∀ i, R i i) (tr : ∀ i j k, R i j → R j k → R i k) (h : ∀ a b, (f a b = a ∧ R a b) ∨ (f a b = b ∧ R b a)) : ∀ (is : List Int) (i : Int), is.foldl f i ∈ i :: is ∧ ∀ j ∈ i :: is, R (is.foldl f i) j
  | [], i => ⟨.head _, fun j hj => by rw [List.mem_singleton] at hj; subst hj; exact rf _⟩
  | k :: is, i => by
    obtain ⟨h1, h2⟩ := foldl_ext R rf tr h is (f i k)
    simp only [List.foldl_cons]
    have hm := h2 _ (.head _)
    refine ⟨?_, fun j hj => ?_⟩
    · rcases List.mem_cons.mp h1 with e | e
      · rw [e]; rcases h i k with ⟨g, _⟩ | ⟨g, _⟩ <;> rw [g]
        · exact .head _
        · exact .tail _ (.head _)
      · exact .tail _ (.tail _ e)
    · rcases List.mem_cons.mp hj with rfl | hj
      · rcases h j k with ⟨g, g2⟩ | ⟨g, g2⟩ <;> rw [g] at hm
        · rw [g]; exact hm
        · rw [g]; exact tr _ _ _ hm g2
      · rcases List.mem_cons.mp hj with rfl | hj
        · rcases h i j with ⟨g, g2⟩ | ⟨g, g2⟩ <;> rw [g] at hm
          · rw [g]; exact tr _ _ _ hm g2
          · rw [g]; exact hm
        · exact h2 j (.tail _ hj)
def minL : D → Option D := foldI min
def maxL : D → Option D := foldI max
section
variable {X : Cx}
theorem cq_minL (hc : X.calm = true) : CallQ X (.builtin "min") minL := ⟨_, cr_min hc, fun c N H v d e Q al r h q => by
  unfold minL foldI at h
  split at h
  · split at h
    · rename_i i is hi
      cases h
      obtain ⟨a, vs, rfl, h2, h3⟩ := r.seq
      rw [intsL_rep h3 hi] at h2
      refine ⟨a, i :: is, rfl, .of h2, Nat.succ_pos _, fun m hm hl => ?_⟩
      obtain ⟨g1, g2⟩ := foldl_ext (f := min) (fun a b => a ≤ b) (fun _ => Int.le_refl _) (fun _ _ _ => Int.le_trans) (fun a b => by omega) is i
      have : m = is.foldl min i := Int.le_antisymm (hl _ g1) (g2 _ hm)
      rw [this]
      exact q _ H (fun _ _ h => h) (.int _)
    · cases h
  · cases h⟩
theorem cq_maxL (hc : X.calm = true) : CallQ X (.builtin "max") maxL := ⟨_, cr_max hc, fun c N H v d e Q al r h q => by
  unfold maxL foldI at h
  split at h
  · split at h
    · rename_i i is hi
      cases h
      obtain ⟨a, vs, rfl, h2, h3⟩ := r.seq
      rw [intsL_rep h3 hi] at h2
      refine ⟨a, i :: is, rfl, .of h2, Nat.succ_pos _, fun m hm hl => ?_⟩
      obtain ⟨g1, g2⟩ := foldl_ext (f := max) (fun a b => b ≤ a) (fun _ => Int.le_refl _) (fun _ _ _ h1 h2 => Int.le_trans h2 h1) (fun a b => by omega) is i
      have : m = is.foldl max i := Int.le_antisymm (g2 _ hm) (hl _ g1)
      rw [this]
      exact q _ H (fun _ _ h => h) (.int _)
    · cases h
  · cases h⟩
end
end ND

end
section
set_option Elab.async false
set_option linter.all false
set_option maxRecDepth 100000
set_option maxHeartbeats 2000000
/-! NX40: x, y = e, f: first a value, then what may be new. -/
namespace ND
open PySem PySem.Spec PyProof.Rows L2
def unpDV (i j : Nat) (f : FD) (g : FV) : FS := fun ρ => (f ρ).bind fun r => (g r.2).bind fun s => .ok (.nx, put (setS s.2 i (.sh r.1)) j s.1.1 s.1.2)
section
variable {X : Cx} {c : Cn} {E : WX} {a b : Expr} {f : FD} {g : FV} {i j : Nat} {x y : Str} {px py pt pt2 pos : Pos} {kt k2 : Nat}
theorem VR.grow {N W : AP1} {H0 H H' : Hp} {v : V} {d : D} {fr : Bool} (r : VR c H0 N W H v d fr) (k : ∀ b o, H b = some o → H' b = some o) : VR c H0 N W H' v d fr := by
  cases fr with
  | false => exact Rep.move (fun b o n h => ⟨n, k b o h⟩) r
  | true =>
    obtain ⟨p, o, h1, h2, h3, h4, h5, h6, h7⟩ := r
    exact ⟨p, o, h1, h2, h3, h4, h5, k _ _ h6, h7.move fun b o n h => ⟨n, k b o h⟩⟩
theorem ns_unpDV (ha : PE X a (rdD c E f)) (hb : PE X b (rdV c E g)) (hc : X.calm = true) (gi : PG X (.Name x px) (gName i)) (gj : PG X (.Name y py) (gName j))
    (hn : (assignEach [.Name x px, .Name y py] X.env).length = 2 := by rfl) (hst : (assignEach [.Name x px, .Name y py] X.env).findIdx? (·.1) = none := by rfl)
    (he1 : (assignEach [.Name x px, .Name y py] X.env).map (·.2) = assign (.Name x px) X.env :: (assignEach [.Name y py] X.env).map (·.2) := by rfl) (he2 : (assignEach [.Name y py] X.env).map (·.2) = assign (.Name y py) X.env :: (assignEach [] X.env).map (·.2) := by rfl)
    (hs : swapsWithSole [.Tuple [.Name x px, .Name y py] kt pt] (.Tuple [a, b] k2 pt2) pos.line X.env = pure false := by rfl) (hw : swappedStores [.Tuple [.Name x px, .Name y py] kt pt] (.Tuple [a, b] k2 pt2) X.env = pure none := by rfl)
    (h1 : (assignEach [.Tuple [.Name x px, .Name y py] kt pt] X.env).map (·.2) = [assign (.Tuple [.Name x px, .Name y py] kt pt) X.env] := by rfl)
    (s1 : starEach [a, b] X.env = (false, eval a X.env) :: starEach [b] X.env := by rfl) (s2 : starEach [b] X.env = (false, eval b X.env) :: starEach [] X.env := by rfl) :
    PS X (.Assign [.Tuple [.Name x px, .Name y py] kt pt] (.Tuple [a, b] k2 pt2) pos) (rdS c E (unpDV i j f g)) := by
  refine PS.mono (ps_asg (pe_tup (pa_cons ha (pa_cons hb pa_nil s2) s1)) (pg_tup hc (pgs_cons gi (pgs_cons gj pgs_nil he2) he1) hn hst) hs hw h1) fun D' σ H ⟨N, W, ρ, er, q⟩ => ?_
  unfold unpDV at q
  refine ⟨N, W, ρ, er, (satS.bindB (σ := σ) q).imp fun N1 W1 H1 r1 t1 e1 q1 v1 rv1 => ?_⟩
  obtain ⟨d1, ρ1⟩ := r1
  obtain ⟨q1, _⟩ := q1
  dsimp only at q1 rv1
  have q1 := q1.step t1
  refine ⟨N1, W1, ρ1, e1, (satS.bindB (σ := σ) q1).imp fun N2 W2 H2 r2 t2 e2 q2 v2 rv2 => ?_⟩
  obtain ⟨⟨d2, fr⟩, ρ2⟩ := r2
  obtain ⟨q2, _⟩ := q2
  dsimp only at q2 rv2
  refine ⟨by show 2 ≤ sizeLine; decide, fun p hp => ⟨p, [v1, v2], rfl, .of upd_same, rfl, v1, [v2], rfl, v2, [], rfl, rfl, ?_⟩⟩
  have k : ∀ b o, H2 b = some o → upd H2 p (.tup [v1, v2]) b = some o := fun b o h => by
    rw [upd_ne (ne_of_none h hp)]; exact h
  have e3 := (e2.grow k).setSh (i := i) ((rv1.move (e1.mv t2)).move fun b o n h => ⟨n, k b o h⟩)
  have t3 : Stp N1 W1 H1 N2 W2 (upd H2 p (.tup [v1, v2])) := t2.trans (.grow e2.all k)
  obtain ⟨W', t4, e4⟩ := ER.put (i := j) t3 e3 (rv2.grow k)
  exact q2 N2 W' _ _ t4 e4
end
theorem ws_unpDV {i j : Nat} {f : FD} {g : FV} {h : FS} {ρ : En} {Q : Fl → En → Prop} (q : W (f ρ) fun a ρ1 => W (g ρ1) fun b ρ2 => W (h ⟨ρ2.b, (ρ2.sl.set i (.sh a)).set j (putB b.2 b.1)⟩) Q) : W (seqS (unpDV i j f g) h ρ) Q := by
  obtain ⟨a, ρ1, e1, ⟨b, fr⟩, ρ2, e2, q⟩ := q
  refine w_seq ⟨.nx, put (setS ρ2 i (.sh a)) j b fr, by unfold unpDV; rw [e1]; simp only [Out.bind, e2], ?_⟩
  rw [put_eq]
  exact q
end ND

end
section
set_option Elab.async false
set_option linter.all false
set_option maxRecDepth 100000
set_option maxHeartbeats 2000000
/-! NX41: x in a list or tuple of nested data. -/
namespace ND
open PySem PySem.Spec PyProof.Rows L2
/-- .. where the items are data of any depth -/
def inQ (d x : D) : Option Bool := match toPy d, toPy x with
  | some p, some (.list ds) => if (SeqAt.shaped p && SeqAt.shaped (.list ds)) = true then some (ds.any fun z => PyData.eqv z p) else none
  | some p, some (.tuple ds) => if (SeqAt.shaped p && SeqAt.shaped (.tuple ds)) = true then some (ds.any fun z => PyData.eqv z p) else none
  | _, _ => none
def inW (d x : D) : Option Bool := match inG d x with
  | some k => some k
  | none => inQ d x
def rInT (K : PySem.W.Frag) (neg : Bool) : R2 := fun x y H Q => ∃ d ds, Dp K H x d ∧ Dp K H y (.tuple ds) ∧ SeqAt.shaped d = true ∧ SeqAt.shaped (.tuple ds) = true ∧ Q (.bl (if neg then !ds.any fun z => PyData.eqv z d else ds.any fun z => PyData.eqv z d)) H
section
variable {X : Cx}
theorem op_inT (hu : X.A.units + 65 < cLine) : OpR X (compareOp .In) (rInT X.K false) := by
  intro pins s σ H x y v u Q I rx ry h
  obtain ⟨d, ds, hd, he, sd, se, q⟩ := h
  obtain ⟨as, r1⟩ := Dp.reads I d x v hd rx
  obtain ⟨bs, r2⟩ := Dp.reads I (.tuple ds) y u he ry
  exact SeqAt.in_tuple_reads r2 r1 (SeqAt.canLay_of_shaped se) (SeqAt.canLay_of_shaped sd) (room_in_shaped sd hu) ⟨.bl _, H, I, rfl, q⟩
theorem op_notInT (hu : X.A.units + 65 < cLine) : OpR X (compareOp .NotIn) (rInT X.K true) := by
  intro pins s σ H x y v u Q I rx ry h
  obtain ⟨d, ds, hd, he, sd, se, q⟩ := h
  obtain ⟨as, r1⟩ := Dp.reads I d x v hd rx
  obtain ⟨bs, r2⟩ := Dp.reads I (.tuple ds) y u he ry
  exact SeqAt.notIn_tuple_reads r2 r1 (SeqAt.canLay_of_shaped se) (SeqAt.canLay_of_shaped sd) (room_in_shaped sd hu) ⟨.bl _, H, I, rfl, q⟩
theorem inQ_some {d x : D} {k : Bool} (e : inQ d x = some k) : ∃ p ds, toPy d = some p ∧ SeqAt.shaped p = true ∧ k = (ds.any fun z => PyData.eqv z p) ∧ ((toPy x = some (.list ds) ∧ SeqAt.shaped (.list ds) = true) ∨ (toPy x = some (.tuple ds) ∧ SeqAt.shaped (.tuple ds) = true)) := by
  unfold inQ at e
  split at e
  · rename_i p ds h1 h2
    split at e <;> simp only [Option.some.injEq, reduceCtorEq] at e
    rename_i hs
    rw [Bool.and_eq_true] at hs
    exact ⟨p, ds, h1, hs.1, e.symm, .inl ⟨h2, hs.2⟩⟩
  · rename_i p ds h1 h2
    split at e <;> simp only [Option.some.injEq, reduceCtorEq] at e
    rename_i hs
    rw [Bool.and_eq_true] at hs
    exact ⟨p, ds, h1, hs.1, e.symm, .inr ⟨h2, hs.2⟩⟩
  · cases e
theorem od_inQ (hu : X.A.units + 65 < cLine) : OpD X (compareOp .In) (bD inQ) := opd_keep ((op_inD hu).or (op_inT hu)) fun T N H v1 v2 d1 d2 d r1 r2 e => by
  simp only [bD, Option.map_eq_some_iff] at e
  obtain ⟨k, e, rfl⟩ := e
  obtain ⟨p, ds, h1, h2, rfl, ⟨h3, h4⟩ | ⟨h3, h4⟩⟩ := inQ_some e
  · exact ⟨_, .bl _, fun Q z => .inl ⟨p, ds, dp_of _ r1 h1, dp_of _ r2 h3, h2, h4, z⟩⟩
  · exact ⟨_, .bl _, fun Q z => .inr ⟨p, ds, dp_of _ r1 h1, dp_of _ r2 h3, h2, h4, z⟩⟩
theorem od_notinQ (hu : X.A.units + 65 < cLine) : OpD X (compareOp .NotIn) (nD inQ) := opd_keep ((op_notInD hu).or (op_notInT hu)) fun T N H v1 v2 d1 d2 d r1 r2 e => by
  simp only [nD, Option.map_eq_some_iff] at e
  obtain ⟨k, e, rfl⟩ := e
  obtain ⟨p, ds, h1, h2, rfl, ⟨h3, h4⟩ | ⟨h3, h4⟩⟩ := inQ_some e
  · exact ⟨_, .bl _, fun Q z => .inl ⟨p, ds, dp_of _ r1 h1, dp_of _ r2 h3, h2, h4, z⟩⟩
  · exact ⟨_, .bl _, fun Q z => .inr ⟨p, ds, dp_of _ r1 h1, dp_of _ r2 h3, h2, h4, z⟩⟩
theorem or_W {f : Value → Value → Sem Value} {g : Bool → Bool} (h1 : OpD X f fun a b => (inG a b).map fun k => .bl (g k)) (h2 : OpD X f fun a b => (inQ a b).map fun k => .bl (g k)) : OpD X f fun a b => (inW a b).map fun k => .bl (g k) :=
  OpD.or h1 h2 fun a b d e => by
    unfold inW at e
    cases h : inG a b with
    | some k => rw [h] at e; exact .inl e
    | none => rw [h] at e; exact .inr e
theorem od_inW {k : Nat} (hr : Room k X.A) : OpD X (compareOp .In) (bD inW) := or_W (g := fun k => k) (od_inG (by have := hr.un; omega)) (od_inQ (by have := hr.un; omega))
theorem od_notinW {k : Nat} (hr : Room k X.A) : OpD X (compareOp .NotIn) (nD inW) := or_W (g := fun k => !k) (od_notinG (by have := hr.un; omega)) (od_notinQ (by have := hr.un; omega))
end
theorem inW_D {d x : D} {k : Bool} (h : inD d x = some k) (hx : ∀ k, lookD x k = none) : inW d x = some k := by
  unfold inW inG
  rw [hx, h]
end ND

end
section
set_option Elab.async false
set_option linter.all false
set_option maxRecDepth 100000
set_option maxHeartbeats 2000000
/-! NX42: xs[::-1] of a list or a tuple. -/
namespace ND
open PySem PySem.Spec PyProof.Rows L2 HT
section
variable {prog : Program} {w : World} {A : Around} {E : Value → Shared → Prop} {s : Shared}
theorem adjust_rev (n : Nat) : Builtin.Slice.sliceAdjust none none (-1) (n : Int) = ((n : Int) - 1, -1) := by
  unfold Builtin.Slice.sliceAdjust
  simp
theorem places_rev (n : Nat) : Builtin.Slice.slicePlaces ((n : Int) - 1) (-1) (-1) = n := by
  unfold Builtin.Slice.slicePlaces
  have h1 : ¬ ((-1 : Int) > 0) := by omega
  have e : (((n : Int) - 1 - -1 - 1) / - -1) = (n : Int) - 1 := by rw [show (- -1 : Int) = 1 by decide, Int.ediv_one]; omega
  simp only [h1, if_false, e]
  split <;> omega
theorem sliceApplied_rev {sl : Addr} {vl vu vs : Value} {n : Nat} {Q : Int × Int × Nat → Shared → Prop} (hs : s.heap.IsSliceOf sl vl vu vs) (pl : IsPart vl none) (pu : IsPart vu none) (ps : IsPart vs (some (-1)))
    (h : Q ((n : Int) - 1, -1, n) s) : wpAny (model prog w) A (Builtin.Slice.sliceApplied (.ref sl) (pure (n : Int))) Q E s := by
  obtain ⟨os, hos, hcs, hds⟩ := id hs
  unfold Builtin.Slice.sliceApplied Builtin.Slice.sliceFields
  refine wpAny_bind (wpAny_bind (wpAny_field hos hds (x := vl) rfl (wpAny_bind (wpAny_field hos hds (x := vu) rfl (wpAny_bind (wpAny_field hos hds (x := vs) rfl (wpAny_pure ?_)))))))
  refine wpAny_bind (slicePart_ ps ?_)
  show wpAny _ _ (if ((-1 : Int) == 0) = true then _ else _) _ _ s
  rw [if_neg (by decide)]
  refine wpAny_bind (slicePart_ pl (wpAny_bind (slicePart_ pu (wpAny_bind (wpAny_pure ?_)))))
  show wpAny _ _ (match Builtin.Slice.sliceAdjust none none (-1) (n : Int) with | (lo, hi) => pure (lo, (-1 : Int), Builtin.Slice.slicePlaces lo hi (-1))) _ _ s
  rw [adjust_rev n]
  show wpAny _ _ (pure ((n : Int) - 1, (-1 : Int), Builtin.Slice.slicePlaces ((n : Int) - 1) (-1) (-1))) _ _ s
  rw [places_rev]
  exact wpAny_pure h
theorem pick_rev (xs : Array Value) : ((List.range xs.size).filterMap fun (m : Nat) => xs[(((xs.size : Int) - 1) + (m : Int) * (-1)).toNat]?).toArray = xs.toList.reverse.toArray := by
  have e : (List.range xs.size).filterMap (fun (m : Nat) => xs[(((xs.size : Int) - 1) + (m : Int) * (-1)).toNat]?) = ((List.range xs.size).map fun k => xs.size - 1 - k).filterMap (xs[·]?) := by
    have fm : ∀ (f g : Nat → Option Value) (l : List Nat), (∀ m ∈ l, f m = g m) → l.filterMap f = l.filterMap g := by
      intro f g l h
      induction l with
      | nil => rfl
      | cons a l ih => rw [List.filterMap_cons, List.filterMap_cons, h a (.head _), ih fun m hm => h m (.tail _ hm)]
    rw [List.filterMap_map]
    refine fm _ _ _ fun m hm => ?_
    have := List.mem_range.mp hm
    show xs[(((xs.size : Int) - 1) + (m : Int) * (-1)).toNat]? = xs[xs.size - 1 - m]?
    rw [show (((xs.size : Int) - 1) + (m : Int) * (-1)).toNat = xs.size - 1 - m from by omega]
  rw [e, PySem.W.krv_range, List.filterMap_reverse, PySem.W.krv_all]
theorem getItem_tuple_rev {t sl : Addr} {items : Array Value} {vl vu vs : Value} {Q : Value → Shared → Prop} (ht : IsTup s.heap t items) (hs : s.heap.IsSliceOf sl vl vu vs) (pl : IsPart vl none) (pu : IsPart vu none) (ps : IsPart vs (some (-1)))
    (h : Q (.ref s.heap.objs.size) { s with heap := s.heap.push { cls := .type "tuple", data := .seq items.toList.reverse.toArray } })
    (hsz : items.size ≤ sizeLine) : wpAny (model prog w) A (getItem (.ref t) (.ref sl)) Q E s := by
  have htake : sizeOk (.seq items.toList.reverse.toArray) := by
    show items.toList.reverse.toArray.size ≤ sizeLine
    rw [List.size_toArray, List.length_reverse, Array.length_toList]
    exact hsz
  obtain ⟨os, hos, hcs, hds⟩ := id hs
  have hTs : s.TypeIs (.ref sl) "slice" := ⟨os, hos, hcs⟩
  unfold getItem
  try with_reducible refine wpAny_holding ?_
  first | refine wpAny_bind (wpAny_pure ?_) | skip
  refine wpAny_bind (wpAny_sequenceKey ht.typeIs (by decide) ?_)
  refine wpAny_bind (wpAny_callSpecial?_slot (name := Str.ofString "__getitem__") ht.typeIs PyProof.Rows.slot_tuple_getitem
    (wpAny_call_entry PyProof.Rows.slot_tuple_getitem ht.typeIs entry_tuple_getitem ?_ (args_tuple_getitem _ _)))
  show wpAny _ _ (Builtin.Tuple.tupleItemsOf (.ref t) >>= _) _ _ s
  refine wpAny_bind (tupleItemsOf_ ht ?_)
  refine wpAny_bind (wpAny_typeOf hTs ?_)
  rw [if_pos (by decide)]
  refine wpAny_bind (sliceApplied_rev hs pl pu ps ?_)
  have hno : ¬ ((((items.size : Int) - 1) == 0 && (-1 : Int) == 1 && (items.size == items.size)) = true) := by
    intro q
    rw [Bool.and_eq_true, Bool.and_eq_true] at q
    exact absurd q.1.2 (by decide)
  show wpAny _ _ (if (((items.size : Int) - 1) == 0 && (-1 : Int) == 1 && (items.size == items.size)) = true then _ else _) _ _ s
  rw [if_neg hno, pick_rev]
  first
    | exact wpAny_bind (m := Builtin.Tuple.tupleExact _) (wpAny_newObj_type (wpAny_pure ⟨_, rfl, wpAny_pure h⟩) htake)
    | exact wpAny_bind (m := Builtin.Tuple.tupleExact _) (wpAny_newObj_type (wpAny_bind (wpAny_pure (wpAny_pure ⟨_, rfl, wpAny_pure h⟩))) htake)
    | exact wpAny_bind (wpAny_bind (m := Builtin.Tuple.tupleExact _) (wpAny_newObj_type (wpAny_pure (wpAny_pure ⟨_, rfl, wpAny_pure h⟩)) htake))
    | exact wpAny_bind (wpAny_bind (m := Builtin.Tuple.tupleExact _) (wpAny_newObj_type (wpAny_pure ⟨_, rfl, wpAny_pure h⟩) htake))
end
section
variable {X : Cx}
def tRevX (K : PySem.W.Frag) (te : TE) : TE := fun σ H Q => te σ H fun x H1 => ∃ a xs, x = .ref a ∧ ((SqL K H1 a xs ∧ ∀ p, H1 p = none → Q (.ref p) (upd H1 p (.lst xs.reverse))) ∨ (SqT K H1 a xs ∧ ∀ p, H1 p = none → Q (.ref p) (upd H1 p (.tup xs.reverse))))
theorem pe_revX {e : Expr} {te : TE} {k : Nat} {p1 p2 p3 pos : Pos} (he : PE X e te) : PE X (.Subscript e (.Slice none none (some (.UnaryOp .USub (.Constant (.int 1) k p1) p2)) p3) pos) (tRevX X.K te) := by
  refine ⟨fun pins s σ H Q I h => ?_⟩
  refine Subscript_ (thn (he.run pins s σ H _ I h) fun v s1 ⟨x, H1, I1, r1, q1⟩ => ?_)
  obtain ⟨a, xs, ex, q⟩ := q1
  subst ex
  cases r1
  have hst : PO X (some (.UnaryOp .USub (.Constant (.int 1) k p1) p2)) (tPart (tUn (rU fun i => .int (-i)) (tC (.int 1)))) := po_some (pe_un un_neg pe_int)
  refine wpAny_Slice (thn (po_none.run pins s1 σ H1 (fun o H2 => o = none ∧ H2 = H1) I1 ⟨rfl, rfl⟩) fun vl s2 ⟨l, H2, I2, pl, el, e2⟩ => ?_)
  subst el e2
  refine thn (po_none.run pins s2 σ H2 (fun o H3 => o = none ∧ H3 = H2) I2 ⟨rfl, rfl⟩) fun vu s3 ⟨u, H3, I3, pu, eu, e3⟩ => ?_
  subst eu e3
  refine thn (hst.run pins s3 σ H3 (fun o H4 => o = some (-1) ∧ H4 = H3) I3 ⟨1, rfl, -1, rfl, rfl, rfl⟩) fun vs s4 ⟨o, H4, I4, ps, eo, e4⟩ => ?_
  subst eo e4
  have I5 : Inv X pins σ H4 { s4 with heap := s4.heap.push { cls := .type "slice", data := .fields #[vl, vu, vs] } } := I4.kept (t' := s4.toks) fun b ob q => Heap.get?_push_of_some _ q
  show wpAny (model X.prog X.w) X.A (subscriptTail e (.Slice none none (some (.UnaryOp .USub (.Constant (.int 1) k p1) p2)) p3) (.ref a) (.ref s4.heap.objs.size)) (EP X pins σ Q) X.xe { s4 with heap := s4.heap.push { cls := .type "slice", data := .fields #[vl, vu, vs] } }
  rcases q with ⟨hx, q⟩ | ⟨hx, q⟩
  · obtain ⟨its, r, ht, hz⟩ := I5.list hx
    have hlen := r.length
    refine tail_any (ops := [.ref a, .ref s4.heap.objs.size]) ht.isList.typeIs (PySem.slot_list_getitem.lookup) ?_ (by with_unfolding_all rfl)
    refine wpAny_getItem_list_slice ht.isList (Heap.IsSliceOf.new _ vl vu vs) pl pu ps (by decide) ?_ (by rw [List.size_toArray]; omega)
    rw [PySem.W.krv_pick]
    refine ⟨.ref _, _, I5.laid (t' := s4.toks) (o := .lst xs.reverse) (fun b ob q => Heap.get?_push_of_some _ q) (Nat.le_refl _) ?_, rfl, q _ (I5.hok.fresh (Nat.le_refl _))⟩
    exact ⟨by rw [List.length_reverse]; exact hz, _, 0, r.reverse, Heap.get?_push_size _ rfl⟩
  · obtain ⟨its, r, ht, hz⟩ := I5.tuple hx
    have hlen := r.length
    refine tail_any (ops := [.ref a, .ref s4.heap.objs.size]) ht.typeIs (PyProof.Rows.slot_tuple_getitem.lookup) ?_ (by with_unfolding_all rfl)
    refine getItem_tuple_rev ht (Heap.IsSliceOf.new _ vl vu vs) pl pu ps ?_ (by rw [List.size_toArray]; omega)
    refine ⟨.ref _, _, I5.laid (t' := s4.toks) (o := .tup xs.reverse) (fun b ob q => Heap.get?_push_of_some _ q) (Nat.le_refl _) ?_, rfl, q _ (I5.hok.fresh (Nat.le_refl _))⟩
    exact ⟨by rw [List.length_reverse]; exact hz, _, r.reverse, IsTup.new _ _⟩
end
/-- a reversed copy: a list's is new -/
def revX : D → Option (D × Bool)
  | .lst ds => some (.lst ds.reverse, true)
  | .tup ds => some (.tup ds.reverse, false)
  | _ => none
def revE (f : FD) : FV := fun ρ => (f ρ).bind fun r => ofO (revX r.1) r.2
section
variable {X : Cx} {c : Cn} {E : WX} {e : Expr} {f : FD} {pos p1 p2 p3 : Pos} {k : Nat}
theorem nd_revX (he : PE X e (rdQ c E f)) : PE X (.Subscript e (.Slice none none (some (.UnaryOp .USub (.Constant (.int 1) k p1) p2)) p3) pos) (rdV c E (revE f)) := PE.mono (pe_revX he) fun σ H Q ⟨N, W, ρ, er, q⟩ => by
  refine ⟨N, W, ρ, er, q.bind.imp fun N1 W1 H1 r1 t1 e1 q1 v rv => ?_⟩
  cases hg : revX r1.1 with
  | none => rw [hg] at q1; exact q1.elim
  | some es =>
    rw [hg] at q1
    unfold revX at hg
    split at hg <;> cases hg
    · rename_i ds hd
      rw [hd] at rv
      obtain ⟨a, vs, rfl, h2, h3⟩ := rv.seq
      exact ⟨a, vs, rfl, .inl ⟨.of h2, fun p hp => new_list (.refl _ _ _) e1 hp h3.rev fun N' W' H' t e v rv => q1 N' W' H' t e v (rv.back t1)⟩⟩
    · rename_i ds hd
      rw [hd] at rv
      obtain ⟨a, vs, rfl, h2, h3⟩ := rv.tup
      exact ⟨a, vs, rfl, .inr ⟨.of h2, fun p hp => new_tup (.refl _ _ _) e1 hp h3.rev fun N' W' H' t e v rv => q1 N' W' H' t e v rv⟩⟩
end
theorem w_revE {ρ : En} {f : FD} {QV : D × Bool → En → Prop} (q : W (f ρ) fun d ρ1 => ∃ r, revX d = some r ∧ QV r ρ1) : W (revE f ρ) QV := by
  obtain ⟨d, ρ1, e, r, h, q⟩ := q
  exact ⟨_, _, by unfold revE; rw [e]; simp only [Out.bind, h, ofO], q⟩
end ND

end
section
set_option Elab.async false
set_option linter.all false
set_option maxRecDepth 100000
set_option maxHeartbeats 2000000
/-! NX43: while (x := e) is not None. -/
namespace ND
open PySem PySem.Spec PyProof.Rows L2
def notN (d : D) : Option Bool := (isN d .non).map fun k => !k
def whW (i : Nat) (f : FD) (g : FS) : Nat → FS
  | 0 => fun _ => .no
  | n + 1 => fun ρ => (f ρ).bind fun r => (ofO (notN r.1) (setS r.2 i (.sh r.1))).bind fun k => if k.1 = true then (g k.2).bind fun s => match s.1 with
      | .nx => whW i f g n s.2
      | .ct => whW i f g n s.2
      | .bk => .ok (.nx, s.2)
      | .rt d fr => .ok (.rt d fr, s.2)
    else .ok (.nx, k.2)
section
variable {X : Cx} {pos p kp cp qp : Pos} {x : Str} {e : Expr}
theorem ns_whileW {c : Cn} {E : WX} {f : FD} {fb : FS} {body : List Stmt} {j : Nat} (i : Nat) (n : Nat) (hp : PassesOwn (model X.prog X.w) X.A X.env X.xe) (hN : X.N.Nodup) (hi : X.N[i]? = some x) (hx : Loc X.env.scope x) (he : PE X e (rdD c E f)) (hb : PSs X body (rdS c E fb))
    (hf : X.fn x = true ∨ X.env.scope.names.lookup x = some .local := by first | exact .inl rfl | exact .inr rfl | assumption) (hm : behindInMarks .IsNot (.Constant .none j kp) = false := by rfl) :
    PS X (.While (.Compare (.NamedExpr (.Name x p) e cp) [.IsNot] [.Constant .none j kp] qp) body [] pos) (rdS c E (whW i f fb n)) := PS.mono (ps_whileW hp (ptw_cmp op_notN (pew_named hN hi hx (pew_of he) hf) pe_non hm) hb pss_nil) fun D σ H ⟨N, W, ρ, er, q⟩ => by
  refine ⟨fun m σ H => ∃ N W ρ, ER c N W H σ ρ ∧ satS c N W H E D (whW i f fb m ρ), ⟨n, N, W, ρ, er, q⟩, ?_⟩
  rintro m σ2 H2 ⟨N2, W2, ρ2, e2, q2⟩
  cases m with
  | zero => exact q2.elim
  | succ m =>
    refine ⟨N2, W2, ρ2, e2, (satS.bind (σ := σ2) q2).imp fun N1 W1 H1 r1 t1 e1 q1 v rv => ?_⟩
    obtain ⟨d, ρ1⟩ := r1
    obtain ⟨q1, _⟩ := q1
    dsimp only at q1 rv e1
    have e3 := e1.setSh (i := i) rv
    refine ⟨rfl, _, rfl, ?_⟩
    cases hk : notN d with
    | none =>
      rw [hk] at q1
      exact q1.elim
    | some k =>
      rw [hk] at q1
      obtain ⟨k0, hk0, rfl⟩ := Option.map_eq_some_iff.mp hk
      obtain ⟨_, hk1⟩ := isN_val rv .non hk0
      rw [← hk1]
      cases k0 with
      | true => exact q1 N1 W1 H1 _ (.refl _ _ _) e3
      | false =>
        refine ⟨fun σ' H' => ∃ N W ρ, ER c N W H' σ' ρ ∧ satS c N W H' E D (whW i f fb m ρ), fun σ' H' h => ⟨m, Nat.lt_succ_self m, h⟩, N1, W1, _, e3, ?_⟩
        have again : ∀ {ρ5 : En}, satS c N1 W1 H1 E D (whW i f fb m ρ5) → ∀ N' W' H5 σ5, Stp N1 W1 H1 N' W' H5 → ER c N' W' H5 σ5 ρ5 → ∃ N W ρ, ER c N W H5 σ5 ρ ∧ satS c N W H5 E D (whW i f fb m ρ) :=
          fun {ρ5} z N' W' H5 σ5 t5 e5 => ⟨N', W', ρ5, e5, z.step t5⟩
        have q3 : satS c N1 W1 H1 E D ((fb (setS ρ1 i (.sh d))).bind fun s => match s.1 with
          | .nx => whW i f fb m s.2
          | .ct => whW i f fb m s.2
          | .bk => .ok (.nx, s.2)
          | .rt d fr => .ok (.rt d fr, s.2)) := q1
        match hm : fb (setS ρ1 i (.sh d)) with
        | .ok (.nx, ρ5) => rw [hm] at q3; exact again q3
        | .ok (.ct, ρ5) => rw [hm] at q3; exact again q3
        | .ok (.bk, ρ5) => rw [hm] at q3; exact q3
        | .ok (.rt d fr, ρ5) => rw [hm] at q3; exact q3
        | .err x ρ5 => rw [hm] at q3; exact q3
        | .no => rw [hm] at q3; exact q3.elim
end
/-- a measure goes down, J holds ahead of each test; P: left at the test; behind a break or a return: Q -/
theorem w_whW {i : Nat} {f : FD} {g : FS} {Q : Fl → En → Prop} (J : Nat → En → Prop) (st : ∀ m ρ, J m ρ → W (f ρ) fun d ρ1 => ∃ k, notN d = some k ∧ (k = false → Q .nx (setS ρ1 i (.sh d))) ∧ (k = true → W (g (setS ρ1 i (.sh d))) fun fl ρ2 => match fl with
    | .nx => ∃ m', m' < m ∧ J m' ρ2
    | .ct => ∃ m', m' < m ∧ J m' ρ2
    | .bk => Q .nx ρ2
    | .rt d fr => Q (.rt d fr) ρ2)) : ∀ n m ρ, m < n → J m ρ → W (whW i f g n ρ) Q
  | 0, m, ρ, h, _ => absurd h (Nat.not_lt_zero _)
  | n + 1, m, ρ, h, j => by
    obtain ⟨d, ρ1, e1, k, hk, s1, s2⟩ := st m ρ j
    have e : whW i f g (n + 1) ρ = if k = true then (g (setS ρ1 i (.sh d))).bind (fun s => match s.1 with
      | .nx => whW i f g n s.2
      | .ct => whW i f g n s.2
      | .bk => .ok (.nx, s.2)
      | .rt d fr => .ok (.rt d fr, s.2)) else .ok (.nx, setS ρ1 i (.sh d)) := by
      show (f ρ).bind _ = _
      rw [e1]
      simp only [Out.bind, hk, ofO]
    rw [e]
    cases k with
    | false => exact ⟨_, _, by rw [if_neg (by decide)], s1 rfl⟩
    | true =>
      obtain ⟨fl, ρ2, e2, q⟩ := s2 rfl
      rw [if_pos rfl, e2]
      cases fl with
      | nx =>
        obtain ⟨m', hm, j'⟩ := q
        exact w_whW J st n m' ρ2 (by omega) j'
      | ct =>
        obtain ⟨m', hm, j'⟩ := q
        exact w_whW J st n m' ρ2 (by omega) j'
      | bk => exact ⟨_, _, rfl, q⟩
      | rt d fr => exact ⟨_, _, rfl, q⟩
end ND

end
section
set_option Elab.async false
set_option linter.all false
set_option maxRecDepth 100000
set_option maxHeartbeats 2000000
/-! NX44: what an except clause needs of the classes; W of a try. -/
namespace ND
open PySem PySem.Spec PyProof.Rows L2
theorem XcC.xf {K : PySem.W.Frag} {D : Addr} (y : XcC K D) : XfC K D := by
  obtain ⟨_, _, _, _, _, _, _, _, _, _, _, _, _, _, _, h2, _⟩ := y.look
  exact ⟨y.ga, y.gg, y.oex.exC, exc_hd h2⟩
def subG (n : Nat) (l : List ((Nat × Nat) × Bool)) : Nat → Nat → Option Bool := fun t u => if t < n ∧ u < n then l.lookup (t, u) else none
theorem subG_ok {K : PySem.W.Frag} {T : Tg} {n : Nat} {l : List ((Nat × Nat) × Bool)} (h : ∀ t, t < n → XcC K (T.cl t)) (hl : ∀ p ∈ l, PySem.W.subIn K (.ref (T.cl p.1.1)) (.ref (T.cl p.1.2)) = some p.2) : ∀ t u b, subG n l t u = some b → PySem.W.exmOne K (.ref (T.cl t)) (.ref (T.cl u)) = some b := by
  intro t u b e
  unfold subG at e
  split at e
  · rename_i hh
    exact (h _ hh.1).exm (h _ hh.2) (hl _ (lookup_mem e))
  · cases e
/-- the fields of a class that a suite reads -/
def XfA (K : PySem.W.Frag) (C : Addr) (f : Str) : Prop := XfC K C ∧ PySem.W.findIn K (.ref C) f = some none
theorem xfa_one {X : Cx} {T : Tg} {c : Cn} {t : Nat} {f : Str} (hT : c.T = T) (h : XfA X.K (T.cl t) f) : ∀ u, (fun u => u == t) u = true → XfC X.K (c.T.cl u) ∧ PySem.W.findIn X.K (.ref (c.T.cl u)) f = some none := fun u hu => by
  have : u = t := eq_of_beq hu
  rw [this, hT]
  exact h
theorem sub_at {X : Cx} {T : Tg} {c : Cn} {sub : Nat → Nat → Option Bool} (hT : c.T = T) (h : ∀ t u b, sub t u = some b → PySem.W.exmOne X.K (.ref (T.cl t)) (.ref (T.cl u)) = some b) : ∀ t u b, sub t u = some b → PySem.W.exmOne X.K (.ref (c.T.cl t)) (.ref (c.T.cl u)) = some b := by
  rw [hT]
  exact h
theorem nm_at {X : Cx} {T : Tg} {c : Cn} {x : Str} {t : Nat} (hT : c.T = T) (hg : Gl X x) (hm : X.mg x = some (.ref (T.cl t))) (hd : (x == ("__debug__" : Str)) = false := by decide) : Names X x (.ref (c.T.cl t)) := by
  rw [hT]
  exact ⟨hg, hd, .inl hm⟩
/-! ### W -/
/-- a statement or def ends with an exception -/
def XW {α : Type} (o : Out (α × En)) (Q : Nat → List (Str × D) → En → Prop) : Prop := ∃ t fs ρ, o = .err (.exc t fs) ρ ∧ Q t fs ρ
theorem w_try {gb : FS} {sub : Nat → Nat → Option Bool} {l : List CL} {ρ : En} {Q : Fl → En → Prop} (q : W (gb ρ) Q) : W (tryS gb sub l ρ) Q := by
  obtain ⟨fl, ρ1, e, q⟩ := q
  exact ⟨fl, ρ1, by unfold tryS; rw [e], q⟩
theorem x_try {gb : FS} {sub : Nat → Nat → Option Bool} {t : Nat} {i : Option Nat} {g : FS} {l : List CL} {ρ : En} {Q : Fl → En → Prop} (q : XW (gb ρ) fun u fs ρ1 => sub u t = some true ∧ W (g (bindX u fs ρ1 i)) fun fl ρ2 => match fl with
    | .rt d fr => exF d = true ∧ meF ρ2.b = true ∧ Q (.rt d fr) { ρ2 with sl := ρ2.sl.map fun _ => .un }
    | .nx => meF ρ2.b = true ∧ Q .nx (cleanE ρ2 i)
    | .bk => meF ρ2.b = true ∧ Q .bk (cleanE ρ2 i)
    | .ct => meF ρ2.b = true ∧ Q .ct (cleanE ρ2 i)) : W (tryS gb sub ((t, i, g) :: l) ρ) Q := by
  obtain ⟨u, fs, ρ1, e, hs, fl, ρ2, e2, q⟩ := q
  unfold tryS
  rw [e]
  dsimp only
  unfold trySel
  rw [hs]
  dsimp only
  rw [e2]
  unfold suiteR
  cases fl with
  | rt d fr => exact ⟨_, _, by dsimp only; rw [if_pos ⟨q.1, q.2.1⟩], q.2.2⟩
  | nx => exact ⟨_, _, by dsimp only; rw [if_pos q.1], q.2⟩
  | bk => exact ⟨_, _, by dsimp only; rw [if_pos q.1], q.2⟩
  | ct => exact ⟨_, _, by dsimp only; rw [if_pos q.1], q.2⟩
theorem w_xatE {okc : Nat → Bool} {f : Str} {fe : FD} {ρ : En} {Q : D → En → Prop} (q : W (fe ρ) fun d ρ1 => ∃ t fs, d = .exc t fs ∧ okc t = true ∧ ∃ v, fs.lookup f = some v ∧ Q v ρ1) : W (xatE okc f fe ρ) Q := by
  obtain ⟨d, ρ1, e, t, fs, rfl, hk, v, hv, q⟩ := q
  exact ⟨_, _, by unfold xatE; rw [e]; simp only [Out.bind, if_pos hk, hv, ofO], q⟩
end ND

end
section
set_option Elab.async false
set_option linter.all false
set_option maxRecDepth 100000
set_option maxHeartbeats 2000000
/-! NX45: rules for what ends with an exception. -/
namespace ND
open PySem PySem.Spec PyProof.Rows L2
/-- a def ends with an exception -/
def MX (m : MF) (ds : List D) (b : Bag) (Q : Nat → List (Str × D) → Prop) : Prop := ∃ t fs ρ, m ds b = .err (.exc t fs) ρ ∧ Q t fs
abbrev QE := Nat → List (Str × D) → En → Prop
section
variable {α : Type} {ρ : En} {b : Bag} {g h : FS} {f fb : FD} {fv : FV} {fa : FA} {ft : FT} {m : MF} {Q : QE} {n : Nat}
theorem XW.mp {o : Out (α × En)} {Q Q' : QE} (h : XW o Q) (k : ∀ t fs ρ, Q t fs ρ → Q' t fs ρ) : XW o Q' := by
  obtain ⟨t, fs, ρ, e, q⟩ := h
  exact ⟨t, fs, ρ, e, k _ _ _ q⟩
theorem xw_bind {β : Type} {o : Out (α × En)} {k : α × En → Out (β × En)} (q : W o fun a ρ => XW (k (a, ρ)) Q) : XW (o.bind k) Q := by
  obtain ⟨a, ρ1, e, q⟩ := q
  rw [e]
  exact q
theorem xw_bindL {β : Type} {o : Out (α × En)} {k : α × En → Out (β × En)} (q : XW o Q) : XW (o.bind k) Q := by
  obtain ⟨t, fs, ρ1, e, q⟩ := q
  rw [e]
  exact ⟨t, fs, ρ1, rfl, q⟩
theorem xw_seq (q : W (g ρ) fun fl ρ1 => fl = .nx ∧ XW (h ρ1) Q) : XW (seqS g h ρ) Q := xw_bind (q.mp fun fl ρ1 ⟨e, q⟩ => by subst e; exact q)
theorem xw_seqL (q : XW (g ρ) Q) : XW (seqS g h ρ) Q := xw_bindL q
theorem xw_if (q : W (ft ρ) fun k ρ1 => XW (if k = true then g ρ1 else h ρ1) Q) : XW (ifS ft g h ρ) Q := xw_bind q
theorem xw_ret (q : XW (fv ρ) Q) : XW (retS fv ρ) Q := xw_bindL q
theorem xw_dV (q : XW (f ρ) Q) : XW (dV f ρ) Q := by
  obtain ⟨t, fs, ρ1, e, q⟩ := q
  exact ⟨t, fs, ρ1, by unfold dV; rw [e]; rfl, q⟩
theorem xw_vD (q : XW (fv ρ) Q) : XW (vD fv ρ) Q := by
  obtain ⟨t, fs, ρ1, e, q⟩ := q
  exact ⟨t, fs, ρ1, by unfold vD; rw [e]; rfl, q⟩
theorem xw_lift2 {k : D → D → Option D} (q : XW (f ρ) Q) : XW (lift2 k f fb ρ) Q := xw_bindL q
theorem xw_callP (q : W (fa ρ) fun ds ρ1 => MX m ds default fun t fs => Q t fs ρ1) : XW (callP m fa ρ) Q := by
  refine xw_bind (q.mp fun ds ρ1 ⟨t, fs, ρ2, e, q⟩ => ⟨t, fs, ρ1, ?_, q⟩)
  dsimp only
  rw [e]
theorem xw_raise {t : Nat} {ns : List Str} {code : Str} (q : W (fa ρ) fun ds ρ1 => (ds.length = ns.length ∧ ns.length ≤ 100) ∧ Q t (mkF ns (.str code) ds) ρ1) : XW (raiseS t ns code fa ρ) Q := by
  refine xw_bind (q.mp fun ds ρ1 ⟨h, q⟩ => ⟨t, _, ρ1, ?_, q⟩)
  rw [if_pos h]
theorem mx_run {hb : Bool} {ds : List D} {Q : Nat → List (Str × D) → Prop} (q : XW (g (startE hb n ds b)) fun t fs _ => Q t fs) : MX (runB hb n g) ds b Q := by
  obtain ⟨t, fs, ρ1, e, q⟩ := q
  exact ⟨t, fs, ρ1, by unfold runB; rw [e]; rfl, q⟩
/-- while (x := e) is not None, where each turn goes on or raises -/
theorem wx_whW {i : Nat} {Q : Fl → En → Prop} {E : QE} (J : Nat → En → Prop) (st : ∀ m ρ, J m ρ → W (f ρ) fun d ρ1 => ∃ k, notN d = some k ∧ (k = false → Q .nx (setS ρ1 i (.sh d))) ∧ (k = true → (W (g (setS ρ1 i (.sh d))) fun fl ρ2 => fl = .nx ∧ ∃ m', m' < m ∧ J m' ρ2) ∨ XW (g (setS ρ1 i (.sh d))) E)) :
    ∀ n m ρ, m < n → J m ρ → W (whW i f g n ρ) Q ∨ XW (whW i f g n ρ) E
  | 0, m, ρ, h, _ => absurd h (Nat.not_lt_zero _)
  | n + 1, m, ρ, h, j => by
    obtain ⟨d, ρ1, e1, k, hk, s1, s2⟩ := st m ρ j
    have e : whW i f g (n + 1) ρ = if k = true then (g (setS ρ1 i (.sh d))).bind (fun s => match s.1 with
      | .nx => whW i f g n s.2
      | .ct => whW i f g n s.2
      | .bk => .ok (.nx, s.2)
      | .rt d fr => .ok (.rt d fr, s.2)) else .ok (.nx, setS ρ1 i (.sh d)) := by
      show (f ρ).bind _ = _
      rw [e1]
      show (ofO (notN d) (setS ρ1 i (.sh d))).bind _ = _
      rw [hk]
      rfl
    rw [e]
    cases k with
    | false => exact .inl ⟨_, _, by rw [if_neg (by decide)], s1 rfl⟩
    | true =>
      rw [if_pos rfl]
      rcases s2 rfl with q | q
      · obtain ⟨fl, ρ2, e2, rfl, m', hm, j'⟩ := q
        rw [e2]
        exact wx_whW J st n m' ρ2 (by omega) j'
      · exact .inr (xw_bindL q)
theorem m_of {ds : List D} {d : D} {fr : Bool} {ρ1 : En} {R : D → Bool → Bag → Prop} (e : m ds b = .ok ((d, fr), ρ1)) (q : R d fr ρ1.b) : M m ds b R := ⟨d, fr, ρ1, e, q⟩
theorem mx_of {ds : List D} {t : Nat} {fs : List (Str × D)} {ρ1 : En} {Q : Nat → List (Str × D) → Prop} (e : m ds b = .err (.exc t fs) ρ1) (q : Q t fs) : MX m ds b Q := ⟨t, fs, ρ1, e, q⟩
end
end ND

end
section
set_option Elab.async false
set_option linter.all false
set_option maxRecDepth 100000
set_option maxHeartbeats 2000000
/-! NX46: defs that end with `return (e, name)`, where name is owned; f(..)[k] of such a def: the last part is new. -/
namespace ND
open PySem PySem.Spec PyProof.Rows L2
/-- two parts: a shared one, a new one -/
abbrev FPr := En → Out ((D × D) × En)
abbrev MPr := List D → Bag → Out ((D × D) × En)
def retPr (f : FD) (i : Nat) : FPr := fun ρ => (f ρ).bind fun r => match r.2.sl[i]? with
  | some (.ow e) => .ok ((r.1, e), setS r.2 i .un)
  | _ => .no
def seqPr (g : FS) (m : FPr) : FPr := fun ρ => (g ρ).bind fun r => match r.1 with
  | .nx => m r.2
  | _ => .no
def runPr (nN : Nat) (m : FPr) : MPr := fun ds b => m (startE false nN ds b)
def VPr (c : Cn) (N' W' : AP1) (H' : Hp) (v : V) (d e : D) : Prop := ∃ p x q o, v = .ref p ∧ H' p = some (.tup [x, .ref q]) ∧ Rep c.T N' H' x d ∧ N' q ∧ ¬ W' q ∧ c.H0 q = none ∧ H' q = some o ∧ Top c.T N' H' o e
def satPr (c : Cn) (N W : AP1) (H : Hp) (E : WX) (D' : Ends) : Out ((D × D) × En) → Prop
  | .ok ((d, e), ρ) => ∀ N' W' H' σ v, Stp N W H N' W' H' → ER c N' W' H' σ ρ → VPr c N' W' H' v d e → D'.rt v H'
  | .err x ρ => ∀ N' W' H' σ cv ad, Stp N W H N' W' H' → ER c N' W' H' σ ρ → XR c.T N' H' cv ad x → E cv ad σ H'
  | .no => False
def rdPr (c : Cn) (E : WX) (m : FPr) : TS := fun D' σ H => ∃ N W ρ, ER c N W H σ ρ ∧ satPr c N W H E D' (m ρ)
section
variable {c : Cn} {N W N1 W1 : AP1} {H H1 : Hp} {σ : L2.St} {E : WX} {D' : Ends}
theorem satPr.step {m : Out ((D × D) × En)} (h : satPr c N W H E D' m) (s : Stp N W H N1 W1 H1) : satPr c N1 W1 H1 E D' m := by
  match m, h with
  | .ok ((d, e), ρ), h => exact fun N' W' H' σ v t er r => h N' W' H' σ v (s.trans t) er r
  | .err x ρ, h => exact fun N' W' H' σ cv ad t e r => h N' W' H' σ cv ad (s.trans t) e r
end
section
variable {X : Cx} {c : Cn} {E : WX} {st : Stmt} {rest : List Stmt} {g : FS} {m : FPr} {f : FD} {a : Expr} {pos px tp : Pos} {x : Str}
theorem np_cons (h1 : PS X st (rdS c E g)) (h2 : PSs X rest (rdPr c E m)) : PSs X (st :: rest) (rdPr c E (seqPr g m)) := PSs.mono (pss_cons h1 h2) fun D' σ H ⟨N, W, ρ, er, q⟩ => by
  refine ⟨N, W, ρ, er, ?_⟩
  unfold seqPr at q
  match hm : g ρ with
  | .ok (.nx, ρ1) =>
    rw [hm] at q
    have q : satPr c N W H E D' (m ρ1) := q
    exact fun N1 W1 H1 σ1 t e1 => ⟨N1, W1, ρ1, e1, q.step t⟩
  | .ok (.bk, ρ1) => rw [hm] at q; exact q.elim
  | .ok (.ct, ρ1) => rw [hm] at q; exact q.elim
  | .ok (.rt d fr, ρ1) => rw [hm] at q; exact q.elim
  | .err y ρ1 =>
    rw [hm] at q
    exact fun N' W' H' σ cv ad t e r => q N' W' H' σ cv ad t e r
  | .no => rw [hm] at q; exact q.elim
theorem np_ret (i : Nat) {kk : Nat} (ha : PE X a (rdD c E f)) (hN : X.N[i]? = some x := by rfl) (hv : Vis X.env.scope x := by first | exact Or.inl rfl | exact Or.inr (Or.inl rfl) | exact Or.inr (Or.inr rfl)) (hd : (x == ("__debug__" : Str)) = false := by decide)
    (hcd : (x == ("__classdict__" : Str)) = false := by decide) (s1 : starEach [a, .Name x px] X.env = (false, eval a X.env) :: starEach [.Name x px] X.env := by rfl) (s2 : starEach [.Name x px] X.env = (false, eval (.Name x px) X.env) :: starEach [] X.env := by rfl) :
    PSs X [.Return (some (.Tuple [a, .Name x px] kk tp)) pos] (rdPr c E (retPr f i)) := PSs.mono (pss_one (ps_ret (pe_tup (pa_cons ha (pa_cons (pe_var hN hv hd hcd) pa_nil s2) s1)))) fun D' σ H ⟨N, W, ρ, er, q⟩ => by
  unfold retPr at q
  match hm : f ρ with
  | .no => rw [hm] at q; exact q.elim
  | .err y ρ1 =>
    rw [hm] at q
    refine ⟨N, W, ρ, er, ?_⟩
    rw [hm]
    exact fun N' W' H' cv ad t e r => q N' W' H' σ cv ad t e r
  | .ok (d, ρ1) =>
    rw [hm] at q
    simp only [Out.bind] at q
    refine ⟨N, W, ρ, er, ?_⟩
    rw [hm]
    intro N1 W1 H1 t1 e1 v rv
    dsimp only at e1 rv
    cases h : ρ1.sl[i]? with
    | none => rw [h] at q; exact q.elim
    | some sd =>
      rw [h] at q
      cases sd with
      | un => exact q.elim
      | sh d => exact q.elim
      | bag => exact q.elim
      | ow d' =>
        obtain ⟨b, o, h1, h2, h3, h4, h5⟩ := e1.ow i d' h
        have h0 : c.H0 b = none := (e1.wnew b h2).elim (fun z => absurd z h3) id
        have ed := e1.drop h h1
        refine ⟨_, h1, by show 2 ≤ sizeLine; decide, fun p hp => ?_⟩
        have k : ∀ b' u, H1 b' = some u → upd H1 p (.tup [v, .ref b]) b' = some u := fun b' u h => by
          rw [upd_ne (ne_of_none h hp)]; exact h
        have tt : Stp N1 W1 H1 N1 (fun z => W1 z ∧ z ≠ b) H1 := ⟨fun _ _ h _ => h, fun _ h => .inl h, fun _ h => .inl h.1, fun b hb _ _ => hb, fun _ h => h⟩
        have ta := (t1.trans tt).trans (.grow ed.all k)
        exact q N1 _ _ σ _ ta (ed.grow k) ⟨p, v, b, o, rfl, upd_same, rv.move (fun b' u n h => ⟨n, k b' u h⟩), e1.wn b h2, fun z => z.2 rfl, h0, k _ _ h4, h5.move fun b' u n h => ⟨n, k b' u h⟩⟩
end
/-- the promise of such a def (without the bag) -/
def spP (T : Tg) (n : Nat) (m : MPr) : Sp := fun vs H Q E => ∃ (N : AP1) (l : Addr) (ds : List D) (b : Bag), (∀ a, N a → H a ≠ none) ∧ Reps T N H vs ds ∧ ds.length = n ∧
  match m ds b with
  | .ok (r, ρ) => ∀ N' v H', Fnl N none H N' H' → (∃ p x q o, v = .ref p ∧ H' p = some (.tup [x, .ref q]) ∧ Rep T N' H' x r.1 ∧ N' q ∧ H q = none ∧ H' q = some o ∧ Top T N' H' o r.2) → Q v H'
  | .err x ρ => ∀ N' cv ad H', Fnl N none H N' H' → XR T N' H' cv ad x → E cv ad H'
  | .no => False
section
variable {P : Program} {w : World} {K : PySem.W.Frag} {mg : Str → Option Value} {base : Heap}
theorem body_ndP {T : Tg} {X : Cx} {body : List Stmt} {NN ps : List Str} {n : Nat} {g : FPr} {vs : List V} {H : Hp} {Q : VK} {E : XK} (hbody : ∀ c : Cn, c.T = T → PSs X body (rdPr c (EX E) g)) (hl : vs.length = ps.length) (hpl : ps.length ≤ NN.length)
    (hsp : spP T n (runPr NN.length g) vs H Q E) : ∃ t, PSs X body t ∧ t { nx := fun _ H' => Q .non H', rt := Q } (L2.start NN vs) H := by
  obtain ⟨N, l, ds, b, al, h2, h3, q⟩ := hsp
  refine ⟨_, hbody ⟨T, none, l, H, N⟩ rfl, N, _, _, start_ok (b := b) (hb := false) (bg := none) ⟨rfl, rfl⟩ al h2 (by rw [hl]; exact hpl), ?_⟩
  unfold runPr at q
  match hm : g (startE false NN.length ds b) with
  | .ok ((d, e), ρ) =>
    rw [hm] at q
    intro N' W' H' σ v t er r
    obtain ⟨p, x, qa, o, rfl, r1, r2, r3, r4, r5, r6, r7⟩ := r
    have r5 : H qa = none := r5
    refine q (fun b => N b ∨ b = qa) _ H' ⟨fun b o h nb => t.keep b o h nb, fun b h => h.elim .inl (fun y => .inr (y ▸ r5)), fun b h => .inl h, t.al, fun b h => h.elim (fun y => t.al b (al b y)) (fun y => by rw [y, r6]; intro w; cases w)⟩ ⟨p, x, qa, o, rfl, r1, ?_, .inr rfl, r5, r6, ?_⟩
    · exact r2.move fun b u n h => ⟨fun y => n (y.elim (er.sub b) (fun y => y ▸ r3)), h⟩
    · exact r7.move fun b u n h => ⟨fun y => n (y.elim (er.sub b) (fun y => y ▸ r3)), h⟩
  | .err x ρ =>
    rw [hm] at q
    intro N' W' H' σ cv ad t e r
    exact q N cv ad H' ⟨fun b o h nb => t.keep b o h nb, fun a h => .inl h, fun a h => h, t.al, fun a h => t.al a (al a h)⟩ (r.move fun a o n h => ⟨fun y => n (e.sub a y), h⟩)
  | .no => rw [hm] at q; exact q.elim
theorem fn_ndP {T : Tg} {x qual : Str} {st : Stmt} {f : Addr} {fd : FuncData} {NN ps : List Str} {k n : Nat} {g : FPr} (F : Fun K x qual st f fd) (S : FnScope NN ps (defScope st)) (hn : ps.length = n)
    (hbody : ∀ (cdv : Value) (A : Around) (outer : List Env) (s : Shared) (H : Hp) (E : XK) (c : Cn), c.T = T → Room k (A.deeper (envOfC qual (defScope st) s.heap.objs.size f cdv)) →
      Takes (cxOf (L2.CX P w) P w K mg base NN qual (defScope st) f cdv A outer s H E) (EX E) → PassesOwn (model P w) (cxOf (L2.CX P w) P w K mg base NN qual (defScope st) f cdv A outer s H E).A (cxOf (L2.CX P w) P w K mg base NN qual (defScope st) f cdv A outer s H E).env (cxOf (L2.CX P w) P w K mg base NN qual (defScope st) f cdv A outer s H E).xe →
      PSs (cxOf (L2.CX P w) P w K mg base NN qual (defScope st) f cdv A outer s H E) (defBody st) (rdPr c (EX E) g)) : FnOk P w K mg base (L2.CX P w) (k + 1) f fd ps (spP T n (runPr NN.length g)) := by
  have hpl : ps.length ≤ NN.length := by have := congrArg List.length S.pre; rw [List.length_take] at this; omega
  have lenP : ∀ vs H Q E, spP T n (runPr NN.length g) vs H Q E → vs.length = ps.length := fun vs H Q E h => by
    obtain ⟨N, l, ds, b, _, h2, h3, _⟩ := h
    rw [h2.length, h3, hn]
  refine F.okX S lenP fun cdv A outer s H vs Q E hr hsp => ?_
  have tk : Takes (cxOf (L2.CX P w) P w K mg base NN qual (defScope st) f cdv A outer s H E) (EX E) := takes_of rfl rfl rfl rfl
  exact body_ndP (fun c hc => hbody cdv A outer s H E c hc hr tk (passes_of rfl)) (lenP _ _ _ _ hsp) hpl hsp
end
structure CalP (P : Program) (w : World) (K : PySem.W.Frag) (mg : Str → Option Value) (base : Heap) (T : Tg) (x : Str) (k : Nat) (n : Nat) (m : MPr) : Prop where
  ex : ∃ f fd ps, FnOk P w K mg base (L2.CX P w) k f fd ps (spP T n m) ∧ mg x = some (.ref f) ∧ PySem.W.keepIn K (.ref f) = true ∧ Binds K fd ps []
/-- f(..)[0], f(..)[1] of such a def -/
def callIx (last : Bool) (m : MPr) (fa : FA) : FV := fun ρ => (fa ρ).bind fun r => match m r.1 default with
  | .ok (v, _) => .ok (if last = true then (v.2, true) else (v.1, false), r.2)
  | .err x _ => .err x r.2
  | .no => .no
section
variable {X : Cx} {c : Cn} {E : WX} {pos pos2 p kp : Pos} {x : Str} {e : Expr} {es : List Expr} {k j n jj : Nat} {m : MPr} {fa : FA} {T : Tg}
theorem callIx_ok (last : Bool) (hT : c.T = T) (tk : Takes X E) (C : CalP X.prog X.w X.K X.mg X.base T x k n m) (hr : Room j X.A) (hk : k ≤ j) (hg : Gl X x) (ha : PA X (e :: es) (rdA c E fa)) (hs : starEach (e :: es) X.env = (false, eval e X.env) :: starEach es X.env := by rfl)
    (hpl : (backTo pos (starEach es X.env)).any (·.1) = false := by rfl) (hdb : (x == ("__debug__" : Str)) = false := by decide) (hpi : PlainIx (.Constant (.int (if last = true then 1 else 0)) jj kp) := by exact fun _ _ => rfl) :
    PE X (.Subscript (.Call (.Name x p) (e :: es) [] pos) (.Constant (.int (if last = true then 1 else 0)) jj kp) pos2) (rdV c E (callIx last m (cnt n fa))) := by
  obtain ⟨f, fd, ps, F, hm, kp', hb⟩ := C.ex
  refine PE.mono (pe_ix ix_seq (pe_callS F (hr.mono hk) hg hm kp' hb (fun σ => passAt tk σ) ha (hdb := hdb) (he := hs) (hpl := hpl)) pe_int hpi) fun σ H Q ⟨N, W, ρ, er, q⟩ => ?_
  subst hT
  unfold callIx cnt at q
  refine ⟨N, W, ρ, er, ?_⟩
  cases hf : fa ρ with
  | no => rw [hf] at q; exact q
  | err x' ρ' => rw [hf] at q; exact q
  | ok r =>
    obtain ⟨ds, ρ1⟩ := r
    intro N1 W1 H1 t1 e1 vs rv
    simp only [hf, Out.bind_ok] at q
    by_cases hn : ds.length = n
    · rw [if_pos hn] at q
      simp only [Out.bind_ok] at q
      show spP c.T n m vs H1 _ (WE E σ)
      refine ⟨N1, c.bl, ds, default, e1.all, rv, hn, ?_⟩
      cases hm : m ds default with
      | no => rw [hm] at q; exact q
      | err x' ρ' =>
        rw [hm] at q
        intro N' cv ad H' F' rv'
        obtain ⟨e2, t2⟩ := e1.called F' (.inl ⟨rfl, rfl⟩)
        exact q N' W1 H' cv ad (t1.trans t2) e2 rv'
      | ok r2 =>
        obtain ⟨⟨d, e'⟩, ρ2⟩ := r2
        rw [hm] at q
        intro N' v H' F' rv'
        obtain ⟨p', x', qa, o, rfl, h1, h2, h3, h4, h5, h6⟩ := rv'
        obtain ⟨e2, t2⟩ := e1.called F' (.inl ⟨rfl, rfl⟩)
        cases last with
        | false => exact .inr (.inl ⟨p', _, 0, x', rfl, rfl, .of h1, rfl, q N' W1 H' (t1.trans t2) e2 x' h2⟩)
        | true =>
          refine .inr (.inl ⟨p', _, 1, .ref qa, rfl, rfl, .of h1, rfl, q N' W1 H' (t1.trans t2) e2 (.ref qa) ⟨qa, o, rfl, h3, fun z => e1.all qa (e1.wn qa z) h4, ?_, h0_none e1 h4, h5, h6⟩⟩)
          cases z : H qa with
          | none => rfl
          | some u => exact absurd h4 (t1.al qa (by rw [z]; intro y; cases y))
    · rw [if_neg hn] at q
      exact q.elim
end
/-! W, XW -/
def MPk (m : MPr) (ds : List D) (R : D → D → Prop) : Prop := ∃ d e ρ, m ds default = .ok ((d, e), ρ) ∧ R d e
def MPx (m : MPr) (ds : List D) (R : Nat → List (Str × D) → Prop) : Prop := ∃ t fs ρ, m ds default = .err (.exc t fs) ρ ∧ R t fs
section
variable {m : MPr} {fa : FA} {ρ : En} {QV : D × Bool → En → Prop} {g : FS} {mp : FPr} {f : FD} {i : Nat} {QP : D × D → En → Prop} {QX : QE}
theorem w_callIxT (q : W (fa ρ) fun ds ρ1 => MPk m ds fun _ e => QV (e, true) ρ1) : W (callIx true m fa ρ) QV := by
  obtain ⟨ds, ρ1, e1, d, e, ρ2, e2, q⟩ := q
  exact ⟨_, _, by unfold callIx; rw [e1]; simp only [Out.bind, e2, if_true], q⟩
theorem w_callIxF (q : W (fa ρ) fun ds ρ1 => MPk m ds fun d _ => QV (d, false) ρ1) : W (callIx false m fa ρ) QV := by
  obtain ⟨ds, ρ1, e1, d, e, ρ2, e2, q⟩ := q
  exact ⟨_, _, by unfold callIx; rw [e1]; simp only [Out.bind, e2]; rfl, q⟩
theorem xw_callIx {last : Bool} (q : W (fa ρ) fun ds ρ1 => MPx m ds fun t fs => QX t fs ρ1) : XW (callIx last m fa ρ) QX := by
  obtain ⟨ds, ρ1, e1, t, fs, ρ2, e2, q⟩ := q
  exact ⟨t, fs, ρ1, by unfold callIx; rw [e1]; simp only [Out.bind, e2], q⟩
theorem w_seqPr (q : W (g ρ) fun fl ρ1 => fl = .nx ∧ W (mp ρ1) QP) : W (seqPr g mp ρ) QP := by
  obtain ⟨fl, ρ1, e1, rfl, a, ρ2, e2, q⟩ := q
  exact ⟨_, _, by unfold seqPr; rw [e1]; exact e2, q⟩
theorem w_retPr (q : W (f ρ) fun d ρ1 => ∃ e, ρ1.sl[i]? = some (.ow e) ∧ QP (d, e) (setS ρ1 i .un)) : W (retPr f i ρ) QP := by
  obtain ⟨d, ρ1, e1, e, h, q⟩ := q
  exact ⟨_, _, by unfold retPr; rw [e1]; simp only [Out.bind, h], q⟩
theorem xw_seqPr (q : W (g ρ) fun fl ρ1 => fl = .nx ∧ XW (mp ρ1) QX) : XW (seqPr g mp ρ) QX := by
  obtain ⟨fl, ρ1, e1, rfl, t, fs, ρ2, e2, q⟩ := q
  exact ⟨t, fs, ρ2, by unfold seqPr; rw [e1]; exact e2, q⟩
theorem xw_seqPrL (q : XW (g ρ) QX) : XW (seqPr g mp ρ) QX := by
  obtain ⟨t, fs, ρ1, e1, q⟩ := q
  exact ⟨t, fs, ρ1, by unfold seqPr; rw [e1]; rfl, q⟩
end
end ND

end
section
set_option Elab.async false
set_option linter.all false
set_option maxRecDepth 100000
set_option maxHeartbeats 2000000
/-! NX47: x, y = e, f with two local names: stored from the right; the second may be new. -/
namespace ND
open PySem PySem.Spec PyProof.Rows L2
section
variable {X : Cx} {c : Cn} {E : WX} {a b : Expr} {f : FD} {g : FV} {i j : Nat} {st : Stmt}
theorem ns_parDV (h : ∀ {ta : TA}, PA X [a, b] ta → PS X st (tPar i j ta)) (ha : PE X a (rdD c E f)) (hb : PE X b (rdV c E g))
    (s1 : starEach [a, b] X.env = (false, eval a X.env) :: starEach [b] X.env := by rfl) (s2 : starEach [b] X.env = (false, eval b X.env) :: starEach [] X.env := by rfl) :
    PS X st (rdS c E (unpDV i j f g)) := by
  refine PS.mono (h (pa_cons ha (pa_cons hb pa_nil s2) s1)) fun D' σ H ⟨N, W, ρ, er, q⟩ => ?_
  unfold unpDV at q
  refine ⟨N, W, ρ, er, (satS.bindB (σ := σ) q).imp fun N1 W1 H1 r1 t1 e1 q1 v1 rv1 => ?_⟩
  obtain ⟨d1, ρ1⟩ := r1
  obtain ⟨q1, _⟩ := q1
  dsimp only at q1 rv1
  have q1 := q1.step t1
  refine ⟨N1, W1, ρ1, e1, (satS.bindB (σ := σ) q1).imp fun N2 W2 H2 r2 t2 e2 q2 v2 rv2 => ?_⟩
  obtain ⟨⟨d2, fr⟩, ρ2⟩ := r2
  obtain ⟨q2, _⟩ := q2
  dsimp only at q2 rv2
  refine ⟨v1, v2, rfl, ?_⟩
  have e3 := e2.setSh (i := i) (rv1.move (e1.mv t2))
  obtain ⟨W', t4, e4⟩ := ER.put (i := j) t2 e3 rv2
  exact q2 N2 W' _ _ t4 e4
end
end ND

end
section
set_option Elab.async false
set_option linter.all false
set_option maxRecDepth 100000
set_option maxHeartbeats 2000000
/-! NX48: x, y = e, f: both may be new. -/
namespace ND
open PySem PySem.Spec PyProof.Rows L2
def unpVV (i j : Nat) (f g : FV) : FS := fun ρ => (f ρ).bind fun r => (g r.2).bind fun s => .ok (.nx, put (put s.2 i r.1.1 r.1.2) j s.1.1 s.1.2)
section
variable {c : Cn} {N N0 N1 N2 W W0 W1 W2 : AP1} {H H0 H1 H2 HB : Hp} {σ : L2.St} {ρ : En} {v v1 v2 : V} {d d1 d2 : D} {fr fr1 fr2 : Bool} {i j : Nat}
theorem VR.step (e1 : ER c N1 W1 H1 σ ρ) (t2 : Stp N1 W1 H1 N2 W2 H2) (r : VR c H0 N1 W1 H1 v d fr) : VR c H0 N2 W2 H2 v d fr := by
  cases fr with
  | false => exact Rep.move (e1.mv t2) r
  | true =>
    obtain ⟨a, o, h1, h2, h3, h4, h5, h6, h7⟩ := r
    exact ⟨a, o, h1, t2.kN a h2 h3 (by rw [h6]; intro z; cases z), fun w => (t2.nW a w).elim h3 (fun z => by rw [z] at h6; cases h6), h4, h5, t2.keep a o h6 h3, h7.move (e1.mv t2)⟩
theorem ER.put2 (t : Stp N0 W0 HB N W H) (e : ER c N W H σ ρ) (r1 : VR c HB N W H v1 d1 fr1) (r2 : VR c H1 N W H v2 d2 fr2) (back : ∀ b, H1 b = none → HB b = none) (hd : ∀ a, v1 = .ref a → fr1 = true → H1 a ≠ none) :
    ∃ W', Stp N0 W0 HB N W' H ∧ ER c N W' H ((σ.set i (some v1)).set j (some v2)) (ND.put (ND.put ρ i d1 fr1) j d2 fr2) := by
  have r2' : ∀ W1 : AP1, (∀ a, W1 a → W a ∨ H1 a ≠ none) → VR c HB N W1 H v2 d2 fr2 := fun W1 hw => by
    cases fr2 with
    | false => exact r2
    | true =>
      obtain ⟨a, o, h1, h2, h3, h4, h5, h6, h7⟩ := r2
      exact ⟨a, o, h1, h2, fun w => (hw a w).elim h3 (fun z => z h4), back a h4, h5, h6, h7⟩
  cases fr1 with
  | false => exact ER.put t (e.setSh r1) (r2' W fun a h => .inl h)
  | true =>
    obtain ⟨a, o, rfl, h1, h2, h3, h4, h5, h6⟩ := r1
    by_cases hi : i < ρ.sl.length
    · exact ER.put ⟨t.keep, t.nN, fun b hb => hb.elim (t.nW b) (fun z => .inr (z ▸ h3)), t.kN, t.al⟩ (e.setOw hi h1 h2 h4 h5 h6) (r2' (fun b => W b ∨ b = a) fun b hb => hb.imp id fun z => by rw [z]; exact hd a rfl rfl)
    · have e1 : ER c N W H (σ.set i (some (V.ref a))) (ND.put ρ i d1 true) := by
        unfold ND.put
        rw [sl_out hi, st_out e hi]
        exact e
      exact ER.put t e1 (r2' W fun a h => .inl h)
end
theorem Stp.none {N N1 W W1 : AP1} {H H1 : Hp} (t : Stp N W H N1 W1 H1) : ∀ b, H1 b = Option.none → H b = Option.none := fun b hb => by
  cases z : H b with
  | none => rfl
  | some u => exact absurd hb (t.al b (by rw [z]; intro y; cases y))
theorem VR.has {c : Cn} {N1 W1 : AP1} {H H1 : Hp} {v : V} {d : D} {fr : Bool} (r : VR c H N1 W1 H1 v d fr) : ∀ a, v = .ref a → fr = true → H1 a ≠ Option.none := fun a ha hf => by
  subst hf
  obtain ⟨a', o, z, _, _, _, _, h6, _⟩ := r
  rw [ha] at z
  cases z
  rw [h6]; intro z; cases z
theorem satS.bindC {α : Type} {c : Cn} {N W N1 W1 : AP1} {H H1 : Hp} {σ : L2.St} {E : WX} {D : Ends} {m : Out (α × En)} {k : α × En → Out (Fl × En)} (h : satS c N W H E D (m.bind k)) (t : Stp N W H N1 W1 H1) : sat c N1 W1 H1 σ E (fun N2 W2 H2 r => satS c N W H E D (k r) ∧ Stp N1 W1 H1 N2 W2 H2) m := by
  cases m with
  | ok r => exact fun N' W' H' t' e => ⟨h, t'⟩
  | err x ρ => exact fun N' W' H' cv ad t' e r => h N' W' H' σ cv ad (t.trans t') e r
  | no => exact h
section
variable {X : Cx} {c : Cn} {E : WX} {a b : Expr} {f g : FV} {i j : Nat} {x y : Str} {px py pt pt2 pos : Pos} {kt k2 : Nat} {st : Stmt}
theorem ns_unpVV (ha : PE X a (rdV c E f)) (hb : PE X b (rdV c E g)) (hc : X.calm = true) (gi : PG X (.Name x px) (gName i)) (gj : PG X (.Name y py) (gName j))
    (hn : (assignEach [.Name x px, .Name y py] X.env).length = 2 := by rfl) (hst : (assignEach [.Name x px, .Name y py] X.env).findIdx? (·.1) = none := by rfl)
    (he1 : (assignEach [.Name x px, .Name y py] X.env).map (·.2) = assign (.Name x px) X.env :: (assignEach [.Name y py] X.env).map (·.2) := by rfl) (he2 : (assignEach [.Name y py] X.env).map (·.2) = assign (.Name y py) X.env :: (assignEach [] X.env).map (·.2) := by rfl)
    (hs : swapsWithSole [.Tuple [.Name x px, .Name y py] kt pt] (.Tuple [a, b] k2 pt2) pos.line X.env = pure false := by rfl) (hw : swappedStores [.Tuple [.Name x px, .Name y py] kt pt] (.Tuple [a, b] k2 pt2) X.env = pure none := by rfl)
    (h1 : (assignEach [.Tuple [.Name x px, .Name y py] kt pt] X.env).map (·.2) = [assign (.Tuple [.Name x px, .Name y py] kt pt) X.env] := by rfl)
    (s1 : starEach [a, b] X.env = (false, eval a X.env) :: starEach [b] X.env := by rfl) (s2 : starEach [b] X.env = (false, eval b X.env) :: starEach [] X.env := by rfl) :
    PS X (.Assign [.Tuple [.Name x px, .Name y py] kt pt] (.Tuple [a, b] k2 pt2) pos) (rdS c E (unpVV i j f g)) := by
  refine PS.mono (ps_asg (pe_tup (pa_cons ha (pa_cons hb pa_nil s2) s1)) (pg_tup hc (pgs_cons gi (pgs_cons gj pgs_nil he2) he1) hn hst) hs hw h1) fun D' σ H ⟨N, W, ρ, er, q⟩ => ?_
  unfold unpVV at q
  refine ⟨N, W, ρ, er, (satS.bindB (σ := σ) q).imp fun N1 W1 H1 r1 t1 e1 q1 v1 rv1 => ?_⟩
  obtain ⟨⟨d1, fr1⟩, ρ1⟩ := r1
  obtain ⟨q1, _⟩ := q1
  dsimp only at q1 rv1
  refine ⟨N1, W1, ρ1, e1, (satS.bindC (σ := σ) q1 t1).imp fun N2 W2 H2 r2 t2 e2 q2 v2 rv2 => ?_⟩
  obtain ⟨⟨d2, fr2⟩, ρ2⟩ := r2
  obtain ⟨q2, _⟩ := q2
  dsimp only at q2 rv2
  refine ⟨by show 2 ≤ sizeLine; decide, fun p hp => ⟨p, [v1, v2], rfl, .of upd_same, rfl, v1, [v2], rfl, v2, [], rfl, rfl, ?_⟩⟩
  have k : ∀ b o, H2 b = some o → upd H2 p (.tup [v1, v2]) b = some o := fun b o h => by
    rw [upd_ne (ne_of_none h hp)]; exact h
  have t3 : Stp N1 W1 H1 N2 W2 (upd H2 p (.tup [v1, v2])) := t2.trans (.grow e2.all k)
  obtain ⟨W', t4, e4⟩ := ER.put2 (i := i) (j := j) (t1.trans t3) (e2.grow k) ((rv1.step e1 t2).grow k) (rv2.grow k) (t1.none) rv1.has
  exact q2 N2 W' _ _ t4 e4
theorem ns_parVV (h : ∀ {ta : TA}, PA X [a, b] ta → PS X st (tPar i j ta)) (ha : PE X a (rdV c E f)) (hb : PE X b (rdV c E g))
    (s1 : starEach [a, b] X.env = (false, eval a X.env) :: starEach [b] X.env := by rfl) (s2 : starEach [b] X.env = (false, eval b X.env) :: starEach [] X.env := by rfl) :
    PS X st (rdS c E (unpVV i j f g)) := by
  refine PS.mono (h (pa_cons ha (pa_cons hb pa_nil s2) s1)) fun D' σ H ⟨N, W, ρ, er, q⟩ => ?_
  unfold unpVV at q
  refine ⟨N, W, ρ, er, (satS.bindB (σ := σ) q).imp fun N1 W1 H1 r1 t1 e1 q1 v1 rv1 => ?_⟩
  obtain ⟨⟨d1, fr1⟩, ρ1⟩ := r1
  obtain ⟨q1, _⟩ := q1
  dsimp only at q1 rv1
  refine ⟨N1, W1, ρ1, e1, (satS.bindC (σ := σ) q1 t1).imp fun N2 W2 H2 r2 t2 e2 q2 v2 rv2 => ?_⟩
  obtain ⟨⟨d2, fr2⟩, ρ2⟩ := r2
  obtain ⟨q2, _⟩ := q2
  dsimp only at q2 rv2
  refine ⟨v1, v2, rfl, ?_⟩
  obtain ⟨W', t4, e4⟩ := ER.put2 (i := i) (j := j) (t1.trans t2) e2 (rv1.step e1 t2) rv2 (t1.none) rv1.has
  exact q2 N2 W' _ _ t4 e4
end
theorem ws_unpVV {i j : Nat} {f g : FV} {h : FS} {ρ : En} {Q : Fl → En → Prop} (q : W (f ρ) fun a ρ1 => W (g ρ1) fun b ρ2 => W (h ⟨ρ2.b, (ρ2.sl.set i (putB a.2 a.1)).set j (putB b.2 b.1)⟩) Q) : W (seqS (unpVV i j f g) h ρ) Q := by
  obtain ⟨⟨a, fa⟩, ρ1, e1, ⟨b, fr⟩, ρ2, e2, q⟩ := q
  refine w_seq ⟨.nx, put (put ρ2 i a fa) j b fr, by unfold unpVV; rw [e1]; simp only [Out.bind, e2], ?_⟩
  rw [put_eq, put_eq]
  exact q
end ND

end
section
set_option Elab.async false
set_option linter.all false
set_option maxRecDepth 100000
/-! NP1: cells and rows as data; single operators on them; two-clause comprehensions -/
namespace ND
open PySem PySem.Spec PyProof.Rows L2
theorem bigN : big = 100000 := rfl
abbrev Cl := Option Nat
def encC : Cl → D
  | none => .non
  | some n => .int n
def encR (x : List Cl) : D := .tup (x.map encC)
theorem bD_isC (a : Cl) : bD isN (encC a) .non = some (.bl a.isNone) := by cases a <;> rfl
theorem nD_isC (a : Cl) : nD isN (encC a) .non = some (.bl (!a.isNone)) := by cases a <;> rfl
theorem eqD_C (a b : Cl) : eqD (encC a) (encC b) = some (decide (a = b)) := by
  cases a with
  | none =>
    cases b with
    | none => rfl
    | some n =>
      show some (PyData.eqv .none (.int n)) = _
      simp [PyData.eqv]
  | some m =>
    cases b with
    | none =>
      show some (PyData.eqv (.int m) .none) = _
      simp [PyData.eqv]
    | some n =>
      show some (PyData.eqv (.int m) (.int n)) = _
      rw [eqi]
      congr 1
      rw [decide_eq_decide]
      simp
      omega
theorem bD_eqC (a b : Cl) : bD eqD (encC a) (encC b) = some (.bl (decide (a = b))) := by unfold bD; rw [eqD_C]; rfl
theorem nD_eqC (a b : Cl) : nD eqD (encC a) (encC b) = some (.bl (!decide (a = b))) := by unfold nD; rw [eqD_C]; rfl
theorem nD_eqi (i j : Int) : nD eqD (.int i) (.int j) = some (.bl (!decide (i = j))) := by rw [← eqi]; rfl
theorem nD_eqn (i j : Nat) : nD eqD (.int i) (.int j) = some (.bl (!decide (i = j))) := by
  rw [nD_eqi]
  congr 3
  rw [decide_eq_decide]
  omega
theorem bD_eqi (i j : Int) : bD eqD (.int i) (.int j) = some (.bl (decide (i = j))) := by rw [← eqi]; rfl
theorem bD_eqn (i j : Nat) : bD eqD (.int i) (.int j) = some (.bl (decide (i = j))) := by
  rw [bD_eqi]
  congr 2
  rw [decide_eq_decide]
  omega
theorem lenR (x : List Cl) : lenD (encR x) = some (.int x.length) := by
  show some (D.int _) = _
  rw [List.length_map]
theorem seqR (x : List Cl) : seqOf (encR x) = some (x.map encC) := rfl
theorem tupR (x : List Cl) : tupD (.lst (x.map encC)) = some (encR x) := rfl
theorem zip_enc (x y : List Cl) : ((x.map encC).zip (y.map encC)).map (fun q => D.tup [q.1, q.2]) = (x.zip y).map fun p => D.tup [encC p.1, encC p.2] := by
  induction x generalizing y with
  | nil => rfl
  | cons a x ih =>
    cases y with
    | nil => rfl
    | cons b y => simp only [List.map_cons, List.zip_cons_cons, ih]
theorem zipR (x y : List Cl) : zipD [encR x, encR y] = some ((x.zip y).map fun p => D.tup [encC p.1, encC p.2]) := by
  show some _ = _
  rw [zip_enc]
theorem allD_map {α : Type} (p : α → Bool) (ys : List α) : allD (.lst (ys.map fun y => D.bl (p y))) = some (.bl (ys.all p)) := by
  have : bools (ys.map fun y => D.bl (p y)) = some (ys.map p) := by
    induction ys with
    | nil => rfl
    | cons y ys ih => simp only [List.map_cons, bools, ih, Option.map_some]
  show (bools _).map _ = _
  rw [this]
  simp [List.all_map]
theorem anyD_map {α : Type} (p : α → Bool) (ys : List α) : anyD (.lst (ys.map fun y => D.bl (p y))) = some (.bl (ys.any p)) := by
  have : bools (ys.map fun y => D.bl (p y)) = some (ys.map p) := by
    induction ys with
    | nil => rfl
    | cons y ys ih => simp only [List.map_cons, bools, ih, Option.map_some]
  show (bools _).map _ = _
  rw [this]
  simp [List.any_map]
theorem addR1 (x : List Cl) (c : Cl) (h : x.length < big) : addD (encR x) (.tup [encC c]) = some (encR (x ++ [c])) := by
  show (if _ then _ else _) = _
  rw [if_pos (by rw [List.length_map]; show x.length + 1 ≤ big; omega)]
  unfold encR
  rw [List.map_append]
  rfl
/-- every one of a list is of a kind -/
theorem ex_map {β : Type} (enc : β → D) (P : β → Prop) : ∀ es : List D, (∀ e ∈ es, ∃ c, e = enc c ∧ P c) → ∃ xs : List β, es = xs.map enc ∧ (∀ c ∈ xs, P c) ∧ xs.length = es.length
  | [], _ => ⟨[], rfl, by simp, rfl⟩
  | e :: es, h => by
    obtain ⟨c, rfl, p⟩ := h e (.head _)
    obtain ⟨xs, rfl, q, l⟩ := ex_map enc P es fun e he => h e (.tail _ he)
    exact ⟨c :: xs, rfl, fun z hz => by
      rcases List.mem_cons.mp hz with rfl | hz
      · exact p
      · exact q z hz, by simp⟩
theorem rng0_len (n : Nat) : (rng 0 n).length = n := by simp [rng]
theorem rngO1 (n : Nat) (h : n ≤ big) : rngO [.int n] = some (rng 0 n) := by
  show (if (n : Int) ≤ (big : Int) ∧ -(big : Int) ≤ (n : Int) then some (rng 0 (Int.toNat n)) else none) = _
  rw [if_pos ⟨by omega, by omega⟩]
  rfl
theorem putB_t (d : D) : putB true d = .ow d := rfl
theorem putB_f (d : D) : putB false d = .sh d := rfl
theorem w_vr_put {ρ : En} {i : Nat} {d : D} {fr : Bool} {Q : D → En → Prop} (h : ρ.sl[i]? = some (putB fr d)) (q : Q d (setS ρ i (.sh d))) : W (vr i ρ) Q := by
  cases fr with
  | true => exact w_vr_ow h q
  | false =>
    refine w_vr_sh h ?_
    have e : setS ρ i (.sh d) = ρ := by
      unfold setS
      have : ρ.sl.set i (.sh d) = ρ.sl := by
        apply List.ext_getElem?
        intro j
        by_cases z : i = j
        · subst z
          have hi : i < ρ.sl.length := (List.getElem?_eq_some_iff.mp h).1
          rw [List.getElem?_set_self hi, h]
          rfl
        · rw [List.getElem?_set_ne z]
      rw [this]
    rw [e] at q
    exact q
theorem w_retO_put {ρ : En} {i : Nat} {d : D} {fr : Bool} {Q : Fl → En → Prop} (h : ρ.sl[i]? = some (putB fr d)) (q : ∀ ρ', ρ'.b = ρ.b → Q (.rt d fr) ρ') : W (retO i ρ) Q := by
  cases fr with
  | true => exact w_retO_ow h (q _ rfl)
  | false => exact w_retO_sh h (q _ rfl)
theorem peek_put {ρ : En} {i : Nat} {d : D} {fr : Bool} (h : ρ.sl[i]? = some (putB fr d)) : peek ρ i = some d := by
  unfold peek
  rw [h]
  cases fr <;> rfl
theorem w_pk_put {ρ : En} {i : Nat} {d : D} {fr : Bool} {Q : D → En → Prop} (h : ρ.sl[i]? = some (putB fr d)) (q : Q d ρ) : W (pk i ρ) Q := w_pk (peek_put h) q
/-! two clauses over images -/
section
variable {β γ : Type} {ρ : En} {fi fi1 : FA} {tf tf1 : FG} {ft ft1 : FT} {fe : FD} {vs vs1 : List Nat} {QV : D × Bool → En → Prop}
theorem lcL_goM (toD h : γ → D) (I : En → Prop) (ys : List γ) (st : ∀ y ∈ ys, ∀ ρ, I ρ → ∃ ρ2, tf1 (toD y) (wipeE vs1 ρ) = some ρ2 ∧ W (ft1 ρ2) fun k ρ3 => k = true ∧ W (fe ρ3) fun e ρ4 => e = h y ∧ I ρ4) : ∀ (zs : List γ) (out : List D) (ρ : En), (∀ y ∈ zs, y ∈ ys) → out.length + zs.length ≤ big → I ρ →
    ∃ ρ', lcL tf1 ft1 fe vs1 (zs.map toD) out ρ = .ok (out ++ zs.map h, ρ') ∧ I ρ'
  | [], out, ρ, _, _, e => ⟨ρ, by simp [lcL], e⟩
  | z :: zs, out, ρ, hm, hl, e => by
    simp only [List.length_cons] at hl
    obtain ⟨ρ2, e2, k, ρ3, e3, rfl, x, ρ4, e4, rfl, e5⟩ := st z (hm z (.head _)) ρ e
    obtain ⟨ρ', e6, e7⟩ := lcL_goM toD h I ys st zs (out ++ [h z]) ρ4 (fun y hy => hm y (.tail _ hy)) (by simp; omega) e5
    refine ⟨ρ', ?_, e7⟩
    simp only [List.map_cons]
    unfold lcL
    rw [e2]
    simp only [e3, noE, Out.bind, if_true, e4]
    rw [if_pos (by omega), e6]
    simp
theorem lcL2_goM (toD : β → D) (toD1 h : β → γ → D) (zs : β → List γ) (ys : List β) (I : En → Prop)
    (st : ∀ y ∈ ys, ∀ ρ, I ρ → ∃ ρ2, tf (toD y) (wipeE vs ρ) = some ρ2 ∧ W (ft ρ2) fun k ρ3 => k = true ∧ W (fi1 ρ3) fun ds ρ4 => ds = (zs y).map (toD1 y) ∧ ∃ I1 : En → Prop, I1 ρ4 ∧ (∀ ρ, I1 ρ → I ρ) ∧ ∀ z ∈ zs y, ∀ ρ, I1 ρ → ∃ ρ2, tf1 (toD1 y z) (wipeE vs1 ρ) = some ρ2 ∧ W (ft1 ρ2) fun k ρ3 => k = true ∧ W (fe ρ3) fun e ρ4 => e = h y z ∧ I1 ρ4) :
    ∀ (xs : List β) (out : List D) (ρ : En), (∀ y ∈ xs, y ∈ ys) → out.length + (xs.map fun y => (zs y).length).sum ≤ big → I ρ →
    ∃ ρ', lcL2 tf ft fi1 tf1 ft1 fe vs vs1 (xs.map toD) out ρ = .ok (out ++ xs.flatMap fun y => (zs y).map (h y), ρ') ∧ I ρ'
  | [], out, ρ, _, _, e => ⟨ρ, by simp [lcL2], e⟩
  | x :: xs, out, ρ, hm, hl, e => by
    simp only [List.map_cons, List.sum_cons] at hl
    obtain ⟨ρ2, e2, k, ρ3, e3, rfl, ds, ρ4, e4, rfl, I1, i1, ii, st1⟩ := st x (hm x (.head _)) ρ e
    obtain ⟨ρ5, e5, i5⟩ := lcL_goM (toD1 x) (h x) I1 (zs x) st1 (zs x) out ρ4 (fun _ h => h) (by omega) i1
    obtain ⟨ρ', e6, e7⟩ := lcL2_goM toD toD1 h zs ys I st xs (out ++ (zs x).map (h x)) ρ5 (fun y hy => hm y (.tail _ hy)) (by simp; omega) (ii _ i5)
    refine ⟨ρ', ?_, e7⟩
    simp only [List.map_cons]
    unfold lcL2
    rw [e2]
    simp only [e3, noE, Out.bind, if_true, e4, e5, e6]
    simp
theorem w_lc2M (toD : β → D) (toD1 h : β → γ → D) (zs : β → List γ) (ys : List β)
    (q : W (fi ρ) fun ds ρ1 => ds = ys.map toD ∧ (ys.map fun y => (zs y).length).sum ≤ big ∧ (∃ I : En → Prop, I ρ1 ∧ (∀ ρ, I ρ → wipeE vs ρ = wipeE vs ρ1) ∧ ∀ y ∈ ys, ∀ ρ, I ρ → ∃ ρ2, tf (toD y) (wipeE vs ρ) = some ρ2 ∧ W (ft ρ2) fun k ρ3 => k = true ∧ W (fi1 ρ3) fun ds ρ4 => ds = (zs y).map (toD1 y) ∧ ∃ I1 : En → Prop, I1 ρ4 ∧ (∀ ρ, I1 ρ → I ρ) ∧ ∀ z ∈ zs y, ∀ ρ, I1 ρ → ∃ ρ2, tf1 (toD1 y z) (wipeE vs1 ρ) = some ρ2 ∧ W (ft1 ρ2) fun k ρ3 => k = true ∧ W (fe ρ3) fun e ρ4 => e = h y z ∧ I1 ρ4) ∧
      QV (.lst (ys.flatMap fun y => (zs y).map (h y)), true) (restE vs ρ1 ρ1)) : W (lcE2 fi tf ft fi1 tf1 ft1 fe vs vs1 ρ) QV := by
  obtain ⟨ds, ρ1, e, rfl, hl, ⟨I, i1, iw, st⟩, q⟩ := q
  obtain ⟨ρ', e1, e2⟩ := lcL2_goM toD toD1 h zs ys I st ys [] ρ1 (fun _ h => h) (by simpa using hl) i1
  refine ⟨_, _, ?_, q⟩
  unfold lcE2
  rw [e]
  simp only [Out.bind, e1, noE, List.nil_append]
  rw [restE_wipe (iw _ e2)]
end
end ND

end
section

set_option Elab.async false
set_option linter.all false
set_option maxRecDepth 100000
/-! NP2: loops over images, methods of lists, lent arguments; what a law's own look takes as equal -/
namespace ND
open PySem PySem.Spec PyProof.Rows L2
def aft (J : En → Prop) (Q : Fl → En → Prop) : Fl → En → Prop
  | .nx, ρ => J ρ
  | .ct, ρ => J ρ
  | .bk, ρ => Q .nx ρ
  | .rt d fr, ρ => Q (.rt d fr) ρ
theorem aft_nx {J : En → Prop} {Q : Fl → En → Prop} {ρ : En} (h : J ρ) : aft J Q .nx ρ := h
theorem aft_ct {J : En → Prop} {Q : Fl → En → Prop} {ρ : En} (h : J ρ) : aft J Q .ct ρ := h
theorem aft_bk {J : En → Prop} {Q : Fl → En → Prop} {ρ : En} (h : Q .nx ρ) : aft J Q .bk ρ := h
theorem aft_rt {J : En → Prop} {Q : Fl → En → Prop} {ρ : En} {d : D} {fr : Bool} (h : Q (.rt d fr) ρ) : aft J Q (.rt d fr) ρ := h
/-- what is wanted of a statement with h behind it -/
def sq (h : FS) (Q : Fl → En → Prop) : Fl → En → Prop
  | .nx, ρ => W (h ρ) Q
  | .ct, ρ => Q .ct ρ
  | .bk, ρ => Q .bk ρ
  | .rt d fr, ρ => Q (.rt d fr) ρ
section
variable {g h : FS} {Q : Fl → En → Prop} {ρ : En} {d : D} {fr : Bool}
theorem sq_nx (q : W (h ρ) Q) : sq h Q .nx ρ := q
theorem sq_ct (q : Q .ct ρ) : sq h Q .ct ρ := q
theorem sq_bk (q : Q .bk ρ) : sq h Q .bk ρ := q
theorem sq_rt (q : Q (.rt d fr) ρ) : sq h Q (.rt d fr) ρ := q
theorem w_sq (q : W (g ρ) (sq h Q)) : W (seqS g h ρ) Q := w_seq (q.mp fun fl ρ z => by cases fl <;> exact z)
end
section
variable {β : Type} {ρ : En} {fi : FA} {tf : FG} {fb : FS} {Q : Fl → En → Prop}
theorem forM_go (toD : β → D) (J : List β → En → Prop) (ys : List β) (st : ∀ (pre : List β) (y : β) (suf : List β), ys = pre ++ y :: suf → ∀ ρ, J pre ρ → ∃ ρ1, tf (toD y) ρ = some ρ1 ∧ W (fb ρ1) (aft (J (pre ++ [y])) Q)) (q : ∀ ρ, J ys ρ → Q .nx ρ) :
    ∀ (suf pre : List β) (ρ : En), ys = pre ++ suf → J pre ρ → W (forL tf fb (suf.map toD) ρ) Q
  | [], pre, ρ, e, j => ⟨_, _, rfl, q ρ (by rw [e, List.append_nil]; exact j)⟩
  | y :: suf, pre, ρ, e, j => by
    obtain ⟨ρ1, e1, fl, ρ2, e2, h⟩ := st pre y suf e ρ j
    simp only [List.map_cons]
    unfold forL
    rw [e1]
    simp only [e2, Out.bind]
    cases fl with
    | nx => exact forM_go toD J ys st q suf (pre ++ [y]) ρ2 (by rw [e, List.append_assoc]; rfl) h
    | ct => exact forM_go toD J ys st q suf (pre ++ [y]) ρ2 (by rw [e, List.append_assoc]; rfl) h
    | bk => exact ⟨_, _, rfl, h⟩
    | rt d fr => exact ⟨_, _, rfl, h⟩
/-- a loop over the image of a list; J: what holds behind a part of it -/
theorem w_forM (toD : β → D) (ys : List β) (J : List β → En → Prop) (h : W (fi ρ) fun ds ρ1 => ds = ys.map toD ∧ J [] ρ1 ∧ (∀ (pre : List β) (y : β) (suf : List β), ys = pre ++ y :: suf → ∀ ρ, J pre ρ → ∃ ρ1, tf (toD y) ρ = some ρ1 ∧ W (fb ρ1) (aft (J (pre ++ [y])) Q)) ∧ ∀ ρ, J ys ρ → Q .nx ρ) : W (forS fi tf fb ρ) Q := by
  obtain ⟨ds, ρ1, e, rfl, j, st, q⟩ := h
  have := forM_go toD J ys st q ys [] ρ1 rfl j
  unfold forS
  rw [e]
  exact this
/-- .. over range(n) -/
theorem w_forN (n : Nat) (J : Nat → En → Prop) (h : W (fi ρ) fun ds ρ1 => ds = rng 0 n ∧ J 0 ρ1 ∧ (∀ (k : Nat), k < n → ∀ ρ, J k ρ → ∃ ρ1, tf (.int k) ρ = some ρ1 ∧ W (fb ρ1) (aft (J (k + 1)) Q)) ∧ ∀ ρ, J n ρ → Q .nx ρ) : W (forS fi tf fb ρ) Q := by
  refine w_forM (fun k : Nat => D.int (0 + (k : Int))) (List.range n) (fun pre ρ => J pre.length ρ) (h.mp fun ds ρ1 ⟨e, j, st, q⟩ => ⟨e, j, fun pre y suf e ρ j => ?_, fun ρ j => q ρ (by simpa using j)⟩)
  have hl : pre.length < n := by
    have := congrArg List.length e
    simp at this
    omega
  have hy : y = pre.length := by
    have h1 : (List.range n)[pre.length]? = some y := by rw [e]; simp
    rw [List.getElem?_range hl] at h1
    exact (Option.some.inj h1).symm
  subst hy
  obtain ⟨ρ1, e1, w⟩ := st pre.length hl ρ j
  refine ⟨ρ1, by rw [← e1]; simp, ?_⟩
  simpa using w
/-- .. n and J told where the walked thing is -/
theorem w_forN' (h : W (fi ρ) fun ds ρ1 => ∃ (n : Nat) (J : Nat → En → Prop), ds = rng 0 n ∧ J 0 ρ1 ∧ (∀ (k : Nat), k < n → ∀ ρ, J k ρ → ∃ ρ1, tf (.int k) ρ = some ρ1 ∧ W (fb ρ1) (aft (J (k + 1)) Q)) ∧ ∀ ρ, J n ρ → Q .nx ρ) : W (forS fi tf fb ρ) Q := by
  obtain ⟨ds, ρ1, e, n, J, h⟩ := h
  exact w_forN n J ⟨ds, ρ1, e, h⟩
theorem w_forM' {γ : Type} (toD : γ → D) (h : W (fi ρ) fun ds ρ1 => ∃ (ys : List γ) (J : List γ → En → Prop), ds = ys.map toD ∧ J [] ρ1 ∧ (∀ (pre : List γ) (y : γ) (suf : List γ), ys = pre ++ y :: suf → ∀ ρ, J pre ρ → ∃ ρ1, tf (toD y) ρ = some ρ1 ∧ W (fb ρ1) (aft (J (pre ++ [y])) Q)) ∧ ∀ ρ, J ys ρ → Q .nx ρ) : W (forS fi tf fb ρ) Q := by
  obtain ⟨ds, ρ1, e, ys, J, h⟩ := h
  exact w_forM toD ys J ⟨ds, ρ1, e, h⟩
/-- a loop that only keeps something true, or leaves -/
theorem w_forK (J : En → Prop) (h : W (fi ρ) fun ds ρ1 => J ρ1 ∧ (∀ d ∈ ds, ∀ ρ, J ρ → ∃ ρ1, tf d ρ = some ρ1 ∧ W (fb ρ1) (aft J Q)) ∧ ∀ ρ, J ρ → Q .nx ρ) : W (forS fi tf fb ρ) Q := by
  obtain ⟨ds, ρ1, e, j, st, q⟩ := h
  refine w_forM id ds (fun _ => J) ⟨ds, ρ1, e, (List.map_id _).symm, j, fun pre y suf e ρ j => st y (by rw [e]; simp) ρ j, q⟩
theorem w_fix {α : Type} {o : Out (α × En)} {Q : α → En → Prop} (a : α) (ρ' : En) (h : W o fun r s => r = a ∧ s = ρ') (k : Q a ρ') : W o Q := h.mp fun r s ⟨h1, h2⟩ => by
  subst h1
  subst h2
  exact k
end
/-! methods of a slot's list -/
section
variable {s : Option SD} {ds : List D} {Q : D → List D → Prop}
theorem ex_app {d : D} (h1 : s = some (.ow (.lst ds))) (h : ds.length < big) (q : Q .non (ds ++ [d])) : ∃ ds e ds', s = some (.ow (.lst ds)) ∧ appD ds [d] = some (e, ds') ∧ Q e ds' := ⟨ds, _, _, h1, by show (if _ then _ else _) = _; rw [if_pos h], q⟩
theorem ex_ext {xs : List D} (h1 : s = some (.ow (.lst ds))) (h : ds.length + xs.length ≤ big) (q : Q .non (ds ++ xs)) : ∃ ds e ds', s = some (.ow (.lst ds)) ∧ extD ds [.lst xs] = some (e, ds') ∧ Q e ds' := ⟨ds, _, _, h1, by show (if _ then _ else _) = _; rw [if_pos h], q⟩
theorem ex_rev (h1 : s = some (.ow (.lst ds))) (q : Q .non ds.reverse) : ∃ ds e ds', s = some (.ow (.lst ds)) ∧ revD ds [] = some (e, ds') ∧ Q e ds' := ⟨ds, _, _, h1, rfl, q⟩
theorem ex_ins {i : Int} {d : D} (h1 : s = some (.ow (.lst ds))) (h : ds.length < big) (h0 : 0 ≤ i) (h2 : i ≤ big) (q : Q .non (ds.take i.toNat ++ [d] ++ ds.drop i.toNat)) : ∃ ds e ds', s = some (.ow (.lst ds)) ∧ insD ds [.int i, d] = some (e, ds') ∧ Q e ds' := ⟨ds, _, _, h1, by show (if _ then _ else _) = _; rw [if_pos ⟨h, h0, h2⟩], q⟩
end
/-! lent arguments -/
section
variable {ρ : En} {m : MF} {n i j : Nat} {fa g : FAI} {f : FD} {QV : D × Bool → En → Prop} {QA : List AI → En → Prop}
theorem w_lendG (q : W (fa ρ) fun is ρ1 => ∃ ds, fillD ρ1 is = some ds ∧ ds.length = n ∧ M m ds default fun d fr _ => noV (d, fr) = true ∧ QV (d, fr) ρ1) : W (lendG m n fa ρ) QV := by
  obtain ⟨is, ρ1, e1, ds, e2, e3, d, fr, ρ2, e4, e5, q⟩ := q
  exact ⟨_, _, by unfold lendG; rw [e1]; simp only [Out.bind, e2, if_pos e3, e4, if_pos e5], q⟩
theorem w_lendH (hs : ρ.sl[i]? = some .bag) (q : W (fa ρ) fun is ρ1 => ∃ ds, fillD ρ1 is = some ds ∧ ds.length = n ∧ ρ1.b.me = none ∧ M m ds ρ1.b fun d fr b' => (noV (d, fr) = true ∧ b'.me = none) ∧ QV (d, fr) { ρ1 with b := b' }) : W (lendH i m n fa ρ) QV := by
  obtain ⟨is, ρ1, e1, ds, e2, e3, e6, d, fr, ρ2, e4, e5, q⟩ := q
  have e5 : noV (d, fr) = true ∧ ρ2.b.me.isNone = true := ⟨e5.1, by rw [e5.2]; rfl⟩
  have e7 : ds.length = n ∧ ρ1.b.me.isNone = true := ⟨e3, by rw [e6]; rfl⟩
  exact ⟨_, _, by unfold lendH; rw [hs]; simp only [Out.bind, e1, e2, if_pos e7, e4, if_pos e5], q⟩
theorem w_iNil (q : QA [] ρ) : W (iNil ρ) QA := ⟨_, _, rfl, q⟩
theorem w_iCons (q : W (f ρ) fun d ρ1 => W (g ρ1) fun is ρ2 => QA (.d d :: is) ρ2) : W (iCons f g ρ) QA := by
  obtain ⟨a, ρ1, e1, c, ρ2, e2, q⟩ := q
  exact ⟨_, _, by unfold iCons; rw [e1]; simp only [Out.bind, e2], q⟩
theorem w_iSlot {d : D} (h : peek ρ j = some d) (q : W (g ρ) fun is ρ2 => QA (.s j :: is) ρ2) : W (iSlot j g ρ) QA := by
  obtain ⟨c, ρ2, e2, q⟩ := q
  exact ⟨_, _, by unfold iSlot; rw [h]; simp only [Out.bind, e2], q⟩
end
theorem w_iSlot_put {ρ : En} {j : Nat} {d : D} {fr : Bool} {g : FAI} {QA : List AI → En → Prop} (h : ρ.sl[j]? = some (putB fr d)) (q : W (g ρ) fun is ρ2 => QA (.s j :: is) ρ2) : W (iSlot j g ρ) QA := w_iSlot (peek_put h) q
theorem noL_C (c : Cl) : noL (encC c) = true := by cases c <;> rfl
theorem noL_R (x : List Cl) : noL (encR x) = true := by
  show noLs (x.map encC) = true
  induction x with
  | nil => rfl
  | cons a x ih => simp only [List.map_cons, noLs, noL_C, ih]; rfl
/-! plain data, nested so deep -/
inductive Pl : Nat → D → Prop
  | non (j : Nat) : Pl (j + 1) .non
  | bl (j : Nat) (k : Bool) : Pl (j + 1) (.bl k)
  | int (j : Nat) (i : Int) : Pl (j + 1) (.int i)
  | str (j : Nat) {x : Str} (h : okS x = true) : Pl (j + 1) (.str x)
  | tup {j : Nat} {ds : List D} (l : ds.length ≤ big) (h : ∀ d ∈ ds, Pl j d) : Pl (j + 1) (.tup ds)
  | lst {j : Nat} {ds : List D} (l : ds.length ≤ big) (h : ∀ d ∈ ds, Pl j d) : Pl (j + 1) (.lst ds)
theorem Pl_as {j : Nat} {d : D} (h : Pl j d) : Pl j d := h
def Pls (j : Nat) (ds : List D) : Prop := ∀ d ∈ ds, Pl j d
theorem pl_tup {j : Nat} {ds : List D} (l : ds.length ≤ big) (h : Pls j ds) : Pl (j + 1) (.tup ds) := .tup l h
theorem pl_lst {j : Nat} {ds : List D} (l : ds.length ≤ big) (h : Pls j ds) : Pl (j + 1) (.lst ds) := .lst l h
theorem pls_nil {j : Nat} : Pls j [] := fun d hd => by cases hd
theorem pls_cons {j : Nat} {d : D} {ds : List D} (h : Pl j d) (r : Pls j ds) : Pls j (d :: ds) := fun e he => by
  rcases List.mem_cons.mp he with rfl | he
  · exact h
  · exact r e he
theorem pls_map {β : Type} {j : Nat} {f : β → D} {ys : List β} (h : ∀ y ∈ ys, Pl j (f y)) : Pls j (ys.map f) := fun d hd => by
  obtain ⟨y, hy, rfl⟩ := List.mem_map.mp hd
  exact h y hy
theorem pl_C (j : Nat) (c : Cl) : Pl (j + 1) (encC c) := by
  cases c with
  | none => exact .non j
  | some n => exact .int j n
theorem pl_R (j : Nat) {x : List Cl} (h : x.length ≤ big) : Pl (j + 2) (encR x) := .tup (by simpa using h) (pls_map fun c _ => pl_C j c)
theorem pl_Rs (j : Nat) {xs : List (List Cl)} (l : xs.length ≤ big) (h : ∀ x ∈ xs, x.length ≤ big) : Pl (j + 3) (.lst (xs.map encR)) := .lst (by simpa using l) (pls_map fun x hx => pl_R j (h x hx))
end ND

end
section
set_option Elab.async false
set_option linter.all false
set_option maxRecDepth 100000
set_option maxHeartbeats 2000000
/-! NP3: things of all kinds; single operators; texts; x[i] = e -/
namespace ND
open PySem PySem.Spec PyProof.Rows L2
inductive Gd : D → Prop
  | non : Gd .non
  | bl (k : Bool) : Gd (.bl k)
  | int (i : Int) : Gd (.int i)
  | str {x : Str} (h : okS x = true) (l : x.length ≤ big) : Gd (.str x)
  | tup {ds : List D} (l : ds.length ≤ big) (h : ∀ d ∈ ds, Gd d) : Gd (.tup ds)
  | lst {ds : List D} (l : ds.length ≤ big) (h : ∀ d ∈ ds, Gd d) : Gd (.lst ds)
  | dic {ks : List (L2.Key × D)} (h : ∀ p ∈ ks, Gd p.2) : Gd (.dic ks)
section
variable {d : D} {R : D → Bool → Bag → Prop}
theorem rqe {k k' : Bool} (q : ∀ b, R (.bl k) false b) (e : k = k') : ∀ b, R (.bl k') false b := e ▸ q
def Gds (ds : List D) : Prop := ∀ d ∈ ds, Gd d
theorem gds_nil : Gds [] := fun d hd => by cases hd
theorem gds_cons {ds : List D} (h : Gd d) (r : Gds ds) : Gds (d :: ds) := fun e he => by
  rcases List.mem_cons.mp he with rfl | he
  · exact h
  · exact r e he
theorem gd_tup {ds : List D} (l : ds.length ≤ big) (h : Gds ds) : Gd (.tup ds) := .tup l h
theorem gd_lst {ds : List D} (l : ds.length ≤ big) (h : Gds ds) : Gd (.lst ds) := .lst l h
theorem gd_dic {ks : List (L2.Key × D)} (h : Gds (ks.map (·.2))) : Gd (.dic ks) := .dic fun p hp => h _ (List.mem_map.mpr ⟨p, hp, rfl⟩)
theorem gd_C (c : Cl) : Gd (encC c) := by cases c with
  | none => exact .non
  | some n => exact .int _
theorem gds_C (x : List Cl) : Gds (x.map encC) := fun d hd => by
  obtain ⟨c, _, rfl⟩ := List.mem_map.mp hd
  exact gd_C c
theorem gds_app {ds es : List D} (h : Gds ds) (r : Gds es) : Gds (ds ++ es) := fun e he => by
  rcases List.mem_append.mp he with he | he
  · exact h e he
  · exact r e he
theorem gds_get {ds es : List D} {P : D → D → Prop} (h : ∀ (i : Nat) (d e : D), ds[i]? = some d → es[i]? = some e → P d e) (hl : es.length = ds.length) (hP : ∀ d e, P d e → Gd e) : Gds es := fun e he => by
  obtain ⟨i, hi, rfl⟩ := List.getElem_of_mem he
  exact hP _ _ (h i (ds[i]'(by omega)) _ (List.getElem?_eq_getElem (by omega)) (List.getElem?_eq_getElem hi))
theorem ex_rngI {i : Int} {Q : List D → Prop} (h0 : 0 ≤ i) (h1 : i ≤ big) (q : Q (rng 0 i.toNat)) : ∃ e, rngO [.int i] = some e ∧ Q e := by
  obtain ⟨n, rfl⟩ : ∃ n : Nat, i = n := ⟨i.toNat, by omega⟩
  exact ⟨_, rngO1 n (by omega), q⟩
theorem gdd_nil : Gd (.dic []) := .dic fun p hp => by cases hp
theorem gdd_cons {k : L2.Key} {ks : List (L2.Key × D)} (h : Gd d) (r : Gd (.dic ks)) : Gd (.dic ((k, d) :: ks)) := .dic fun p hp => by
  cases r with
  | dic r =>
    rcases List.mem_cons.mp hp with rfl | hp
    · exact h
    · exact r p hp
theorem gd_str {x : Str} (h : okS x = true) (l : x.length ≤ big) : Gd (.str x) := .str h l
theorem slice2_pos {x : Str} (h : 1 ≤ x.length) : 1 ≤ (Txt.slice x none (some 2)).length := by
  unfold Txt.slice
  split
  · exact h
  · have m : 0 ∈ Builtin.Str.strSliceIndices none (some 2) 1 x.length := by
      unfold Builtin.Str.strSliceIndices
      simp only [show ((1 : Int) > 0) from by decide, if_true, show ¬ ((2 : Int) < 0) from by decide, if_false]
      unfold sliceRange
      rw [if_pos (by decide)]
      refine List.mem_map.mpr ⟨0, List.mem_range.mpr ?_, rfl⟩
      rw [if_pos (by omega)]
      omega
    have hx : 0 < x.cps.size := h
    have : x.cps[0] ∈ (Builtin.Str.strSliceIndices none (some 2) 1 x.length).filterMap (fun i => x.cps[i]?) := List.mem_filterMap.mpr ⟨0, m, by simp [hx]⟩
    show 1 ≤ (List.toArray _).size
    rw [List.size_toArray]
    exact List.length_pos_of_mem this
theorem ok_all {c : Array Nat} (h : ∀ a ∈ c, a < 1114112) : okS ⟨c⟩ = true := by
  show c.all _ = true
  rw [Array.all_eq_true']
  exact fun a ha => decide_eq_true (h a ha)
theorem ok_mem {x : Str} (h : okS x = true) : ∀ a ∈ x.cps, a < 1114112 := by
  have h : x.cps.all _ = true := h
  rw [Array.all_eq_true'] at h
  exact fun a ha => of_decide_eq_true (h a ha)
theorem rpt_ok {x : Str} (h : okS x = true) (n : Nat) : okS (rpt x n) = true ∧ (rpt x n).length = n * x.length := by
  have key : ∀ (n : Nat) (a : Array Nat), (∀ c ∈ a, c < 1114112) → (∀ c ∈ (List.replicate n x.cps).foldl (· ++ ·) a, c < 1114112) ∧ ((List.replicate n x.cps).foldl (· ++ ·) a).size = a.size + n * x.cps.size := by
    intro n
    induction n with
    | zero => intro a ha; exact ⟨ha, by simp⟩
    | succ n ih =>
      intro a ha
      rw [List.replicate_succ, List.foldl_cons]
      obtain ⟨h1, h2⟩ := ih (a ++ x.cps) fun c hc => by
        rcases Array.mem_append.mp hc with hc | hc
        · exact ha c hc
        · exact ok_mem h c hc
      refine ⟨h1, ?_⟩
      rw [h2, Array.size_append, Nat.succ_mul]
      omega
  obtain ⟨h1, h2⟩ := key n #[] (by simp)
  exact ⟨ok_all h1, by show _ = n * x.cps.size; rw [← Nat.zero_add (n * _)]; exact h2⟩
theorem ex_repS {x : Str} {k : Int} {Q : D → Prop} (hx : okS x = true) (h0 : 2 ≤ k) (h1 : k ≤ 10000) (h2 : 1 ≤ x.length) (h3 : x.length ≤ 1000) (q : ∀ y, okS y = true → y.length ≤ 10000 * x.length → Q (.str y)) : ∃ e, repS (.str x) (.int k) = some e ∧ Q e :=
  ⟨_, by show (if _ then _ else _) = _; rw [if_pos ⟨h0, h1, h2, h3⟩], q _ (rpt_ok hx _).1 (by rw [(rpt_ok hx _).2]; exact Nat.mul_le_mul_right _ (by omega))⟩
theorem ex_sl2 {x : Str} {Q : D × Bool → Prop} (h : x.length ≤ big) (h1 : 1 ≤ x.length) (hx : okS x = true) (q : ∀ y, okS y = true → 1 ≤ y.length → y.length ≤ x.length → Q (.str y, false)) : ∃ r, slD (.str x) none (some 2) = some r ∧ Q r := ⟨_, by show (if _ then _ else _) = _; rw [if_pos h], q _ (okS_slice hx none (some 2)) (slice2_pos h1) (Txt.slice_le x none (some 2))⟩
theorem sE : Str.ofString "" = ⟨#[]⟩ := by decide +kernel
theorem joinE1 (cs : List Nat) (h0 : cs ≠ []) (h : cs.length ≤ big) : joinD (.str (Str.ofString "")) (.lst (cs.map fun c => D.str ⟨#[c]⟩)) = some (.str ⟨cs.toArray⟩) := by
  rw [sE]
  exact joinD_one cs h0 h
theorem w_setI {ρ : En} {i : Nat} {fi f : FD} {Q : Fl → En → Prop} (q : W (f ρ) fun d ρ1 => ∃ p, peek ρ1 i = some p ∧ W (fi ρ1) fun e ρ2 => ∃ ds, ρ2.sl[i]? = some (.ow (.lst ds)) ∧ ∃ k, e = .int k ∧ ∃ j, L2.ixN ds.length k = some j ∧ Q .nx (setS ρ2 i (.ow (.lst (ds.set j d))))) : W (setI i fi f ρ) Q := by
  obtain ⟨d, ρ1, e1, p, hp, e, ρ2, e2, ds, h1, k, rfl, j, h2, q⟩ := q
  exact ⟨_, _, by unfold setI; rw [e1]; simp only [Out.bind, hp, e2, h1, h2], q⟩
theorem ex_slot {s : Option SD} {ds : List D} {Q : List D → Prop} (h : s = some (.ow (.lst ds))) (q : Q ds) : ∃ ds, s = some (.ow (.lst ds)) ∧ Q ds := ⟨ds, h, q⟩
theorem ex_int {k : Int} {Q : Int → Prop} (q : Q k) : ∃ j, D.int k = .int j ∧ Q j := ⟨k, rfl, q⟩
theorem ex_ixN {n : Nat} {k : Int} {Q : Nat → Prop} (h0 : 0 ≤ k) (h1 : k < n) (q : ∀ j, j < n → Q j) : ∃ j, L2.ixN n k = some j ∧ Q j := by
  refine ⟨k.toNat, ?_, q _ (by omega)⟩
  unfold L2.ixN
  rw [if_pos h0, if_pos h1]
theorem ws_setI {ρ : En} {i : Nat} {fi f : FD} {h : FS} {Q : Fl → En → Prop} (q : W (f ρ) fun d ρ1 => ∃ p, peek ρ1 i = some p ∧ W (fi ρ1) fun e ρ2 => ∃ ds, ρ2.sl[i]? = some (.ow (.lst ds)) ∧ ∃ k, e = .int k ∧ ∃ j, L2.ixN ds.length k = some j ∧ W (h (setS ρ2 i (.ow (.lst (ds.set j d))))) Q) : W (seqS (setI i fi f) h ρ) Q := w_seq (w_setI q)
theorem ex_addT {ds es : List D} {Q : D → Prop} (h : ds.length + es.length ≤ big) (q : Q (.tup (ds ++ es))) : ∃ e, addD (.tup ds) (.tup es) = some e ∧ Q e := ⟨_, by show (if _ then _ else _) = _; rw [if_pos h], q⟩
theorem ex_slT {ds : List D} {lo hi : Option Int} {Q : D × Bool → Prop} (q : ∀ es, (∀ d ∈ es, d ∈ ds) → es.length ≤ ds.length → Q (.tup es, false)) : ∃ r, slD (.tup ds) lo hi = some r ∧ Q r :=
  ⟨_, rfl, q _ (fun d hd => List.mem_of_mem_drop (List.mem_of_mem_take hd)) (by show ((ds.drop _).take _).length ≤ _; rw [List.length_take, List.length_drop]; omega)⟩
theorem ex_slL {ds : List D} {lo hi : Option Int} {Q : D × Bool → Prop} (q : ∀ es, (∀ d ∈ es, d ∈ ds) → es.length ≤ ds.length → Q (.lst es, true)) : ∃ r, slD (.lst ds) lo hi = some r ∧ Q r :=
  ⟨_, rfl, q _ (fun d hd => List.mem_of_mem_drop (List.mem_of_mem_take hd)) (by show ((ds.drop _).take _).length ≤ _; rw [List.length_take, List.length_drop]; omega)⟩
theorem ex_rep2 {d : D} {Q : D → Prop} (q : Q (.tup [d, d])) : ∃ e, repTD (.tup [d]) (.int 2) = some e ∧ Q e := ⟨_, by show (if [d] ≠ [] ∧ (2 : Int) ≤ 2 ∧ (2 : Int) ≤ 1000 ∧ [d].length ≤ 1000 then some (D.tup _) else none) = _; rw [if_pos ⟨by simp, by decide, by decide, by simp⟩]; rfl, q⟩
theorem gds_set {ds : List D} {d : D} (i : Nat) (h : Gds ds) (g : Gd d) : Gds (ds.set i d) := fun e he => by
  rcases List.mem_or_eq_of_mem_set he with he | rfl
  · exact h e he
  · exact g
theorem gds_sub {ds es : List D} (h : Gds ds) (g : ∀ d ∈ es, d ∈ ds) : Gds es := fun e he => h e (g e he)
theorem dig_le {m : Nat} (h : m < 10 ^ 18) : m.repr.toList.length ≤ 18 := by
  have : (Nat.toDigits 10 m).length ≤ 18 := (Nat.length_toDigits_le_iff (by decide) (by decide)).mpr h
  simpa [Nat.repr] using this
theorem strI_ok (i : Int) (h : i.natAbs < 10 ^ 18) : ∃ x, strI (.int i) = some (.str x) ∧ okS x = true ∧ x.length ≤ 19 := by
  refine ⟨Str.ofString (toString i), ?_, ?_, ?_⟩
  · show (if i.natAbs.log2 < 1920 then some (D.str (Str.ofString (toString i))) else none) = _
    rw [if_pos ?_]
    have : i.natAbs < 2 ^ 60 := by omega
    by_cases h0 : i.natAbs = 0
    · rw [h0]; decide
    · have := (Nat.log2_lt h0).mpr this
      omega
  · have a := PySem.W.KSb.asc_num i
    show (Str.ofString (toString i)).cps.all _ = true
    rw [Array.all_eq_true']
    intro c hc
    have := a c (by simpa using hc)
    exact decide_eq_true (by omega)
  · rw [PyProof.Rows.ofString_length]
    cases i with
    | ofNat m =>
      show (m.repr).toList.length ≤ 19
      have := dig_le (m := m) (by simpa using h)
      omega
    | negSucc m =>
      show ("-" ++ (m + 1).repr).toList.length ≤ 19
      have := dig_le (m := m + 1) (by simpa using h)
      simp
      simp at this
      omega
theorem w_astar {f : FD} {g : FA} {ρ : En} {QA : List D → En → Prop} (q : W (f ρ) fun d ρ1 => ∃ l, listD d = some l ∧ W (g ρ1) fun es ρ2 => QA (l ++ es) ρ2) : W (astar f g ρ) QA := by
  obtain ⟨d, ρ1, e1, l, h, es, ρ2, e2, q⟩ := q
  exact ⟨_, _, by unfold astar; rw [e1]; simp only [Out.bind, h, ofO, e2], q⟩
end
end ND

end
section
set_option Elab.async false
set_option linter.all false
set_option maxRecDepth 100000
set_option maxHeartbeats 2000000
/-! NP4: comprehensions that keep some; cells of a row by number; lots -/
namespace ND
open PySem PySem.Spec PyProof.Rows L2
section
variable {β : Type} {ρ : En} {fi : FA} {tf : FG} {ft : FT} {fe : FD} {vs : List Nat} {QV : D × Bool → En → Prop}
theorem lcFM_go (toD h : β → D) (p : β → Bool) (ys : List β) (ρ1 : En) (st : ∀ y ∈ ys, ∃ ρ2, tf (toD y) (wipeE vs ρ1) = some ρ2 ∧ W (ft ρ2) fun k ρ3 => k = p y ∧ (p y = false → wipeE vs ρ3 = wipeE vs ρ1) ∧ (p y = true → W (fe ρ3) fun e ρ4 => e = h y ∧ wipeE vs ρ4 = wipeE vs ρ1)) : ∀ (zs : List β) (out : List D) (ρ : En), (∀ y ∈ zs, y ∈ ys) → out.length + zs.length ≤ big → wipeE vs ρ = wipeE vs ρ1 →
    ∃ ρ', lcL tf ft fe vs (zs.map toD) out ρ = .ok (out ++ (zs.filter p).map h, ρ') ∧ wipeE vs ρ' = wipeE vs ρ1
  | [], out, ρ, _, _, e => ⟨ρ, by simp [lcL], e⟩
  | z :: zs, out, ρ, hm, hl, e => by
    simp only [List.length_cons] at hl
    obtain ⟨ρ2, e2, k, ρ3, e3, rfl, s1, s2⟩ := st z (hm z (.head _))
    cases hp : p z with
    | true =>
      obtain ⟨x, ρ4, e4, rfl, e5⟩ := s2 hp
      obtain ⟨ρ', e6, e7⟩ := lcFM_go toD h p ys ρ1 st zs (out ++ [h z]) ρ4 (fun y hy => hm y (.tail _ hy)) (by simp; omega) e5
      refine ⟨ρ', ?_, e7⟩
      simp only [List.map_cons]
      unfold lcL
      rw [e, e2]
      simp only [e3, noE, Out.bind, hp, if_true, e4]
      rw [if_pos (by omega), e6, List.filter_cons_of_pos hp]
      simp
    | false =>
      obtain ⟨ρ', e6, e7⟩ := lcFM_go toD h p ys ρ1 st zs out ρ3 (fun y hy => hm y (.tail _ hy)) (by omega) (s1 hp)
      refine ⟨ρ', ?_, e7⟩
      simp only [List.map_cons]
      unfold lcL
      rw [e, e2]
      simp only [e3, noE, Out.bind, hp, Bool.false_eq_true, if_false]
      rw [e6, List.filter_cons_of_neg (by simp [hp])]
/-- a comprehension over the image of a list, of which some are kept -/
theorem w_lcFM (toD h : β → D) (p : β → Bool) (ys : List β) (q : W (fi ρ) fun ds ρ1 => ds = ys.map toD ∧ ys.length ≤ big ∧ (∀ y ∈ ys, ∃ ρ2, tf (toD y) (wipeE vs ρ1) = some ρ2 ∧ W (ft ρ2) fun k ρ3 => k = p y ∧ (p y = false → wipeE vs ρ3 = wipeE vs ρ1) ∧ (p y = true → W (fe ρ3) fun e ρ4 => e = h y ∧ wipeE vs ρ4 = wipeE vs ρ1)) ∧
      QV (.lst ((ys.filter p).map h), true) (restE vs ρ1 ρ1)) : W (lcE fi tf ft fe vs ρ) QV := by
  obtain ⟨ds, ρ1, e, rfl, hl, st, q⟩ := q
  obtain ⟨ρ', e1, e2⟩ := lcFM_go toD h p ys ρ1 st ys [] ρ1 (fun _ h => h) (by simpa using hl) rfl
  refine ⟨_, _, ?_, q⟩
  unfold lcE
  rw [e]
  simp only [Out.bind, e1, noE, List.nil_append]
  rw [restE_wipe e2]
end
theorem gds_rev {ds : List D} (h : Gds ds) : Gds ds.reverse := fun d hd => h d (List.mem_reverse.mp hd)
theorem gds_ins {ds : List D} {i : Nat} {d : D} (h : Gds ds) (g : Gd d) : Gds (ds.take i ++ [d] ++ ds.drop i) := fun e he => by
  simp only [List.mem_append, List.mem_singleton] at he
  rcases he with (he | rfl) | he
  · exact h e (List.mem_of_mem_take he)
  · exact g
  · exact h e (List.mem_of_mem_drop he)
theorem gds_erase {ds : List D} {i : Nat} (h : Gds ds) : Gds (ds.eraseIdx i) := fun e he => h e (List.mem_of_mem_eraseIdx he)
theorem len_erase {α : Type} (ds : List α) (i : Nat) : (ds.eraseIdx i).length ≤ ds.length := List.length_eraseIdx_le ..
theorem gd_items_t {ds : List D} (h : Gd (.tup ds)) : Gds ds ∧ ds.length ≤ big := by cases h with | tup l h => exact ⟨h, l⟩
theorem gd_items_l {ds : List D} (h : Gd (.lst ds)) : Gds ds ∧ ds.length ≤ big := by cases h with | lst l h => exact ⟨h, l⟩
theorem ite_ft {α : Type} (a b : α) : (if false = true then a else b) = b := rfl
theorem ite_tt {α : Type} (a b : α) : (if true = true then a else b) = a := rfl
/-- a cell by its number -/
def atC (x : List Cl) (r : Nat) : Cl := x.getD r none
theorem ixT_nat {ds : List D} {r : Nat} {y : D} (h : ds[r]? = some y) : ixD (.tup ds) (.int r) = some y := by
  have hl : r < ds.length := (List.getElem?_eq_some_iff.mp h).1
  show L2.atI ds r = some y
  unfold L2.atI L2.ixN
  rw [if_pos (by omega), if_pos (by omega)]
  exact h
theorem ixL_nat {ds : List D} {r : Nat} {y : D} (h : ds[r]? = some y) : ixD (.lst ds) (.int r) = some y := by
  have hl : r < ds.length := (List.getElem?_eq_some_iff.mp h).1
  show L2.atI ds r = some y
  unfold L2.atI L2.ixN
  rw [if_pos (by omega), if_pos (by omega)]
  exact h
theorem ixC {x : List Cl} {r : Nat} (h : r < x.length) : ixD (encR x) (.int r) = some (encC (atC x r)) := by
  refine ixT_nat ?_
  rw [List.getElem?_map, List.getElem?_eq_getElem h]
  unfold atC
  rw [List.getD_eq_getElem?_getD, List.getElem?_eq_getElem h]
  rfl
def encL (x : List Nat) : D := .tup (x.map fun n : Nat => D.int n)
def fst0 (y : List Nat) : Nat := y.headD 0
theorem ixL0 {y : List Nat} (h : y ≠ []) : ixD (encL y) (.int 0) = some (.int (fst0 y)) := by
  cases y with
  | nil => exact absurd rfl h
  | cons a y => exact ixT_nat (r := 0) rfl
theorem ixLk {y : List Nat} {r : Nat} (h : r < y.length) : ixD (encL y) (.int r) = some (.int (y[r] : Nat)) := by
  refine ixT_nat ?_
  rw [List.getElem?_map, List.getElem?_eq_getElem h]
  rfl
theorem fst0_mem {y : List Nat} (h : y ≠ []) : fst0 y ∈ y := by
  cases y with
  | nil => exact absurd rfl h
  | cons a y => exact .head _
theorem seqL (y : List Nat) : seqOf (encL y) = some (y.map fun n : Nat => D.int n) := rfl
theorem lenL (y : List Nat) : lenD (encL y) = some (.int y.length) := by
  show some (D.int _) = _
  rw [List.length_map]
theorem flatC (c : Cl) : ∃ v, flatD (encC c) = some v ∧ L2.eqV v .non = c.isNone := by cases c <;> exact ⟨_, rfl, rfl⟩
theorem inD_nonC (cs : List Cl) : inD .non (.lst (cs.map encC)) = some (cs.any (·.isNone)) := by
  have : ∃ vs, flatsD (cs.map encC) = some vs ∧ (vs.any fun y => L2.eqV y .non) = cs.any (·.isNone) := by
    induction cs with
    | nil => exact ⟨[], rfl, rfl⟩
    | cons c cs ih =>
      obtain ⟨vs, h1, h2⟩ := ih
      obtain ⟨v, h3, h4⟩ := flatC c
      exact ⟨v :: vs, by simp only [List.map_cons, flatsD, h1, h3], by simp only [List.any_cons, h2, h4]⟩
  obtain ⟨vs, h1, h2⟩ := this
  show (match flatD .non, flatsD (cs.map encC) with | some v, some vs => some (L2.inV v vs) | _, _ => none) = _
  rw [h1, ← h2]
  rfl
theorem nD_inC (cs : List Cl) : nD inD .non (.lst (cs.map encC)) = some (.bl (cs.all (·.isSome))) := by
  unfold nD
  rw [inD_nonC]
  show some (D.bl _) = _
  congr 2
  induction cs with
  | nil => rfl
  | cons c cs ih => simp only [List.any_cons, List.all_cons, Bool.not_or, ih]; cases c <;> rfl
end ND

end
section
set_option Elab.async false
set_option linter.all false
set_option maxRecDepth 100000
set_option maxHeartbeats 2000000
/-! NP5: x[i] of an owned list, pop(i) -/
namespace ND
open PySem PySem.Spec PyProof.Rows L2
section
variable {ρ : En} {i : Nat} {fb : FD} {QD : D → En → Prop}
theorem w_pixE (q : ∃ p, peek ρ i = some p ∧ W (fb ρ) fun k ρ1 => ∃ x, peek ρ1 i = some x ∧ ∃ d, ixD x k = some d ∧ QD d ρ1) : W (pixE i fb ρ) QD := by
  obtain ⟨p, hp, k, ρ1, e1, x, h1, d, h2, q⟩ := q
  exact ⟨_, _, by unfold pixE; rw [hp]; simp only [Out.bind, e1, h1, h2, ofO], q⟩
end
section
variable {ds : List D} {i : Int} {Q : D → Prop}
theorem ex_ixGd (h : Gds ds) (h0 : 0 ≤ i) (h1 : i < ds.length) (q : ∀ d, Gd d → Q d) : ∃ e, ixD (.lst ds) (.int i) = some e ∧ Q e := ex_ix h0 h1 fun d hd => q d (h d hd)
theorem ex_ixGdT (h : Gds ds) (h0 : 0 ≤ i) (h1 : i < ds.length) (q : ∀ d, Gd d → Q d) : ∃ e, ixD (.tup ds) (.int i) = some e ∧ Q e := ex_ixT h0 h1 fun d hd => q d (h d hd)
theorem atI_last (h0 : 0 < ds.length) : ∃ d, L2.atI ds (-1) = some d ∧ d ∈ ds := by
  have h2 : ds.length - 1 < ds.length := by omega
  refine ⟨ds[ds.length - 1], ?_, List.getElem_mem h2⟩
  unfold L2.atI L2.ixN
  rw [if_neg (by decide), if_pos (by omega), Option.bind_some, show (-1 + (ds.length : Int)).toNat = ds.length - 1 from by omega]
  exact List.getElem?_eq_getElem h2
theorem ex_ixGm (h : Gds ds) (h0 : 0 < ds.length) (q : ∀ d, Gd d → Q d) : ∃ e, ixD (.lst ds) (.int (-1)) = some e ∧ Q e := by
  obtain ⟨d, e, m⟩ := atI_last h0
  exact ⟨d, e, q d (h d m)⟩
end
theorem ex_popAt {s : Option SD} {ds : List D} {i : Int} {Q : D → List D → Prop} (h1 : s = some (.ow (.lst ds))) (h0 : 0 ≤ i) (h2 : i < ds.length) (hl : ds.length ≤ big) (q : ∀ e, Q e (ds.eraseIdx i.toNat)) : ∃ ds e ds', s = some (.ow (.lst ds)) ∧ popAtD ds [.int i] = some (e, ds') ∧ Q e ds' := by
  have hi : i.toNat < ds.length := by omega
  refine ⟨ds, ds[i.toNat], _, h1, ?_, q _⟩
  show (if _ then _ else _) = _
  rw [if_pos ⟨by omega, by omega⟩]
  have : seqIndex? i ds.length = some i.toNat := by
    unfold seqIndex?
    have hn : ¬ i < 0 := by omega
    simp [h0, h2, hn]
  rw [this, Option.bind_some, List.getElem?_eq_getElem hi]
  rfl
end ND

end
section
set_option Elab.async false
set_option linter.all false
set_option maxRecDepth 100000
set_option maxHeartbeats 2000000
/-! NP6: numbers in a tuple; dicts by tuples of numbers -/
namespace ND
open PySem PySem.Spec PyProof.Rows L2
theorem flats_L (y : List Nat) : flatsD (y.map fun n : Nat => D.int n) = some (y.map fun n : Nat => L2.V.int n) := by
  induction y with
  | nil => rfl
  | cons i is ih => simp only [List.map_cons, flatsD, flatD, ih]
theorem inV_L (r : Nat) (y : List Nat) : L2.inV (.int r) (y.map fun n : Nat => L2.V.int n) = decide (r ∈ y) := by
  induction y with
  | nil => rfl
  | cons a y ih =>
    show (L2.eqV (.int a) (.int r) || L2.inV (.int r) (y.map fun n : Nat => L2.V.int n)) = _
    rw [ih]
    show (((a : Int) == (r : Int)) || _) = _
    rw [Bool.eq_iff_iff]
    simp
    constructor
    · rintro (h | h)
      · exact .inl (by omega)
      · exact .inr h
    · rintro (h | h)
      · exact .inl (by omega)
      · exact .inr h
theorem inD_T (r : Nat) (y : List Nat) : inD (.int r) (.tup (y.map fun n : Nat => D.int n)) = some (decide (r ∈ y)) := by
  show (match flatD (.int r), flatsD (y.map fun n : Nat => D.int n) with | some v, some vs => some (L2.inV v vs) | _, _ => none) = _
  rw [flats_L, ← inV_L]
  rfl
theorem inD_Ls (r : Nat) (y : List Nat) : inD (.int r) (.lst (y.map fun n : Nat => D.int n)) = some (decide (r ∈ y)) := by
  show (match flatD (.int r), flatsD (y.map fun n : Nat => D.int n) with | some v, some vs => some (L2.inV v vs) | _, _ => none) = _
  rw [flats_L, ← inV_L]
  rfl
theorem inW_T (r : Nat) (y : List Nat) : inW (.int r) (encL y) = some (decide (r ∈ y)) := inW_D (inD_T r y) fun _ => rfl
theorem inW_Ls (r : Nat) (y : List Nat) : inW (.int r) (.lst (y.map fun n : Nat => D.int n)) = some (decide (r ∈ y)) := inW_D (inD_Ls r y) fun _ => rfl
theorem bW_T (r : Nat) (y : List Nat) : bD inW (.int r) (encL y) = some (.bl (decide (r ∈ y))) := by unfold bD; rw [inW_T]; rfl
theorem bW_Ls (r : Nat) (y : List Nat) : bD inW (.int r) (.lst (y.map fun n : Nat => D.int n)) = some (.bl (decide (r ∈ y))) := by unfold bD; rw [inW_Ls]; rfl
theorem nW_T (r : Nat) (y : List Nat) : nD inW (.int r) (encL y) = some (.bl (!decide (r ∈ y))) := by unfold nD; rw [inW_T]; rfl
theorem nW_Ls (r : Nat) (y : List Nat) : nD inW (.int r) (.lst (y.map fun n : Nat => D.int n)) = some (.bl (!decide (r ∈ y))) := by unfold nD; rw [inW_Ls]; rfl
section
variable {β : Type} {ρ : En} {fi : FA} {tf : FG} {ft : FT} {fe : FD} {vs : List Nat} {QV : D × Bool → En → Prop}
theorem lcFI_go (toD h : β → D) (p : β → Bool) (ys : List β) (I : En → Prop) (st : ∀ y ∈ ys, ∀ ρ, I ρ → ∃ ρ2, tf (toD y) (wipeE vs ρ) = some ρ2 ∧ W (ft ρ2) fun k ρ3 => k = p y ∧ (p y = false → I ρ3) ∧ (p y = true → W (fe ρ3) fun e ρ4 => e = h y ∧ I ρ4)) : ∀ (zs : List β) (out : List D) (ρ : En), (∀ y ∈ zs, y ∈ ys) → out.length + zs.length ≤ big → I ρ →
    ∃ ρ', lcL tf ft fe vs (zs.map toD) out ρ = .ok (out ++ (zs.filter p).map h, ρ') ∧ I ρ'
  | [], out, ρ, _, _, e => ⟨ρ, by simp [lcL], e⟩
  | z :: zs, out, ρ, hm, hl, e => by
    simp only [List.length_cons] at hl
    obtain ⟨ρ2, e2, k, ρ3, e3, rfl, s1, s2⟩ := st z (hm z (.head _)) ρ e
    cases hp : p z with
    | true =>
      obtain ⟨x, ρ4, e4, rfl, e5⟩ := s2 hp
      obtain ⟨ρ', e6, e7⟩ := lcFI_go toD h p ys I st zs (out ++ [h z]) ρ4 (fun y hy => hm y (.tail _ hy)) (by simp; omega) e5
      refine ⟨ρ', ?_, e7⟩
      simp only [List.map_cons]
      unfold lcL
      rw [e2]
      simp only [e3, noE, Out.bind, hp, if_true, e4]
      rw [if_pos (by omega), e6, List.filter_cons_of_pos hp]
      simp
    | false =>
      obtain ⟨ρ', e6, e7⟩ := lcFI_go toD h p ys I st zs out ρ3 (fun y hy => hm y (.tail _ hy)) (by omega) (s1 hp)
      refine ⟨ρ', ?_, e7⟩
      simp only [List.map_cons]
      unfold lcL
      rw [e2]
      simp only [e3, noE, Out.bind, hp, Bool.false_eq_true, if_false]
      rw [e6, List.filter_cons_of_neg (by simp [hp])]
/-- .. where something is kept true -/
theorem w_lcFI (toD h : β → D) (p : β → Bool) (ys : List β) (q : W (fi ρ) fun ds ρ1 => ds = ys.map toD ∧ ys.length ≤ big ∧ ∃ I : En → Prop, I ρ1 ∧ (∀ y ∈ ys, ∀ ρ, I ρ → ∃ ρ2, tf (toD y) (wipeE vs ρ) = some ρ2 ∧ W (ft ρ2) fun k ρ3 => k = p y ∧ (p y = false → I ρ3) ∧ (p y = true → W (fe ρ3) fun e ρ4 => e = h y ∧ I ρ4)) ∧
      ∀ ρ', I ρ' → QV (.lst ((ys.filter p).map h), true) (restE vs ρ1 ρ')) : W (lcE fi tf ft fe vs ρ) QV := by
  obtain ⟨ds, ρ1, e, rfl, hl, I, i1, st, q⟩ := q
  obtain ⟨ρ', e1, e2⟩ := lcFI_go toD h p ys I st ys [] ρ1 (fun _ h => h) (by simpa using hl) i1
  refine ⟨_, _, ?_, q ρ' e2⟩
  unfold lcE
  rw [e]
  simp only [Out.bind, e1, noE, List.nil_append]
end
/-! dicts by tuples of numbers -/
def keyL (y : List Nat) : List L2.Key := y.map fun n : Nat => Sum.inl (n : Int)
theorem keysL (y : List Nat) : keysOf (y.map fun n : Nat => D.int n) = some (keyL y) := by
  induction y with
  | nil => rfl
  | cons a y ih =>
    show (keyOf (.int a)).bind _ = _
    rw [show keyOf (D.int a) = some (Sum.inl (a : Int)) from rfl, Option.bind_some, ih]
    rfl
theorem keyL_inj {x y : List Nat} (h : keyL x = keyL y) : x = y := by
  unfold keyL at h
  induction x generalizing y with
  | nil => cases y with
    | nil => rfl
    | cons b y => cases h
  | cons a x ih => cases y with
    | nil => cases h
    | cons b y =>
      simp only [List.map_cons, List.cons.injEq, Sum.inl.injEq] at h
      rw [ih h.2]
      congr 1
      omega
variable {ks : List (List L2.Key × D)} {y : List Nat} {d : D}
theorem look_T : lookD (.dct ks) (encL y) = some (valD ks (keyL y)) := by
  show (keysOf _).map _ = _
  rw [keysL]
  rfl
theorem inG_T : bD inG (encL y) (.dct ks) = some (.bl (valD ks (keyL y)).isSome) := by
  unfold bD inG
  rw [look_T]
  rfl
theorem nG_T : nD inG (encL y) (.dct ks) = some (.bl (!(valD ks (keyL y)).isSome)) := by
  unfold nD inG
  rw [look_T]
  rfl
theorem ixG_T (h : valD ks (keyL y) = some d) : ixG (.dct ks) (encL y) = some d := by
  unfold ixG
  rw [look_T, h]
theorem setDc_T (h : ks.length < big) : setDc (.dct ks) (encL y) d = some (.dct (putKD ks (keyL y) d)) := by
  show (keysOf _).bind _ = _
  rw [keysL, Option.bind_some, if_pos h]
theorem put_mem {κ : Type} [DecidableEq κ] {ks : List (κ × D)} {k : κ} {d : D} {P : κ × D → Prop} (h : ∀ p ∈ ks, P p) (g : P (k, d)) : ∀ p ∈ putKD ks k d, P p := fun p hp => by
  unfold putKD at hp
  split at hp
  · obtain ⟨q, hq, e⟩ := List.mem_map.mp hp
    split at e
    · rename_i hk
      rw [← e, hk]
      exact g
    · rw [← e]
      exact h q hq
  · rcases List.mem_append.mp hp with hp | hp
    · exact h p hp
    · rw [List.mem_singleton] at hp
      rw [hp]
      exact g
theorem put_len {κ : Type} [DecidableEq κ] {ks : List (κ × D)} {k : κ} {d : D} : (putKD ks k d).length ≤ ks.length + 1 := by
  unfold putKD
  split
  · rw [List.length_map]; omega
  · rw [List.length_append]; exact Nat.le_refl _
theorem val_mem {κ : Type} [DecidableEq κ] {ks : List (κ × D)} {k : κ} {d : D} (h : valD ks k = some d) : (k, d) ∈ ks := by
  unfold valD at h
  obtain ⟨p, hp, rfl⟩ := Option.map_eq_some_iff.mp h
  have h1 := List.mem_of_find?_eq_some hp
  have h2 := of_decide_eq_true (List.find?_some (p := fun p : κ × D => decide (p.1 = k)) hp)
  rw [← h2]
  exact h1
theorem minD_nat (i j : Nat) : minD [.int i, .int j] = some (.int (min i j : Nat)) := by
  show some (D.int _) = _
  congr 2
  by_cases h : j < i
  · rw [if_pos (by omega)]; omega
  · rw [if_neg (by omega)]; omega
end ND

end
section
set_option Elab.async false
set_option linter.all false
set_option maxRecDepth 100000
set_option maxHeartbeats 2000000
/-! NP7: == of plain data without truths: it is equality -/
namespace ND
open PySem PySem.Spec PyProof.Rows L2
inductive Pd : Nat → D → Prop
  | non (n : Nat) : Pd n .non
  | int (n : Nat) (i : Int) : Pd n (.int i)
  | str (n : Nat) {x : Str} (h : okS x = true) : Pd n (.str x)
  | tup {n : Nat} {ds : List D} (h : ∀ d ∈ ds, Pd n d) : Pd (n + 1) (.tup ds)
  | lst {n : Nat} {ds : List D} (h : ∀ d ∈ ds, Pd n d) : Pd (n + 1) (.lst ds)
theorem pd_toPy {n : Nat} {d : D} (h : Pd n d) : ∃ p, toPy d = some p ∧ p.canLay0 = true ∧ p.depth ≤ n := by
  induction h with
  | non n => exact ⟨_, rfl, rfl, Nat.zero_le _⟩
  | int n i => exact ⟨_, rfl, rfl, Nat.zero_le _⟩
  | str n h => exact ⟨_, rfl, h, Nat.zero_le _⟩
  | @tup n ds h ih =>
    have : ∃ ps, toPys ds = some ps ∧ PyData.canLayAll0 ps = true ∧ PyData.depthAll ps ≤ n := by
      clear h
      induction ds with
      | nil => exact ⟨[], rfl, rfl, Nat.zero_le _⟩
      | cons d ds ihd =>
        obtain ⟨p, h1, h2, h3⟩ := ih d (.head _)
        obtain ⟨ps, h4, h5, h6⟩ := ihd fun e he => ih e (.tail _ he)
        exact ⟨p :: ps, by simp only [toPys, h1, h4], by simp only [PyData.canLayAll0, h2, h5]; rfl, by simp only [PyData.depthAll]; omega⟩
    obtain ⟨ps, h1, h2, h3⟩ := this
    exact ⟨.tuple ps, by simp only [toPy, h1]; rfl, h2, by simp only [PyData.depth]; omega⟩
  | @lst n ds h ih =>
    have : ∃ ps, toPys ds = some ps ∧ PyData.canLayAll0 ps = true ∧ PyData.depthAll ps ≤ n := by
      clear h
      induction ds with
      | nil => exact ⟨[], rfl, rfl, Nat.zero_le _⟩
      | cons d ds ihd =>
        obtain ⟨p, h1, h2, h3⟩ := ih d (.head _)
        obtain ⟨ps, h4, h5, h6⟩ := ihd fun e he => ih e (.tail _ he)
        exact ⟨p :: ps, by simp only [toPys, h1, h4], by simp only [PyData.canLayAll0, h2, h5]; rfl, by simp only [PyData.depthAll]; omega⟩
    obtain ⟨ps, h1, h2, h3⟩ := this
    exact ⟨.list ps, by simp only [toPy, h1]; rfl, h2, by simp only [PyData.depth]; omega⟩
theorem pds_toPy {n : Nat} : ∀ {ds : List D}, (∀ d ∈ ds, Pd n d) → ∃ ps, toPys ds = some ps
  | [], _ => ⟨[], rfl⟩
  | d :: ds, h => by
    obtain ⟨p, h1, _⟩ := pd_toPy (h d (.head _))
    obtain ⟨ps, h2⟩ := pds_toPy fun e he => h e (.tail _ he)
    exact ⟨p :: ps, by simp only [toPys, h1, h2]⟩
theorem eqv_all {n : Nat} (ih : ∀ {d e : D} {p q : PyData}, Pd n d → Pd n e → toPy d = some p → toPy e = some q → (PyData.eqv p q = true ↔ d = e)) : ∀ {ds es : List D} {ps qs : List PyData}, (∀ d ∈ ds, Pd n d) → (∀ d ∈ es, Pd n d) → toPys ds = some ps → toPys es = some qs → (PyData.eqvAll ps qs = true ↔ ds = es)
  | [], [], _, _, _, _, h1, h2 => by
    simp only [toPys, Option.some.injEq] at h1 h2
    subst h1 h2
    simp [PyData.eqvAll]
  | [], e :: es, _, qs, _, g, h1, h2 => by
    simp only [toPys, Option.some.injEq] at h1
    obtain ⟨q, hq, _⟩ := pd_toPy (g e (.head _))
    obtain ⟨qs', hqs⟩ := pds_toPy fun z hz => g z (.tail _ hz)
    simp only [toPys, hq, hqs, Option.some.injEq] at h2
    subst h1 h2
    simp [PyData.eqvAll]
  | d :: ds, [], ps, _, g, _, h1, h2 => by
    simp only [toPys, Option.some.injEq] at h2
    obtain ⟨q, hq, _⟩ := pd_toPy (g d (.head _))
    obtain ⟨qs', hqs⟩ := pds_toPy fun z hz => g z (.tail _ hz)
    simp only [toPys, hq, hqs, Option.some.injEq] at h1
    subst h1 h2
    simp [PyData.eqvAll]
  | d :: ds, e :: es, ps, qs, g, g2, h1, h2 => by
    obtain ⟨p, hp, _⟩ := pd_toPy (g d (.head _))
    obtain ⟨ps', hps⟩ := pds_toPy fun z hz => g z (.tail _ hz)
    obtain ⟨q, hq, _⟩ := pd_toPy (g2 e (.head _))
    obtain ⟨qs', hqs⟩ := pds_toPy fun z hz => g2 z (.tail _ hz)
    simp only [toPys, hp, hps, Option.some.injEq] at h1
    simp only [toPys, hq, hqs, Option.some.injEq] at h2
    subst h1 h2
    simp only [PyData.eqvAll, Bool.and_eq_true, List.cons.injEq]
    rw [ih (g d (.head _)) (g2 e (.head _)) hp hq, eqv_all ih (fun z hz => g z (.tail _ hz)) (fun z hz => g2 z (.tail _ hz)) hps hqs]
theorem pd_eqv : ∀ {n : Nat} {d e : D} {p q : PyData}, Pd n d → Pd n e → toPy d = some p → toPy e = some q → (PyData.eqv p q = true ↔ d = e) := by
  intro n
  induction n with
  | zero =>
    intro d e p q h g h1 h2
    cases h <;> cases g <;> simp only [toPy, Option.some.injEq] at h1 h2 <;> subst h1 h2 <;> simp [PyData.eqv]
  | succ n ih =>
    intro d e p q h g h1 h2
    cases h <;> cases g
    case tup.tup ds hd es he =>
      obtain ⟨ps, hp⟩ := pds_toPy hd
      obtain ⟨qs, hq⟩ := pds_toPy he
      simp only [toPy, hp, Option.map_some, Option.some.injEq] at h1
      simp only [toPy, hq, Option.map_some, Option.some.injEq] at h2
      subst h1 h2
      simp only [PyData.eqv, D.tup.injEq]
      exact eqv_all ih hd he hp hq
    case lst.lst ds hd es he =>
      obtain ⟨ps, hp⟩ := pds_toPy hd
      obtain ⟨qs, hq⟩ := pds_toPy he
      simp only [toPy, hp, Option.map_some, Option.some.injEq] at h1
      simp only [toPy, hq, Option.map_some, Option.some.injEq] at h2
      subst h1 h2
      simp only [PyData.eqv, D.lst.injEq]
      exact eqv_all ih hd he hp hq
    all_goals first
      | (simp only [toPy, Option.some.injEq] at h1 h2; subst h1 h2; simp [PyData.eqv]; done)
      | (simp only [toPy, Option.map_eq_some_iff, Option.some.injEq] at h1 h2
         first
           | (obtain ⟨_, _, rfl⟩ := h1; obtain ⟨_, _, rfl⟩ := h2; simp [PyData.eqv]; done)
           | (obtain ⟨_, _, rfl⟩ := h1; subst h2; simp [PyData.eqv]; done)
           | (subst h1; obtain ⟨_, _, rfl⟩ := h2; simp [PyData.eqv]; done))
open Classical in
theorem eqD_pd {n : Nat} {d e : D} (h : Pd n d) (g : Pd n e) (hn : n ≤ 64) : eqD d e = some (decide (d = e)) := by
  obtain ⟨p, h1, h2, h3⟩ := pd_toPy h
  obtain ⟨q, g1, g2, g3⟩ := pd_toPy g
  unfold eqD
  rw [h1, g1]
  dsimp only
  have s1 : SeqAt.shaped p = true := by unfold SeqAt.shaped; rw [h2, decide_eq_true (by omega)]; rfl
  have s2 : SeqAt.shaped q = true := by unfold SeqAt.shaped; rw [g2, decide_eq_true (by omega)]; rfl
  rw [s1, s2, if_pos (show (true && true) = true from rfl)]
  congr 1
  rw [Bool.eq_iff_iff, pd_eqv h g h1 g1, decide_eq_true_eq]
open Classical in
theorem eqD_to {n : Nat} {d e : D} {b : Bool} (h : Pd n d) (g : Pd n e) (hn : n ≤ 64) (hb : b = true ↔ d = e) : eqD d e = some b := by
  rw [eqD_pd h g hn]
  congr 1
  rw [Bool.eq_iff_iff, decide_eq_true_eq, hb]
theorem pd_L (y : List Nat) : Pd 1 (encL y) := .tup fun d hd => by
  obtain ⟨n, _, rfl⟩ := List.mem_map.mp hd
  exact .int _ _
theorem encL_inj {x y : List Nat} (h : encL x = encL y) : x = y := by
  unfold encL at h
  simp only [D.tup.injEq] at h
  induction x generalizing y with
  | nil => cases y with
    | nil => rfl
    | cons b y => cases h
  | cons a x ih => cases y with
    | nil => cases h
    | cons b y =>
      simp only [List.map_cons, List.cons.injEq, D.int.injEq] at h
      rw [ih h.2]
      congr 1
      omega
theorem eqL (x y : List Nat) : eqD (encL x) (encL y) = some (decide (x = y)) := eqD_to (pd_L x) (pd_L y) (by decide) (by rw [decide_eq_true_eq]; exact ⟨fun h => by rw [h], encL_inj⟩)
theorem bD_eqL (x y : List Nat) : bD eqD (encL x) (encL y) = some (.bl (decide (x = y))) := by unfold bD; rw [eqL]; rfl
theorem nD_eqL (x y : List Nat) : nD eqD (encL x) (encL y) = some (.bl (!decide (x = y))) := by unfold nD; rw [eqL]; rfl
/-- x in a list of plain data -/
theorem inQ_pd {n : Nat} {d : D} {ds : List D} {b : Bool} (h : Pd n d) (g : ∀ e ∈ ds, Pd n e) (hn : n ≤ 63) (hb : b = true ↔ d ∈ ds) : inQ d (.lst ds) = some b := by
  obtain ⟨p, h1, h2, h3⟩ := pd_toPy h
  obtain ⟨q, g1, g2, g3⟩ := pd_toPy (Pd.lst g)
  obtain ⟨qs, hqs⟩ := pds_toPy g
  simp only [toPy, hqs, Option.map_some, Option.some.injEq] at g1
  subst g1
  unfold inQ
  rw [h1]
  simp only [toPy, hqs, Option.map_some]
  have s1 : SeqAt.shaped p = true := by unfold SeqAt.shaped; rw [h2, decide_eq_true (by omega)]; rfl
  have s2 : SeqAt.shaped (.list qs) = true := by unfold SeqAt.shaped; rw [g2, decide_eq_true (by omega)]; rfl
  rw [s1, s2, Bool.and_true, if_pos rfl]
  congr 1
  rw [Bool.eq_iff_iff, hb]
  clear hb g2 g3 s2
  induction ds generalizing qs with
  | nil =>
    simp only [toPys, Option.some.injEq] at hqs
    subst hqs
    simp
  | cons e ds ih =>
    obtain ⟨q, hq, _⟩ := pd_toPy (g e (.head _))
    obtain ⟨qs', hqs'⟩ := pds_toPy fun z hz => g z (.tail _ hz)
    simp only [toPys, hq, hqs', Option.some.injEq] at hqs
    subst hqs
    simp only [List.any_cons, Bool.or_eq_true, List.mem_cons]
    rw [pd_eqv (g e (.head _)) h hq h1, ih (fun z hz => g z (.tail _ hz)) qs' hqs', eq_comm]
end ND

end
section
set_option Elab.async false
set_option linter.all false
set_option maxRecDepth 100000
set_option maxHeartbeats 2000000
/-! NP8: least and greatest of cells -/
namespace ND
open PySem PySem.Spec PyProof.Rows L2
theorem fold_min (is : List Int) (i : Int) : is.foldl min i ∈ i :: is ∧ ∀ j ∈ i :: is, is.foldl min i ≤ j :=
  foldl_ext (fun a b => a ≤ b) (fun _ => Int.le_refl _) (fun _ _ _ => Int.le_trans) (fun a b => by
    rcases Int.le_total a b with h | h
    · exact .inl ⟨Int.min_eq_left h, h⟩
    · exact .inr ⟨Int.min_eq_right h, h⟩) is i
theorem fold_max (is : List Int) (i : Int) : is.foldl max i ∈ i :: is ∧ ∀ j ∈ i :: is, j ≤ is.foldl max i :=
  foldl_ext (fun a b => b ≤ a) (fun _ => Int.le_refl _) (fun _ _ _ h g => Int.le_trans g h) (fun a b => by
    rcases Int.le_total a b with h | h
    · exact .inr ⟨Int.max_eq_right h, h⟩
    · exact .inl ⟨Int.max_eq_left h, h⟩) is i
theorem min_eq_max (is : List Int) (i : Int) : is.foldl min i = is.foldl max i ↔ ∀ j ∈ i :: is, j = i := by
  obtain ⟨m1, m2⟩ := fold_min is i
  obtain ⟨x1, x2⟩ := fold_max is i
  constructor
  · intro h j hj
    have a := m2 j hj
    have b := x2 j hj
    have a0 := m2 i (.head _)
    have b0 := x2 i (.head _)
    omega
  · intro h
    rw [h _ m1, h _ x1]
theorem ints_map (vs : List Int) : intsL (vs.map D.int) = some vs := by
  induction vs with
  | nil => rfl
  | cons v vs ih => simp only [List.map_cons, intsL, ih, Option.map_some]
theorem min_ints (i : Int) (is : List Int) : minL (.lst ((i :: is).map D.int)) = some (.int (is.foldl min i)) := by
  unfold minL foldI
  dsimp only
  rw [ints_map]
theorem max_ints (i : Int) (is : List Int) : maxL (.lst ((i :: is).map D.int)) = some (.int (is.foldl max i)) := by
  unfold maxL foldI
  dsimp only
  rw [ints_map]
end ND

end
section
set_option Elab.async false
set_option linter.all false
set_option maxRecDepth 100000
set_option maxHeartbeats 2000000
/-! NP9: sets of rows and columns as numbers -/
namespace ND
open PySem PyProof.Rows L2
open PySem.Builtin (bitAnd bitOr bitNot)
theorem andN (a b : Nat) : bitAnd (a : Int) (b : Int) = ((a &&& b : Nat) : Int) := by
  unfold bitAnd
  rw [decide_eq_true (by omega), decide_eq_true (by omega)]
  simp
theorem notN_neg (b : Nat) : bitNot (b : Int) = -(b : Int) - 1 := rfl
theorem orN (a b : Nat) : bitOr (a : Int) (b : Int) = ((a ||| b : Nat) : Int) := by
  unfold bitOr
  have : bitAnd (bitNot (a : Int)) (bitNot (b : Int)) = bitNot ((a ||| b : Nat) : Int) := by
    unfold bitAnd
    rw [decide_eq_false (by unfold bitNot; omega), decide_eq_false (by unfold bitNot; omega)]
    dsimp only
    have h : ∀ n : Nat, (bitNot (bitNot (n : Int))).toNat = n := fun n => by unfold bitNot; omega
    rw [h, h]
  rw [this]
  unfold bitNot
  omega
/-- a without the bits of b -/
def offN (a b : Nat) : Nat := a - (a &&& b)
theorem and_le (a b : Nat) : a &&& b ≤ a := Nat.and_le_left
theorem andNotN (a b : Nat) : bitAnd (a : Int) (bitNot (b : Int)) = ((offN a b : Nat) : Int) := by
  unfold bitAnd
  rw [decide_eq_true (by omega), decide_eq_false (by unfold bitNot; omega)]
  dsimp only
  have h : ∀ n : Nat, (bitNot (bitNot (n : Int))).toNat = n := fun n => by unfold bitNot; omega
  rw [h, Int.toNat_natCast]
  unfold offN
  have := and_le a b
  omega
theorem off_split (a b : Nat) : a = (a &&& b) + offN a b := by
  unfold offN
  have := and_le a b
  omega
theorem add_or : ∀ n a b : Nat, a < 2 ^ n → a &&& b = 0 → a + b = a ||| b
  | 0, a, b, h, _ => by
    have : a = 0 := by simpa using h
    subst this
    simp
  | n + 1, a, b, h, g => by
    have h2 : (a / 2) &&& (b / 2) = 0 := by rw [← Nat.and_div_two, g]
    have ih := add_or n (a / 2) (b / 2) (by rw [Nat.pow_succ] at h; omega) h2
    have e : (a ||| b) / 2 = a / 2 ||| b / 2 := Nat.or_div_two
    have m1 := Nat.or_mod_two_eq_one (a := a) (b := b)
    have m2 := Nat.and_mod_two_eq_one (a := a) (b := b)
    rw [g] at m2
    omega
theorem off_test (a b i : Nat) : (offN a b).testBit i = (a.testBit i && !b.testBit i) := by
  have e : offN a b = a ^^^ (a &&& b) := by
    have h : (a ^^^ (a &&& b)) &&& (a &&& b) = 0 := by
      apply Nat.eq_of_testBit_eq
      intro i
      simp only [Nat.testBit_and, Nat.testBit_xor, Nat.zero_testBit]
      cases a.testBit i <;> cases b.testBit i <;> rfl
    have h2 : (a ^^^ (a &&& b)) ||| (a &&& b) = a := by
      apply Nat.eq_of_testBit_eq
      intro i
      simp only [Nat.testBit_and, Nat.testBit_or, Nat.testBit_xor]
      cases a.testBit i <;> cases b.testBit i <;> rfl
    have h3 : (a ^^^ (a &&& b)) + (a &&& b) = (a ^^^ (a &&& b)) ||| (a &&& b) := by
      exact add_or _ _ _ Nat.lt_two_pow_self h
    unfold offN
    omega
  rw [e]
  simp only [Nat.testBit_xor, Nat.testBit_and]
  cases a.testBit i <;> cases b.testBit i <;> rfl
/-! masks -/
def MaskOk (m : Nat) (p : Nat → Bool) : Prop := ∀ i, m.testBit i = p i
theorem mask_zero {m : Nat} {p : Nat → Bool} (h : MaskOk m p) : m = 0 ↔ ∀ i, p i = false := by
  constructor
  · intro e i
    rw [← h i, e, Nat.zero_testBit]
  · intro g
    apply Nat.eq_of_testBit_eq
    intro i
    rw [h i, g i, Nat.zero_testBit]
def maskN (y : List Nat) : Nat := y.foldl (fun m n => m ||| 1 <<< n) 0
theorem one_shl (n i : Nat) : (1 <<< n).testBit i = decide (i = n) := by
  rw [Nat.shiftLeft_eq, Nat.one_mul, Nat.testBit_two_pow]
  rw [Bool.eq_iff_iff]
  simp [eq_comm]
theorem mask_fold : ∀ (y : List Nat) (m i : Nat), (y.foldl (fun m n => m ||| 1 <<< n) m).testBit i = (m.testBit i || decide (i ∈ y))
  | [], m, i => by simp
  | n :: y, m, i => by
    simp only [List.foldl_cons]
    rw [mask_fold y, Nat.testBit_or, one_shl, Bool.or_assoc]
    congr 1
    rw [Bool.eq_iff_iff]
    simp
theorem mask_ok (y : List Nat) : MaskOk (maskN y) fun i => decide (i ∈ y) := fun i => by
  unfold maskN
  rw [mask_fold, Nat.zero_testBit, Bool.false_or]
/-! columns -/
def CodeOk (n : Nat) (x : List Cl) : Prop := ∀ i, n.testBit i = decide (atC x (i % 8) = some (i / 8))
def V3 (x : List Cl) : Prop := ∀ r s, atC x r = some s → s < 3
theorem atC_none {x : List Cl} {r : Nat} (h : x.length ≤ r) : atC x r = none := by
  unfold atC
  rw [List.getD_eq_getElem?_getD, List.getElem?_eq_none h]
  rfl
/-- the rows that answer -/
def ansM (n : Nat) : Nat := (n ||| n >>> 8 ||| n >>> 16) &&& 255
theorem bits255 (i : Nat) : (255 : Nat).testBit i = decide (i < 8) := by
  have := Nat.testBit_two_pow_sub_one 8 i
  exact this
theorem ansM_ok {n : Nat} {x : List Cl} (h : CodeOk n x) (v : V3 x) (hl : x.length ≤ 8) : MaskOk (ansM n) fun r => (atC x r).isSome := fun r => by
  unfold ansM
  rw [Nat.testBit_and, bits255, Nat.testBit_or, Nat.testBit_or, Nat.testBit_shiftRight, Nat.testBit_shiftRight, h, h, h]
  by_cases hr : r < 8
  · rw [show r % 8 = r from by omega, show r / 8 = 0 from by omega, show (8 + r) % 8 = r from by omega, show (8 + r) / 8 = 1 from by omega, show (16 + r) % 8 = r from by omega, show (16 + r) / 8 = 2 from by omega, decide_eq_true hr, Bool.and_true]
    show _ = (atC x r).isSome
    cases hx : atC x r with
    | none => simp
    | some s =>
      have := v r s hx
      match s, this with
      | 0, _ => simp
      | 1, _ => simp
      | 2, _ => simp
  · show _ = (atC x r).isSome
    rw [decide_eq_false hr, Bool.and_false, atC_none (by omega)]
    rfl
/-- a sign in all rows of a mask -/
def signM (n s : Nat) : Nat := n >>> (8 * s)
theorem signM_test {n s r : Nat} {x : List Cl} (h : CodeOk n x) (hr : r < 8) : (signM n s).testBit r = decide (atC x r = some s) := by
  unfold signM
  rw [Nat.testBit_shiftRight, h, show (8 * s + r) % 8 = r from by omega, show (8 * s + r) / 8 = s from by omega]
def codeN (x : List Cl) : Nat := (x.zipIdx 0).foldl (fun m p => match p.1 with | none => m | some s => m ||| 1 <<< (8 * s + p.2)) 0
theorem code_fold : ∀ (x : List Cl) (k m i : Nat), ((x.zipIdx k).foldl (fun m p => match p.1 with | none => m | some s => m ||| 1 <<< (8 * s + p.2)) m).testBit i = true ↔ (m.testBit i = true ∨ ∃ r s, x[r]? = some (some s) ∧ i = 8 * s + (k + r))
  | [], k, m, i => by simp
  | c :: x, k, m, i => by
    simp only [List.zipIdx_cons, List.foldl_cons]
    rw [code_fold x]
    have e : (∃ r s, (c :: x)[r]? = some (some s) ∧ i = 8 * s + (k + r)) ↔ ((∃ s, c = some s ∧ i = 8 * s + k) ∨ ∃ r s, x[r]? = some (some s) ∧ i = 8 * s + (k + 1 + r)) := by
      constructor
      · rintro ⟨r, s, h1, h2⟩
        cases r with
        | zero => exact .inl ⟨s, by simpa using h1, by simpa using h2⟩
        | succ r => exact .inr ⟨r, s, by simpa using h1, by omega⟩
      · rintro (⟨s, h1, h2⟩ | ⟨r, s, h1, h2⟩)
        · exact ⟨0, s, by simpa using h1, by simpa using h2⟩
        · exact ⟨r + 1, s, by simpa using h1, by omega⟩
    rw [e, ← or_assoc]
    refine or_congr ?_ Iff.rfl
    cases c with
    | none => simp
    | some s =>
      dsimp only
      rw [Nat.testBit_or, one_shl, Bool.or_eq_true, decide_eq_true_eq]
      refine or_congr Iff.rfl ?_
      constructor
      · intro h
        exact ⟨s, rfl, h⟩
      · rintro ⟨s', h, h2⟩
        cases h
        exact h2
theorem code_ok {x : List Cl} (hl : x.length ≤ 8) : CodeOk (codeN x) x := fun i => by
  unfold codeN
  rw [Bool.eq_iff_iff, code_fold, Nat.zero_testBit, decide_eq_true_eq]
  unfold atC
  rw [List.getD_eq_getElem?_getD]
  constructor
  · rintro (h | ⟨r, s, h1, h2⟩)
    · cases h
    · have hr : r < x.length := (List.getElem?_eq_some_iff.mp h1).1
      rw [show i % 8 = r from by omega, h1, show i / 8 = s from by omega]
      rfl
  · intro h
    refine .inr ⟨i % 8, i / 8, ?_, by omega⟩
    cases hx : x[i % 8]? with
    | none => rw [hx] at h; cases h
    | some c => rw [hx] at h; rw [show c = some (i / 8) from h]
end ND

end
section
set_option Elab.async false
set_option linter.all false
set_option maxRecDepth 100000
set_option maxHeartbeats 2000000
/-! NP10: lots, pairs of lots and reaches, columns: plain laws (from k16) -/
namespace ND
open PySem
variable {d : D} {b : Bag} {R : D → Bool → Bag → Prop} {c : Nat} {x : List Cl} {y : List Nat} {p : List Nat × List Nat} {ps : List (List Nat × List Nat)} {n : Nat}
def startN (x : List Nat) : Nat := match x.getLast? with
  | none => 0
  | some v => v + 1
def extN (c : Nat) (x : List Nat) : List (List Nat) := (List.range (c - startN x)).map fun i => x ++ [startN x + i]
def layN (c : Nat) : Nat → List (List Nat)
  | 0 => [[]]
  | k + 1 => (layN c k).flatMap (extN c)
def lotsN (c : Nat) : Nat → List (List Nat)
  | 0 => []
  | k + 1 => lotsN c k ++ layN c (k + 1)
theorem lots_len : ∀ c, c ≤ 7 → ∀ k, k ≤ 7 → (lotsN c k).length ≤ 200 ∧ (layN c k).length ≤ 200 := by
  have : ∀ c : Fin 8, ∀ k : Fin 8, (lotsN c k).length ≤ 200 ∧ (layN c k).length ≤ 200 := by decide +kernel
  exact fun c hc k hk => this ⟨c, by omega⟩ ⟨k, by omega⟩
theorem sum_ext (layer : List (List Nat)) : (layer.map fun y => (List.range (c - startN y)).length).sum = (layer.flatMap (extN c)).length := by
  induction layer with
  | nil => rfl
  | cons x xs ih => simp only [List.map_cons, List.sum_cons, List.flatMap_cons, List.length_append, ih]; unfold extN; simp
theorem lots_step (k : Nat) : (lotsN c (k + 1)).map encL = (lotsN c k).map encL ++ (layN c (k + 1)).map encL := List.map_append
theorem lay_step (k : Nat) : layN c (k + 1) = (layN c k).flatMap (extN c) := rfl
theorem startN_nil : startN [] = 0 := rfl
theorem tru_enc (x : List Nat) : truD (encL x) = some (!x.isEmpty) := by cases x <;> rfl
theorem last_enc (x : List Nat) (h : x ≠ []) : ∃ v : Nat, startN x = v + 1 ∧ ixD (encL x) (.int (-1)) = some (.int v) := by
  obtain ⟨v, hv⟩ : ∃ v, x.getLast? = some v := by
    cases hx : x.getLast? with
    | none => exact absurd (List.getLast?_eq_none_iff.mp hx) h
    | some v => exact ⟨v, rfl⟩
  have hl : 0 < x.length := List.length_pos_iff.mpr h
  refine ⟨v, by unfold startN; rw [hv], ?_⟩
  show L2.atI (x.map fun n : Nat => D.int n) (-1) = _
  unfold L2.atI L2.ixN
  rw [if_neg (by decide), if_pos (by rw [List.length_map]; omega), List.length_map, Option.bind_some]
  rw [List.getLast?_eq_getElem?] at hv
  rw [List.getElem?_map, show (-1 + (x.length : Int)).toNat = x.length - 1 from by omega, hv]
  rfl
theorem lay_le : ∀ c, c ≤ 7 → ∀ k, k ≤ 7 → ∀ y ∈ layN c k, startN y ≤ c ∧ y.length ≤ 7 := by
  have : ∀ c : Fin 8, ∀ k : Fin 8, ∀ y ∈ layN c k, startN y ≤ c.val ∧ y.length ≤ 7 := by decide +kernel
  exact fun c hc k hk => this ⟨c, by omega⟩ ⟨k, by omega⟩
theorem rngO2 (s c : Nat) (hs : s ≤ big) (hc : c ≤ big) : rngO [.int (s : Nat), .int (c : Nat)] = some ((List.range (c - s)).map fun i => D.int (s + i : Nat)) := by
  show (if _ then some (rng _ _) else none) = _
  rw [if_pos ⟨by omega, by omega, by omega, by omega⟩]
  unfold rng
  rw [show ((c : Int) - (s : Int)).toNat = c - s from by omega]
  congr 2
theorem fm_enc (layer : List (List Nat)) : (layer.flatMap fun y => (List.range (c - startN y)).map fun i => encL (y ++ [startN y + i])) = (layer.flatMap (extN c)).map encL := by
  induction layer with
  | nil => rfl
  | cons x xs ih =>
    simp only [List.flatMap_cons, List.map_append, ih]
    congr 1
    unfold extN
    rw [List.map_map]
    rfl
theorem lay_part {k : Nat} {pre suf : List (List Nat)} {y : List Nat} (e : layN c k = pre ++ y :: suf) : (pre.flatMap (extN c)).length + (c - startN y) ≤ (layN c (k + 1)).length := by
  show _ ≤ ((layN c k).flatMap (extN c)).length
  rw [e, List.flatMap_append, List.flatMap_cons, List.length_append, List.length_append]
  have : (extN c y).length = c - startN y := by unfold extN; rw [List.length_map, List.length_range]
  omega
theorem ext_snoc (pre : List (List Nat)) (y : List Nat) : ((pre ++ [y]).flatMap (extN c)).map encL = (pre.flatMap (extN c)).map encL ++ (List.range (c - startN y)).map fun i => encL (y ++ [startN y + i]) := by
  rw [List.flatMap_append, List.map_append, List.flatMap_cons, List.flatMap_nil, List.append_nil]
  congr 1
  unfold extN
  rw [List.map_map]
  rfl
theorem encL_snoc (y : List Nat) (n : Nat) (h : y.length ≤ 7) : addD (encL y) (.tup [.int n]) = some (encL (y ++ [n])) := by
  show (if _ then _ else _) = _
  rw [if_pos (by rw [List.length_map]; show y.length + 1 ≤ big; rw [bigN]; omega)]
  unfold encL
  rw [List.map_append]
  rfl
theorem zip_self {α : Type} (xs : List α) : xs.zip xs = xs.map fun x => (x, x) := by
  induction xs with
  | nil => rfl
  | cons x xs ih => simp [ih]
theorem all_true {α : Type} (ys : List α) : ys.all (fun _ => true) = true := by
  induction ys with
  | nil => rfl
  | cons y ys ih => simp [ih]
def ansB (x : List Cl) (y : List Nat) : Bool := y.all fun r => (atC x r).isSome
def alkB (x : List Cl) (y : List Nat) : Bool := (atC x (fst0 y)).isSome && y.all fun r => decide (atC x r = atC x (fst0 y))
theorem not_isNone (c : Cl) : (!c.isNone) = c.isSome := by cases c <;> rfl
def encP (p : List Nat × List Nat) : D := .tup [encL p.1, encL p.2]
structure GoodP (n : Nat) (p : List Nat × List Nat) : Prop where
  a1 : p.1.length ≤ 7
  a2 : p.2.length ≤ 7
  ne : p.1 ≠ []
  h1 : ∀ r ∈ p.1, r ∈ p.2
  h2 : ∀ r ∈ p.2, r < n
theorem GoodP.l1 (h : GoodP n p) : p.1.length ≤ big := by have := h.a1; rw [bigN]; omega
theorem GoodP.l2 (h : GoodP n p) : p.2.length ≤ big := by have := h.a2; rw [bigN]; omega
theorem GoodP.ne2 (h : GoodP n p) : p.2 ≠ [] := fun z => by
  have := h.h1 _ (fst0_mem h.ne)
  rw [z] at this
  cases this
theorem GoodP.h1n (h : GoodP n p) : ∀ r ∈ p.1, r < n := fun r hr => h.h2 r (h.h1 r hr)
def keepB (x : List Cl) (p : List Nat × List Nat) : Bool := !ansB x p.1 || alkB x p.2
def diffs (x : List Cl) (p : List Nat × List Nat) : List Nat := p.2.filter fun r => !decide (atC x r = atC x (fst0 p.1))
def resD (x : List Cl) (p : List Nat × List Nat) : D := .tup [encL p.1, .int (fst0 p.1 : Nat), .int (fst0 (diffs x p) : Nat)]
def foundD (x : List Cl) : List (List Nat × List Nat) → D
  | [] => .non
  | p :: ps => if keepB x p = true then foundD x ps else resD x p
theorem brk_keep (h : GoodP n p) : keepB x p = !(ansB x p.1 && !(diffs x p).isEmpty) := by
  unfold keepB
  cases ha : ansB x p.1 with
  | false => rfl
  | true =>
    have hs : (atC x (fst0 p.1)).isSome = true := List.all_eq_true.mp ha _ (fst0_mem h.ne)
    have hm := h.h1 _ (fst0_mem h.ne)
    have hm2 := fst0_mem h.ne2
    show alkB x p.2 = !(!(diffs x p).isEmpty)
    rw [Bool.not_not, Bool.eq_iff_iff]
    unfold alkB diffs
    simp only [Bool.and_eq_true, List.all_eq_true, decide_eq_true_eq, List.isEmpty_iff, List.filter_eq_nil_iff, Bool.not_eq_true', decide_eq_false_iff_not, Decidable.not_not]
    constructor
    · rintro ⟨_, h2⟩ r hr
      rw [h2 r hr, ← h2 _ hm]
    · intro h2
      exact ⟨by rw [h2 _ hm2]; exact hs, fun r hr => by rw [h2 r hr, h2 _ hm2]⟩
theorem found_at : ∀ (pre : List (List Nat × List Nat)) {p suf}, (∀ q ∈ pre, keepB x q = true) → keepB x p = false → foundD x (pre ++ p :: suf) = resD x p
  | [], p, suf, _, hp => by unfold foundD; rw [List.nil_append]; simp only [hp, Bool.false_eq_true, if_false]
  | q :: pre, p, suf, h, hp => by
    show (if keepB x q = true then foundD x (pre ++ p :: suf) else resD x q) = _
    rw [if_pos (h q (.head _)), found_at pre (fun z hz => h z (.tail _ hz)) hp]
theorem found_none : ∀ (ps : List (List Nat × List Nat)), (∀ q ∈ ps, keepB x q = true) → foundD x ps = .non
  | [], _ => rfl
  | q :: ps, h => by
    show (if keepB x q = true then foundD x ps else resD x q) = _
    rw [if_pos (h q (.head _)), found_none ps (fun z hz => h z (.tail _ hz))]
theorem diffs_ne (h : GoodP n p) (hk : keepB x p = false) : diffs x p ≠ [] := by
  rw [brk_keep h] at hk
  intro z
  rw [z] at hk
  simp at hk
theorem ixLs0 {y : List Nat} (h : y ≠ []) : ixD (.lst (y.map fun n : Nat => D.int n)) (.int 0) = some (.int (fst0 y)) := by
  cases y with
  | nil => exact absurd rfl h
  | cons a y => exact ixL_nat (r := 0) rfl
theorem tru_map {α : Type} (f : α → D) (ds : List α) : truD (.lst (ds.map f)) = some (!ds.isEmpty) := by cases ds <;> rfl
theorem ans_all (y : List Nat) : (y.map fun r => atC x r).all (·.isSome) = ansB x y := by
  unfold ansB
  rw [List.all_map]
  rfl
theorem lots_ok : ∀ c : Fin 8, 0 < c.val → lotsN c c ≠ [] ∧ ∀ y ∈ lotsN c c, y ≠ [] ∧ y.length ≤ 7 ∧ ∀ r ∈ y, r < c.val := by decide +kernel
theorem gds_ints (y : List Nat) : Gds (y.map fun n : Nat => D.int n) := fun d hd => by
  obtain ⟨n, _, rfl⟩ := List.mem_map.mp hd
  exact .int _
def DctOk (c : Nat) (ks : List (List L2.Key × D)) : Prop := ∀ p ∈ ks, ∃ q, p = (keyL q.1, encL q.2) ∧ GoodP c q ∧ q.2.length ≤ 7
theorem alk_no {x : List Cl} {y : List Nat} (h : ansB x y = false) : alkB x y = false := by
  cases hk : alkB x y with
  | false => rfl
  | true =>
    unfold alkB at hk
    simp only [Bool.and_eq_true, List.all_eq_true, decide_eq_true_eq] at hk
    have : ansB x y = true := List.all_eq_true.mpr fun r hr => by rw [hk.2 r hr]; exact hk.1
    rw [this] at h
    cases h
theorem found_isN {x : List Cl} {p : List Nat × List Nat} : nD isN (foundD x [p]) .non = some (.bl (!keepB x p)) := by
  unfold foundD
  cases keepB x p <;> rfl
theorem pd_P (p : List Nat × List Nat) : Pd 2 (encP p) := .tup fun d hd => by
  simp only [List.mem_cons, List.not_mem_nil, or_false] at hd
  rcases hd with rfl | rfl <;> exact pd_L _
theorem encP_inj {p q : List Nat × List Nat} (h : encP p = encP q) : p = q := by
  unfold encP at h
  simp only [D.tup.injEq, List.cons.injEq, and_true] at h
  exact Prod.ext (encL_inj h.1) (encL_inj h.2)
end ND

end
section
set_option Elab.async false
set_option linter.all false
set_option maxRecDepth 100000
set_option maxHeartbeats 2000000
/-! NP11: the operators on numbers of rows -/
namespace ND
open PySem PyProof.Rows L2
theorem band_nat (a b : Nat) : bandD (.int a) (.int b) = some (.int ((a &&& b : Nat) : Int)) := by
  show some (D.int _) = _
  rw [andN]
theorem bor_nat (a b : Nat) : borD (.int a) (.int b) = some (.int ((a ||| b : Nat) : Int)) := by
  show some (D.int _) = _
  rw [orN]
theorem band_not (a b : Nat) : bandD (.int a) (.int (Builtin.bitNot b)) = some (.int ((offN a b : Nat) : Int)) := by
  show some (D.int _) = _
  rw [andNotN]
theorem inv_nat (b : Nat) : invD (.int b) = some (.int (Builtin.bitNot b)) := rfl
theorem shr_nat (a j : Nat) : shrD (.int a) (.int j) = some (.int ((a >>> j : Nat) : Int)) := by
  show (if (0 : Int) ≤ (j : Int) then some (D.int _) else none) = _
  rw [if_pos (by omega), Int.toNat_natCast, Nat.shiftRight_eq_div_pow]
  congr 2
theorem shl_nat (a j : Nat) (ha : a < 2 ^ 64) (hj : j ≤ 64) : shlD (.int a) (.int j) = some (.int ((a <<< j : Nat) : Int)) := by
  show (if (0 : Int) ≤ (j : Int) ∧ (Builtin.Int.intBits a : Int) + (j : Int) ≤ 2 ^ 27 then some (D.int _) else none) = _
  have hb : Builtin.Int.intBits (a : Int) ≤ 65 := by
    unfold Builtin.Int.intBits
    rw [Int.natAbs_natCast]
    split
    · omega
    · rename_i h
      have h0 : a ≠ 0 := fun z => h (by rw [z]; rfl)
      have := (Nat.log2_lt (n := a) (k := 64) h0).mpr ha
      omega
  have h27 : (2 : Int) ^ 27 = 134217728 := by decide
  rw [if_pos ⟨by omega, by rw [h27]; omega⟩, Int.toNat_natCast, Nat.shiftLeft_eq]
  congr 2
theorem shl_one (j : Nat) (hj : j ≤ 64) : shlD (.int 1) (.int j) = some (.int ((1 <<< j : Nat) : Int)) := shl_nat 1 j (by decide) hj
theorem truI (n : Nat) : truD (.int n) = some (!decide (n = 0)) := by
  show some ((n : Int) != 0) = _
  congr 1
  rw [Bool.eq_iff_iff]
  simp
/-- the cells with a sign in all rows of a reach -/
def setC (x : List Cl) (y : List Nat) (s : Nat) : List Cl := (List.range x.length).map fun r => if r ∈ y then some s else atC x r
theorem setC_len (x : List Cl) (y : List Nat) (s : Nat) : (setC x y s).length = x.length := by unfold setC; rw [List.length_map, List.length_range]
theorem setC_at {x : List Cl} {y : List Nat} {s : Nat} (h : ∀ r ∈ y, r < x.length) (r : Nat) : atC (setC x y s) r = if r ∈ y then some s else atC x r := by
  by_cases hr : r < x.length
  · unfold setC
    rw [show atC ((List.range x.length).map fun r => if r ∈ y then some s else atC x r) r = ((List.range x.length).map fun r => if r ∈ y then some s else atC x r).getD r none from rfl, List.getD_eq_getElem?_getD, List.getElem?_map, List.getElem?_range hr]
    rfl
  · rw [atC_none (by rw [setC_len]; omega), if_neg (fun z => hr (h r z)), atC_none (by omega)]
theorem setC_code {n m s : Nat} {x : List Cl} {y : List Nat} (hn : CodeOk n x) (hm : MaskOk m fun i => decide (i ∈ y)) (h : ∀ r ∈ y, r < x.length) (hl : x.length ≤ 8) (hc : ∀ r ∈ y, atC x r = none ∨ atC x r = some s) : CodeOk (n ||| m <<< (8 * s)) (setC x y s) := fun i => by
  rw [Nat.testBit_or, hn, Nat.testBit_shiftLeft, hm, setC_at h, Bool.eq_iff_iff]
  simp only [Bool.or_eq_true, Bool.and_eq_true, decide_eq_true_eq]
  constructor
  · rintro (h1 | ⟨h1, h2⟩)
    · by_cases hy : i % 8 ∈ y
      · rw [if_pos hy]
        rcases hc _ hy with z | z
        · rw [z] at h1; cases h1
        · rw [← z]; exact h1
      · rw [if_neg hy]; exact h1
    · have := h _ h2
      have e1 : i % 8 = i - 8 * s := by omega
      have e2 : i / 8 = s := by omega
      rw [if_pos (by rw [e1]; exact h2), e2]
  · intro h1
    by_cases hy : i % 8 ∈ y
    · rw [if_pos hy] at h1
      have e : s = i / 8 := Option.some.inj h1
      exact .inr ⟨by omega, by rw [show i - 8 * s = i % 8 from by omega]; exact hy⟩
    · rw [if_neg hy] at h1
      exact .inl h1
/-- the cell of a row, from the code -/
theorem bits65793 (i : Nat) : (65793 : Nat).testBit i = (decide (i = 0) || decide (i = 8) || decide (i = 16)) := by
  by_cases h : i < 17
  · have : ∀ i : Fin 17, (65793 : Nat).testBit i = (decide (i.val = 0) || decide (i.val = 8) || decide (i.val = 16)) := by decide +kernel
    exact this ⟨i, h⟩
  · have : (65793 : Nat) < 2 ^ i := Nat.lt_of_lt_of_le (by decide : (65793 : Nat) < 2 ^ 17) (Nat.pow_le_pow_right (by decide) (by omega))
    rw [Nat.testBit_lt_two_pow this, decide_eq_false (by omega), decide_eq_false (by omega), decide_eq_false (by omega)]
    rfl
def markN (n r : Nat) : Nat := n >>> r &&& 65793
theorem mark_none {n r : Nat} {x : List Cl} (h : CodeOk n x) (hr : r < 8) (hx : atC x r = none) : markN n r = 0 := by
  apply Nat.eq_of_testBit_eq
  intro i
  unfold markN
  rw [Nat.testBit_and, Nat.testBit_shiftRight, h, bits65793, Nat.zero_testBit]
  by_cases h1 : i = 0 ∨ i = 8 ∨ i = 16
  · rw [show (r + i) % 8 = r from by omega, hx]
    simp
  · rw [decide_eq_false (fun z => h1 (.inl z)), decide_eq_false (fun z => h1 (.inr (.inl z))), decide_eq_false (fun z => h1 (.inr (.inr z)))]
    simp
theorem mark_some {n r s : Nat} {x : List Cl} (h : CodeOk n x) (hr : r < 8) (hs : s < 3) (hx : atC x r = some s) : markN n r = 1 <<< (8 * s) := by
  apply Nat.eq_of_testBit_eq
  intro i
  unfold markN
  rw [Nat.testBit_and, Nat.testBit_shiftRight, h, bits65793, one_shl, Bool.eq_iff_iff]
  simp only [Bool.or_eq_true, Bool.and_eq_true, decide_eq_true_eq]
  constructor
  · rintro ⟨h1, h2⟩
    rw [show (r + i) % 8 = r from by omega, hx] at h1
    have := Option.some.inj h1
    omega
  · intro e
    subst e
    refine ⟨?_, by omega⟩
    rw [show (r + 8 * s) % 8 = r from by omega, hx, show (r + 8 * s) / 8 = s from by omega]
end ND

end
section
set_option Elab.async false
set_option linter.all false
set_option maxRecDepth 100000
set_option maxHeartbeats 2000000
/-! NP12: fillings of columns by pairs: plain laws -/
namespace ND
open PySem
variable {x y x0 : List Cl} {p : List Nat × List Nat} {ps : List (List Nat × List Nat)} {n s : Nat}
def leC (x y : List Cl) : Prop := ∀ r t, atC x r = some t → atC y r = some t
theorem leC_refl (x : List Cl) : leC x x := fun _ _ h => h
theorem leC_trans {x y z : List Cl} (h : leC x y) (g : leC y z) : leC x z := fun r t e => g r t (h r t e)
def goodC (n : Nat) (ps : List (List Nat × List Nat)) (y : List Cl) : Prop := y.length = n ∧ ∀ p ∈ ps, keepB y p = true
/-- what a column above, that keeps a pair whose lot answers, has at the reach -/
theorem forced (gp : GoodP n p) (ha : ansB x p.1 = true) (hs : atC x (fst0 p.1) = some s) (hxy : leC x y) (hk : keepB y p = true) : ∀ r ∈ p.2, atC y r = some s := by
  have hy : ansB y p.1 = true := List.all_eq_true.mpr fun r hr => by
    obtain ⟨t, ht⟩ := Option.isSome_iff_exists.mp (List.all_eq_true.mp ha r hr)
    rw [hxy r t ht]
    rfl
  unfold keepB at hk
  rw [hy] at hk
  have hk : alkB y p.2 = true := hk
  unfold alkB at hk
  simp only [Bool.and_eq_true, List.all_eq_true, decide_eq_true_eq] at hk
  have h0 := hk.2 _ (gp.h1 _ (fst0_mem gp.ne))
  rw [hxy _ _ hs] at h0
  intro r hr
  rw [hk.2 r hr, ← h0]
/-- the state of a filling -/
structure FInv (n : Nat) (ps : List (List Nat × List Nat)) (x0 x : List Cl) (st : List (List Nat × List Nat)) : Prop where
  len : x.length = n
  v : V3 x
  up : leC x0 x
  least : ∀ y, goodC n ps y → leC x0 y → leC x y
  add : ∀ r, r ∈ st.flatMap (·.2) ↔ atC x0 r = none ∧ atC x r ≠ none
  nd : (st.flatMap (·.2)).Nodup
  sl : ∀ q ∈ st, q.1.length ≤ 8 ∧ q.2.length ≤ 8
  src : ∀ r t, atC x r = some t → ∃ r', atC x0 r' = some t
theorem finv0 (hl : x0.length = n) (v : V3 x0) : FInv n ps x0 x0 [] := ⟨hl, v, leC_refl _, fun y _ h => h, fun r => by
  constructor
  · intro h; cases h
  · rintro ⟨h1, h2⟩
    exact absurd h1 h2, List.nodup_nil, (fun q hq => by cases hq), fun r t h => ⟨r, h⟩⟩
def noneC (x : List Cl) : Nat := (List.range x.length).countP fun r => (atC x r).isNone
def hangs (x : List Cl) (y : List Nat) : List Nat := (List.range 8).filter fun r => decide (r ∈ y) && !(atC x r).isSome
theorem hangs_mem {r : Nat} {z : List Nat} (h : ∀ r ∈ z, r < 8) : r ∈ hangs x z ↔ r ∈ z ∧ atC x r = none := by
  unfold hangs
  rw [List.mem_filter, List.mem_range]
  simp
  intro h1 _
  exact h r h1
theorem hangs_len {z : List Nat} : (hangs x z).length ≤ 8 := Nat.le_trans (List.length_filter_le _ _) (by rw [List.length_range]; exact Nat.le_refl _)
theorem finv_step {st : List (List Nat × List Nat)} (i : FInv n ps x0 x st) (hn : n ≤ 8) (hp : p ∈ ps) (gp : GoodP n p) (ha : ansB x p.1 = true) (hs : atC x (fst0 p.1) = some s) (hc : ∀ r ∈ p.2, atC x r = none ∨ atC x r = some s) :
    FInv n ps x0 (setC x p.2 s) (st ++ [(p.1, hangs x p.2)]) := by
  have h2 : ∀ r ∈ p.2, r < x.length := fun r hr => by rw [i.len]; exact gp.h2 r hr
  have h8 : ∀ r ∈ p.2, r < 8 := fun r hr => by have := gp.h2 r hr; omega
  have at' := setC_at (x := x) (y := p.2) (s := s) h2
  refine ⟨by rw [setC_len]; exact i.len, fun r t h => ?_, fun r t h => ?_, fun y gy hy => ?_, fun r => ?_, ?_, fun q hq => ?_, fun r t h => ?_⟩
  · rw [at'] at h
    split at h
    · cases h
      exact i.v _ _ hs
    · exact i.v _ _ h
  · have hx := i.up r t h
    rw [at']
    split
    · rename_i hr
      rcases hc r hr with z | z
      · rw [z] at hx; cases hx
      · rw [z] at hx; exact hx
    · exact hx
  · have hxy := i.least y gy hy
    intro r t h
    rw [at'] at h
    split at h
    · rename_i hr
      cases h
      exact forced gp ha hs hxy (gy.2 p hp) r hr
    · exact hxy r t h
  · rw [List.flatMap_append, List.mem_append, i.add r]
    simp only [List.flatMap_cons, List.flatMap_nil, List.append_nil]
    rw [hangs_mem h8, at']
    constructor
    · rintro (⟨a, b⟩ | ⟨a, b⟩)
      · refine ⟨a, ?_⟩
        split
        · exact fun z => by cases z
        · exact b
      · refine ⟨?_, by rw [if_pos a]; exact fun z => by cases z⟩
        cases h0 : atC x0 r with
        | none => rfl
        | some t => rw [i.up r t h0] at b; cases b
    · rintro ⟨a, b⟩
      cases hx : atC x r with
      | some t => exact .inl ⟨a, fun z => by cases z⟩
      | none =>
        refine .inr ⟨?_, rfl⟩
        split at b
        · assumption
        · exact absurd hx b
  · rw [List.flatMap_append, List.nodup_append]
    simp only [List.flatMap_cons, List.flatMap_nil, List.append_nil]
    refine ⟨i.nd, List.Nodup.sublist List.filter_sublist List.nodup_range, fun a hA b hB => ?_⟩
    rintro rfl
    exact ((i.add a).mp hA).2 ((hangs_mem h8).mp hB).2
  · rcases List.mem_append.mp hq with hq | hq
    · exact i.sl q hq
    · rw [List.mem_singleton] at hq
      rw [hq]
      exact ⟨by have := gp.a1; show p.1.length ≤ 8; omega, hangs_len⟩
  · rw [at'] at h
    split at h
    · cases h
      exact i.src _ _ hs
    · exact i.src _ _ h
theorem none_less (hl : x.length = n) (gp : GoodP n p) (hd : diffs x p ≠ []) (hs : atC x (fst0 p.1) = some s) (hc : ∀ r ∈ p.2, atC x r = none ∨ atC x r = some s) : noneC (setC x p.2 s) < noneC x := by
  have h2 : ∀ r ∈ p.2, r < x.length := fun r hr => by rw [hl]; exact gp.h2 r hr
  have at' := setC_at (x := x) (y := p.2) (s := s) h2
  obtain ⟨r, hr⟩ := List.exists_mem_of_ne_nil _ hd
  have hr' := List.mem_filter.mp hr
  have hrn : atC x r = none := by
    rcases hc r hr'.1 with z | z
    · exact z
    · have := hr'.2
      rw [z, hs] at this
      simp at this
  unfold noneC
  rw [setC_len]
  have hmem : r ∈ List.range x.length := List.mem_range.mpr (h2 r hr'.1)
  have key : ∀ l : List Nat, (∀ q ∈ l, True) → l.countP (fun r => (atC (setC x p.2 s) r).isNone) ≤ l.countP (fun r => (atC x r).isNone) ∧ (r ∈ l → l.countP (fun r => (atC (setC x p.2 s) r).isNone) < l.countP (fun r => (atC x r).isNone)) := by
    intro l _
    induction l with
    | nil => exact ⟨Nat.le_refl _, fun h => by cases h⟩
    | cons a l ih =>
      obtain ⟨i1, i2⟩ := ih fun _ _ => trivial
      rw [List.countP_cons, List.countP_cons]
      have ha : (if (atC (setC x p.2 s) a).isNone = true then 1 else 0) ≤ (if (atC x a).isNone = true then 1 else 0) := by
        rw [at']
        split
        · simp
        · exact Nat.le_refl _
      refine ⟨by omega, fun h => ?_⟩
      rcases List.mem_cons.mp h with rfl | h
      · rw [at', if_pos hr'.1, hrn]
        simp
        omega
      · have := i2 h
        omega
  exact (key _ fun _ _ => trivial).2 hmem
theorem noneC_le (x : List Cl) : noneC x ≤ x.length := by
  unfold noneC
  have := List.countP_le_length (p := fun r => (atC x r).isNone) (l := List.range x.length)
  rw [List.length_range] at this
  exact this
/-- a row of a reach that has another sign: no column above keeps the pairs -/
theorem no_above {st : List (List Nat × List Nat)} {r : Nat} (i : FInv n ps x0 x st) (hp : p ∈ ps) (gp : GoodP n p) (ha : ansB x p.1 = true) (hs : atC x (fst0 p.1) = some s) (hr : r ∈ p.2) (h1 : atC x r ≠ none) (h2 : atC x r ≠ some s) : ∀ y, goodC n ps y → ¬ leC x0 y := fun y gy hy => by
  have hxy := i.least y gy hy
  have := forced gp ha hs hxy (gy.2 p hp) r hr
  cases hx : atC x r with
  | none => exact h1 hx
  | some t =>
    rw [hxy r t hx] at this
    rw [hx] at h2
    exact h2 this
end ND

end
section
set_option Elab.async false
set_option linter.all false
set_option maxRecDepth 100000
set_option maxHeartbeats 2000000
/-! NP13: fillings step by step, as a function -/
namespace ND
open PySem
variable {x y x0 : List Cl} {p : List Nat × List Nat} {ps : List (List Nat × List Nat)} {n s : Nat}
/-- ascending rows -/
def Asc (z : List Nat) : Prop := z = (List.range 8).filter fun r => decide (r ∈ z)
theorem filter_range {c n : Nat} {g : Nat → Bool} (h : c ≤ n) : (List.range n).filter (fun r => decide (r < c) && g r) = (List.range c).filter g := by
  induction n with
  | zero =>
    obtain rfl : c = 0 := by omega
    rfl
  | succ n ih =>
    rw [List.range_succ, List.filter_append]
    by_cases hc : c ≤ n
    · rw [ih hc]
      have : decide (n < c) = false := decide_eq_false (by omega)
      simp [this]
    · obtain rfl : c = n + 1 := by omega
      rw [List.range_succ, List.filter_append]
      congr 1
      · refine List.filter_congr fun r hr => ?_
        have := List.mem_range.mp hr
        rw [decide_eq_true (by omega), Bool.true_and]
      · refine List.filter_congr fun r hr => ?_
        obtain rfl : r = n := by simpa using hr
        rw [decide_eq_true (by omega), Bool.true_and]
theorem asc_filter {c : Nat} (g : Nat → Bool) (h : c ≤ 8) : Asc ((List.range c).filter g) := by
  unfold Asc
  rw [← filter_range h]
  refine List.filter_congr fun r hr => ?_
  rw [Bool.eq_iff_iff]
  simp only [decide_eq_true_eq, List.mem_filter, Bool.and_eq_true]
  constructor
  · intro z; exact ⟨hr, z⟩
  · intro z; exact z.2
theorem asc_sub {z : List Nat} (h : Asc z) (g : Nat → Bool) : (List.range 8).filter (fun r => decide (r ∈ z) && g r) = z.filter g := by
  have h' : z = (List.range 8).filter fun r => decide (r ∈ z) := h
  rw [show z.filter g = ((List.range 8).filter fun r => decide (r ∈ z)).filter g from congrArg (List.filter g) h', List.filter_filter]
  exact List.filter_congr fun r _ => Bool.and_comm _ _
def wrongs (x : List Cl) (p : List Nat × List Nat) : List Nat := (diffs x p).filter fun r => (atC x r).isSome
def signOf (x : List Cl) (p : List Nat × List Nat) : Nat := (atC x (fst0 p.1)).getD 0
def fillF (ps : List (List Nat × List Nat)) : Nat → List Cl → List (List Nat × List Nat) → Option (List Cl) × List (List Nat × List Nat) × Option ((List Nat × List Nat) × Nat)
  | 0, x, st => (some x, st, none)
  | k + 1, x, st => match ps.find? fun p => !keepB x p with
    | none => (some x, st, none)
    | some p => match wrongs x p with
      | w :: _ => (none, st, some (p, w))
      | [] => fillF ps k (setC x p.2 (signOf x p)) (st ++ [(p.1, diffs x p)])
theorem fill_end {k : Nat} {st : List (List Nat × List Nat)} (h : ∀ p ∈ ps, keepB x p = true) : fillF ps k x st = (some x, st, none) := by
  cases k with
  | zero => rfl
  | succ k =>
    unfold fillF
    rw [List.find?_eq_none.mpr fun p hp => by rw [h p hp]; simp]
theorem find_at {pre suf : List (List Nat × List Nat)} (e : ps = pre ++ p :: suf) (h : ∀ q ∈ pre, keepB x q = true) (hk : keepB x p = false) : ps.find? (fun p => !keepB x p) = some p := by
  rw [e, List.find?_append, List.find?_eq_none.mpr fun q hq => by rw [h q hq]; simp]
  rw [List.find?_cons, hk]
  rfl
theorem fill_clash {k w : Nat} {ws : List Nat} {pre suf st : List (List Nat × List Nat)} (e : ps = pre ++ p :: suf) (h : ∀ q ∈ pre, keepB x q = true) (hk : keepB x p = false) (hw : wrongs x p = w :: ws) : fillF ps (k + 1) x st = (none, st, some (p, w)) := by
  show (match ps.find? _ with | none => _ | some p => _) = _
  rw [find_at e h hk]
  dsimp only
  rw [hw]
theorem fill_step {k : Nat} {pre suf st : List (List Nat × List Nat)} (e : ps = pre ++ p :: suf) (h : ∀ q ∈ pre, keepB x q = true) (hk : keepB x p = false) (hw : wrongs x p = []) : fillF ps (k + 1) x st = fillF ps k (setC x p.2 (signOf x p)) (st ++ [(p.1, diffs x p)]) := by
  show (match ps.find? _ with | none => _ | some p => _) = _
  rw [find_at e h hk]
  dsimp only
  rw [hw]
/-- what the masks tell is what the lists tell -/
theorem wrongs_nil (hs : atC x (fst0 p.1) = some s) : wrongs x p = [] ↔ ∀ r ∈ p.2, atC x r = none ∨ atC x r = some s := by
  unfold wrongs diffs
  rw [List.filter_eq_nil_iff]
  simp only [List.mem_filter, Bool.not_eq_true', decide_eq_false_iff_not, hs]
  constructor
  · intro h r hr
    cases hx : atC x r with
    | none => exact .inl rfl
    | some t =>
      refine .inr (Classical.byContradiction fun z => ?_)
      have := h r ⟨hr, by rw [hx]; exact z⟩
      rw [hx] at this
      exact this rfl
  · rintro h r ⟨hr, hne⟩
    rcases h r hr with z | z
    · rw [z]; simp
    · exact absurd z hne
theorem hangs_diffs (ha : Asc p.2) (hs : atC x (fst0 p.1) = some s) (h : ∀ r ∈ p.2, atC x r = none ∨ atC x r = some s) : hangs x p.2 = diffs x p := by
  unfold hangs diffs
  rw [asc_sub ha]
  refine List.filter_congr fun r hr => ?_
  rw [hs]
  rcases h r hr with z | z <;> rw [z] <;> simp
/-- a filling has only signs of the column -/
theorem fill_vals {m : Nat} : ∀ (k : Nat) (x : List Cl) (st : List (List Nat × List Nat)) (f : List Cl) (st' : List (List Nat × List Nat)), (∀ r t, atC x r = some t → t < m) → (∀ p ∈ ps, GoodP x.length p) → fillF ps k x st = (some f, st', none) → f.length = x.length ∧ (∀ r t, atC f r = some t → t < m)
  | 0, x, st, f, st', h, _, e => by
    cases e
    exact ⟨rfl, h⟩
  | k + 1, x, st, f, st', h, hp, e => by
    unfold fillF at e
    split at e
    · cases e
      exact ⟨rfl, h⟩
    · rename_i p hf
      split at e
      · cases e
      · have hpm := List.mem_of_find?_eq_some hf
        have hkp := List.find?_some hf
        have gp := hp p hpm
        have hk : keepB x p = false := by simpa using hkp
        have hbk := brk_keep gp (x := x)
        rw [hk] at hbk
        have ha : ansB x p.1 = true := by cases h : ansB x p.1 <;> simp [h] at hbk ⊢
        obtain ⟨s, hs⟩ := Option.isSome_iff_exists.mp (List.all_eq_true.mp ha _ (fst0_mem gp.ne))
        have hso : signOf x p = s := by unfold signOf; rw [hs]; rfl
        have hl := setC_len x p.2 (signOf x p)
        obtain ⟨h1, h2⟩ := fill_vals k (setC x p.2 (signOf x p)) _ f st' (fun r t hr => by
          rw [setC_at gp.h2] at hr
          split at hr
          · cases hr
            rw [hso]
            exact h _ _ hs
          · exact h _ _ hr) (by rw [hl]; exact hp) e
        exact ⟨by rw [h1, hl], h2⟩
end ND

end
section
set_option Elab.async false
set_option linter.all false
set_option maxRecDepth 100000
set_option maxHeartbeats 4000000
/-! the walk of k19: printed by gen.py -/
namespace LK19
open PySem PySem.Spec PyProof.Rows L2 ND
def topS (i : Nat) : Stmt := PySem.Challenge.pw_neverboxes_k19_whole_fillings.main.body.getD i (.Pass ⟨0, 0, 0, 0⟩)
abbrev s_mask_of : Stmt := topS 7
abbrev N_mask_of : List Str := ["numbers", "mask", "number"]
theorem sc_mask_of : FnScope N_mask_of ["numbers"] (defScope s_mask_of) := ⟨rfl, rfl, rfl, by decide +kernel, rfl, by decide +kernel, by decide +kernel⟩
abbrev s_numbers_of : Stmt := topS 8
abbrev N_numbers_of : List Str := ["mask", "row"]
theorem sc_numbers_of : FnScope N_numbers_of ["mask"] (defScope s_numbers_of) := ⟨rfl, rfl, rfl, by decide +kernel, rfl, by decide +kernel, by decide +kernel⟩
abbrev s_pair_masks : Stmt := topS 9
abbrev N_pair_masks : List Str := ["pairs", "lot", "reach"]
theorem sc_pair_masks : FnScope N_pair_masks ["pairs"] (defScope s_pair_masks) := ⟨rfl, rfl, rfl, by decide +kernel, rfl, by decide +kernel, by decide +kernel⟩
abbrev s_code_of : Stmt := topS 10
abbrev N_code_of : List Str := ["column", "code", "row", "value"]
theorem sc_code_of : FnScope N_code_of ["column"] (defScope s_code_of) := ⟨rfl, rfl, rfl, by decide +kernel, rfl, by decide +kernel, by decide +kernel⟩
abbrev s_value_at : Stmt := topS 11
abbrev N_value_at : List Str := ["code", "row", "marks"]
theorem sc_value_at : FnScope N_value_at ["code", "row"] (defScope s_value_at) := ⟨rfl, rfl, rfl, by decide +kernel, rfl, by decide +kernel, by decide +kernel⟩
abbrev s_column_of : Stmt := topS 12
abbrev N_column_of : List Str := ["code", "count", "row"]
theorem sc_column_of : FnScope N_column_of ["code", "count"] (defScope s_column_of) := ⟨rfl, rfl, rfl, by decide +kernel, rfl, by decide +kernel, by decide +kernel⟩
abbrev s_answered : Stmt := topS 13
abbrev N_answered : List Str := ["code"]
theorem sc_answered : FnScope N_answered ["code"] (defScope s_answered) := ⟨rfl, rfl, rfl, by decide +kernel, rfl, by decide +kernel, by decide +kernel⟩
abbrev s_sign_shift : Stmt := topS 14
abbrev N_sign_shift : List Str := ["code", "lot", "first"]
theorem sc_sign_shift : FnScope N_sign_shift ["code", "lot"] (defScope s_sign_shift) := ⟨rfl, rfl, rfl, by decide +kernel, rfl, by decide +kernel, by decide +kernel⟩
abbrev s_first_unkept : Stmt := topS 15
abbrev N_first_unkept : List Str := ["pairs", "code", "hanging", "at", "lot", "reach", "shift"]
theorem sc_first_unkept : FnScope N_first_unkept ["pairs", "code"] (defScope s_first_unkept) := ⟨rfl, rfl, rfl, by decide +kernel, rfl, by decide +kernel, by decide +kernel⟩
abbrev s_clashing_rows : Stmt := topS 16
abbrev N_clashing_rows : List Str := ["code", "reach", "shift"]
theorem sc_clashing_rows : FnScope N_clashing_rows ["code", "reach", "shift"] (defScope s_clashing_rows) := ⟨rfl, rfl, rfl, by decide +kernel, rfl, by decide +kernel, by decide +kernel⟩
abbrev s_run_filling : Stmt := topS 18
abbrev N_run_filling : List Str := ["pairs", "masks", "column", "code", "steps", "found", "at", "shift", "lot", "reach", "clashing"]
theorem sc_run_filling : FnScope N_run_filling ["pairs", "masks", "column"] (defScope s_run_filling) := ⟨rfl, rfl, rfl, by decide +kernel, rfl, by decide +kernel, by decide +kernel⟩
abbrev s_filled : Stmt := topS 19
abbrev N_filled : List Str := ["pairs", "column"]
theorem sc_filled : FnScope N_filled ["pairs", "column"] (defScope s_filled) := ⟨rfl, rfl, rfl, by decide +kernel, rfl, by decide +kernel, by decide +kernel⟩
abbrev s_fill_steps : Stmt := topS 20
abbrev N_fill_steps : List Str := ["pairs", "column"]
theorem sc_fill_steps : FnScope N_fill_steps ["pairs", "column"] (defScope s_fill_steps) := ⟨rfl, rfl, rfl, by decide +kernel, rfl, by decide +kernel, by decide +kernel⟩
abbrev s_l_bag : Stmt := topS 22
abbrev N_l_bag : List Str := ["_law_script", "_law_seed", "_law_cell"]
theorem sc_l_bag : FnScope N_l_bag ["_law_script"] (defScope s_l_bag) := ⟨rfl, rfl, rfl, by decide +kernel, rfl, by decide +kernel, by decide +kernel⟩
abbrev s_l_take : Stmt := topS 23
abbrev N_l_take : List Str := ["_law_bag_here", "_law_many", "_law_cell", "_law_digit", "_law_seed"]
theorem sc_l_take : FnScope N_l_take ["_law_bag_here", "_law_many"] (defScope s_l_take) := ⟨rfl, rfl, rfl, by decide +kernel, rfl, by decide +kernel, by decide +kernel⟩
abbrev s_l_of : Stmt := topS 24
abbrev N_l_of : List Str := ["_law_bag_here", "_law_things"]
theorem sc_l_of : FnScope N_l_of ["_law_bag_here", "_law_things"] (defScope s_l_of) := ⟨rfl, rfl, rfl, by decide +kernel, rfl, by decide +kernel, by decide +kernel⟩
abbrev s_l_same : Stmt := topS 25
abbrev N_l_same : List Str := ["_law_found", "_law_due", "_law_one", "_law_other"]
theorem sc_l_same : FnScope N_l_same ["_law_found", "_law_due"] (defScope s_l_same) := ⟨rfl, rfl, rfl, by decide +kernel, rfl, by decide +kernel, by decide +kernel⟩
abbrev s_l_lots : Stmt := topS 26
abbrev N_l_lots : List Str := ["_law_count", "_law_lots_here", "_law_layer", "_law_size", "_law_longer", "_law_lot", "_law_r"]
theorem sc_l_lots : FnScope N_l_lots ["_law_count"] (defScope s_l_lots) := ⟨rfl, rfl, rfl, by decide +kernel, rfl, by decide +kernel, by decide +kernel⟩
abbrev s_l_asking : Stmt := topS 27
abbrev N_l_asking : List Str := ["_law_rows", "_law_pairs", "_law_lot", "_law_first", "_law_told", "_law_alike", "_law_i", "_law_r"]
theorem sc_l_asking : FnScope N_l_asking ["_law_rows"] (defScope s_l_asking) := ⟨rfl, rfl, rfl, by decide +kernel, rfl, by decide +kernel, by decide +kernel⟩
abbrev s_l_drawn_pairs : Stmt := topS 28
abbrev N_l_drawn_pairs : List Str := ["_law_bag_here", "_law_count", "_law_most", "_law_lots_here", "_law_found", "_law_turn", "_law_lot", "_law_reach", "_law_r", "_law_more"]
theorem sc_l_drawn_pairs : FnScope N_l_drawn_pairs ["_law_bag_here", "_law_count", "_law_most"] (defScope s_l_drawn_pairs) := ⟨rfl, rfl, rfl, by decide +kernel, rfl, by decide +kernel, by decide +kernel⟩
abbrev s_l_steps : Stmt := topS 29
abbrev N_l_steps : List Str := ["_law_pairs", "_law_column", "_law_now", "_law_steps_here", "_law_turn", "_law_first", "_law_lot", "_law_reach", "_law_r", "_law_unlike", "_law_wrong"]
theorem sc_l_steps : FnScope N_l_steps ["_law_pairs", "_law_column"] (defScope s_l_steps) := ⟨rfl, rfl, rfl, by decide +kernel, rfl, by decide +kernel, by decide +kernel⟩
abbrev s_l_tell : Stmt := topS 30
abbrev N_l_tell : List Str := ["_law_which", "_law_pairs", "_law_column", "e"]
theorem sc_l_tell : FnScope N_l_tell ["_law_which", "_law_pairs", "_law_column"] (defScope s_l_tell) := ⟨rfl, rfl, rfl, by decide +kernel, rfl, by decide +kernel, by decide +kernel⟩
abbrev s_law : Stmt := topS 31
abbrev N_law : List Str := ["_law_script", "_law_bag_here", "_law_kinds", "_law_count", "_law_pairs", "_law_last", "_law_turn", "_law_column", "_law_due", "_law_steps_here", "_law_clash", "_law_handed", "_law_found", "_law_walked", "_law_wrong", "_law_r", "_law_k", "_law_value", "_law_i"]
theorem sc_law : FnScope N_law ["_law_script"] (defScope s_law) := ⟨rfl, rfl, rfl, by decide +kernel, rfl, by decide +kernel, by decide +kernel⟩
abbrev TL (c0 c1 : Addr) : Tg := ⟨fun t => match t with
  | 0 => c0
  | 1 => c1
  | _ => 0, none⟩
def tabL : Tab := tabG 2 [((0, 1), false), ((1, 1), true)]
def subT : Nat → Nat → Option Bool := subG 2 [((0, 1), false), ((1, 1), true)]
abbrev s_x_Clash : Stmt := clsDef (topS 2) 0
theorem sc_x_Clash : FnScope ["self", "lot", "one", "other"] ["self", "lot", "one", "other"] (defScope s_x_Clash) := ⟨rfl, rfl, rfl, by decide +kernel, rfl, by decide +kernel, by decide +kernel⟩
structure BG (P : Program) (w : World) (K : PySem.W.Frag) (mg : Str → Option Value) (base : Heap) (T : Tg) : Prop extends Bl mg where
  k_BoxError : mg "BoxError" = some (.ref (T.cl 0))
  k_Clash : mg "Clash" = some (.ref (T.cl 1))
  x_Clash : XcOk P w K mg base T "Clash" 1 ["lot", "one", "other"] (Str.ofString "Clash")
  tab : TabOk K T tabL
  cx0 : T.cx = none
  sub : ∀ t u b, subT t u = some b → PySem.W.exmOne K (.ref (T.cl t)) (.ref (T.cl u)) = some b
  xf_Clash_lot : XfA K (T.cl 1) "lot"
  xf_Clash_one : XfA K (T.cl 1) "one"
  xf_Clash_other : XfA K (T.cl 1) "other"
  gWIDTH : ∃ t, mg "WIDTH" = some (.int (8) t)
  gMARKS : ∃ t, mg "MARKS" = some (.int (65793) t)
  gROWS : ∃ t, mg "ROWS" = some (.int (255) t)
variable {P : Program} {w : World} {K : PySem.W.Frag} {mg : Str → Option Value} {base : Heap} {T : Tg}
theorem ok_x_Clash {C f : Addr} {fd : FuncData} (O : OexC K C) (no_lot : PySem.W.findIn K (.ref C) "lot" = some none) (no_one : PySem.W.findIn K (.ref C) "one" = some none) (no_other : PySem.W.findIn K (.ref C) "other" = some none) (no_code : PySem.W.findIn K (.ref C) "code" = some none) (F : Fun K "__init__" "Clash.__init__" s_x_Clash f fd) : FnOk P w K mg base (L2.CX P w) 1 f fd ["self", "lot", "one", "other"] (spXI C ["lot", "one", "other"] (Str.ofString "Clash")) := by
  refine F.okX sc_x_Clash (fun vs H Q E h => ?_) (fun cdv A outer s H vs Q E hr h => ?_)
  · obtain ⟨a, us, rfl, hl, _⟩ := h
    rw [List.length_cons, hl]; rfl
  · obtain ⟨a, us, rfl, hl, ha, q⟩ := h
    have S := sc_x_Clash
    match us, hl with
    | [u0, u1, u2], _ =>
      refine ⟨_, pss_cons (ps_ost (pv 0) (pv 1)) (pss_cons (ps_ost (pv 0) (pv 2)) (pss_cons (ps_ost (pv 0) (pv 3)) (pss_one (ps_ost (pv 0) pe_str)))), ?_⟩
      refine ⟨u0, rfl, .ref a, rfl, ost_1 O no_lot ha fun d H1 n ne h1 h2 h3 => ?_⟩
      refine ⟨u1, rfl, .ref a, rfl, ost_2 O no_one (by show 1 ≤ 900; decide) ne h1 h2 h3 fun H2 h1 h2 h3 => ?_⟩
      refine ⟨u2, rfl, .ref a, rfl, ost_2 O no_other (by show 2 ≤ 900; decide) ne h1 h2 h3 fun H2 h1 h2 h3 => ?_⟩
      refine ⟨.ref a, rfl, ost_2 O no_code (by show 3 ≤ 900; decide) ne h1 h2 h3 fun H2 h1 h2 h3 => ?_⟩
      exact q d _ n ne h1 h2 h3
def g_mask_of : FS := (seqS (setE 1 (dV (cst (.int 0))))
    (seqS (forS (seqI (vr 0)) (tN 2) (setE 1 (dV (lift2 borD (vr 1) (lift2 shlD (cst (.int 1)) (vr 2))))))
    (retO 1)))
def m_mask_of : MF := runB false 3 g_mask_of
theorem ok_mask_of (B : BG P w K mg base T) {f : Addr} {fd : FuncData} (F : Fun K "mask_of" "mask_of" s_mask_of f fd) (g : mg "mask_of" = some (.ref f)) : Cal P w K mg base T "mask_of" 1 false 1 m_mask_of := by
  refine ⟨f, fd, ["numbers"], ?_, g, F.kp, F.binds fun _ _ _ _ _ _ us hl => match us, hl with | [_], _ => rfl⟩
  exact fn_nd (NN := N_mask_of) (n := 1) (hb := false) (g := g_mask_of) F sc_mask_of rfl (fun cdv A outer s H E c hT hr tk own =>
    have S := sc_mask_of
    (ns_cons (ns_set (i := 1) S.nd rfl (.inl rfl) (dv nd_int))
    (ns_cons (ns_for own rfl (ni_seq (nd_var 0)) (pg_name (i := 2) S.nd rfl (by first | exact .inl rfl | exact .inr rfl)) td_name (ns_one (ns_set (i := 1) S.nd rfl (.inl rfl) (dv (nd_op od_bor (nd_var 1) (nd_op od_shl nd_int (nd_var 2)))))))
    (ns_one (ns_retO 1)))))
def g_numbers_of : FS := (retS (dV (bltQ tupD (vD (lcE (rngI (cnt 1 (acons (cst (.int 8)) anil))) (tN 1) (testV (lift2 bandD (lift2 shrD (vr 0) (vr 1)) (cst (.int 1)))) (vr 1) [1])))))
def m_numbers_of : MF := runB false 2 g_numbers_of
theorem ok_numbers_of (B : BG P w K mg base T) {f : Addr} {fd : FuncData} (F : Fun K "numbers_of" "numbers_of" s_numbers_of f fd) (g : mg "numbers_of" = some (.ref f)) : Cal P w K mg base T "numbers_of" 1 false 1 m_numbers_of := by
  refine ⟨f, fd, ["mask"], ?_, g, F.kp, F.binds fun _ _ _ _ _ _ us hl => match us, hl with | [_], _ => rfl⟩
  exact fn_nd (NN := N_numbers_of) (n := 1) (hb := false) (g := g_numbers_of) F sc_numbers_of rfl (fun cdv A outer s H E c hT hr tk own =>
    have S := sc_numbers_of
    (ns_one (ns_ret (dv (nd_qT cq_tuple rfl B.tuple_ (by decide +kernel) (vq (nd_lc (E' := EN) (own := [("row", 1)]) rfl S.nd (nr1 rfl B.range (na_cons (nd_glI B.gWIDTH rfl) na_nil)) (blkOk_by (N := N_numbers_of) (sc := (defScope s_numbers_of)) (by decide +kernel)) (fun _ _ _ _ _ => (pg_name (i := 1) S.nd rfl (by first | exact .inl rfl | exact .inr rfl))) td_name (fun _ _ _ _ _ => (nts_one (nt_val (dq (nd_op od_band (nd_op od_shr (nd_var 0) (nd_var 1)) nd_int))))) (fun _ _ _ _ _ => (nd_var 1)))))))))
def g_pair_masks : FS := (retS (lcE (seqI (vr 0)) (tT 2 (tsC (tN 1) (tsC (tN 2) tsN))) yesT (tupE (acons (vD (callP m_mask_of (cnt 1 (acons (vr 1) anil)))) (acons (vD (callP m_mask_of (cnt 1 (acons (vr 2) anil)))) anil))) [1, 2]))
def m_pair_masks : MF := runB false 3 g_pair_masks
theorem ok_pair_masks (B : BG P w K mg base T) (C_mask_of : Cal P w K mg base T "mask_of" 1 false 1 m_mask_of) {f : Addr} {fd : FuncData} (F : Fun K "pair_masks" "pair_masks" s_pair_masks f fd) (g : mg "pair_masks" = some (.ref f)) : Cal P w K mg base T "pair_masks" 2 false 1 m_pair_masks := by
  refine ⟨f, fd, ["pairs"], ?_, g, F.kp, F.binds fun _ _ _ _ _ _ us hl => match us, hl with | [_], _ => rfl⟩
  exact fn_nd (NN := N_pair_masks) (n := 1) (hb := false) (g := g_pair_masks) F sc_pair_masks rfl (fun cdv A outer s H E c hT hr tk own =>
    have S := sc_pair_masks
    (ns_one (ns_ret (nd_lc (E' := EN) (own := [("lot", 1), ("reach", 2)]) rfl S.nd (ni_seq (nd_var 0)) (blkOk_by (N := N_pair_masks) (sc := (defScope s_pair_masks)) (by decide +kernel)) (fun _ _ _ _ _ => (pg_tup rfl (pgs_cons (pg_name (i := 1) S.nd rfl (by first | exact .inl rfl | exact .inr rfl)) (pgs_cons (pg_name (i := 2) S.nd rfl (by first | exact .inl rfl | exact .inr rfl)) pgs_nil)))) (td_tup (tds_cons td_name (tds_cons td_name tds_nil))) (fun _ _ _ _ _ => nts_nil) (fun _ _ _ _ _ => (nd_tup (na_cons (vd (callP_ok hT takes0 C_mask_of hr (by decide) rfl (na_cons (nd_var 1) na_nil))) (na_cons (vd (callP_ok hT takes0 C_mask_of hr (by decide) rfl (na_cons (nd_var 2) na_nil))) na_nil))))))))
def g_code_of : FS := (seqS (setE 1 (dV (cst (.int 0))))
    (seqS (forS (enumI (acons (vr 0) anil)) (tT 2 (tsC (tN 2) (tsC (tN 3) tsN))) (ifS (testB (lift2 (nD isN) (vr 3) (cst .non))) (setE 1 (dV (lift2 borD (vr 1) (lift2 shlD (cst (.int 1)) (lift2 addD (lift2 mulD (cst (.int 8)) (vr 3)) (vr 2)))))) skipS))
    (retO 1)))
def m_code_of : MF := runB false 4 g_code_of
theorem ok_code_of (B : BG P w K mg base T) {f : Addr} {fd : FuncData} (F : Fun K "code_of" "code_of" s_code_of f fd) (g : mg "code_of" = some (.ref f)) : Cal P w K mg base T "code_of" 1 false 1 m_code_of := by
  refine ⟨f, fd, ["column"], ?_, g, F.kp, F.binds fun _ _ _ _ _ _ us hl => match us, hl with | [_], _ => rfl⟩
  exact fn_nd (NN := N_code_of) (n := 1) (hb := false) (g := g_code_of) F sc_code_of rfl (fun cdv A outer s H E c hT hr tk own =>
    have S := sc_code_of
    (ns_cons (ns_set (i := 1) S.nd rfl (.inl rfl) (dv nd_int))
    (ns_cons (ns_for own rfl (ni_enum rfl B.enumerate (na_cons (nd_var 0) na_nil)) (pg_tup rfl (pgs_cons (pg_name (i := 2) S.nd rfl (by first | exact .inl rfl | exact .inr rfl)) (pgs_cons (pg_name (i := 3) S.nd rfl (by first | exact .inl rfl | exact .inr rfl)) pgs_nil))) (td_tup (tds_cons td_name (tds_cons td_name tds_nil))) (ns_one (ns_if (nt_cmp od_isnot (nd_var 3) nd_non) (ns_one (ns_set (i := 1) S.nd rfl (.inl rfl) (dv (nd_op od_bor (nd_var 1) (nd_op od_shl nd_int (nd_op od_add (nd_op od_mul (nd_glI B.gWIDTH rfl) (nd_var 3)) (nd_var 2))))))) ns_nil)))
    (ns_one (ns_retO 1)))))
def g_value_at : FS := (seqS (setE 2 (dV (lift2 bandD (lift2 shrD (vr 0) (vr 1)) (cst (.int 65793)))))
    (seqS (ifS (testB (lift2 (bD eqD) (vr 2) (cst (.int 0)))) (retS (dV (cst .non))) skipS)
    (retS (dV (lift2 fdivD (lift2 subD (un1 bitsD (vr 2)) (cst (.int 1))) (cst (.int 8)))))))
def m_value_at : MF := runB false 3 g_value_at
theorem ok_value_at (B : BG P w K mg base T) {f : Addr} {fd : FuncData} (F : Fun K "value_at" "value_at" s_value_at f fd) (g : mg "value_at" = some (.ref f)) : Cal P w K mg base T "value_at" 1 false 2 m_value_at := by
  refine ⟨f, fd, ["code", "row"], ?_, g, F.kp, F.binds fun _ _ _ _ _ _ us hl => match us, hl with | [_, _], _ => rfl⟩
  exact fn_nd (NN := N_value_at) (n := 2) (hb := false) (g := g_value_at) F sc_value_at rfl (fun cdv A outer s H E c hT hr tk own =>
    have S := sc_value_at
    (ns_cons (ns_set (i := 2) S.nd rfl (.inl rfl) (dv (nd_op od_band (nd_op od_shr (nd_var 0) (nd_var 1)) (nd_glI B.gMARKS rfl))))
    (ns_cons (ns_if (nt_cmp (od_eq hr.units) (nd_var 2) nd_int) (ns_one (ns_ret (dv nd_non))) ns_nil)
    (ns_one (ns_ret (dv (nd_op od_fdiv (nd_op od_sub (nd_bits (nd_var 2)) nd_int) (nd_glI B.gWIDTH rfl))))))))
def g_column_of : FS := (retS (dV (bltQ tupD (vD (lcE (rngI (cnt 1 (acons (vr 1) anil))) (tN 2) yesT (vD (callP m_value_at (cnt 2 (acons (vr 0) (acons (vr 2) anil))))) [2])))))
def m_column_of : MF := runB false 3 g_column_of
theorem ok_column_of (B : BG P w K mg base T) (C_value_at : Cal P w K mg base T "value_at" 1 false 2 m_value_at) {f : Addr} {fd : FuncData} (F : Fun K "column_of" "column_of" s_column_of f fd) (g : mg "column_of" = some (.ref f)) : Cal P w K mg base T "column_of" 2 false 2 m_column_of := by
  refine ⟨f, fd, ["code", "count"], ?_, g, F.kp, F.binds fun _ _ _ _ _ _ us hl => match us, hl with | [_, _], _ => rfl⟩
  exact fn_nd (NN := N_column_of) (n := 2) (hb := false) (g := g_column_of) F sc_column_of rfl (fun cdv A outer s H E c hT hr tk own =>
    have S := sc_column_of
    (ns_one (ns_ret (dv (nd_qT cq_tuple rfl B.tuple_ (by decide +kernel) (vq (nd_lc (E' := EN) (own := [("row", 2)]) rfl S.nd (nr1 rfl B.range (na_cons (nd_var 1) na_nil)) (blkOk_by (N := N_column_of) (sc := (defScope s_column_of)) (by decide +kernel)) (fun _ _ _ _ _ => (pg_name (i := 2) S.nd rfl (by first | exact .inl rfl | exact .inr rfl))) td_name (fun _ _ _ _ _ => nts_nil) (fun _ _ _ _ _ => (vd (callP_ok hT takes0 C_value_at hr (by decide) rfl (na_cons (nd_var 0) (na_cons (nd_var 2) na_nil))))))))))))
def g_answered : FS := (retS (dV (lift2 bandD (lift2 borD (lift2 borD (vr 0) (lift2 shrD (vr 0) (cst (.int 8)))) (lift2 shrD (vr 0) (lift2 mulD (cst (.int 2)) (cst (.int 8))))) (cst (.int 255)))))
def m_answered : MF := runB false 1 g_answered
theorem ok_answered (B : BG P w K mg base T) {f : Addr} {fd : FuncData} (F : Fun K "answered" "answered" s_answered f fd) (g : mg "answered" = some (.ref f)) : Cal P w K mg base T "answered" 1 false 1 m_answered := by
  refine ⟨f, fd, ["code"], ?_, g, F.kp, F.binds fun _ _ _ _ _ _ us hl => match us, hl with | [_], _ => rfl⟩
  exact fn_nd (NN := N_answered) (n := 1) (hb := false) (g := g_answered) F sc_answered rfl (fun cdv A outer s H E c hT hr tk own =>
    have S := sc_answered
    (ns_one (ns_ret (dv (nd_op od_band (nd_op od_bor (nd_op od_bor (nd_var 0) (nd_op od_shr (nd_var 0) (nd_glI B.gWIDTH rfl))) (nd_op od_shr (nd_var 0) (nd_op od_mul nd_int (nd_glI B.gWIDTH rfl)))) (nd_glI B.gROWS rfl))))))
def g_sign_shift : FS := (seqS (setE 2 (dV (lift2 bandD (vr 1) (un1 negD (vr 1)))))
    (seqS (ifS (testV (lift2 bandD (vr 0) (vr 2))) (retS (dV (cst (.int 0)))) skipS)
    (seqS (ifS (testV (lift2 bandD (lift2 shrD (vr 0) (cst (.int 8))) (vr 2))) (retS (dV (cst (.int 8)))) skipS)
    (retS (dV (lift2 mulD (cst (.int 2)) (cst (.int 8))))))))
def m_sign_shift : MF := runB false 3 g_sign_shift
theorem ok_sign_shift (B : BG P w K mg base T) {f : Addr} {fd : FuncData} (F : Fun K "sign_shift" "sign_shift" s_sign_shift f fd) (g : mg "sign_shift" = some (.ref f)) : Cal P w K mg base T "sign_shift" 1 false 2 m_sign_shift := by
  refine ⟨f, fd, ["code", "lot"], ?_, g, F.kp, F.binds fun _ _ _ _ _ _ us hl => match us, hl with | [_, _], _ => rfl⟩
  exact fn_nd (NN := N_sign_shift) (n := 2) (hb := false) (g := g_sign_shift) F sc_sign_shift rfl (fun cdv A outer s H E c hT hr tk own =>
    have S := sc_sign_shift
    (ns_cons (ns_set (i := 2) S.nd rfl (.inl rfl) (dv (nd_op od_band (nd_var 1) (nd_neg (nd_var 1)))))
    (ns_cons (ns_if (nt_val (dq (nd_op od_band (nd_var 0) (nd_var 2)))) (ns_one (ns_ret (dv nd_int))) ns_nil)
    (ns_cons (ns_if (nt_val (dq (nd_op od_band (nd_op od_shr (nd_var 0) (nd_glI B.gWIDTH rfl)) (nd_var 2)))) (ns_one (ns_ret (dv (nd_glI B.gWIDTH rfl)))) ns_nil)
    (ns_one (ns_ret (dv (nd_op od_mul nd_int (nd_glI B.gWIDTH rfl)))))))))
def g_first_unkept : FS := (seqS (setE 2 (dV (un1 invD (vD (callP m_answered (cnt 1 (acons (vr 1) anil)))))))
    (seqS (forS (enumI (acons (vr 0) anil)) (tT 2 (tsC (tN 3) (tsC (tT 2 (tsC (tN 4) (tsC (tN 5) tsN))) tsN))) (ifS (testB (lift2 (bD eqD) (lift2 bandD (vr 4) (vr 2)) (cst (.int 0)))) (seqS (setE 6 (callP m_sign_shift (cnt 2 (acons (vr 1) (acons (vr 4) anil)))))
    (ifS (testV (lift2 bandD (vr 5) (un1 invD (lift2 shrD (vr 1) (vr 6))))) (retS (dV (tupE (acons (vr 3) (acons (vr 6) anil))))) skipS)) skipS))
    (retS (dV (cst .non)))))
def m_first_unkept : MF := runB false 7 g_first_unkept
theorem ok_first_unkept (B : BG P w K mg base T) (C_answered : Cal P w K mg base T "answered" 1 false 1 m_answered) (C_sign_shift : Cal P w K mg base T "sign_shift" 1 false 2 m_sign_shift) {f : Addr} {fd : FuncData} (F : Fun K "first_unkept" "first_unkept" s_first_unkept f fd) (g : mg "first_unkept" = some (.ref f)) : Cal P w K mg base T "first_unkept" 2 false 2 m_first_unkept := by
  refine ⟨f, fd, ["pairs", "code"], ?_, g, F.kp, F.binds fun _ _ _ _ _ _ us hl => match us, hl with | [_, _], _ => rfl⟩
  exact fn_nd (NN := N_first_unkept) (n := 2) (hb := false) (g := g_first_unkept) F sc_first_unkept rfl (fun cdv A outer s H E c hT hr tk own =>
    have S := sc_first_unkept
    (ns_cons (ns_set (i := 2) S.nd rfl (.inl rfl) (dv (nd_inv (vd (callP_ok hT tk C_answered hr (by decide) rfl (na_cons (nd_var 1) na_nil))))))
    (ns_cons (ns_for own rfl (ni_enum rfl B.enumerate (na_cons (nd_var 0) na_nil)) (pg_tup rfl (pgs_cons (pg_name (i := 3) S.nd rfl (by first | exact .inl rfl | exact .inr rfl)) (pgs_cons (pg_tup rfl (pgs_cons (pg_name (i := 4) S.nd rfl (by first | exact .inl rfl | exact .inr rfl)) (pgs_cons (pg_name (i := 5) S.nd rfl (by first | exact .inl rfl | exact .inr rfl)) pgs_nil))) pgs_nil))) (td_tup (tds_cons td_name (tds_cons (td_tup (tds_cons td_name (tds_cons td_name tds_nil))) tds_nil))) (ns_one (ns_if (nt_cmp (od_eq hr.units) (nd_op od_band (nd_var 4) (nd_var 2)) nd_int) (ns_cons (ns_set (i := 6) S.nd rfl (.inl rfl) (callP_ok hT tk C_sign_shift hr (by decide) rfl (na_cons (nd_var 1) (na_cons (nd_var 4) na_nil))))
    (ns_one (ns_if (nt_val (dq (nd_op od_band (nd_var 5) (nd_inv (nd_op od_shr (nd_var 1) (nd_var 6)))))) (ns_one (ns_ret (dv (nd_tup (na_cons (nd_var 3) (na_cons (nd_var 6) na_nil)))))) ns_nil))) ns_nil)))
    (ns_one (ns_ret (dv nd_non))))))
def g_clashing_rows : FS := (retS (dV (lift2 bandD (lift2 bandD (vr 1) (vD (callP m_answered (cnt 1 (acons (vr 0) anil))))) (un1 invD (lift2 shrD (vr 0) (vr 2))))))
def m_clashing_rows : MF := runB false 3 g_clashing_rows
theorem ok_clashing_rows (B : BG P w K mg base T) (C_answered : Cal P w K mg base T "answered" 1 false 1 m_answered) {f : Addr} {fd : FuncData} (F : Fun K "clashing_rows" "clashing_rows" s_clashing_rows f fd) (g : mg "clashing_rows" = some (.ref f)) : Cal P w K mg base T "clashing_rows" 2 false 3 m_clashing_rows := by
  refine ⟨f, fd, ["code", "reach", "shift"], ?_, g, F.kp, F.binds fun _ _ _ _ _ _ us hl => match us, hl with | [_, _, _], _ => rfl⟩
  exact fn_nd (NN := N_clashing_rows) (n := 3) (hb := false) (g := g_clashing_rows) F sc_clashing_rows rfl (fun cdv A outer s H E c hT hr tk own =>
    have S := sc_clashing_rows
    (ns_one (ns_ret (dv (nd_op od_band (nd_op od_band (nd_var 1) (vd (callP_ok hT tk C_answered hr (by decide) rfl (na_cons (nd_var 0) na_nil)))) (nd_inv (nd_op od_shr (nd_var 0) (nd_var 2))))))))
def g_run_filling : FPr := (seqPr (setE 3 (callP m_code_of (cnt 1 (acons (vr 2) anil))))
    (seqPr (setE 4 (lstE anil))
    (seqPr (whW 5 (vD (callP m_first_unkept (cnt 2 (acons (vr 1) (acons (vr 3) anil))))) (seqS (unpE (tT 2 (tsC (tN 6) (tsC (tN 7) tsN))) (vr 5))
    (seqS (setE 8 (dV (lift2 ixD (lift2 ixD (vr 0) (vr 6)) (cst (.int 0)))))
    (seqS (setE 9 (dV (lift2 ixD (lift2 ixD (vr 1) (vr 6)) (cst (.int 1)))))
    (seqS (setE 10 (callP m_clashing_rows (cnt 3 (acons (vr 3) (acons (vr 9) (acons (vr 7) anil))))))
    (seqS (ifS (testV (pk 10)) (raiseS 1 ["lot", "one", "other"] (Str.ofString "Clash") (acons (vr 8) (acons (lift2 ixD (vr 8) (cst (.int 0))) (acons (lift2 ixD (vD (callP m_numbers_of (cnt 1 (acons (vr 10) anil)))) (cst (.int 0))) anil)))) skipS)
    (seqS (dropS (methE 4 appD (acons (tupE (acons (vr 8) (acons (vD (callP m_numbers_of (cnt 1 (acons (lift2 bandD (vr 9) (un1 invD (vD (callP m_answered (cnt 1 (acons (vr 3) anil)))))) anil)))) anil))) anil)))
    (setE 3 (dV (lift2 borD (vr 3) (lift2 shlD (vr 9) (vr 7))))))))))) 2000)
    (retPr (vD (callP m_column_of (cnt 2 (acons (vr 3) (acons (bltQ lenD (pk 2)) anil))))) 4))))
def m_run_filling : MPr := runPr 11 g_run_filling
theorem ok_run_filling (B : BG P w K mg base T) (C_code_of : Cal P w K mg base T "code_of" 1 false 1 m_code_of) (C_clashing_rows : Cal P w K mg base T "clashing_rows" 2 false 3 m_clashing_rows) (C_column_of : Cal P w K mg base T "column_of" 2 false 2 m_column_of) (C_first_unkept : Cal P w K mg base T "first_unkept" 2 false 2 m_first_unkept) (C_numbers_of : Cal P w K mg base T "numbers_of" 1 false 1 m_numbers_of) (C_answered : Cal P w K mg base T "answered" 1 false 1 m_answered) {f : Addr} {fd : FuncData} (F : Fun K "run_filling" "run_filling" s_run_filling f fd) (g : mg "run_filling" = some (.ref f)) : CalP P w K mg base T "run_filling" 3 3 m_run_filling := by
  refine ⟨f, fd, ["pairs", "masks", "column"], ?_, g, F.kp, F.binds fun _ _ _ _ _ _ us hl => match us, hl with | [_, _, _], _ => rfl⟩
  exact fn_ndP (NN := N_run_filling) (n := 3) (g := g_run_filling) F sc_run_filling rfl (fun cdv A outer s H E c hT hr tk own =>
    have S := sc_run_filling
    (np_cons (ns_set (i := 3) S.nd rfl (.inl rfl) (callP_ok hT tk C_code_of hr (by decide) rfl (na_cons (nd_var 2) na_nil)))
    (np_cons (ns_set (i := 4) S.nd rfl (.inl rfl) (nd_lst na_nil))
    (np_cons (ns_whileW 5 2000 own S.nd rfl (.inl rfl) (vd (callP_ok hT tk C_first_unkept hr (by decide) rfl (na_cons (nd_var 1) (na_cons (nd_var 3) na_nil)))) (ns_cons (ns_unp (nd_var 5) (pg_tup rfl (pgs_cons (pg_name (i := 6) S.nd rfl (by first | exact .inl rfl | exact .inr rfl)) (pgs_cons (pg_name (i := 7) S.nd rfl (by first | exact .inl rfl | exact .inr rfl)) pgs_nil))) (td_tup (tds_cons td_name (tds_cons td_name tds_nil))))
    (ns_cons (ns_set (i := 8) S.nd rfl (.inl rfl) (dv (nd_ix (nd_ix (nd_var 0) (nd_var 6)) nd_int)))
    (ns_cons (ns_set (i := 9) S.nd rfl (.inl rfl) (dv (nd_ix (nd_ix (nd_var 1) (nd_var 6)) nd_int)))
    (ns_cons (ns_set (i := 10) S.nd rfl (.inl rfl) (callP_ok hT tk C_clashing_rows hr (by decide) rfl (na_cons (nd_var 3) (na_cons (nd_var 9) (na_cons (nd_var 7) na_nil)))))
    (ns_cons (ns_if (nt_val (nd_pk 10)) (ns_one (ns_raise hT tk B.x_Clash hr (by decide) rfl (na_cons (nd_var 8) (na_cons (nd_ix (nd_var 8) nd_int) (na_cons (nd_ix (vd (callP_ok hT tk C_numbers_of hr (by decide) rfl (na_cons (nd_var 10) na_nil))) nd_int) na_nil))))) ns_nil)
    (ns_cons (ns_expr (dq (nd_meth 4 PySem.F.plainAttrs_list PySem.F.slot_list_append PySem.F.type_list_append md_append (na_cons (nd_tup (na_cons (nd_var 8) (na_cons (vd (callP_ok hT tk C_numbers_of hr (by decide) rfl (na_cons (nd_op od_band (nd_var 9) (nd_inv (vd (callP_ok hT tk C_answered hr (by decide) rfl (na_cons (nd_var 3) na_nil))))) na_nil))) na_nil))) na_nil))))
    (ns_one (ns_set (i := 3) S.nd rfl (.inl rfl) (dv (nd_op od_bor (nd_var 3) (nd_op od_shl (nd_var 9) (nd_var 7)))))))))))))
    (np_ret 4 (vd (callP_ok hT tk C_column_of hr (by decide) rfl (na_cons (nd_var 3) (na_cons (nd_q cq_len rfl B.len PySem.boot_len (nd_pk 2)) na_nil)))))))))
def g_filled : FS := (retS (callIx false m_run_filling (cnt 3 (acons (vr 0) (acons (vD (callP m_pair_masks (cnt 1 (acons (vr 0) anil)))) (acons (vr 1) anil))))))
def m_filled : MF := runB false 2 g_filled
theorem ok_filled (B : BG P w K mg base T) (C_run_filling : CalP P w K mg base T "run_filling" 3 3 m_run_filling) (C_pair_masks : Cal P w K mg base T "pair_masks" 2 false 1 m_pair_masks) {f : Addr} {fd : FuncData} (F : Fun K "filled" "filled" s_filled f fd) (g : mg "filled" = some (.ref f)) : Cal P w K mg base T "filled" 4 false 2 m_filled := by
  refine ⟨f, fd, ["pairs", "column"], ?_, g, F.kp, F.binds fun _ _ _ _ _ _ us hl => match us, hl with | [_, _], _ => rfl⟩
  exact fn_nd (NN := N_filled) (n := 2) (hb := false) (g := g_filled) F sc_filled rfl (fun cdv A outer s H E c hT hr tk own =>
    have S := sc_filled
    (ns_one (ns_ret (callIx_ok false hT tk C_run_filling hr (by decide) rfl (na_cons (nd_var 0) (na_cons (vd (callP_ok hT tk C_pair_masks hr (by decide) rfl (na_cons (nd_var 0) na_nil))) (na_cons (nd_var 1) na_nil)))))))
def g_fill_steps : FS := (retS (callIx true m_run_filling (cnt 3 (acons (vr 0) (acons (vD (callP m_pair_masks (cnt 1 (acons (vr 0) anil)))) (acons (vr 1) anil))))))
def m_fill_steps : MF := runB false 2 g_fill_steps
theorem ok_fill_steps (B : BG P w K mg base T) (C_run_filling : CalP P w K mg base T "run_filling" 3 3 m_run_filling) (C_pair_masks : Cal P w K mg base T "pair_masks" 2 false 1 m_pair_masks) {f : Addr} {fd : FuncData} (F : Fun K "fill_steps" "fill_steps" s_fill_steps f fd) (g : mg "fill_steps" = some (.ref f)) : Cal P w K mg base T "fill_steps" 4 false 2 m_fill_steps := by
  refine ⟨f, fd, ["pairs", "column"], ?_, g, F.kp, F.binds fun _ _ _ _ _ _ us hl => match us, hl with | [_, _], _ => rfl⟩
  exact fn_nd (NN := N_fill_steps) (n := 2) (hb := false) (g := g_fill_steps) F sc_fill_steps rfl (fun cdv A outer s H E c hT hr tk own =>
    have S := sc_fill_steps
    (ns_one (ns_ret (callIx_ok true hT tk C_run_filling hr (by decide) rfl (na_cons (nd_var 0) (na_cons (vd (callP_ok hT tk C_pair_masks hr (by decide) rfl (na_cons (nd_var 0) na_nil))) (na_cons (nd_var 1) na_nil)))))))
def g_l_take : FS := (seqS (bagSt 0 4 (lift2 addD (bagIx 0 4) (cst (.int 1))))
    (seqS (ifS (andT (testB (lift2 (bD eqD) (bagIx 0 2) (cst (.int 0)))) (testB (lift2 (bD ltD) (bagIx 0 1) (bltQ lenD (bagIx 0 0))))) (seqS (setE 2 (dV (lift2 ixD (bagIx 0 0) (bagIx 0 1))))
    (seqS (bagSt 0 1 (lift2 addD (bagIx 0 1) (cst (.int 1))))
    (ifS (testB (lift2 (bD geD) (vr 2) (lift2 powD (cst (.int 10)) (cst (.int 18))))) (bagSt 0 2 (vr 2)) (bagSt 0 3 (lift2 modD (bltQ intD (lift2 addD (lift2 addD (lift2 mulD (bagIx 0 3) (cst (.int 39373))) (lift2 mulD (lift2 modD (bltQ intD (pk 2)) (cst (.int 2147483489))) (cst (.int 30029)))) (cst (.int 71)))) (cst (.int 2147483629))))))) skipS)
    (seqS (ifS (testB (lift2 (bD gtD) (bagIx 0 2) (cst (.int 0)))) (seqS (setE 3 (dV (lift2 modD (bltQ intD (bagIx 0 2)) (vr 1))))
    (seqS (bagSt 0 2 (lift2 fdivD (bagIx 0 2) (vr 1)))
    (retO 3))) skipS)
    (seqS (setE 4 (dV (bltQ intD (bagIx 0 3))))
    (seqS (bagSt 0 3 (lift2 modD (bltQ intD (lift2 addD (lift2 addD (lift2 addD (lift2 powD (vr 4) (cst (.int 3))) (lift2 mulD (vr 4) (cst (.int 27737)))) (lift2 mulD (bagIx 0 4) (cst (.int 1299827)))) (cst (.int 50021)))) (cst (.int 2147483629))))
    (retS (dV (lift2 modD (bltQ intD (lift2 addD (lift2 fdivD (bagIx 0 3) (cst (.int 83))) (lift2 mulD (lift2 modD (bltQ intD (bagIx 0 3)) (cst (.int 7919))) (cst (.int 59))))) (vr 1)))))))))
def m_l_take : MF := runB true 5 g_l_take
theorem ok_l_take (B : BG P w K mg base T) {f : Addr} {fd : FuncData} (F : Fun K "_law_take" "_law_take" s_l_take f fd) (g : mg "_law_take" = some (.ref f)) : Cal P w K mg base T "_law_take" 1 true 1 m_l_take := by
  refine ⟨f, fd, ["_law_bag_here", "_law_many"], ?_, g, F.kp, F.binds fun _ _ _ _ _ _ us hl => match us, hl with | [_, _], _ => rfl⟩
  exact fn_nd (NN := N_l_take) (n := 1) (hb := true) (g := g_l_take) F sc_l_take rfl (fun cdv A outer s H E c hT hr tk own =>
    have S := sc_l_take
    (ns_cons (ns_bagSt 0 (nd_op od_add (nd_bagIx 0) nd_int) (pv 0) (fun he ho hi => ps_asg he (pg_sub ho hi set_list)))
    (ns_cons (ns_if (PW.pt (nw_and (nt_cmp (od_eq hr.units) (nd_bagIx 0) nd_int) (nw_and1 (nt_cmp od_lt (nd_bagIx 0) (nd_q cq_len rfl B.len PySem.boot_len (dq (nd_bagIx 0))))))) (ns_cons (ns_set (i := 2) S.nd rfl (.inl rfl) (dv (nd_ix (nd_bagIx 0) (nd_bagIx 0))))
    (ns_cons (ns_bagSt 0 (nd_op od_add (nd_bagIx 0) nd_int) (pv 0) (fun he ho hi => ps_asg he (pg_sub ho hi set_list)))
    (ns_one (ns_if (nt_cmp od_ge (nd_var 2) (nd_op od_pow nd_int nd_int)) (ns_one (ns_bagSt 0 (nd_var 2) (pv 0) (fun he ho hi => ps_asg he (pg_sub ho hi set_list)))) (ns_one (ns_bagSt 0 (nd_op od_mod (nd_qT cq_int rfl B.int_ (by decide +kernel) (dq (nd_op od_add (nd_op od_add (nd_op od_mul (nd_bagIx 0) nd_int) (nd_op od_mul (nd_op od_mod (nd_qT cq_int rfl B.int_ (by decide +kernel) (nd_pk 2)) nd_int) nd_int)) nd_int))) nd_int) (pv 0) (fun he ho hi => ps_asg he (pg_sub ho hi set_list)))))))) ns_nil)
    (ns_cons (ns_if (nt_cmp od_gt (nd_bagIx 0) nd_int) (ns_cons (ns_set (i := 3) S.nd rfl (.inl rfl) (dv (nd_op od_mod (nd_qT cq_int rfl B.int_ (by decide +kernel) (dq (nd_bagIx 0))) (nd_var 1))))
    (ns_cons (ns_bagSt 0 (nd_op od_fdiv (nd_bagIx 0) (nd_var 1)) (pv 0) (fun he ho hi => ps_asg he (pg_sub ho hi set_list)))
    (ns_one (ns_retO 3)))) ns_nil)
    (ns_cons (ns_set (i := 4) S.nd rfl (.inl rfl) (dv (nd_qT cq_int rfl B.int_ (by decide +kernel) (dq (nd_bagIx 0)))))
    (ns_cons (ns_bagSt 0 (nd_op od_mod (nd_qT cq_int rfl B.int_ (by decide +kernel) (dq (nd_op od_add (nd_op od_add (nd_op od_add (nd_op od_pow (nd_var 4) nd_int) (nd_op od_mul (nd_var 4) nd_int)) (nd_op od_mul (nd_bagIx 0) nd_int)) nd_int))) nd_int) (pv 0) (fun he ho hi => ps_asg he (pg_sub ho hi set_list)))
    (ns_one (ns_ret (dv (nd_op od_mod (nd_qT cq_int rfl B.int_ (by decide +kernel) (dq (nd_op od_add (nd_op od_fdiv (nd_bagIx 0) nd_int) (nd_op od_mul (nd_op od_mod (nd_qT cq_int rfl B.int_ (by decide +kernel) (dq (nd_bagIx 0))) nd_int) nd_int)))) (nd_var 1)))))))))))
def g_l_of : FS := (retS (dV (lift2 ixD (vr 1) (vD (callB 0 m_l_take (cnt 1 (acons (bltQ lenD (pk 1)) anil)))))))
def m_l_of : MF := runB true 2 g_l_of
theorem ok_l_of (B : BG P w K mg base T) (C_l_take : Cal P w K mg base T "_law_take" 1 true 1 m_l_take) {f : Addr} {fd : FuncData} (F : Fun K "_law_of" "_law_of" s_l_of f fd) (g : mg "_law_of" = some (.ref f)) : Cal P w K mg base T "_law_of" 2 true 1 m_l_of := by
  refine ⟨f, fd, ["_law_bag_here", "_law_things"], ?_, g, F.kp, F.binds fun _ _ _ _ _ _ us hl => match us, hl with | [_, _], _ => rfl⟩
  exact fn_nd (NN := N_l_of) (n := 1) (hb := true) (g := g_l_of) F sc_l_of rfl (fun cdv A outer s H E c hT hr tk own =>
    have S := sc_l_of
    (ns_one (ns_ret (dv (nd_ix (nd_var 1) (vd (callB_ok 0 hT tk C_l_take hr (by decide) rfl (na_cons (nd_q cq_len rfl B.len PySem.boot_len (nd_pk 1)) na_nil))))))))
def g_l_same (rec : MF) : FS := (seqS (ifS (testV (bltE (isiX tabL) (acons (vr 1) (acons (tupE (acons (cst (.opq (.ty "list"))) (acons (cst (.opq (.ty "tuple"))) anil))) anil)))) (seqS (ifS (orT (testB (lift2 (nD eqD) (bltE (isiX tabL) (acons (vr 0) (acons (cst (.opq (.ty "list"))) anil))) (bltE (isiX tabL) (acons (vr 1) (acons (cst (.opq (.ty "list"))) anil))))) (testB (lift2 (nD eqD) (bltE (isiX tabL) (acons (vr 0) (acons (cst (.opq (.ty "tuple"))) anil))) (bltE (isiX tabL) (acons (vr 1) (acons (cst (.opq (.ty "tuple"))) anil)))))) (retS (dV (cst (.bl false)))) skipS)
    (retS (dV (andV (lift2 (bD eqD) (bltQ lenD (pk 0)) (bltQ lenD (pk 1))) (bltQ allD (vD (lcE (zipI (acons (vr 0) (acons (vr 1) anil))) (tT 2 (tsC (tN 2) (tsC (tN 3) tsN))) yesT (vD (callP rec (cnt 2 (acons (vr 2) (acons (vr 3) anil))))) [2, 3]))))))) skipS)
    (seqS (ifS (orT (testB (lift2 (bD isN) (vr 1) (cst .non))) (testB (lift2 (bD isN) (vr 0) (cst .non)))) (retS (dV (andV (lift2 (bD isN) (vr 1) (cst .non)) (lift2 (bD isN) (vr 0) (cst .non))))) skipS)
    (seqS (ifS (orT (testV (bltE (isiX tabL) (acons (vr 1) (acons (cst (.opq (.ty "bool"))) anil)))) (testV (bltE (isiX tabL) (acons (vr 0) (acons (cst (.opq (.ty "bool"))) anil))))) (retS (dV (andV (bltE (isiX tabL) (acons (vr 1) (acons (cst (.opq (.ty "bool"))) anil))) (andV (bltE (isiX tabL) (acons (vr 0) (acons (cst (.opq (.ty "bool"))) anil))) (lift2 (bD eqD) (vr 0) (vr 1)))))) skipS)
    (seqS (ifS (testV (bltE (isiX tabL) (acons (vr 1) (acons (cst (.opq (.ty "int"))) anil)))) (retS (dV (andV (bltE (isiX tabL) (acons (vr 0) (acons (cst (.opq (.ty "int"))) anil))) (lift2 (bD eqD) (vr 0) (vr 1))))) skipS)
    (seqS (ifS (testV (bltE (isiX tabL) (acons (vr 1) (acons (cst (.opq (.ty "str"))) anil)))) (retS (dV (andV (bltE (isiX tabL) (acons (vr 0) (acons (cst (.opq (.ty "str"))) anil))) (lift2 (bD eqD) (vr 0) (vr 1))))) skipS)
    (retS (dV (andV (bltE (isiX tabL) (acons (vr 1) (acons (cst (.opq (.ty "dict"))) anil))) (andV (bltE (isiX tabL) (acons (vr 0) (acons (cst (.opq (.ty "dict"))) anil))) (lift2 (bD eqD) (vr 0) (vr 1)))))))))))
def m_l_same : Nat → MF
  | 0 => fun _ _ => .no
  | n + 1 => runB false 4 (g_l_same (m_l_same n))
theorem ok_l_same (B : BG P w K mg base T) {f : Addr} {fd : FuncData} (F : Fun K "_law_same" "_law_same" s_l_same f fd) (g : mg "_law_same" = some (.ref f)) : ∀ j : Nat, Cal P w K mg base T "_law_same" (0 + j) false 2 (m_l_same j)
  | 0 => ⟨f, fd, ["_law_found", "_law_due"], fn_never fun _ _ => rfl, g, F.kp, F.binds fun _ _ _ _ _ _ us hl => match us, hl with | [_, _], _ => rfl⟩
  | j + 1 => by
    have R := ok_l_same B F g j
    refine ⟨f, fd, ["_law_found", "_law_due"], ?_, g, F.kp, F.binds fun _ _ _ _ _ _ us hl => match us, hl with | [_, _], _ => rfl⟩
    exact fn_nd (NN := N_l_same) (n := 2) (hb := false) (g := g_l_same (m_l_same j)) F sc_l_same rfl (fun cdv A outer s H E c hT hr tk own =>
    have S := sc_l_same
    (ns_cons (ns_if (nt_val (dq (nd_isX hT B.tab rfl B.isinstance (by decide +kernel) (na_cons (nd_var 1) (na_cons (nd_tup (na_cons (nd_ty (by rfl) B.list_ (by decide +kernel)) (na_cons (nd_ty (by rfl) B.tuple_ (by decide +kernel)) na_nil))) na_nil))))) (ns_cons (ns_if (PW.pt (nw_or (nt_cmp (od_ne hr.units) (nd_isX hT B.tab rfl B.isinstance (by decide +kernel) (na_cons (nd_var 0) (na_cons (nd_ty (by rfl) B.list_ (by decide +kernel)) na_nil))) (nd_isX hT B.tab rfl B.isinstance (by decide +kernel) (na_cons (nd_var 1) (na_cons (nd_ty (by rfl) B.list_ (by decide +kernel)) na_nil)))) (nw_or1 (nt_cmp (od_ne hr.units) (nd_isX hT B.tab rfl B.isinstance (by decide +kernel) (na_cons (nd_var 0) (na_cons (nd_ty (by rfl) B.tuple_ (by decide +kernel)) na_nil))) (nd_isX hT B.tab rfl B.isinstance (by decide +kernel) (na_cons (nd_var 1) (na_cons (nd_ty (by rfl) B.tuple_ (by decide +kernel)) na_nil))))))) (ns_one (ns_ret (dv nd_bl))) ns_nil)
    (ns_one (ns_ret (dv (nd_and (nd_cmp (od_eq hr.units) (nd_q cq_len rfl B.len PySem.boot_len (nd_pk 0)) (nd_q cq_len rfl B.len PySem.boot_len (nd_pk 1))) (nd_one (nd_q (cq_all rfl) rfl B.all (by decide +kernel) (vq (nd_lc (E' := EN) (own := [("_law_one", 2), ("_law_other", 3)]) rfl S.nd (ni_zip rfl B.zip (na_cons (nd_var 0) (na_cons (nd_var 1) na_nil))) (blkOk_by (N := N_l_same) (sc := (defScope s_l_same)) (by decide +kernel)) (fun _ _ _ _ _ => (pg_tup rfl (pgs_cons (pg_name (i := 2) S.nd rfl (by first | exact .inl rfl | exact .inr rfl)) (pgs_cons (pg_name (i := 3) S.nd rfl (by first | exact .inl rfl | exact .inr rfl)) pgs_nil)))) (td_tup (tds_cons td_name (tds_cons td_name tds_nil))) (fun _ _ _ _ _ => nts_nil) (fun _ _ _ _ _ => (vd (callP_ok hT takes0 R hr (Nat.le_refl _) rfl (na_cons (nd_var 2) (na_cons (nd_var 3) na_nil)))))))))))))) ns_nil)
    (ns_cons (ns_if (PW.pt (nw_or (nt_cmp od_is (nd_var 1) nd_non) (nw_or1 (nt_cmp od_is (nd_var 0) nd_non)))) (ns_one (ns_ret (dv (nd_and (nd_cmp od_is (nd_var 1) nd_non) (nd_one (nd_cmp od_is (nd_var 0) nd_non)))))) ns_nil)
    (ns_cons (ns_if (PW.pt (nw_or (nt_val (dq (nd_isX hT B.tab rfl B.isinstance (by decide +kernel) (na_cons (nd_var 1) (na_cons (nd_ty (by rfl) B.bool_ (by decide +kernel)) na_nil))))) (nw_or1 (nt_val (dq (nd_isX hT B.tab rfl B.isinstance (by decide +kernel) (na_cons (nd_var 0) (na_cons (nd_ty (by rfl) B.bool_ (by decide +kernel)) na_nil)))))))) (ns_one (ns_ret (dv (nd_and (nd_isX hT B.tab rfl B.isinstance (by decide +kernel) (na_cons (nd_var 1) (na_cons (nd_ty (by rfl) B.bool_ (by decide +kernel)) na_nil))) (nd_and (nd_isX hT B.tab rfl B.isinstance (by decide +kernel) (na_cons (nd_var 0) (na_cons (nd_ty (by rfl) B.bool_ (by decide +kernel)) na_nil))) (nd_one (nd_cmp (od_eq hr.units) (nd_var 0) (nd_var 1)))))))) ns_nil)
    (ns_cons (ns_if (nt_val (dq (nd_isX hT B.tab rfl B.isinstance (by decide +kernel) (na_cons (nd_var 1) (na_cons (nd_ty (by rfl) B.int_ (by decide +kernel)) na_nil))))) (ns_one (ns_ret (dv (nd_and (nd_isX hT B.tab rfl B.isinstance (by decide +kernel) (na_cons (nd_var 0) (na_cons (nd_ty (by rfl) B.int_ (by decide +kernel)) na_nil))) (nd_one (nd_cmp (od_eq hr.units) (nd_var 0) (nd_var 1))))))) ns_nil)
    (ns_cons (ns_if (nt_val (dq (nd_isX hT B.tab rfl B.isinstance (by decide +kernel) (na_cons (nd_var 1) (na_cons (nd_ty (by rfl) B.str_ (by decide +kernel)) na_nil))))) (ns_one (ns_ret (dv (nd_and (nd_isX hT B.tab rfl B.isinstance (by decide +kernel) (na_cons (nd_var 0) (na_cons (nd_ty (by rfl) B.str_ (by decide +kernel)) na_nil))) (nd_one (nd_cmp (od_eq hr.units) (nd_var 0) (nd_var 1))))))) ns_nil)
    (ns_one (ns_ret (dv (nd_and (nd_isX hT B.tab rfl B.isinstance (by decide +kernel) (na_cons (nd_var 1) (na_cons (nd_ty (by rfl) B.dict_ (by decide +kernel)) na_nil))) (nd_and (nd_isX hT B.tab rfl B.isinstance (by decide +kernel) (na_cons (nd_var 0) (na_cons (nd_ty (by rfl) B.dict_ (by decide +kernel)) na_nil))) (nd_one (nd_cmp (od_eq hr.units) (nd_var 0) (nd_var 1))))))))))))))
def g_l_lots : FS := (seqS (parE 1 2 (acons (vD (lstE anil)) (acons (vD (lstE (acons (tupE anil) anil))) anil)))
    (seqS (forS (rngI (cnt 1 (acons (vr 0) anil))) (tN 3) (seqS (setE 4 (lstE anil))
    (seqS (forS (seqI (vr 2)) (tN 5) (forS (rngI (cnt 2 (acons (iteE (testV (pk 5)) (lift2 addD (lift2 ixD (vr 5) (un1 negD (cst (.int 1)))) (cst (.int 1))) (cst (.int 0))) (acons (vr 0) anil)))) (tN 6) (dropS (methE 4 appD (acons (lift2 addD (vr 5) (tupE (acons (vr 6) anil))) anil)))))
    (seqS (setE 1 (lift2L catD (vr 1) (vr 4)))
    (setE 2 (dV (vr 4)))))))
    (retO 1)))
def m_l_lots : MF := runB false 7 g_l_lots
theorem ok_l_lots (B : BG P w K mg base T) {f : Addr} {fd : FuncData} (F : Fun K "_law_lots" "_law_lots" s_l_lots f fd) (g : mg "_law_lots" = some (.ref f)) : Cal P w K mg base T "_law_lots" 1 false 1 m_l_lots := by
  refine ⟨f, fd, ["_law_count"], ?_, g, F.kp, F.binds fun _ _ _ _ _ _ us hl => match us, hl with | [_], _ => rfl⟩
  exact fn_nd (NN := N_l_lots) (n := 1) (hb := false) (g := g_l_lots) F sc_l_lots rfl (fun cdv A outer s H E c hT hr tk own =>
    have S := sc_l_lots
    (ns_cons (ns_par (i := 1) (j := 2) (fun ha => ps_par rfl S.nd rfl rfl (by decide) rfl rfl ha rfl) (na_cons (vd (nd_lst na_nil)) (na_cons (vd (nd_lst (na_cons (nd_tup na_nil) na_nil))) na_nil)))
    (ns_cons (ns_for own rfl (nr1 rfl B.range (na_cons (nd_var 0) na_nil)) (pg_name (i := 3) S.nd rfl (by first | exact .inl rfl | exact .inr rfl)) td_name (ns_cons (ns_set (i := 4) S.nd rfl (.inl rfl) (nd_lst na_nil))
    (ns_cons (ns_for own rfl (ni_seq (nd_var 2)) (pg_name (i := 5) S.nd rfl (by first | exact .inl rfl | exact .inr rfl)) td_name (ns_one (ns_for own rfl (nr2 rfl B.range (na_cons (nd_ife (nt_val (nd_pk 5)) (nd_op od_add (nd_ix (nd_var 5) (nd_neg nd_int)) nd_int) nd_int) (na_cons (nd_var 0) na_nil))) (pg_name (i := 6) S.nd rfl (by first | exact .inl rfl | exact .inr rfl)) td_name (ns_one (ns_expr (dq (nd_meth 4 PySem.F.plainAttrs_list PySem.F.slot_list_append PySem.F.type_list_append md_append (na_cons (nd_op od_add (nd_var 5) (nd_tup (na_cons (nd_var 6) na_nil))) na_nil))))))))
    (ns_cons (ns_set (i := 1) S.nd rfl (.inl rfl) (nd_opL ol_cat (nd_var 1) (nd_var 4)))
    (ns_one (ns_set (i := 2) S.nd rfl (.inl rfl) (dv (nd_var 4))))))))
    (ns_one (ns_retO 1)))))
def g_l_asking : FS := (seqS (setE 1 (lstE anil))
    (seqS (forS (seqI (vD (callP m_l_lots (cnt 1 (acons (bltQ lenD (pk 0)) anil))))) (tN 2) (seqS (setE 3 (dV (lift2 ixD (vr 0) (lift2 ixD (vr 2) (cst (.int 0))))))
    (seqS (setE 4 (lcE (rngI (cnt 1 (acons (bltQ lenD (pk 3)) anil))) (tN 6) (testV (bltQ allD (vD (lcE (seqI (vr 2)) (tN 7) yesT (lift2 (nD isN) (lift2 ixD (lift2 ixD (vr 0) (vr 7)) (vr 6)) (cst .non)) [7])))) (vr 6) [6]))
    (seqS (setE 5 (lcE (rngI (cnt 1 (acons (bltQ lenD (pk 0)) anil))) (tN 7) (testV (bltQ allD (vD (lcE (seqI (vr 4)) (tN 6) yesT (lift2 (bD eqD) (lift2 ixD (lift2 ixD (vr 0) (vr 7)) (vr 6)) (lift2 ixD (vr 3) (vr 6))) [6])))) (vr 7) [7]))
    (ifS (testV (bltQ allD (vD (lcE (seqI (vr 2)) (tN 7) yesT (lift2 (bD inW) (vr 7) (vr 5)) [7])))) (dropS (methE 1 appD (acons (tupE (acons (vr 2) (acons (bltE tupleA (acons (vr 5) anil)) anil))) anil))) skipS)))))
    (retO 1)))
def m_l_asking : MF := runB false 8 g_l_asking
theorem ok_l_asking (B : BG P w K mg base T) (C_l_lots : Cal P w K mg base T "_law_lots" 1 false 1 m_l_lots) {f : Addr} {fd : FuncData} (F : Fun K "_law_asking" "_law_asking" s_l_asking f fd) (g : mg "_law_asking" = some (.ref f)) : Cal P w K mg base T "_law_asking" 2 false 1 m_l_asking := by
  refine ⟨f, fd, ["_law_rows"], ?_, g, F.kp, F.binds fun _ _ _ _ _ _ us hl => match us, hl with | [_], _ => rfl⟩
  exact fn_nd (NN := N_l_asking) (n := 1) (hb := false) (g := g_l_asking) F sc_l_asking rfl (fun cdv A outer s H E c hT hr tk own =>
    have S := sc_l_asking
    (ns_cons (ns_set (i := 1) S.nd rfl (.inl rfl) (nd_lst na_nil))
    (ns_cons (ns_for own rfl (ni_seq (vd (callP_ok hT tk C_l_lots hr (by decide) rfl (na_cons (nd_q cq_len rfl B.len PySem.boot_len (nd_pk 0)) na_nil)))) (pg_name (i := 2) S.nd rfl (.inr rfl)) td_name (ns_cons (ns_set (i := 3) S.nd rfl (.inr rfl) (dv (nd_ix (nd_var 0) (nd_ix (nd_var 2) nd_int))))
    (ns_cons (ns_set (i := 4) S.nd rfl (.inr rfl) (nd_lc (E' := EN) (own := [("_law_i", 6)]) rfl S.nd (nr1 rfl B.range (na_cons (nd_q cq_len rfl B.len PySem.boot_len (nd_pk 3)) na_nil)) (blkOk_by (N := N_l_asking) (sc := (defScope s_l_asking)) (by decide +kernel)) (fun _ _ _ _ _ => (pg_name (i := 6) S.nd rfl (by first | exact .inl rfl | exact .inr rfl))) td_name (fun _ _ _ _ _ => (nts_one (nt_val (dq (nd_q (cq_all rfl) rfl B.all (by decide +kernel) (vq (nd_lc (E' := EN) (own := [("_law_r", 7)]) rfl S.nd (ni_seq (nd_var 2)) (blkOk_by (N := N_l_asking) (sc := (relS _ (defScope s_l_asking))) (by decide +kernel)) (fun _ _ _ _ _ => (pg_name (i := 7) S.nd rfl (by first | exact .inl rfl | exact .inr rfl))) td_name (fun _ _ _ _ _ => nts_nil) (fun _ _ _ _ _ => (nd_cmp od_isnot (nd_ix (nd_ix (nd_var 0) (nd_var 7)) (nd_var 6)) nd_non))))))))) (fun _ _ _ _ _ => (nd_var 6))))
    (ns_cons (ns_set (i := 5) S.nd rfl (.inr rfl) (nd_lc (E' := EN) (own := [("_law_r", 7)]) rfl S.nd (nr1 rfl B.range (na_cons (nd_q cq_len rfl B.len PySem.boot_len (nd_pk 0)) na_nil)) (blkOk_by (N := N_l_asking) (sc := (defScope s_l_asking)) (by decide +kernel)) (fun _ _ _ _ _ => (pg_name (i := 7) S.nd rfl (by first | exact .inl rfl | exact .inr rfl))) td_name (fun _ _ _ _ _ => (nts_one (nt_val (dq (nd_q (cq_all rfl) rfl B.all (by decide +kernel) (vq (nd_lc (E' := EN) (own := [("_law_i", 6)]) rfl S.nd (ni_seq (nd_var 4)) (blkOk_by (N := N_l_asking) (sc := (relS _ (defScope s_l_asking))) (by decide +kernel)) (fun _ _ _ _ _ => (pg_name (i := 6) S.nd rfl (by first | exact .inl rfl | exact .inr rfl))) td_name (fun _ _ _ _ _ => nts_nil) (fun _ _ _ _ _ => (nd_cmp (od_eq hr.units) (nd_ix (nd_ix (nd_var 0) (nd_var 7)) (nd_var 6)) (nd_ix (nd_var 3) (nd_var 6))))))))))) (fun _ _ _ _ _ => (nd_var 7))))
    (ns_one (ns_if (nt_val (dq (nd_q (cq_all rfl) rfl B.all (by decide +kernel) (vq (nd_lc (E' := EN) (own := [("_law_r", 7)]) rfl S.nd (ni_seq (nd_var 2)) (blkOk_by (N := N_l_asking) (sc := (defScope s_l_asking)) (by decide +kernel)) (fun _ _ _ _ _ => (pg_name (i := 7) S.nd rfl (by first | exact .inl rfl | exact .inr rfl))) td_name (fun _ _ _ _ _ => nts_nil) (fun _ _ _ _ _ => (nd_cmp (od_inW hr) (nd_var 7) (nd_var 5)))))))) (ns_one (ns_expr (dq (nd_meth 1 PySem.F.plainAttrs_list PySem.F.slot_list_append PySem.F.type_list_append md_append (na_cons (nd_tup (na_cons (nd_var 2) (na_cons (nd_bltT cd_tuple rfl B.tuple_ (by decide +kernel) (na_cons (nd_var 5) na_nil)) na_nil))) na_nil))))) ns_nil))))))
    (ns_one (ns_retO 1)))))
def g_l_drawn_pairs : FS := (seqS (unpDV 3 4 (vD (callP m_l_lots (cnt 1 (acons (vr 1) anil)))) (newE (.dct [])))
    (seqS (forS (rngI (cnt 1 (acons (vD (callB 0 m_l_take (cnt 1 (acons (lift2 addD (vr 2) (cst (.int 1))) anil)))) anil))) (tN 5) (seqS (setE 6 (dV (lift2 ixD (vr 3) (bltE minD (acons (vD (callB 0 m_l_take (cnt 1 (acons (bltQ lenD (pk 3)) anil)))) (acons (vD (callB 0 m_l_take (cnt 1 (acons (bltQ lenD (pk 3)) anil)))) anil))))))
    (seqS (setE 7 (lstE anil))
    (seqS (forS (rngI (cnt 1 (acons (vr 1) anil))) (tN 8) (seqS (setE 9 (callB 0 m_l_take (cnt 1 (acons (cst (.int 3)) anil))))
    (ifS (orT (testB (lift2 (bD inW) (vr 8) (vr 6))) (testB (lift2 (bD eqD) (vr 9) (cst (.int 1))))) (dropS (methE 7 appD (acons (vr 8) anil))) skipS)))
    (setDS 4 (vr 6) (bltQ tupD (pk 7)))))))
    (retS (lcE (seqI (vr 3)) (tN 6) (testB (lift2 (bD inG) (vr 6) (vr 4))) (tupE (acons (vr 6) (acons (lift2 ixG (vr 4) (vr 6)) anil))) [6]))))
def m_l_drawn_pairs : MF := runB true 10 g_l_drawn_pairs
theorem ok_l_drawn_pairs (B : BG P w K mg base T) (C_l_lots : Cal P w K mg base T "_law_lots" 1 false 1 m_l_lots) (C_l_take : Cal P w K mg base T "_law_take" 1 true 1 m_l_take) {f : Addr} {fd : FuncData} (F : Fun K "_law_drawn_pairs" "_law_drawn_pairs" s_l_drawn_pairs f fd) (g : mg "_law_drawn_pairs" = some (.ref f)) : Cal P w K mg base T "_law_drawn_pairs" 2 true 2 m_l_drawn_pairs := by
  refine ⟨f, fd, ["_law_bag_here", "_law_count", "_law_most"], ?_, g, F.kp, F.binds fun _ _ _ _ _ _ us hl => match us, hl with | [_, _, _], _ => rfl⟩
  exact fn_nd (NN := N_l_drawn_pairs) (n := 2) (hb := true) (g := g_l_drawn_pairs) F sc_l_drawn_pairs rfl (fun cdv A outer s H E c hT hr tk own =>
    have S := sc_l_drawn_pairs
    (ns_cons (ns_unpDV (vd (callP_ok hT tk C_l_lots hr (by decide) rfl (na_cons (nd_var 1) na_nil))) nd_dnewT rfl (pg_name (i := 3) S.nd rfl (.inl rfl)) (pg_name (i := 4) S.nd rfl (.inr rfl)))
    (ns_cons (ns_for own rfl (nr1 rfl B.range (na_cons (vd (callB_ok 0 hT tk C_l_take hr (by decide) rfl (na_cons (nd_op od_add (nd_var 2) nd_int) na_nil))) na_nil)) (pg_name (i := 5) S.nd rfl (by first | exact .inl rfl | exact .inr rfl)) td_name (ns_cons (ns_set (i := 6) S.nd rfl (.inl rfl) (dv (nd_ix (nd_var 3) (nd_blt (cd_min rfl) rfl B.min (by decide +kernel) (na_cons (vd (callB_ok 0 hT tk C_l_take hr (by decide) rfl (na_cons (nd_q cq_len rfl B.len PySem.boot_len (nd_pk 3)) na_nil))) (na_cons (vd (callB_ok 0 hT tk C_l_take hr (by decide) rfl (na_cons (nd_q cq_len rfl B.len PySem.boot_len (nd_pk 3)) na_nil))) na_nil))))))
    (ns_cons (ns_set (i := 7) S.nd rfl (.inl rfl) (nd_lst na_nil))
    (ns_cons (ns_for own rfl (nr1 rfl B.range (na_cons (nd_var 1) na_nil)) (pg_name (i := 8) S.nd rfl (by first | exact .inl rfl | exact .inr rfl)) td_name (ns_cons (ns_set (i := 9) S.nd rfl (.inl rfl) (callB_ok 0 hT tk C_l_take hr (by decide) rfl (na_cons nd_int na_nil)))
    (ns_one (ns_if (PW.pt (nw_or (nt_cmp (od_inW hr) (nd_var 8) (nd_var 6)) (nw_or1 (nt_cmp (od_eq hr.units) (nd_var 9) nd_int)))) (ns_one (ns_expr (dq (nd_meth 7 PySem.F.plainAttrs_list PySem.F.slot_list_append PySem.F.type_list_append md_append (na_cons (nd_var 8) na_nil))))) ns_nil))))
    (ns_one (ns_setDS 4 (nd_qT cq_tuple rfl B.tuple_ (by decide +kernel) (nd_pk 7)) (pv 4) (nd_var 6) (fun he ho hi => ps_asg he (pg_sub ho hi (set_dict (hu_of hr))))))))))
    (ns_one (ns_ret (nd_lc (E' := EN) (own := [("_law_lot", 6)]) rfl S.nd (ni_seq (nd_var 3)) (blkOk_by (N := N_l_drawn_pairs) (sc := (defScope s_l_drawn_pairs)) (by decide +kernel)) (fun _ _ _ _ _ => (pg_name (i := 6) S.nd rfl (by first | exact .inl rfl | exact .inr rfl))) td_name (fun _ _ _ _ _ => (nts_one (nt_cmp (od_inG (hu_of hr)) (nd_var 6) (nd_var 4)))) (fun _ _ _ _ _ => (nd_tup (na_cons (nd_var 6) (na_cons (nd_ixG (hu_of hr) (nd_var 4) (nd_var 6)) na_nil))))))))))
def g_l_steps : FS := (seqS (unpVV 2 3 (bltQL listA (pk 1)) (lstE anil))
    (seqS (forS (rngI (cnt 1 (acons (lift2 addD (bltQ lenD (pk 2)) (cst (.int 1))) anil))) (tN 4) (seqS (setE 5 (dV (cst .non)))
    (seqS (forS (seqI (vr 0)) (tT 2 (tsC (tN 6) (tsC (tN 7) tsN))) (ifS (andT (testB (lift2 (bD isN) (vr 5) (cst .non))) (testB (lift2 (nD inD) (cst .non) (vD (lcE (seqI (vr 6)) (tN 8) yesT (pixE 2 (vr 8)) [8]))))) (seqS (setE 9 (lcE (seqI (vr 7)) (tN 8) (testB (lift2 (nD eqD) (pixE 2 (vr 8)) (pixE 2 (lift2 ixD (vr 6) (cst (.int 0)))))) (vr 8) [8]))
    (ifS (testV (pk 9)) (setE 5 (dV (tupE (acons (vr 6) (acons (vr 9) anil))))) skipS)) skipS))
    (seqS (ifS (testB (lift2 (bD isN) (vr 5) (cst .non))) (retS (dV (tupE (acons (bltQ tupD (pk 2)) (acons (vr 3) (acons (cst .non) anil)))))) skipS)
    (seqS (unpE (tT 2 (tsC (tN 6) (tsC (tN 9) tsN))) (vr 5))
    (seqS (setE 10 (lcE (seqI (vr 9)) (tN 8) (testB (lift2 (nD isN) (pixE 2 (vr 8)) (cst .non))) (vr 8) [8]))
    (seqS (ifS (testV (pk 10)) (retS (dV (tupE (acons (cst .non) (acons (vr 3) (acons (tupE (acons (vr 6) (acons (lift2 ixD (vr 6) (cst (.int 0))) (acons (lift2 ixD (vr 10) (cst (.int 0))) anil)))) anil)))))) skipS)
    (seqS (forS (seqI (vr 9)) (tN 8) (setI 2 (vr 8) (pixE 2 (lift2 ixD (vr 6) (cst (.int 0))))))
    (dropS (methE 3 appD (acons (tupE (acons (vr 6) (acons (bltE tupleA (acons (vr 9) anil)) anil))) anil)))))))))))
    (retS (dV (tupE (acons (bltQ tupD (pk 2)) (acons (vr 3) (acons (cst .non) anil))))))))
def m_l_steps : MF := runB false 11 g_l_steps
theorem ok_l_steps (B : BG P w K mg base T) {f : Addr} {fd : FuncData} (F : Fun K "_law_steps" "_law_steps" s_l_steps f fd) (g : mg "_law_steps" = some (.ref f)) : Cal P w K mg base T "_law_steps" 1 false 2 m_l_steps := by
  refine ⟨f, fd, ["_law_pairs", "_law_column"], ?_, g, F.kp, F.binds fun _ _ _ _ _ _ us hl => match us, hl with | [_, _], _ => rfl⟩
  exact fn_nd (NN := N_l_steps) (n := 2) (hb := false) (g := g_l_steps) F sc_l_steps rfl (fun cdv A outer s H E c hT hr tk own =>
    have S := sc_l_steps
    (ns_cons (ns_unpVV (nd_qLT (cl_listA rfl) rfl B.list_ (by decide +kernel) (nd_pk 1)) (nd_lst na_nil) rfl (pg_name (i := 2) S.nd rfl (.inr rfl)) (pg_name (i := 3) S.nd rfl (.inl rfl)))
    (ns_cons (ns_for own rfl (nr1 rfl B.range (na_cons (nd_op od_add (nd_q cq_len rfl B.len PySem.boot_len (nd_pk 2)) nd_int) na_nil)) (pg_name (i := 4) S.nd rfl (by first | exact .inl rfl | exact .inr rfl)) td_name (ns_cons (ns_set (i := 5) S.nd rfl (.inl rfl) (dv nd_non))
    (ns_cons (ns_for own rfl (ni_seq (nd_var 0)) (pg_tup rfl (pgs_cons (pg_name (i := 6) S.nd rfl (.inr rfl)) (pgs_cons (pg_name (i := 7) S.nd rfl (by first | exact .inl rfl | exact .inr rfl)) pgs_nil))) (td_tup (tds_cons td_name (tds_cons td_name tds_nil))) (ns_one (ns_if (PW.pt (nw_and (nt_cmp od_is (nd_var 5) nd_non) (nw_and1 (nt_cmp od_notin nd_non (vd (nd_lc (E' := EN) (own := [("_law_r", 8)]) rfl S.nd (ni_seq (nd_var 6)) (blkOk_by (N := N_l_steps) (sc := (defScope s_l_steps)) (by decide +kernel)) (fun _ _ _ _ _ => (pg_name (i := 8) S.nd rfl (by first | exact .inl rfl | exact .inr rfl))) td_name (fun _ _ _ _ _ => nts_nil) (fun _ _ _ _ _ => (nd_pix 2 (nd_var 8))))))))) (ns_cons (ns_setLc (i := 9) (E' := EN) (own := [("_law_r", 8)]) rfl S.nd rfl rfl (sw_true rfl rfl rfl (by decide +kernel)) (ni_seq (nd_var 7)) (blkOk_by (N := N_l_steps) (sc := (defScope s_l_steps)) (by decide +kernel)) (fun _ _ _ _ _ => (pg_name (i := 8) S.nd rfl (by first | exact .inl rfl | exact .inr rfl))) td_name (fun _ _ _ _ _ => (nts_one (nt_cmp (od_ne hr.units) (nd_pix 2 (nd_var 8)) (nd_pix 2 (nd_ix (nd_var 6) nd_int))))) (fun _ _ _ _ _ => (nd_var 8)))
    (ns_one (ns_if (nt_val (nd_pk 9)) (ns_one (ns_set (i := 5) S.nd rfl (.inl rfl) (dv (nd_tup (na_cons (nd_var 6) (na_cons (nd_var 9) na_nil)))))) ns_nil))) ns_nil)))
    (ns_cons (ns_if (nt_cmp od_is (nd_var 5) nd_non) (ns_one (ns_ret (dv (nd_tup (na_cons (nd_qT cq_tuple rfl B.tuple_ (by decide +kernel) (nd_pk 2)) (na_cons (nd_var 3) (na_cons nd_non na_nil))))))) ns_nil)
    (ns_cons (ns_unp (nd_var 5) (pg_tup rfl (pgs_cons (pg_name (i := 6) S.nd rfl (.inr rfl)) (pgs_cons (pg_name (i := 9) S.nd rfl (by first | exact .inl rfl | exact .inr rfl)) pgs_nil))) (td_tup (tds_cons td_name (tds_cons td_name tds_nil))))
    (ns_cons (ns_setLc (i := 10) (E' := EN) (own := [("_law_r", 8)]) rfl S.nd rfl rfl (sw_true rfl rfl rfl (by decide +kernel)) (ni_seq (nd_var 9)) (blkOk_by (N := N_l_steps) (sc := (defScope s_l_steps)) (by decide +kernel)) (fun _ _ _ _ _ => (pg_name (i := 8) S.nd rfl (by first | exact .inl rfl | exact .inr rfl))) td_name (fun _ _ _ _ _ => (nts_one (nt_cmp od_isnot (nd_pix 2 (nd_var 8)) nd_non))) (fun _ _ _ _ _ => (nd_var 8)))
    (ns_cons (ns_if (nt_val (nd_pk 10)) (ns_one (ns_ret (dv (nd_tup (na_cons nd_non (na_cons (nd_var 3) (na_cons (nd_tup (na_cons (nd_var 6) (na_cons (nd_ix (nd_var 6) nd_int) (na_cons (nd_ix (nd_var 10) nd_int) na_nil)))) na_nil))))))) ns_nil)
    (ns_cons (ns_for own rfl (ni_seq (nd_var 9)) (pg_name (i := 8) S.nd rfl (by first | exact .inl rfl | exact .inr rfl)) td_name (ns_one (ns_setI 2 (nd_pix 2 (nd_ix (nd_var 6) nd_int)) (pv 2) (nd_var 8) (fun he ho hi => ps_asg he (pg_sub ho hi set_list)))))
    (ns_one (ns_expr (dq (nd_meth 3 PySem.F.plainAttrs_list PySem.F.slot_list_append PySem.F.type_list_append md_append (na_cons (nd_tup (na_cons (nd_var 6) (na_cons (nd_bltT cd_tuple rfl B.tuple_ (by decide +kernel) (na_cons (nd_var 9) na_nil)) na_nil))) na_nil)))))))))))))
    (ns_one (ns_ret (dv (nd_tup (na_cons (nd_qT cq_tuple rfl B.tuple_ (by decide +kernel) (nd_pk 2)) (na_cons (nd_var 3) (na_cons nd_non na_nil))))))))))
def g_l_tell : FS := (tryS (seqS (ifS (testB (lift2 (bD eqD) (vr 0) (cst (.int 0)))) (retS (callP m_filled (cnt 2 (acons (vr 1) (acons (vr 2) anil))))) skipS)
    (retS (callP m_fill_steps (cnt 2 (acons (vr 1) (acons (vr 2) anil)))))) subT ((1, some 3, (retS (dV (tupE (acons (cst (.str (Str.ofString "Clash"))) (acons (xatE (fun u => u == 1) "lot" (vr 3)) (acons (xatE (fun u => u == 1) "one" (vr 3)) (acons (xatE (fun u => u == 1) "other" (vr 3)) anil)))))))) :: []))
def m_l_tell : MF := runB false 4 g_l_tell
theorem ok_l_tell (B : BG P w K mg base T) (C_fill_steps : Cal P w K mg base T "fill_steps" 4 false 2 m_fill_steps) (C_filled : Cal P w K mg base T "filled" 4 false 2 m_filled) {f : Addr} {fd : FuncData} (F : Fun K "_law_tell" "_law_tell" s_l_tell f fd) (g : mg "_law_tell" = some (.ref f)) : Cal P w K mg base T "_law_tell" 5 false 3 m_l_tell := by
  refine ⟨f, fd, ["_law_which", "_law_pairs", "_law_column"], ?_, g, F.kp, F.binds fun _ _ _ _ _ _ us hl => match us, hl with | [_, _, _], _ => rfl⟩
  exact fn_nd (NN := N_l_tell) (n := 3) (hb := false) (g := g_l_tell) F sc_l_tell rfl (fun cdv A outer s H E c hT hr tk own =>
    have S := sc_l_tell
    (ns_one (ns_try (by rw [hT]; exact B.cx0) (sub_at hT B.sub) rfl rfl tk (fun W pn xe tk own => (ns_cons (ns_if (nt_cmp (od_eq hr.units) (nd_var 0) nd_int) (ns_one (ns_ret (callP_ok hT tk C_filled hr (by decide) rfl (na_cons (nd_var 1) (na_cons (nd_var 2) na_nil))))) ns_nil)
    (ns_one (ns_ret (callP_ok hT tk C_fill_steps hr (by decide) rfl (na_cons (nd_var 1) (na_cons (nd_var 2) na_nil))))))) (HdR.named S.nd rfl rfl (nm_at hT rfl B.k_Clash) (fun a oe cls d pn u dd hz hf h1 h2 => (ns_one (ns_ret (dv (nd_tup (na_cons nd_str (na_cons (nd_xat hz hf h1 h2 (xfa_one hT B.xf_Clash_lot) (nd_var 3)) (na_cons (nd_xat hz hf h1 h2 (xfa_one hT B.xf_Clash_one) (nd_var 3)) (na_cons (nd_xat hz hf h1 h2 (xfa_one hT B.xf_Clash_other) (nd_var 3)) na_nil))))))))) HdR.nil))))
theorem ok_law_bag (B : BG P w K mg base T) {f : Addr} {fd : FuncData} (F : Fun K "_law_bag" "_law_bag" s_l_bag f fd) : FnOk P w K mg base CX0 1 f fd ["_law_script"] (ND.spBag K) := by
  refine F.ok sc_l_bag (fun vs H Q E h => ?_) (fun cdv A outer s H vs Q E hr h => ?_)
  · obtain ⟨a, ns, rfl, _⟩ := h
    rfl
  · obtain ⟨a, ns, rfl, hS, hlen, q⟩ := h
    have S := sc_l_bag
    refine ⟨_, pss_cons (ps_set (i := 1) S.nd rfl (.inl rfl) pe_int)
      (pss_cons (ps_for PassesOwn.never rfl (pi_list (pe_slice sl_list (pv 0) po_none (po_some pe_int))) (pg_name (i := 2) S.nd rfl (.inl rfl))
        (pss_one (ps_set (i := 1) S.nd rfl (.inl rfl) (pe_op op_mod (pe_callTy call_int1 rfl B.int_ (by decide +kernel) (pa_cons (pe_op op_add (pe_op op_add (pe_op op_mul (pv 1) pe_int) (pe_op op_mod (pe_callTy call_int1 rfl B.int_ (by decide +kernel) (pa_cons (pv 2) pa_nil)) pe_int)) pe_int) pa_nil)) pe_int))))
      (pss_one (ps_ret (pe_lst (pa_cons (pe_callTy call_list_of rfl B.list_ (by decide +kernel) (pa_cons (pe_slice sl_list (pv 0) po_none (po_some pe_int)) pa_nil)) (pa_cons pe_int (pa_cons pe_int (pa_cons (pv 1) (pa_cons pe_int pa_nil))))))))), ?_⟩
    have cut : cutV (ns.map V.int) none (some 63) = ns.map V.int := by
      unfold cutV
      rw [HT.sIx_none, show HT.sIx (ns.map V.int).length (ns.map V.int).length (some 63) = min 63 (ns.map V.int).length from HT.sIx_nat _ _ 63]
      rw [List.drop_zero, List.take_of_length_le (by rw [List.length_map]; omega)]
    refine ⟨.ref a, rfl, 63, rfl, a, _, rfl, hS, fun c0 nc => ?_⟩
    have s1 : Same H (upd H c0 (.lst (cutV (ns.map V.int) none (some 63)))) := fun b x e => by rw [upd_ne (ne_of_none e nc)]; exact e
    refine ⟨c0, rfl, ⟨_, .of upd_same⟩, for_list (xs := ns.map V.int) (fun i σ H2 => H2 = upd H c0 (.lst (cutV (ns.map V.int) none (some 63))) ∧ ∃ (t : Int) (z : Option V), σ = [some (.ref a), some (.int t), z] ∧ 0 ≤ t ∧ t < 2147483648) ⟨rfl, 24709, none, rfl, by decide, by decide⟩ (fun i σ H2 _ h => ?_) (fun i x σ H2 hx h => ?_) fun σ H2 h => ?_⟩
    · obtain ⟨rfl, _⟩ := h
      exact .of (by rw [upd_same, cut])
    · obtain ⟨rfl, t, z, rfl, h0, h1⟩ := h
      rw [List.getElem?_map] at hx
      cases e : ns[i]? with
      | none => rw [e] at hx; cases hx
      | some n =>
        rw [e] at hx
        cases hx
        have hm0 : 0 ≤ n % 2147483549 := Int.emod_nonneg _ (by decide)
        refine ⟨_, rfl, _, _, rfl, rfl, .inl ⟨by omega, by omega⟩, _, rfl, .inl ⟨n, rfl, _, _, rfl, rfl, by show (0 : Int) < _; decide, _, _, rfl, rfl, _, _, rfl, rfl, .inl ⟨_, rfl, _, _, rfl, rfl, by show (0 : Int) < _; decide, ?_⟩⟩⟩
        exact ⟨rfl, _, _, rfl, Int.emod_nonneg _ (by decide), Int.lt_of_lt_of_le (Int.emod_lt_of_pos _ (by decide)) (by decide)⟩
    · obtain ⟨rfl, t, z, rfl, h0, h1⟩ := h
      refine ⟨.ref a, rfl, 63, rfl, a, _, rfl, s1.seq hS, fun c1 nc1 => ?_⟩
      refine ⟨c1, _, rfl, .inl (.of upd_same), fun l nl => ?_⟩
      refine ⟨_, rfl, by show 5 ≤ sizeLine; decide, fun p np => ?_⟩
      have k2 : Same (upd H c0 (.lst (cutV (ns.map V.int) none (some 63)))) (upd (upd H c0 (.lst (cutV (ns.map V.int) none (some 63)))) c1 (.lst (cutV (ns.map V.int) none (some 63)))) := fun b x e => by rw [upd_ne (ne_of_none e nc1)]; exact e
      have nlp : p ≠ l := fun e => by
        rw [e, upd_same] at np
        cases np
      have sm : ∀ b x, H b = some x → b ≠ l ∧ b ≠ p := fun b x e => by
        have e1 := k2 b x (s1 b x e)
        have n1 : b ≠ l := ne_of_none e1 nl
        refine ⟨n1, ne_of_none (H := upd (upd (upd H c0 _) c1 _) l _) (by rw [upd_ne n1]; exact e1) np⟩
      have hn : ∀ b, b = l ∨ b = p → H b = none := fun b hb => by
        cases e : H b with
        | none => rfl
        | some x =>
          rcases hb with z | z
          · exact absurd z (sm b x e).1
          · exact absurd z (sm b x e).2
      refine q _ p l ⟨ns, 0, 0, t, 0, none⟩ (fun b x e => ?_) (hn p (.inr rfl)) (hn l (.inl rfl)) nlp ?_ upd_same ⟨Int.le_refl _, Int.le_refl _, h0, h1, Int.le_refl _, hlen, rfl⟩
      · rw [upd_ne (sm b x e).2, upd_ne (sm b x e).1]
        exact k2 b x (s1 b x e)
      · rw [upd_ne (fun e => nlp e.symm), upd_same, cut]
def g_law : FS := (seqS (setE 2 (callB 1 m_l_of (cnt 1 (acons (vD (lstE (acons (cst (.int 2)) (acons (cst (.int 3)) anil)))) anil))))
    (seqS (setE 3 (callB 1 m_l_of (cnt 1 (acons (vD (lstE (acons (cst (.int 3)) (acons (cst (.int 4)) (acons (cst (.int 5)) (acons (cst (.int 2)) (acons (cst (.int 4)) (acons (cst (.int 6)) (acons (cst (.int 1)) (acons (cst (.int 7)) anil)))))))))) anil))))
    (seqS (setE 4 (callB 1 m_l_drawn_pairs (cnt 2 (acons (vr 3) (acons (cst (.int 9)) anil)))))
    (seqS (ifS (testB (lift2 (bD eqD) (vD (callB 1 m_l_take (cnt 1 (acons (cst (.int 4)) anil)))) (cst (.int 0)))) (setE 4 (callP m_l_asking (cnt 1 (acons (vD (lcE (rngI (cnt 1 (acons (vr 3) anil))) (tN 16) yesT (bltQ tupD (vD (lcE (rngI (cnt 1 (acons (cst (.int 3)) anil))) (tN 18) yesT (vD (callB 1 m_l_of (cnt 1 (acons (vD (lstE (acons (cst .non) (acons (cst (.int 0)) (acons (cst (.int 1)) (acons (lift2 subD (vr 2) (cst (.int 1))) anil)))))) anil)))) [18]))) [16])) anil)))) skipS)
    (seqS (setE 5 (dV (bltQ tupD (vD (lift2L repD (vD (lstE (acons (cst .non) anil))) (vr 3))))))
    (seqS (forS (rngI (cnt 1 (acons (cst (.int 5)) anil))) (tN 6) (seqS (setE 7 (lcE (rngI (cnt 1 (acons (vr 3) anil))) (tN 15) yesT (vD (callB 1 m_l_of (cnt 1 (acons (vD (lstE (acons (cst .non) (acons (cst .non) (acons (cst (.int 0)) (acons (cst (.int 1)) (acons (cst .non) (acons (lift2 subD (vr 2) (cst (.int 1))) anil)))))))) anil)))) [15]))
    (seqS (ifS (testB (lift2 (bD eqD) (vr 6) (cst (.int 2)))) (seqS (setE 7 (bltQL listA (pk 5)))
    (setI 7 (vD (callB 1 m_l_take (cnt 1 (acons (vr 3) anil)))) (vD (callB 1 m_l_of (cnt 1 (acons (vD (lstE (acons (cst .non) (acons (cst (.int 0)) (acons (cst (.int 1)) anil))))) anil)))))) (ifS (testB (lift2 (bD eqD) (vr 6) (cst (.int 3)))) (setE 7 (lcE (seqI (vr 7)) (tN 17) yesT (iteE (testB (lift2 (bD isN) (vr 17) (cst .non))) (vr 17) (cst (.int 1))) [17])) skipS))
    (seqS (setE 7 (dV (bltQ tupD (pk 7))))
    (seqS (unpE (tT 3 (tsC (tN 8) (tsC (tN 9) (tsC (tN 10) tsN)))) (vD (callP m_l_steps (cnt 2 (acons (vr 4) (acons (vr 7) anil))))))
    (seqS (setE 11 (iteE (testV (vD (callB 1 m_l_take (cnt 1 (acons (cst (.int 2)) anil))))) (bltQL listA (pk 4)) (dV (bltE tupleA (acons (vr 4) anil)))))
    (seqS (unpDV 12 13 (vD (callP m_l_tell (cnt 3 (acons (cst (.int 0)) (acons (vr 11) (acons (vr 7) anil)))))) (callP m_l_tell (cnt 3 (acons (cst (.int 1)) (acons (vr 11) (acons (vr 7) anil))))))
    (seqS (ifS (testB (lift2 (nD eqD) (vD (bltQL listA (pk 11))) (vr 4))) (retS (dV (cst (.bl false)))) skipS)
    (ifS (testB (lift2 (nD isN) (vr 10) (cst .non))) (seqS (setE 14 (dV (tupE (acons (cst (.str (Str.ofString "Clash"))) (acons (lift2 ixD (vr 10) (cst (.int 0))) (acons (lift2 ixD (vr 10) (cst (.int 1))) (acons (lift2 ixD (vr 10) (cst (.int 2))) anil)))))))
    (ifS (orT (notT (testV (vD (callP (m_l_same 6) (cnt 2 (acons (vr 12) (acons (vr 14) anil))))))) (notT (testV (vD (lendG (m_l_same 6) 2 (iSlot 13 (iCons (vr 14) iNil))))))) (retS (dV (cst (.bl false)))) skipS)) (seqS (ifS (orT (notT (testV (vD (callP (m_l_same 6) (cnt 2 (acons (vr 12) (acons (vr 8) anil))))))) (notT (testV (vD (lendG (m_l_same 6) 2 (iSlot 13 (iCons (vr 9) iNil))))))) (retS (dV (cst (.bl false)))) skipS)
    (seqS (dropS (methE 13 appD (acons (tupE (acons (tupE (acons (cst (.int 0)) anil)) (acons (tupE (acons (cst (.int 0)) anil)) anil))) anil)))
    (seqS (ifS (notT (testV (vD (callP (m_l_same 6) (cnt 2 (acons (vD (callP m_l_tell (cnt 3 (acons (cst (.int 1)) (acons (vr 11) (acons (vr 7) anil)))))) (acons (vr 9) anil))))))) (retS (dV (cst (.bl false)))) skipS)
    (seqS (ifS (orT (notT (testV (vD (callP (m_l_same 6) (cnt 2 (acons (vD (callP m_l_tell (cnt 3 (acons (cst (.int 0)) (acons (vr 11) (acons (vr 8) anil)))))) (acons (vr 8) anil))))))) (notT (testV (vD (callP (m_l_same 6) (cnt 2 (acons (vD (callP m_l_tell (cnt 3 (acons (cst (.int 1)) (acons (vr 11) (acons (vr 8) anil)))))) (acons (vD (lstE anil)) anil)))))))) (retS (dV (cst (.bl false)))) skipS)
    (setE 5 (dV (vr 8))))))))))))))))
    (retS (dV (cst (.bl true))))))))))
theorem ok_law (B : BG P w K mg base T) (C_l_of : Cal P w K mg base T "_law_of" 2 true 1 m_l_of) (C_l_drawn_pairs : Cal P w K mg base T "_law_drawn_pairs" 2 true 2 m_l_drawn_pairs) (C_l_take : Cal P w K mg base T "_law_take" 1 true 1 m_l_take) (C_l_asking : Cal P w K mg base T "_law_asking" 2 false 1 m_l_asking) (C_l_steps : Cal P w K mg base T "_law_steps" 1 false 2 m_l_steps) (C_l_tell : Cal P w K mg base T "_law_tell" 5 false 3 m_l_tell) (C_l_same : Cal P w K mg base T "_law_same" 6 false 2 (m_l_same 6)) {fB : Addr} {fdB : FuncData} (GB : FnOk P w K mg base CX0 1 fB fdB ["_law_script"] (ND.spBag K)) (bB : Binds K fdB ["_law_script"] []) (gB : mg "_law_bag" = some (.ref fB)) (kB : PySem.W.keepIn K (.ref fB) = true)
    {f : Addr} {fd : FuncData} (F : Fun K "law" "law" s_law f fd) (hlaw : ∀ b : Bag, BagOk b → ∃ ρ, g_law (lawE 17 b) = .ok (.rt (.bl true) false, ρ)) : FnOk P w K mg base CX0 (6 + 1) f fd ["_law_script"] (ND.spLaw K) := by
  refine F.ok sc_law (fun vs H Q E h => ?_) (fun cdv A outer s H vs Q E hr h => ?_)
  · obtain ⟨a, ns, rfl, _⟩ := h
    rfl
  · obtain ⟨a, ns, rfl, hS, hlen, q⟩ := h
    have S := sc_law
    refine ⟨_, pss_cons (ps_set (i := 1) S.nd rfl (by first | exact .inl rfl | exact .inr rfl) (pe_call GB (hr.mono (by decide)) rfl gB kB bB .nil pass0 (pa_cons (pv 0) pa_nil))) (pss_any (T := T) (g := g_law) fun c hT => ?_), ?_⟩
    · exact (ns_cons (ns_set (i := 2) S.nd rfl (.inr rfl) (callB_ok 1 hT takes0 C_l_of hr (by decide) rfl (na_cons (vd (nd_lst (na_cons nd_int (na_cons nd_int na_nil)))) na_nil)))
    (ns_cons (ns_set (i := 3) S.nd rfl (.inl rfl) (callB_ok 1 hT takes0 C_l_of hr (by decide) rfl (na_cons (vd (nd_lst (na_cons nd_int (na_cons nd_int (na_cons nd_int (na_cons nd_int (na_cons nd_int (na_cons nd_int (na_cons nd_int (na_cons nd_int na_nil)))))))))) na_nil)))
    (ns_cons (ns_set (i := 4) S.nd rfl (.inl rfl) (callB_ok 1 hT takes0 C_l_drawn_pairs hr (by decide) rfl (na_cons (nd_var 3) (na_cons nd_int na_nil))))
    (ns_cons (ns_if (nt_cmp (od_eq hr.units) (vd (callB_ok 1 hT takes0 C_l_take hr (by decide) rfl (na_cons nd_int na_nil))) nd_int) (ns_one (ns_set (i := 4) S.nd rfl (.inl rfl) (callP_ok hT takes0 C_l_asking hr (by decide) rfl (na_cons (vd (nd_lc (E' := EN) (own := [("_law_k", 16)]) rfl S.nd (nr1 rfl B.range (na_cons (nd_var 3) na_nil)) (blkOk_by (N := N_law) (sc := (defScope s_law)) (by decide +kernel)) (fun _ _ _ _ _ => (pg_name (i := 16) S.nd rfl (by first | exact .inl rfl | exact .inr rfl))) td_name (fun _ _ _ _ _ => nts_nil) (fun _ _ _ _ _ => (nd_qT cq_tuple rfl B.tuple_ (by decide +kernel) (vq (nd_lc (E' := EN) (own := [("_law_i", 18)]) rfl S.nd (nr1 rfl B.range (na_cons nd_int na_nil)) (blkOk_by (N := N_law) (sc := (relS _ (defScope s_law))) (by decide +kernel)) (fun _ _ _ _ _ => (pg_name (i := 18) S.nd rfl (by first | exact .inl rfl | exact .inr rfl))) td_name (fun _ _ _ _ _ => nts_nil) (fun _ _ _ _ _ => (vd (callB_ok 1 hT takes0 C_l_of hr (by decide) rfl (na_cons (vd (nd_lst (na_cons nd_non (na_cons nd_int (na_cons nd_int (na_cons (nd_op od_sub (nd_var 2) nd_int) na_nil)))))) na_nil)))))))))) na_nil)))) ns_nil)
    (ns_cons (ns_set (i := 5) S.nd rfl (.inl rfl) (dv (nd_qT cq_tuple rfl B.tuple_ (by decide +kernel) (vq (nd_opL ol_rep (vd (nd_lst (na_cons nd_non na_nil))) (nd_var 3))))))
    (ns_cons (ns_for PassesOwn.never rfl (nr1 rfl B.range (na_cons nd_int na_nil)) (pg_name (i := 6) S.nd rfl (by first | exact .inl rfl | exact .inr rfl)) td_name (ns_cons (ns_setLc (i := 7) (E' := EN) (own := [("_law_r", 15)]) rfl S.nd rfl rfl (sw_true rfl rfl rfl (by decide +kernel)) (nr1 rfl B.range (na_cons (nd_var 3) na_nil)) (blkOk_by (N := N_law) (sc := (defScope s_law)) (by decide +kernel)) (fun _ _ _ _ _ => (pg_name (i := 15) S.nd rfl (by first | exact .inl rfl | exact .inr rfl))) td_name (fun _ _ _ _ _ => nts_nil) (fun _ _ _ _ _ => (vd (callB_ok 1 hT takes0 C_l_of hr (by decide) rfl (na_cons (vd (nd_lst (na_cons nd_non (na_cons nd_non (na_cons nd_int (na_cons nd_int (na_cons nd_non (na_cons (nd_op od_sub (nd_var 2) nd_int) na_nil)))))))) na_nil)))))
    (ns_cons (ns_if (nt_cmp (od_eq hr.units) (nd_var 6) nd_int) (ns_cons (ns_set (i := 7) S.nd rfl (.inl rfl) (nd_qLT (cl_listA rfl) rfl B.list_ (by decide +kernel) (nd_pk 5)))
    (ns_one (ns_setI 7 (vd (callB_ok 1 hT takes0 C_l_of hr (by decide) rfl (na_cons (vd (nd_lst (na_cons nd_non (na_cons nd_int (na_cons nd_int na_nil))))) na_nil))) (pv 7) (vd (callB_ok 1 hT takes0 C_l_take hr (by decide) rfl (na_cons (nd_var 3) na_nil))) (fun he ho hi => ps_asg he (pg_sub ho hi set_list))))) (ns_one (ns_if (nt_cmp (od_eq hr.units) (nd_var 6) nd_int) (ns_one (ns_setLc (i := 7) (E' := EN) (own := [("_law_value", 17)]) rfl S.nd rfl rfl (sw_true rfl rfl rfl (by decide +kernel)) (ni_seq (nd_var 7)) (blkOk_by (N := N_law) (sc := (defScope s_law)) (by decide +kernel)) (fun _ _ _ _ _ => (pg_name (i := 17) S.nd rfl (by first | exact .inl rfl | exact .inr rfl))) td_name (fun _ _ _ _ _ => nts_nil) (fun _ _ _ _ _ => (nd_ife (nt_cmp od_is (nd_var 17) nd_non) (nd_var 17) nd_int)))) ns_nil)))
    (ns_cons (ns_set (i := 7) S.nd rfl (.inl rfl) (dv (nd_qT cq_tuple rfl B.tuple_ (by decide +kernel) (nd_pk 7))))
    (ns_cons (ns_unp (vd (callP_ok hT takes0 C_l_steps hr (by decide) rfl (na_cons (nd_var 4) (na_cons (nd_var 7) na_nil)))) (pg_tup rfl (pgs_cons (pg_name (i := 8) S.nd rfl (by first | exact .inl rfl | exact .inr rfl)) (pgs_cons (pg_name (i := 9) S.nd rfl (by first | exact .inl rfl | exact .inr rfl)) (pgs_cons (pg_name (i := 10) S.nd rfl (by first | exact .inl rfl | exact .inr rfl)) pgs_nil)))) (td_tup (tds_cons td_name (tds_cons td_name (tds_cons td_name tds_nil)))))
    (ns_cons (ns_set (i := 11) S.nd rfl (.inl rfl) (nd_ifeV (nt_val (vq (callB_ok 1 hT takes0 C_l_take hr (by decide) rfl (na_cons nd_int na_nil)))) (nd_qLT (cl_listA rfl) rfl B.list_ (by decide +kernel) (nd_pk 4)) (dv (nd_bltT cd_tuple rfl B.tuple_ (by decide +kernel) (na_cons (nd_var 4) na_nil)))))
    (ns_cons (ns_parDV (i := 12) (j := 13) (fun ha => ps_par rfl S.nd rfl rfl (by decide) rfl rfl ha rfl) (vd (callP_ok hT takes0 C_l_tell hr (by decide) rfl (na_cons nd_int (na_cons (nd_var 11) (na_cons (nd_var 7) na_nil))))) (callP_ok hT takes0 C_l_tell hr (by decide) rfl (na_cons nd_int (na_cons (nd_var 11) (na_cons (nd_var 7) na_nil)))))
    (ns_cons (ns_if (nt_cmp (od_ne hr.units) (vd (nd_qLT (cl_listA rfl) rfl B.list_ (by decide +kernel) (nd_pk 11))) (nd_var 4)) (ns_one (ns_ret (dv nd_bl))) ns_nil)
    (ns_one (ns_if (nt_cmp od_isnot (nd_var 10) nd_non) (ns_cons (ns_set (i := 14) S.nd rfl (.inl rfl) (dv (nd_tup (na_cons nd_str (na_cons (nd_ix (nd_var 10) nd_int) (na_cons (nd_ix (nd_var 10) nd_int) (na_cons (nd_ix (nd_var 10) nd_int) na_nil)))))))
    (ns_one (ns_if (PW.pt (nw_or (nt_not (nt_val (vq (callP_ok hT takes0 C_l_same hr (by decide) rfl (na_cons (nd_var 12) (na_cons (nd_var 14) na_nil)))))) (nw_or1 (nt_not (nt_val (vq (lendG_ok (n := 2) hT takes0 C_l_same hr (by decide) rfl (na_islot 13 (na_icons (nd_var 14) na_inil))))))))) (ns_one (ns_ret (dv nd_bl))) ns_nil))) (ns_cons (ns_if (PW.pt (nw_or (nt_not (nt_val (vq (callP_ok hT takes0 C_l_same hr (by decide) rfl (na_cons (nd_var 12) (na_cons (nd_var 8) na_nil)))))) (nw_or1 (nt_not (nt_val (vq (lendG_ok (n := 2) hT takes0 C_l_same hr (by decide) rfl (na_islot 13 (na_icons (nd_var 9) na_inil))))))))) (ns_one (ns_ret (dv nd_bl))) ns_nil)
    (ns_cons (ns_expr (dq (nd_meth 13 PySem.F.plainAttrs_list PySem.F.slot_list_append PySem.F.type_list_append md_append (na_cons (nd_tup (na_cons (nd_tup (na_cons nd_int na_nil)) (na_cons (nd_tup (na_cons nd_int na_nil)) na_nil))) na_nil))))
    (ns_cons (ns_if (nt_not (nt_val (vq (callP_ok hT takes0 C_l_same hr (by decide) rfl (na_cons (vd (callP_ok hT takes0 C_l_tell hr (by decide) rfl (na_cons nd_int (na_cons (nd_var 11) (na_cons (nd_var 7) na_nil))))) (na_cons (nd_var 9) na_nil)))))) (ns_one (ns_ret (dv nd_bl))) ns_nil)
    (ns_cons (ns_if (PW.pt (nw_or (nt_not (nt_val (vq (callP_ok hT takes0 C_l_same hr (by decide) rfl (na_cons (vd (callP_ok hT takes0 C_l_tell hr (by decide) rfl (na_cons nd_int (na_cons (nd_var 11) (na_cons (nd_var 8) na_nil))))) (na_cons (nd_var 8) na_nil)))))) (nw_or1 (nt_not (nt_val (vq (callP_ok hT takes0 C_l_same hr (by decide) rfl (na_cons (vd (callP_ok hT takes0 C_l_tell hr (by decide) rfl (na_cons nd_int (na_cons (nd_var 11) (na_cons (nd_var 8) na_nil))))) (na_cons (vd (nd_lst na_nil)) na_nil))))))))) (ns_one (ns_ret (dv nd_bl))) ns_nil)
    (ns_one (ns_set (i := 5) S.nd rfl (.inl rfl) (dv (nd_var 8))))))))))))))))))
    (ns_one (ns_ret (dv nd_bl)))))))))
    · refine ⟨.ref a, rfl, a, ns, rfl, hS, hlen, fun H1 p l b sm np nl npl h1 h2 hb => ?_⟩
      obtain ⟨ρ, hρ⟩ := hlaw b hb
      refine ⟨⟨T, some p, l, H1, fun x => x = p⟩, rfl, _, _, lawE 17 b, law_start (n := 17) h2 h1 npl hb.me, ?_⟩
      rw [hρ]
      intro N' W' H' σ v t e r
      cases r.bl_inv
      exact q H'
theorem all_mk {l : PySem.W.OpenLaw} {w : World} {K : PySem.W.Frag} {h : Heap} {mg : Str → Option Value} {fa : Addr} {f0 f1 f2 f3 f4 f5 f6 f7 f8 f9 f10 f11 f12 f13 f14 f15 f16 f17 f18 f19 f20 f21 f22 : Addr} {od0 an0 od1 an1 od2 an2 od3 an3 od4 an4 od5 an5 od6 an6 od7 an7 od8 an8 od9 an9 od10 an10 od11 an11 od12 an12 od13 an13 od14 an14 od15 an15 od16 an16 od17 an17 od18 an18 od19 an19 od20 an20 od21 an21 od22 an22 : Option Addr} {sl0 sl1 sl2 sl3 sl4 sl5 sl6 sl7 sl8 sl9 sl10 sl11 sl12 sl13 sl14 sl15 sl16 sl17 sl18 sl19 sl20 sl21 sl22 : Array (Option Value)} {oc0 kV0 dc0 pm0 cd0 ct0 oc1 kV1 dc1 pm1 cd1 ct1 oc2 kV2 dc2 pm2 cd2 ct2 oc3 kV3 dc3 pm3 cd3 ct3 oc4 kV4 dc4 pm4 cd4 ct4 oc5 kV5 dc5 pm5 cd5 ct5 oc6 kV6 dc6 pm6 cd6 ct6 oc7 kV7 dc7 pm7 cd7 ct7 oc8 kV8 dc8 pm8 cd8 ct8 oc9 kV9 dc9 pm9 cd9 ct9 oc10 kV10 dc10 pm10 cd10 ct10 oc11 kV11 dc11 pm11 cd11 ct11 oc12 kV12 dc12 pm12 cd12 ct12 oc13 kV13 dc13 pm13 cd13 ct13 oc14 kV14 dc14 pm14 cd14 ct14 oc15 kV15 dc15 pm15 cd15 ct15 oc16 kV16 dc16 pm16 cd16 ct16 oc17 kV17 dc17 pm17 cd17 ct17 oc18 kV18 dc18 pm18 cd18 ct18 oc19 kV19 dc19 pm19 cd19 ct19 oc20 kV20 dc20 pm20 cd20 ct20 oc21 kV21 dc21 pm21 cd21 ct21 oc22 kV22 dc22 pm22 cd22 ct22 : Value} {cC_BoxError cN_BoxError : Addr} {cm_BoxError cq_BoxError : Str} {cb_BoxError cu_BoxError : List Value} {cs_BoxError : List Str} {ca_BoxError : Bool} {co_BoxError : Option Bool} {cd_BoxError : Option Addr} {c0_BoxError c1_BoxError c2_BoxError c3_BoxError c5_BoxError : Option Value} {cC_Clash cN_Clash : Addr} {cm_Clash cq_Clash : Str} {cb_Clash cu_Clash : List Value} {cs_Clash : List Str} {ca_Clash : Bool} {co_Clash : Option Bool} {cd_Clash : Option Addr} {c0_Clash c1_Clash c2_Clash c3_Clash c5_Clash : Option Value} {ci_Clash : Addr} {cv2_Clash cv3_Clash cv4_Clash cv5_Clash cv6_Clash : Value} {cw1_Clash cw2_Clash : Option Addr} {cw3_Clash : Array (Option Value)} {tg_WIDTH tg_MARKS tg_ROWS : Tok} (X : K.In h) (G : h.Ns mainGlobals mg) (hfa : mg "law" = some (.ref fa))
    (a0 : PySem.W.nsIn K mainGlobals "mask_of" = some (some (.ref f0))) (l0 : K.lookup f0 = some ⟨oc0, od0, .func (PySem.W.fnOf "mask_of" "mask_of" (defArgs s_mask_of) (defBody s_mask_of) (defScope s_mask_of) .none kV0 dc0 pm0 an0 cd0 ct0), sl0⟩) (c0 : PySem.W.codeIn K cd0 "mask_of" = true) (k0 : PySem.W.keepIn K (.ref f0) = true)
    (a1 : PySem.W.nsIn K mainGlobals "numbers_of" = some (some (.ref f1))) (l1 : K.lookup f1 = some ⟨oc1, od1, .func (PySem.W.fnOf "numbers_of" "numbers_of" (defArgs s_numbers_of) (defBody s_numbers_of) (defScope s_numbers_of) .none kV1 dc1 pm1 an1 cd1 ct1), sl1⟩) (c1 : PySem.W.codeIn K cd1 "numbers_of" = true) (k1 : PySem.W.keepIn K (.ref f1) = true)
    (a2 : PySem.W.nsIn K mainGlobals "pair_masks" = some (some (.ref f2))) (l2 : K.lookup f2 = some ⟨oc2, od2, .func (PySem.W.fnOf "pair_masks" "pair_masks" (defArgs s_pair_masks) (defBody s_pair_masks) (defScope s_pair_masks) .none kV2 dc2 pm2 an2 cd2 ct2), sl2⟩) (c2 : PySem.W.codeIn K cd2 "pair_masks" = true) (k2 : PySem.W.keepIn K (.ref f2) = true)
    (a3 : PySem.W.nsIn K mainGlobals "code_of" = some (some (.ref f3))) (l3 : K.lookup f3 = some ⟨oc3, od3, .func (PySem.W.fnOf "code_of" "code_of" (defArgs s_code_of) (defBody s_code_of) (defScope s_code_of) .none kV3 dc3 pm3 an3 cd3 ct3), sl3⟩) (c3 : PySem.W.codeIn K cd3 "code_of" = true) (k3 : PySem.W.keepIn K (.ref f3) = true)
    (a4 : PySem.W.nsIn K mainGlobals "value_at" = some (some (.ref f4))) (l4 : K.lookup f4 = some ⟨oc4, od4, .func (PySem.W.fnOf "value_at" "value_at" (defArgs s_value_at) (defBody s_value_at) (defScope s_value_at) .none kV4 dc4 pm4 an4 cd4 ct4), sl4⟩) (c4 : PySem.W.codeIn K cd4 "value_at" = true) (k4 : PySem.W.keepIn K (.ref f4) = true)
    (a5 : PySem.W.nsIn K mainGlobals "column_of" = some (some (.ref f5))) (l5 : K.lookup f5 = some ⟨oc5, od5, .func (PySem.W.fnOf "column_of" "column_of" (defArgs s_column_of) (defBody s_column_of) (defScope s_column_of) .none kV5 dc5 pm5 an5 cd5 ct5), sl5⟩) (c5 : PySem.W.codeIn K cd5 "column_of" = true) (k5 : PySem.W.keepIn K (.ref f5) = true)
    (a6 : PySem.W.nsIn K mainGlobals "answered" = some (some (.ref f6))) (l6 : K.lookup f6 = some ⟨oc6, od6, .func (PySem.W.fnOf "answered" "answered" (defArgs s_answered) (defBody s_answered) (defScope s_answered) .none kV6 dc6 pm6 an6 cd6 ct6), sl6⟩) (c6 : PySem.W.codeIn K cd6 "answered" = true) (k6 : PySem.W.keepIn K (.ref f6) = true)
    (a7 : PySem.W.nsIn K mainGlobals "sign_shift" = some (some (.ref f7))) (l7 : K.lookup f7 = some ⟨oc7, od7, .func (PySem.W.fnOf "sign_shift" "sign_shift" (defArgs s_sign_shift) (defBody s_sign_shift) (defScope s_sign_shift) .none kV7 dc7 pm7 an7 cd7 ct7), sl7⟩) (c7 : PySem.W.codeIn K cd7 "sign_shift" = true) (k7 : PySem.W.keepIn K (.ref f7) = true)
    (a8 : PySem.W.nsIn K mainGlobals "first_unkept" = some (some (.ref f8))) (l8 : K.lookup f8 = some ⟨oc8, od8, .func (PySem.W.fnOf "first_unkept" "first_unkept" (defArgs s_first_unkept) (defBody s_first_unkept) (defScope s_first_unkept) .none kV8 dc8 pm8 an8 cd8 ct8), sl8⟩) (c8 : PySem.W.codeIn K cd8 "first_unkept" = true) (k8 : PySem.W.keepIn K (.ref f8) = true)
    (a9 : PySem.W.nsIn K mainGlobals "clashing_rows" = some (some (.ref f9))) (l9 : K.lookup f9 = some ⟨oc9, od9, .func (PySem.W.fnOf "clashing_rows" "clashing_rows" (defArgs s_clashing_rows) (defBody s_clashing_rows) (defScope s_clashing_rows) .none kV9 dc9 pm9 an9 cd9 ct9), sl9⟩) (c9 : PySem.W.codeIn K cd9 "clashing_rows" = true) (k9 : PySem.W.keepIn K (.ref f9) = true)
    (a10 : PySem.W.nsIn K mainGlobals "run_filling" = some (some (.ref f10))) (l10 : K.lookup f10 = some ⟨oc10, od10, .func (PySem.W.fnOf "run_filling" "run_filling" (defArgs s_run_filling) (defBody s_run_filling) (defScope s_run_filling) .none kV10 dc10 pm10 an10 cd10 ct10), sl10⟩) (c10 : PySem.W.codeIn K cd10 "run_filling" = true) (k10 : PySem.W.keepIn K (.ref f10) = true)
    (a11 : PySem.W.nsIn K mainGlobals "filled" = some (some (.ref f11))) (l11 : K.lookup f11 = some ⟨oc11, od11, .func (PySem.W.fnOf "filled" "filled" (defArgs s_filled) (defBody s_filled) (defScope s_filled) .none kV11 dc11 pm11 an11 cd11 ct11), sl11⟩) (c11 : PySem.W.codeIn K cd11 "filled" = true) (k11 : PySem.W.keepIn K (.ref f11) = true)
    (a12 : PySem.W.nsIn K mainGlobals "fill_steps" = some (some (.ref f12))) (l12 : K.lookup f12 = some ⟨oc12, od12, .func (PySem.W.fnOf "fill_steps" "fill_steps" (defArgs s_fill_steps) (defBody s_fill_steps) (defScope s_fill_steps) .none kV12 dc12 pm12 an12 cd12 ct12), sl12⟩) (c12 : PySem.W.codeIn K cd12 "fill_steps" = true) (k12 : PySem.W.keepIn K (.ref f12) = true)
    (a13 : PySem.W.nsIn K mainGlobals "_law_bag" = some (some (.ref f13))) (l13 : K.lookup f13 = some ⟨oc13, od13, .func (PySem.W.fnOf "_law_bag" "_law_bag" (defArgs s_l_bag) (defBody s_l_bag) (defScope s_l_bag) .none kV13 dc13 pm13 an13 cd13 ct13), sl13⟩) (c13 : PySem.W.codeIn K cd13 "_law_bag" = true) (k13 : PySem.W.keepIn K (.ref f13) = true)
    (a14 : PySem.W.nsIn K mainGlobals "_law_take" = some (some (.ref f14))) (l14 : K.lookup f14 = some ⟨oc14, od14, .func (PySem.W.fnOf "_law_take" "_law_take" (defArgs s_l_take) (defBody s_l_take) (defScope s_l_take) .none kV14 dc14 pm14 an14 cd14 ct14), sl14⟩) (c14 : PySem.W.codeIn K cd14 "_law_take" = true) (k14 : PySem.W.keepIn K (.ref f14) = true)
    (a15 : PySem.W.nsIn K mainGlobals "_law_of" = some (some (.ref f15))) (l15 : K.lookup f15 = some ⟨oc15, od15, .func (PySem.W.fnOf "_law_of" "_law_of" (defArgs s_l_of) (defBody s_l_of) (defScope s_l_of) .none kV15 dc15 pm15 an15 cd15 ct15), sl15⟩) (c15 : PySem.W.codeIn K cd15 "_law_of" = true) (k15 : PySem.W.keepIn K (.ref f15) = true)
    (a16 : PySem.W.nsIn K mainGlobals "_law_same" = some (some (.ref f16))) (l16 : K.lookup f16 = some ⟨oc16, od16, .func (PySem.W.fnOf "_law_same" "_law_same" (defArgs s_l_same) (defBody s_l_same) (defScope s_l_same) .none kV16 dc16 pm16 an16 cd16 ct16), sl16⟩) (c16 : PySem.W.codeIn K cd16 "_law_same" = true) (k16 : PySem.W.keepIn K (.ref f16) = true)
    (a17 : PySem.W.nsIn K mainGlobals "_law_lots" = some (some (.ref f17))) (l17 : K.lookup f17 = some ⟨oc17, od17, .func (PySem.W.fnOf "_law_lots" "_law_lots" (defArgs s_l_lots) (defBody s_l_lots) (defScope s_l_lots) .none kV17 dc17 pm17 an17 cd17 ct17), sl17⟩) (c17 : PySem.W.codeIn K cd17 "_law_lots" = true) (k17 : PySem.W.keepIn K (.ref f17) = true)
    (a18 : PySem.W.nsIn K mainGlobals "_law_asking" = some (some (.ref f18))) (l18 : K.lookup f18 = some ⟨oc18, od18, .func (PySem.W.fnOf "_law_asking" "_law_asking" (defArgs s_l_asking) (defBody s_l_asking) (defScope s_l_asking) .none kV18 dc18 pm18 an18 cd18 ct18), sl18⟩) (c18 : PySem.W.codeIn K cd18 "_law_asking" = true) (k18 : PySem.W.keepIn K (.ref f18) = true)
    (a19 : PySem.W.nsIn K mainGlobals "_law_drawn_pairs" = some (some (.ref f19))) (l19 : K.lookup f19 = some ⟨oc19, od19, .func (PySem.W.fnOf "_law_drawn_pairs" "_law_drawn_pairs" (defArgs s_l_drawn_pairs) (defBody s_l_drawn_pairs) (defScope s_l_drawn_pairs) .none kV19 dc19 pm19 an19 cd19 ct19), sl19⟩) (c19 : PySem.W.codeIn K cd19 "_law_drawn_pairs" = true) (k19 : PySem.W.keepIn K (.ref f19) = true)
    (a20 : PySem.W.nsIn K mainGlobals "_law_steps" = some (some (.ref f20))) (l20 : K.lookup f20 = some ⟨oc20, od20, .func (PySem.W.fnOf "_law_steps" "_law_steps" (defArgs s_l_steps) (defBody s_l_steps) (defScope s_l_steps) .none kV20 dc20 pm20 an20 cd20 ct20), sl20⟩) (c20 : PySem.W.codeIn K cd20 "_law_steps" = true) (k20 : PySem.W.keepIn K (.ref f20) = true)
    (a21 : PySem.W.nsIn K mainGlobals "_law_tell" = some (some (.ref f21))) (l21 : K.lookup f21 = some ⟨oc21, od21, .func (PySem.W.fnOf "_law_tell" "_law_tell" (defArgs s_l_tell) (defBody s_l_tell) (defScope s_l_tell) .none kV21 dc21 pm21 an21 cd21 ct21), sl21⟩) (c21 : PySem.W.codeIn K cd21 "_law_tell" = true) (k21 : PySem.W.keepIn K (.ref f21) = true)
    (a22 : PySem.W.nsIn K mainGlobals "law" = some (some (.ref f22))) (l22 : K.lookup f22 = some ⟨oc22, od22, .func (PySem.W.fnOf "law" "law" (defArgs s_law) (defBody s_law) (defScope s_law) .none kV22 dc22 pm22 an22 cd22 ct22), sl22⟩) (c22 : PySem.W.codeIn K cd22 "law" = true) (k22 : PySem.W.keepIn K (.ref f22) = true)
    (cg_BoxError : PySem.W.nsIn K mainGlobals "BoxError" = some (some (.ref cC_BoxError))) (cx_BoxError : K.lookup cC_BoxError = some (excClassObj cm_BoxError cq_BoxError cC_BoxError cN_BoxError cb_BoxError [.type "ValueError", .type "Exception", .type "BaseException", .type "object"] true cs_BoxError cu_BoxError ca_BoxError co_BoxError cd_BoxError c0_BoxError c1_BoxError c2_BoxError c3_BoxError c5_BoxError "ValueError.__new__")) (csa_BoxError : PySem.W.findIn K (.ref cC_BoxError) "__setattr__" = some (some (.builtin "object.__setattr__"))) (cga_BoxError : PySem.W.findIn K (.ref cC_BoxError) "__getattribute__" = some (some (.builtin "BaseException.__getattribute__"))) (cgg_BoxError : PySem.W.findIn K (.ref cC_BoxError) "__getattr__" = some none) (cca_BoxError : PySem.W.findIn K (.ref cC_BoxError) "__class__" = some (some (.builtin "object.__class__"))) (ckp_BoxError : PySem.W.keepIn K (.ref cC_BoxError) = true)
    (cg_Clash : PySem.W.nsIn K mainGlobals "Clash" = some (some (.ref cC_Clash))) (cx_Clash : K.lookup cC_Clash = some (excClassObj cm_Clash cq_Clash cC_Clash cN_Clash cb_Clash [.ref cC_BoxError, .type "ValueError", .type "Exception", .type "BaseException", .type "object"] true cs_Clash cu_Clash ca_Clash co_Clash cd_Clash c0_Clash c1_Clash c2_Clash c3_Clash c5_Clash "ValueError.__new__")) (csa_Clash : PySem.W.findIn K (.ref cC_Clash) "__setattr__" = some (some (.builtin "object.__setattr__"))) (cga_Clash : PySem.W.findIn K (.ref cC_Clash) "__getattribute__" = some (some (.builtin "BaseException.__getattribute__"))) (cgg_Clash : PySem.W.findIn K (.ref cC_Clash) "__getattr__" = some none) (cca_Clash : PySem.W.findIn K (.ref cC_Clash) "__class__" = some (some (.builtin "object.__class__"))) (ckp_Clash : PySem.W.keepIn K (.ref cC_Clash) = true) (cn_lot_Clash : PySem.W.findIn K (.ref cC_Clash) "lot" = some none) (cn_one_Clash : PySem.W.findIn K (.ref cC_Clash) "one" = some none) (cn_other_Clash : PySem.W.findIn K (.ref cC_Clash) "other" = some none) (cn_code_Clash : PySem.W.findIn K (.ref cC_Clash) "code" = some none) (cin_Clash : PySem.W.findIn K (.ref cC_Clash) "__init__" = some (some (.ref ci_Clash))) (cil_Clash : K.lookup ci_Clash = some ⟨.type "function", cw1_Clash, .func (PySem.W.fnOf "__init__" "Clash.__init__" (defArgs s_x_Clash) (defBody s_x_Clash) (defScope s_x_Clash) .none cv2_Clash cv3_Clash cv4_Clash cw2_Clash cv5_Clash cv6_Clash), cw3_Clash⟩) (cic_Clash : PySem.W.codeIn K cv5_Clash "Clash.__init__" = true)
    (cs_Clash_BoxError : PySem.W.subIn K (.ref cC_BoxError) (.ref cC_Clash) = some false) (cs_Clash_Clash : PySem.W.subIn K (.ref cC_Clash) (.ref cC_Clash) = some true)
    (cc_g : PySem.W.specialIn K (.builtin "object.__class__") "__get__" = some (some (.builtin "getset_descriptor.__get__"))) (cc_t : PySem.W.takesIn K (.builtin "object.__class__") = some true)
    (zg_WIDTH : PySem.W.nsIn K mainGlobals "WIDTH" = some (some (.int (8) tg_WIDTH))) (zg_MARKS : PySem.W.nsIn K mainGlobals "MARKS" = some (some (.int (65793) tg_MARKS))) (zg_ROWS : PySem.W.nsIn K mainGlobals "ROWS" = some (some (.int (255) tg_ROWS))) (z_len : PySem.W.nsIn K mainGlobals "len" = some none) (z_isinstance : PySem.W.nsIn K mainGlobals "isinstance" = some none) (z_int : PySem.W.nsIn K mainGlobals "int" = some none) (z_str : PySem.W.nsIn K mainGlobals "str" = some none) (z_bool : PySem.W.nsIn K mainGlobals "bool" = some none) (z_list : PySem.W.nsIn K mainGlobals "list" = some none) (z_tuple : PySem.W.nsIn K mainGlobals "tuple" = some none) (z_dict : PySem.W.nsIn K mainGlobals "dict" = some none) (z_all : PySem.W.nsIn K mainGlobals "all" = some none) (z_any : PySem.W.nsIn K mainGlobals "any" = some none) (z_sum : PySem.W.nsIn K mainGlobals "sum" = some none) (z_range : PySem.W.nsIn K mainGlobals "range" = some none) (z_zip : PySem.W.nsIn K mainGlobals "zip" = some none) (z_sorted : PySem.W.nsIn K mainGlobals "sorted" = some none) (z_min : PySem.W.nsIn K mainGlobals "min" = some none) (z_max : PySem.W.nsIn K mainGlobals "max" = some none) (z_enumerate : PySem.W.nsIn K mainGlobals "enumerate" = some none)
    (hlaw : ∀ b : Bag, BagOk b → ∃ ρ, g_law (lawE 17 b) = .ok (.rt (.bl true) false, ρ)) :
    ∃ fd : FuncData, (∀ (s : Shared) (v : Value), BindsTo s fd ⟨[v], []⟩ [("_law_script", v)]) ∧ ∀ base : Heap, K.In base → base.Ns mainGlobals mg → FnOk l.prog w K mg base CX0 7 fa fd ["_law_script"] (ND.spLaw K) := by
  have e := hfa.symm.trans (PySem.W.mg_of X G a22)
  cases e
  have F0 := fun_mk (st := s_mask_of) l0 c0 k0
  have F1 := fun_mk (st := s_numbers_of) l1 c1 k1
  have F2 := fun_mk (st := s_pair_masks) l2 c2 k2
  have F3 := fun_mk (st := s_code_of) l3 c3 k3
  have F4 := fun_mk (st := s_value_at) l4 c4 k4
  have F5 := fun_mk (st := s_column_of) l5 c5 k5
  have F6 := fun_mk (st := s_answered) l6 c6 k6
  have F7 := fun_mk (st := s_sign_shift) l7 c7 k7
  have F8 := fun_mk (st := s_first_unkept) l8 c8 k8
  have F9 := fun_mk (st := s_clashing_rows) l9 c9 k9
  have F10 := fun_mk (st := s_run_filling) l10 c10 k10
  have F11 := fun_mk (st := s_filled) l11 c11 k11
  have F12 := fun_mk (st := s_fill_steps) l12 c12 k12
  have F13 := fun_mk (st := s_l_bag) l13 c13 k13
  have F14 := fun_mk (st := s_l_take) l14 c14 k14
  have F15 := fun_mk (st := s_l_of) l15 c15 k15
  have F16 := fun_mk (st := s_l_same) l16 c16 k16
  have F17 := fun_mk (st := s_l_lots) l17 c17 k17
  have F18 := fun_mk (st := s_l_asking) l18 c18 k18
  have F19 := fun_mk (st := s_l_drawn_pairs) l19 c19 k19
  have F20 := fun_mk (st := s_l_steps) l20 c20 k20
  have F21 := fun_mk (st := s_l_tell) l21 c21 k21
  have F22 := fun_mk (st := s_law) l22 c22 k22
  refine ⟨PySem.W.fnOf "law" "law" (defArgs s_law) (defBody s_law) (defScope s_law) .none kV22 dc22 pm22 an22 cd22 ct22, fun s v => .of_eq rfl, fun base _ _ => ?_⟩
  have X_BoxError : XcC K cC_BoxError := xcC_mk cx_BoxError (by show PySem.HandSPX.refsVE PySem.HandSPX.veTail = true; decide +kernel) csa_BoxError cga_BoxError cgg_BoxError cca_BoxError ckp_BoxError
  have X_Clash : XcC K cC_Clash := xcC_mk cx_Clash (by show PySem.HandSPX.refsVE PySem.HandSPX.veTail = true; decide +kernel) csa_Clash cga_Clash cgg_Clash cca_Clash ckp_Clash
  have Fx_Clash := fun_mk (st := s_x_Clash) cil_Clash cic_Clash (keep_func cil_Clash)
  have tabOk : TabOk K (TL cC_BoxError cC_Clash) tabL := tabG_ok ⟨cc_g, cc_t⟩ (fun t ht => match t, ht with
    | 0, _ => X_BoxError
    | 1, _ => X_Clash) (fun p hp => by
    simp only [List.mem_cons, List.not_mem_nil, or_false] at hp
    rcases hp with rfl | rfl <;> assumption)
  have subOk := subG_ok (K := K) (T := TL cC_BoxError cC_Clash) (n := 2) (l := [((0, 1), false), ((1, 1), true)]) (fun t ht => match t, ht with
    | 0, _ => X_BoxError
    | 1, _ => X_Clash) (fun p hp => by
    simp only [List.mem_cons, List.not_mem_nil, or_false] at hp
    rcases hp with rfl | rfl <;> assumption)
  have B : BG l.prog w K mg base (TL cC_BoxError cC_Clash) := ⟨⟨PySem.W.mg_none_of X G z_len, PySem.W.mg_none_of X G z_isinstance, PySem.W.mg_none_of X G z_int, PySem.W.mg_none_of X G z_str, PySem.W.mg_none_of X G z_bool, PySem.W.mg_none_of X G z_list, PySem.W.mg_none_of X G z_tuple, PySem.W.mg_none_of X G z_dict, PySem.W.mg_none_of X G z_all, PySem.W.mg_none_of X G z_any, PySem.W.mg_none_of X G z_sum, PySem.W.mg_none_of X G z_range, PySem.W.mg_none_of X G z_zip, PySem.W.mg_none_of X G z_sorted, PySem.W.mg_none_of X G z_min, PySem.W.mg_none_of X G z_max, PySem.W.mg_none_of X G z_enumerate⟩, PySem.W.mg_of X G cg_BoxError, PySem.W.mg_of X G cg_Clash, ⟨X_Clash.oex, PySem.W.mg_of X G cg_Clash, _, _, ["self", "lot", "one", "other"], ok_x_Clash X_Clash.oex cn_lot_Clash cn_one_Clash cn_other_Clash cn_code_Clash Fx_Clash, Fx_Clash.binds fun _ _ _ _ _ _ us hl => match us, hl with | [_, _, _, _], _ => rfl, cin_Clash, by show (K.lookup _).map (·.cls) = _; rw [cil_Clash]; rfl⟩, tabOk, rfl, subOk, ⟨X_Clash.xf, cn_lot_Clash⟩, ⟨X_Clash.xf, cn_one_Clash⟩, ⟨X_Clash.xf, cn_other_Clash⟩, ⟨_, PySem.W.mg_of X G zg_WIDTH⟩, ⟨_, PySem.W.mg_of X G zg_MARKS⟩, ⟨_, PySem.W.mg_of X G zg_ROWS⟩⟩
  have C_mask_of := ok_mask_of (P := l.prog) (w := w) (base := base) (T := (TL cC_BoxError cC_Clash)) B F0 (PySem.W.mg_of X G a0)
  have C_numbers_of := ok_numbers_of (P := l.prog) (w := w) (base := base) (T := (TL cC_BoxError cC_Clash)) B F1 (PySem.W.mg_of X G a1)
  have C_pair_masks := ok_pair_masks (P := l.prog) (w := w) (base := base) (T := (TL cC_BoxError cC_Clash)) B C_mask_of F2 (PySem.W.mg_of X G a2)
  have C_code_of := ok_code_of (P := l.prog) (w := w) (base := base) (T := (TL cC_BoxError cC_Clash)) B F3 (PySem.W.mg_of X G a3)
  have C_value_at := ok_value_at (P := l.prog) (w := w) (base := base) (T := (TL cC_BoxError cC_Clash)) B F4 (PySem.W.mg_of X G a4)
  have C_column_of := ok_column_of (P := l.prog) (w := w) (base := base) (T := (TL cC_BoxError cC_Clash)) B C_value_at F5 (PySem.W.mg_of X G a5)
  have C_answered := ok_answered (P := l.prog) (w := w) (base := base) (T := (TL cC_BoxError cC_Clash)) B F6 (PySem.W.mg_of X G a6)
  have C_sign_shift := ok_sign_shift (P := l.prog) (w := w) (base := base) (T := (TL cC_BoxError cC_Clash)) B F7 (PySem.W.mg_of X G a7)
  have C_first_unkept := ok_first_unkept (P := l.prog) (w := w) (base := base) (T := (TL cC_BoxError cC_Clash)) B C_answered C_sign_shift F8 (PySem.W.mg_of X G a8)
  have C_clashing_rows := ok_clashing_rows (P := l.prog) (w := w) (base := base) (T := (TL cC_BoxError cC_Clash)) B C_answered F9 (PySem.W.mg_of X G a9)
  have C_run_filling := ok_run_filling (P := l.prog) (w := w) (base := base) (T := (TL cC_BoxError cC_Clash)) B C_code_of C_clashing_rows C_column_of C_first_unkept C_numbers_of C_answered F10 (PySem.W.mg_of X G a10)
  have C_filled := ok_filled (P := l.prog) (w := w) (base := base) (T := (TL cC_BoxError cC_Clash)) B C_run_filling C_pair_masks F11 (PySem.W.mg_of X G a11)
  have C_fill_steps := ok_fill_steps (P := l.prog) (w := w) (base := base) (T := (TL cC_BoxError cC_Clash)) B C_run_filling C_pair_masks F12 (PySem.W.mg_of X G a12)
  have C_l_take := ok_l_take (P := l.prog) (w := w) (base := base) (T := (TL cC_BoxError cC_Clash)) B F14 (PySem.W.mg_of X G a14)
  have C_l_of := ok_l_of (P := l.prog) (w := w) (base := base) (T := (TL cC_BoxError cC_Clash)) B C_l_take F15 (PySem.W.mg_of X G a15)
  have C_l_same := ok_l_same (P := l.prog) (w := w) (base := base) (T := (TL cC_BoxError cC_Clash)) B F16 (PySem.W.mg_of X G a16) 6
  have C_l_lots := ok_l_lots (P := l.prog) (w := w) (base := base) (T := (TL cC_BoxError cC_Clash)) B F17 (PySem.W.mg_of X G a17)
  have C_l_asking := ok_l_asking (P := l.prog) (w := w) (base := base) (T := (TL cC_BoxError cC_Clash)) B C_l_lots F18 (PySem.W.mg_of X G a18)
  have C_l_drawn_pairs := ok_l_drawn_pairs (P := l.prog) (w := w) (base := base) (T := (TL cC_BoxError cC_Clash)) B C_l_lots C_l_take F19 (PySem.W.mg_of X G a19)
  have C_l_steps := ok_l_steps (P := l.prog) (w := w) (base := base) (T := (TL cC_BoxError cC_Clash)) B F20 (PySem.W.mg_of X G a20)
  have C_l_tell := ok_l_tell (P := l.prog) (w := w) (base := base) (T := (TL cC_BoxError cC_Clash)) B C_fill_steps C_filled F21 (PySem.W.mg_of X G a21)
  exact ok_law B C_l_of C_l_drawn_pairs C_l_take C_l_asking C_l_steps C_l_tell C_l_same (ok_law_bag B F13) (bB := F13.binds fun _ _ _ _ _ _ us hl => match us, hl with | [_], _ => rfl) (gB := PySem.W.mg_of X G a13) (kB := F13.kp) F22 hlaw
end LK19

end
section
set_option Elab.async false
set_option linter.all false
set_option maxRecDepth 100000
set_option maxHeartbeats 4000000
open PySem ND LK19
set_option hygiene false in
local macro_rules | `(tactic| walk_at "nm") => `(tactic| (try dsimp only [setS, putB_t, putB_f, stB, stL, wipeE, wipL, restE, restL, keepSh, List.set_cons_succ, List.set_cons_zero, List.map_cons, List.map_nil, List.cons_append, List.nil_append, List.replicate_succ, List.replicate_zero, List.length_cons, List.length_nil, if_true, ↓reduceIte, Nat.reduceAdd, Nat.reduceSub, Nat.reduceMul, List.contains, List.elem, Nat.reduceBEq, Nat.reduceAdd, cond_true, cond_false, Bool.false_eq_true, Bool.not_true, Bool.not_false] at *))
set_option hygiene false in
local macro_rules | `(tactic| walk_at "op") => `(tactic| fail)
set_option hygiene false in
local macro_rules | `(tactic| walk_at "w") => `(tactic| (repeat' (first
 | ((with_reducible apply m_run); exact rfl; walk_at "nm")
 | ((with_reducible first | apply ws_set | apply ws_if | apply w_set | apply w_if | apply w_ret | apply ws_bagSt | apply w_ite); walk_at "nm")
 | with_reducible first | apply ws_seq | apply ws_skip | apply ws_ret | apply ws_retO | apply ws_retN | apply ws_brk | apply ws_cnt | apply ws_drop | apply ws_par | apply ws_par3 | apply ws_unp | apply w_bagSt | apply w_retN | apply w_skip | apply w_brk | apply w_cnt' | apply w_drop | apply w_par | apply w_par3 | apply w_unp | apply w_cst | apply w_vD | apply w_dV | apply w_lift2 | apply w_lift2L | apply w_un1 | apply w_testB | apply w_testV | apply w_notT | apply w_andT | apply w_orT | apply w_andV | apply w_orV | apply w_notV | apply w_anil | apply w_acons | apply w_tup | apply w_lst | apply w_cnt | apply w_callP | apply w_callD | apply w_callK | apply w_bltE | apply w_bltQ | apply w_bltQL | apply w_bltL | apply w_join | apply w_sl | apply w_noP | apply w_parP | apply w_dic | apply w_pnil | apply w_pcons | apply w_seqI | apply w_rngI | apply w_zipI | apply w_yes | apply rq_rt | apply rq_nx | apply ex_inS1 | apply w_lift2V | apply sq_nx | apply sq_ct | apply sq_bk | apply sq_rt | apply aft_nx | apply aft_ct | apply aft_bk | apply aft_rt | apply w_iNil | apply w_iCons | apply w_lendG | apply w_excE | apply w_chn | apply w_newE | apply ws_unpDV | apply ws_unpVV | apply w_setDS | apply ws_setDS | apply w_pixG | apply w_revE
 | ((with_reducible first | apply ws_aug | apply w_retO_sh | apply w_aug | apply w_vr_sh | apply w_pk | apply w_callB | apply w_bagIx); exact rfl)
 | ((with_reducible first | apply w_retO_ow | apply w_vr_ow); exact rfl)
 | ((with_reducible first | apply w_vr_put | apply w_pk_put | apply w_iSlot_put); exact rfl)
 | ((with_reducible apply w_retO_put); exact rfl; intro rho rhob)
 | ((with_reducible first | apply w_lendH | apply w_iSlot | apply w_meth | apply ex_rev); exact rfl)
 | first | refine ex_app (by exact rfl) ?_ ?_ | refine ex_ext (by exact rfl) ?_ ?_
 | walk_at "op"
 | ((with_reducible first | apply ex_isiT | apply ex_isi2T | apply ex_isXT | apply ex_isX2T); (first | exact rfl | assumption); decide +kernel)
 | ((with_reducible first | apply ex_isiF | apply ex_isi2F | apply ex_isXF | apply ex_isX2F); (first | exact rfl | assumption); decide +kernel)
 | ((with_reducible apply ex_isXE); decide +kernel)
 | ((with_reducible apply ex_isXE2); decide +kernel; decide +kernel)
 | ((with_reducible apply ex_eqs); (first | assumption | decide +kernel); (first | assumption | decide +kernel))
 | ((with_reducible apply ex_lenS); first | assumption | omega)
 | ((with_reducible refine ex_slS ?_ ?_ (fun sy syo syl => ?_)); omega; assumption)
 | ((with_reducible first | refine ex_addS ?_ ?_ ?_ (fun sz szo szl => ?_) | refine or_addS ?_ ?_ ?_ (fun sz szo szl => ?_)); (first | assumption | decide +kernel); (first | assumption | decide +kernel); (first | omega | decide +kernel))
 | with_reducible first | refine ex_mul (by decide) ?_ | refine ex_mod (by first | assumption | decide | (dsimp only; omega)) ?_ | refine ex_fdiv (by first | assumption | decide | (dsimp only; omega)) (by first | assumption | decide | (dsimp only; omega)) ?_ | apply ex_eqi | apply ex_eqb | apply ex_neb | refine ex_pow (by decide) (by first | omega | (dsimp only; omega)) ?_
 | ((with_reducible refine ex_ixns ?_ ?_ (fun it => ?_)); assumption; assumption)
 | ((with_reducible first | apply ex_one | apply ex_par | apply ex_par3); exact rfl)
 | ((with_reducible apply ex_bag); exact rfl; exact rfl; exact rfl)
 | ((with_reducible apply ex_join); exact rfl; exact rfl)
 | ((with_reducible refine And.intro (fun hk => ?_) (fun hk => ?_)) <;> try cases hk)
 | ((with_reducible show _ < big); first | with_reducible assumption | omega)
 | with_reducible first | (apply Pl_as; assumption) | exact pl_C _ _ | exact Pl.bl _ _ | exact Pl.int _ _ | exact Pl.non _ | exact pls_nil | apply pls_cons | apply pl_R | apply pl_Rs | apply pl_lst | apply pl_tup
 | ((with_reducible show _ ≤ big); first | with_reducible assumption | exact Nat.le_of_ble_eq_true rfl | omega)
 | ((with_reducible apply And.intro); first | exact rfl | exact Nat.le_of_ble_eq_true rfl))))
local macro_rules | `(tactic| walk_at "op") => `(tactic| with_reducible refine ex_one (bD_isC _) ?_)
local macro_rules | `(tactic| walk_at "op") => `(tactic| with_reducible refine ex_one (nD_isC _) ?_)
local macro_rules | `(tactic| walk_at "op") => `(tactic| with_reducible refine ex_one (bD_eqC _ _) ?_)
local macro_rules | `(tactic| walk_at "op") => `(tactic| with_reducible refine ex_one (nD_eqC _ _) ?_)
local macro_rules | `(tactic| walk_at "op") => `(tactic| with_reducible refine ex_one (nD_eqi _ _) ?_)
local macro_rules | `(tactic| walk_at "op") => `(tactic| with_reducible refine ex_one (nD_eqn _ _) ?_)
local macro_rules | `(tactic| walk_at "op") => `(tactic| with_reducible refine ex_one (bD_eqn _ _) ?_)
local macro_rules | `(tactic| walk_at "op") => `(tactic| with_reducible refine ex_one (lenR _) ?_)
local macro_rules | `(tactic| walk_at "op") => `(tactic| with_reducible refine ex_one (seqR _) ?_)
local macro_rules | `(tactic| walk_at "op") => `(tactic| with_reducible refine ex_one (zipR _ _) ?_)
local macro_rules | `(tactic| walk_at "op") => `(tactic| with_reducible refine ex_one (tupR _) ?_)
local macro_rules | `(tactic| walk_at "op") => `(tactic| with_reducible refine ex_one (allD_map _ _) ?_)
local macro_rules | `(tactic| walk_at "op") => `(tactic| with_reducible refine ex_one (seqL _) ?_)
local macro_rules | `(tactic| walk_at "op") => `(tactic| with_reducible refine ex_one (lenL _) ?_)
local macro_rules | `(tactic| walk_at "op") => `(tactic| with_reducible refine ex_one (nD_inC _) ?_)
local macro_rules | `(tactic| walk_at "op") => `(tactic| with_reducible refine ex_one (bW_T _ _) ?_)
local macro_rules | `(tactic| walk_at "op") => `(tactic| with_reducible refine ex_one (inG_T) ?_)
namespace LK19
open PySem ND
variable {d : D} {count : Int} {b : Bag} {R : D → Bool → Bag → Prop} {x : List Cl} {y : List Nat} {c : Nat} {p : List Nat × List Nat} {ps : List (List Nat × List Nat)} {n : Nat}
theorem p18 : (10 : Int) ^ Int.toNat 18 = 1000000000000000000 := by decide
theorem take_spec {b : Bag} {k : Int} {R : D → Bool → Bag → Prop} (hb : BagOk b) (h0 : 0 < k) (h1 : k < 1073741824) (q : ∀ r b', BagOk b' → 0 ≤ r → r < k → R (.int r) false b') : M m_l_take [.int k] b R := by
  obtain ⟨ns, i, g, s, n, me⟩ := b
  obtain ⟨i0, g0, s0, s1, n0, hl, hme⟩ := hb
  dsimp only at *
  subst hme
  unfold m_l_take g_l_take
  walk_at "w"
  all_goals (simp only [decide_eq_true_eq, decide_eq_false_iff_not, p18] at *; refine q _ _ ⟨?_, ?_, ?_, ?_, ?_, ?_, ?_⟩ (Int.emod_nonneg _ (by omega)) (Int.emod_lt_of_pos _ h0) <;> (try dsimp only) <;> first | exact hl | exact rfl | omega | (refine Int.ediv_nonneg ?_ ?_ <;> omega))
theorem of_spec {b : Bag} {ds : List D} {R : D → Bool → Bag → Prop} (hb : BagOk b) (h0 : ds ≠ []) (h1 : ds.length ≤ big) (q : ∀ d ∈ ds, ∀ b', BagOk b' → R d false b') : M m_l_of [.lst ds] b R := by
  have hg := bigN
  have hp : 0 < ds.length := List.length_pos_iff.mpr h0
  unfold m_l_of g_l_of
  walk_at "w"
  refine take_spec hb (by omega) (by omega) fun r b' hb' r0 r1 => ?_
  refine ex_ix r0 r1 fun d hd => ?_
  walk_at "w"
  exact q d hd b' hb'
theorem gof_spec {ds : List D} (hb : BagOk b) (h0 : ds ≠ []) (h1 : ds.length ≤ big) (hg : Gds ds) (q : ∀ d b', BagOk b' → Gd d → R d false b') : M m_l_of [.lst ds] b R := of_spec hb h0 h1 fun d hd b hb => q d b hb (hg d hd)
theorem lof_spec (hb : BagOk b) (h0 : 0 < c) (hc : c ≤ 7) (q : ∀ ds b', BagOk b' → Gds ds → 0 < ds.length → ds.length ≤ 7 → R (.tup ds) false b') : M m_l_of [.lst ((lotsN c c).map encL)] b R := by
  obtain ⟨hne, hok⟩ := lots_ok ⟨c, by omega⟩ h0
  have hlen := (lots_len c hc c hc).1
  refine of_spec hb (by simpa using hne) (by rw [List.length_map, bigN]; omega) fun d hd b hb => ?_
  obtain ⟨y, hy, rfl⟩ := List.mem_map.mp hd
  obtain ⟨h1, h2, h3⟩ := hok y hy
  exact q _ _ hb (gds_ints y) (by rw [List.length_map]; exact List.length_pos_iff.mpr h1) (by rw [List.length_map]; exact h2)
theorem take_nat {b : Bag} {k : Nat} {R : D → Bool → Bag → Prop} (hb : BagOk b) (h0 : 0 < k) (h1 : k ≤ 100000) (q : ∀ (r : Nat) b', BagOk b' → r < k → R (.int r) false b') : M m_l_take [.int k] b R :=
  take_spec hb (by omega) (by omega) fun r b' hb' h2 h3 => by
    obtain ⟨m, rfl⟩ : ∃ m : Nat, r = m := ⟨r.toNat, by omega⟩
    exact q m b' hb' (by omega)
end LK19

end
section
set_option Elab.async false
set_option linter.all false
set_option maxRecDepth 100000
set_option maxHeartbeats 4000000
open PySem ND LK19
set_option hygiene false in
local macro_rules | `(tactic| walk_at "nm") => `(tactic| (try dsimp only [setS, putB_t, putB_f, stB, stL, wipeE, wipL, restE, restL, keepSh, List.set_cons_succ, List.set_cons_zero, List.map_cons, List.map_nil, List.cons_append, List.nil_append, List.replicate_succ, List.replicate_zero, List.length_cons, List.length_nil, if_true, ↓reduceIte, Nat.reduceAdd, Nat.reduceSub, Nat.reduceMul, List.contains, List.elem, Nat.reduceBEq, Nat.reduceAdd, cond_true, cond_false, Bool.false_eq_true, Bool.not_true, Bool.not_false] at *))
set_option hygiene false in
local macro_rules | `(tactic| walk_at "op") => `(tactic| fail)
set_option hygiene false in
local macro_rules | `(tactic| walk_at "w") => `(tactic| (repeat' (first
 | ((with_reducible apply m_run); exact rfl; walk_at "nm")
 | ((with_reducible first | apply ws_set | apply ws_if | apply w_set | apply w_if | apply w_ret | apply ws_bagSt | apply w_ite); walk_at "nm")
 | with_reducible first | apply ws_seq | apply ws_skip | apply ws_ret | apply ws_retO | apply ws_retN | apply ws_brk | apply ws_cnt | apply ws_drop | apply ws_par | apply ws_par3 | apply ws_unp | apply w_bagSt | apply w_retN | apply w_skip | apply w_brk | apply w_cnt' | apply w_drop | apply w_par | apply w_par3 | apply w_unp | apply w_cst | apply w_vD | apply w_dV | apply w_lift2 | apply w_lift2L | apply w_un1 | apply w_testB | apply w_testV | apply w_notT | apply w_andT | apply w_orT | apply w_andV | apply w_orV | apply w_notV | apply w_anil | apply w_acons | apply w_tup | apply w_lst | apply w_cnt | apply w_callP | apply w_callD | apply w_callK | apply w_bltE | apply w_bltQ | apply w_bltQL | apply w_bltL | apply w_join | apply w_sl | apply w_noP | apply w_parP | apply w_dic | apply w_pnil | apply w_pcons | apply w_seqI | apply w_rngI | apply w_zipI | apply w_yes | apply rq_rt | apply rq_nx | apply ex_inS1 | apply w_lift2V | apply sq_nx | apply sq_ct | apply sq_bk | apply sq_rt | apply aft_nx | apply aft_ct | apply aft_bk | apply aft_rt | apply w_iNil | apply w_iCons | apply w_lendG | apply w_excE | apply w_chn | apply w_newE | apply ws_unpDV | apply ws_unpVV | apply w_setDS | apply ws_setDS | apply w_pixG | apply w_revE
 | ((with_reducible first | apply ws_aug | apply w_retO_sh | apply w_aug | apply w_vr_sh | apply w_pk | apply w_callB | apply w_bagIx); exact rfl)
 | ((with_reducible first | apply w_retO_ow | apply w_vr_ow); exact rfl)
 | ((with_reducible first | apply w_vr_put | apply w_pk_put | apply w_iSlot_put); exact rfl)
 | ((with_reducible apply w_retO_put); exact rfl; intro rho rhob)
 | ((with_reducible first | apply w_lendH | apply w_iSlot | apply w_meth | apply ex_rev); exact rfl)
 | first | refine ex_app (by exact rfl) ?_ ?_ | refine ex_ext (by exact rfl) ?_ ?_
 | walk_at "op"
 | ((with_reducible first | apply ex_isiT | apply ex_isi2T | apply ex_isXT | apply ex_isX2T); (first | exact rfl | assumption); decide +kernel)
 | ((with_reducible first | apply ex_isiF | apply ex_isi2F | apply ex_isXF | apply ex_isX2F); (first | exact rfl | assumption); decide +kernel)
 | ((with_reducible apply ex_isXE); decide +kernel)
 | ((with_reducible apply ex_isXE2); decide +kernel; decide +kernel)
 | ((with_reducible apply ex_eqs); (first | assumption | decide +kernel); (first | assumption | decide +kernel))
 | ((with_reducible apply ex_lenS); first | assumption | omega)
 | ((with_reducible refine ex_slS ?_ ?_ (fun sy syo syl => ?_)); omega; assumption)
 | ((with_reducible first | refine ex_addS ?_ ?_ ?_ (fun sz szo szl => ?_) | refine or_addS ?_ ?_ ?_ (fun sz szo szl => ?_)); (first | assumption | decide +kernel); (first | assumption | decide +kernel); (first | omega | decide +kernel))
 | with_reducible first | refine ex_mul (by decide) ?_ | refine ex_mod (by first | assumption | decide | (dsimp only; omega)) ?_ | refine ex_fdiv (by first | assumption | decide | (dsimp only; omega)) (by first | assumption | decide | (dsimp only; omega)) ?_ | apply ex_eqi | apply ex_eqb | apply ex_neb | refine ex_pow (by decide) (by first | omega | (dsimp only; omega)) ?_
 | ((with_reducible refine ex_ixns ?_ ?_ (fun it => ?_)); assumption; assumption)
 | ((with_reducible first | apply ex_one | apply ex_par | apply ex_par3); exact rfl)
 | ((with_reducible apply ex_bag); exact rfl; exact rfl; exact rfl)
 | ((with_reducible apply ex_join); exact rfl; exact rfl)
 | ((with_reducible refine And.intro (fun hk => ?_) (fun hk => ?_)) <;> try cases hk)
 | ((with_reducible show _ < big); first | with_reducible assumption | omega)
 | with_reducible first | (apply Pl_as; assumption) | exact pl_C _ _ | exact Pl.bl _ _ | exact Pl.int _ _ | exact Pl.non _ | exact pls_nil | apply pls_cons | apply pl_R | apply pl_Rs | apply pl_lst | apply pl_tup
 | ((with_reducible show _ ≤ big); first | with_reducible assumption | exact Nat.le_of_ble_eq_true rfl | omega)
 | ((with_reducible apply And.intro); first | exact rfl | exact Nat.le_of_ble_eq_true rfl))))
set_option hygiene false in
local macro_rules | `(tactic| walk_at "op") => `(tactic| (refine ex_one (by with_reducible assumption) ?_))
local macro_rules | `(tactic| walk_at "op") => `(tactic| with_reducible refine ex_one (bD_isC _) ?_)
local macro_rules | `(tactic| walk_at "op") => `(tactic| with_reducible refine ex_one (nD_isC _) ?_)
local macro_rules | `(tactic| walk_at "op") => `(tactic| with_reducible refine ex_one (bD_eqC _ _) ?_)
local macro_rules | `(tactic| walk_at "op") => `(tactic| with_reducible refine ex_one (nD_eqC _ _) ?_)
local macro_rules | `(tactic| walk_at "op") => `(tactic| with_reducible refine ex_one (nD_eqi _ _) ?_)
local macro_rules | `(tactic| walk_at "op") => `(tactic| with_reducible refine ex_one (nD_eqn _ _) ?_)
local macro_rules | `(tactic| walk_at "op") => `(tactic| with_reducible refine ex_one (bD_eqn _ _) ?_)
local macro_rules | `(tactic| walk_at "op") => `(tactic| with_reducible refine ex_one (lenR _) ?_)
local macro_rules | `(tactic| walk_at "op") => `(tactic| with_reducible refine ex_one (seqR _) ?_)
local macro_rules | `(tactic| walk_at "op") => `(tactic| with_reducible refine ex_one (zipR _ _) ?_)
local macro_rules | `(tactic| walk_at "op") => `(tactic| with_reducible refine ex_one (tupR _) ?_)
local macro_rules | `(tactic| walk_at "op") => `(tactic| with_reducible refine ex_one (allD_map _ _) ?_)
local macro_rules | `(tactic| walk_at "op") => `(tactic| with_reducible refine ex_one (seqL _) ?_)
local macro_rules | `(tactic| walk_at "op") => `(tactic| with_reducible refine ex_one (lenL _) ?_)
local macro_rules | `(tactic| walk_at "op") => `(tactic| with_reducible refine ex_one (nD_inC _) ?_)
local macro_rules | `(tactic| walk_at "op") => `(tactic| with_reducible refine ex_one (bW_T _ _) ?_)
local macro_rules | `(tactic| walk_at "op") => `(tactic| with_reducible refine ex_one (inG_T) ?_)
namespace LK19
open PySem ND
variable {d : D} {count : Int} {b : Bag} {R : D → Bool → Bag → Prop} {x : List Cl} {y : List Nat} {c : Nat} {p : List Nat × List Nat} {ps : List (List Nat × List Nat)} {n : Nat}
theorem l_lots_spec (hc : c ≤ 7) (q : ∀ fr b, R (.lst ((lotsN c c).map encL)) fr b) : M m_l_lots [.int c] b R := by
  have hg := bigN
  have hr := rngO1 c (by omega)
  unfold m_l_lots g_l_lots
  walk_at "w"
  refine w_sq ?_
  refine w_forN c (fun k ρ => ∃ b fr s3 s4 s5 s6, ρ = ⟨b, [.sh (.int c), putB fr (.lst ((lotsN c k).map encL)), .sh (.lst ((layN c k).map encL)), s3, s4, s5, s6]⟩) ?_
  walk_at "w"
  refine ⟨⟨b, false, _, _, _, _, rfl⟩, fun k hk ρ hj => ?_, fun ρ hj => ?_⟩
  · obtain ⟨b, fr, s3, s4, s5, s6, rfl⟩ := hj
    refine ⟨_, rfl, ?_⟩
    have hL := lots_len c hc k (by omega)
    have hL1 := lots_len c hc (k + 1) (by omega)
    walk_at "w"
    refine w_sq ?_
    refine w_forM encL (layN c k) (fun pre ρ => ∃ s5 s6, ρ = ⟨b, [.sh (.int c), putB fr (.lst ((lotsN c k).map encL)), .sh (.lst ((layN c k).map encL)), .sh (.int k), .ow (.lst ((pre.flatMap (extN c)).map encL)), s5, s6]⟩) ?_
    walk_at "w"
    refine ⟨⟨_, _, rfl⟩, fun pre y suf e ρ hj => ?_, fun ρ hj => ?_⟩
    · obtain ⟨t5, t6, rfl⟩ := hj
      refine ⟨_, rfl, ?_⟩
      obtain ⟨hys, hyl⟩ := lay_le c hc k (by omega) y (by rw [e]; simp)
      have hp := lay_part e
      have hrr := rngO2 (startN y) c (by omega) (by omega)
      have hfi : W (rngI (cnt 2 (acons (iteE (testV (pk 5)) (lift2 addD (lift2 ixD (vr 5) (un1 negD (cst (.int 1)))) (cst (.int 1))) (cst (.int 0))) (acons (vr 0) anil))) ⟨b, [.sh (.int c), putB fr (.lst ((lotsN c k).map encL)), .sh (.lst ((layN c k).map encL)), .sh (.int k), .ow (.lst ((pre.flatMap (extN c)).map encL)), .sh (encL y), t6]⟩)
        fun ds ρ1 => ds = (List.range (c - startN y)).map (fun i => D.int (startN y + i : Nat)) ∧ ρ1 = ⟨b, [.sh (.int c), putB fr (.lst ((lotsN c k).map encL)), .sh (.lst ((layN c k).map encL)), .sh (.int k), .ow (.lst ((pre.flatMap (extN c)).map encL)), .sh (encL y), t6]⟩ := by
        walk_at "w"
        · obtain ⟨v, hv1, hv2⟩ := last_enc y (by intro z; subst z; simp at hk)
          rw [hv1] at hrr
          refine ex_one hv2 ?_
          walk_at "w"
          refine ex_one hrr ?_
          exact ⟨by rw [hv1], rfl⟩
        · have hy0 : y = [] := by simpa using hk
          subst hy0
          refine ex_one hrr ?_
          exact ⟨rfl, rfl⟩
      refine w_forM (fun i : Nat => D.int (startN y + i : Nat)) (List.range (c - startN y)) (fun pr ρ => ∃ s6, ρ = ⟨b, [.sh (.int c), putB fr (.lst ((lotsN c k).map encL)), .sh (.lst ((layN c k).map encL)), .sh (.int k), .ow (.lst ((pre.flatMap (extN c)).map encL ++ pr.map fun i => encL (y ++ [startN y + i]))), .sh (encL y), s6]⟩) (hfi.mp fun ds ρ1 ⟨e1, e2⟩ => ?_)
      subst e2
      refine ⟨e1, ⟨t6, by rw [List.map_nil, List.append_nil]⟩, fun pr i su e ρ hj => ?_, fun ρ hj => ?_⟩
      · obtain ⟨t6, rfl⟩ := hj
        refine ⟨_, rfl, ?_⟩
        have hl := congrArg List.length e
        rw [List.length_range, List.length_append, List.length_cons] at hl
        have hs := encL_snoc y (startN y + i) hyl
        walk_at "w"
        · rw [List.length_append, List.length_map, List.length_map]
          show _ < big
          omega
        · simp only [List.map_append, List.map_cons, List.map_nil, List.append_assoc]
          exact ⟨_, rfl⟩
      · obtain ⟨t6, rfl⟩ := hj
        refine aft_nx ?_
        simp only [ext_snoc]
        exact ⟨_, _, rfl⟩
    · obtain ⟨t5, t6, rfl⟩ := hj
      have hcat : catD (.lst ((lotsN c k).map encL)) (.lst (((layN c k).flatMap (extN c)).map encL)) = some ((lotsN c (k + 1)).map encL) := by
        rw [lots_step]
        show (if _ then _ else _) = _
        rw [if_pos (by rw [List.length_map, List.length_map]; show _ + (layN c (k + 1)).length ≤ big; omega)]
        rfl
      walk_at "w"
      simp only [lay_step]
      exact ⟨_, true, _, _, _, _, rfl⟩
  · obtain ⟨b, fr, s3, s4, s5, s6, rfl⟩ := hj
    walk_at "w"
    exact q _ _
end LK19

end
section
set_option Elab.async false
set_option linter.all false
set_option maxRecDepth 100000
set_option maxHeartbeats 4000000
open PySem ND LK19
set_option hygiene false in
local macro_rules | `(tactic| walk_at "nm") => `(tactic| (try dsimp only [setS, putB_t, putB_f, stB, stL, wipeE, wipL, restE, restL, keepSh, List.set_cons_succ, List.set_cons_zero, List.map_cons, List.map_nil, List.cons_append, List.nil_append, List.replicate_succ, List.replicate_zero, List.length_cons, List.length_nil, if_true, ↓reduceIte, Nat.reduceAdd, Nat.reduceSub, Nat.reduceMul, List.contains, List.elem, Nat.reduceBEq, Nat.reduceAdd, cond_true, cond_false, Bool.false_eq_true, Bool.not_true, Bool.not_false] at *))
set_option hygiene false in
local macro_rules | `(tactic| walk_at "op") => `(tactic| fail)
set_option hygiene false in
local macro_rules | `(tactic| walk_at "w") => `(tactic| (repeat' (first
 | ((with_reducible apply m_run); exact rfl; walk_at "nm")
 | ((with_reducible first | apply ws_set | apply ws_if | apply w_set | apply w_if | apply w_ret | apply ws_bagSt | apply w_ite); walk_at "nm")
 | with_reducible first | apply ws_seq | apply ws_skip | apply ws_ret | apply ws_retO | apply ws_retN | apply ws_brk | apply ws_cnt | apply ws_drop | apply ws_par | apply ws_par3 | apply ws_unp | apply w_bagSt | apply w_retN | apply w_skip | apply w_brk | apply w_cnt' | apply w_drop | apply w_par | apply w_par3 | apply w_unp | apply w_cst | apply w_vD | apply w_dV | apply w_lift2 | apply w_lift2L | apply w_un1 | apply w_testB | apply w_testV | apply w_notT | apply w_andT | apply w_orT | apply w_andV | apply w_orV | apply w_notV | apply w_anil | apply w_acons | apply w_tup | apply w_lst | apply w_cnt | apply w_callP | apply w_callD | apply w_callK | apply w_bltE | apply w_bltQ | apply w_bltQL | apply w_bltL | apply w_join | apply w_sl | apply w_noP | apply w_parP | apply w_dic | apply w_pnil | apply w_pcons | apply w_seqI | apply w_rngI | apply w_zipI | apply w_yes | apply rq_rt | apply rq_nx | apply ex_inS1 | apply w_lift2V | apply sq_nx | apply sq_ct | apply sq_bk | apply sq_rt | apply aft_nx | apply aft_ct | apply aft_bk | apply aft_rt | apply w_iNil | apply w_iCons | apply w_lendG | apply w_excE | apply w_chn | apply w_newE | apply ws_unpDV | apply ws_unpVV | apply w_setDS | apply ws_setDS | apply w_pixG | apply w_revE
 | ((with_reducible first | apply ws_aug | apply w_retO_sh | apply w_aug | apply w_vr_sh | apply w_pk | apply w_callB | apply w_bagIx); exact rfl)
 | ((with_reducible first | apply w_retO_ow | apply w_vr_ow); exact rfl)
 | ((with_reducible first | apply w_vr_put | apply w_pk_put | apply w_iSlot_put); exact rfl)
 | ((with_reducible apply w_retO_put); exact rfl; intro rho rhob)
 | ((with_reducible first | apply w_lendH | apply w_iSlot | apply w_meth | apply ex_rev); exact rfl)
 | first | refine ex_app (by exact rfl) ?_ ?_ | refine ex_ext (by exact rfl) ?_ ?_
 | walk_at "op"
 | ((with_reducible first | apply ex_isiT | apply ex_isi2T | apply ex_isXT | apply ex_isX2T); (first | exact rfl | assumption); decide +kernel)
 | ((with_reducible first | apply ex_isiF | apply ex_isi2F | apply ex_isXF | apply ex_isX2F); (first | exact rfl | assumption); decide +kernel)
 | ((with_reducible apply ex_isXE); decide +kernel)
 | ((with_reducible apply ex_isXE2); decide +kernel; decide +kernel)
 | ((with_reducible apply ex_eqs); (first | assumption | decide +kernel); (first | assumption | decide +kernel))
 | ((with_reducible apply ex_lenS); first | assumption | omega)
 | ((with_reducible refine ex_slS ?_ ?_ (fun sy syo syl => ?_)); omega; assumption)
 | ((with_reducible first | refine ex_addS ?_ ?_ ?_ (fun sz szo szl => ?_) | refine or_addS ?_ ?_ ?_ (fun sz szo szl => ?_)); (first | assumption | decide +kernel); (first | assumption | decide +kernel); (first | omega | decide +kernel))
 | with_reducible first | refine ex_mul (by decide) ?_ | refine ex_mod (by first | assumption | decide | (dsimp only; omega)) ?_ | refine ex_fdiv (by first | assumption | decide | (dsimp only; omega)) (by first | assumption | decide | (dsimp only; omega)) ?_ | apply ex_eqi | apply ex_eqb | apply ex_neb | refine ex_pow (by decide) (by first | omega | (dsimp only; omega)) ?_
 | ((with_reducible refine ex_ixns ?_ ?_ (fun it => ?_)); assumption; assumption)
 | ((with_reducible first | apply ex_one | apply ex_par | apply ex_par3); exact rfl)
 | ((with_reducible apply ex_bag); exact rfl; exact rfl; exact rfl)
 | ((with_reducible apply ex_join); exact rfl; exact rfl)
 | ((with_reducible refine And.intro (fun hk => ?_) (fun hk => ?_)) <;> try cases hk)
 | ((with_reducible show _ < big); first | with_reducible assumption | omega)
 | with_reducible first | (apply Pl_as; assumption) | exact pl_C _ _ | exact Pl.bl _ _ | exact Pl.int _ _ | exact Pl.non _ | exact pls_nil | apply pls_cons | apply pl_R | apply pl_Rs | apply pl_lst | apply pl_tup
 | ((with_reducible show _ ≤ big); first | with_reducible assumption | exact Nat.le_of_ble_eq_true rfl | omega)
 | ((with_reducible apply And.intro); first | exact rfl | exact Nat.le_of_ble_eq_true rfl))))
local macro_rules | `(tactic| walk_at "op") => `(tactic| with_reducible refine ex_one (bD_isC _) ?_)
local macro_rules | `(tactic| walk_at "op") => `(tactic| with_reducible refine ex_one (nD_isC _) ?_)
local macro_rules | `(tactic| walk_at "op") => `(tactic| with_reducible refine ex_one (bD_eqC _ _) ?_)
local macro_rules | `(tactic| walk_at "op") => `(tactic| with_reducible refine ex_one (nD_eqC _ _) ?_)
local macro_rules | `(tactic| walk_at "op") => `(tactic| with_reducible refine ex_one (nD_eqi _ _) ?_)
local macro_rules | `(tactic| walk_at "op") => `(tactic| with_reducible refine ex_one (nD_eqn _ _) ?_)
local macro_rules | `(tactic| walk_at "op") => `(tactic| with_reducible refine ex_one (bD_eqn _ _) ?_)
local macro_rules | `(tactic| walk_at "op") => `(tactic| with_reducible refine ex_one (lenR _) ?_)
local macro_rules | `(tactic| walk_at "op") => `(tactic| with_reducible refine ex_one (seqR _) ?_)
local macro_rules | `(tactic| walk_at "op") => `(tactic| with_reducible refine ex_one (zipR _ _) ?_)
local macro_rules | `(tactic| walk_at "op") => `(tactic| with_reducible refine ex_one (tupR _) ?_)
local macro_rules | `(tactic| walk_at "op") => `(tactic| with_reducible refine ex_one (allD_map _ _) ?_)
local macro_rules | `(tactic| walk_at "op") => `(tactic| with_reducible refine ex_one (seqL _) ?_)
local macro_rules | `(tactic| walk_at "op") => `(tactic| with_reducible refine ex_one (lenL _) ?_)
local macro_rules | `(tactic| walk_at "op") => `(tactic| with_reducible refine ex_one (nD_inC _) ?_)
local macro_rules | `(tactic| walk_at "op") => `(tactic| with_reducible refine ex_one (bW_T _ _) ?_)
local macro_rules | `(tactic| walk_at "op") => `(tactic| with_reducible refine ex_one (inG_T) ?_)
namespace LK19
open PySem ND
variable {d : D} {count : Int} {b : Bag} {R : D → Bool → Bag → Prop} {x : List Cl} {y : List Nat} {c : Nat} {p : List Nat × List Nat} {ps : List (List Nat × List Nat)} {n : Nat}
def Lk (j : Nat) (d : D) : Prop := ∀ (b : Bag) (R : D → Bool → Bag → Prop), (∀ b, R (.bl true) false b) → M (m_l_same j) [d, d] b R
theorem lk_of {j : Nat} {d : D} (p : Pl j d) : Lk j d := by
  induction p with
  | non j =>
    intro b R q
    unfold m_l_same g_l_same
    walk_at "w"
    all_goals exact q _
  | bl j k =>
    intro b R q
    unfold m_l_same g_l_same
    walk_at "w"
    rw [beq_self_eq_true]
    exact q _
  | int j i =>
    intro b R q
    unfold m_l_same g_l_same
    walk_at "w"
    rw [decide_eq_true rfl]
    exact q _
  | str j h =>
    intro b R q
    unfold m_l_same g_l_same
    walk_at "w"
    rw [beq_self_eq_true]
    exact q _
  | @tup j ds l h ih =>
    intro b R q
    unfold m_l_same g_l_same
    walk_at "w"
    · refine w_lcM (fun x => D.tup [x, x]) (fun _ => D.bl true) ds ?_
      walk_at "w"
      refine ⟨by show (ds.zip ds).map _ = _; rw [zip_self, List.map_map]; rfl, l, fun x hx => ⟨_, rfl, ?_⟩, ?_⟩
      · walk_at "w"
        refine ih x hx _ _ fun b => ?_
        exact ⟨rfl, rfl⟩
      · walk_at "w"
        rw [all_true]
        exact q _
    · simp at hk
  | @lst j ds l h ih =>
    intro b R q
    unfold m_l_same g_l_same
    walk_at "w"
    · refine w_lcM (fun x => D.tup [x, x]) (fun _ => D.bl true) ds ?_
      walk_at "w"
      refine ⟨by show (ds.zip ds).map _ = _; rw [zip_self, List.map_map]; rfl, l, fun x hx => ⟨_, rfl, ?_⟩, ?_⟩
      · walk_at "w"
        refine ih x hx _ _ fun b => ?_
        exact ⟨rfl, rfl⟩
      · walk_at "w"
        rw [all_true]
        exact q _
    · simp at hk
theorem same_eq {j : Nat} {d e : D} (h : d = e) (p : Pl j d) (q : ∀ b, R (.bl true) false b) : M (m_l_same j) [d, e] b R := by
  subst h
  exact lk_of p b R q
end LK19

end
section
set_option Elab.async false
set_option linter.all false
set_option maxRecDepth 100000
set_option maxHeartbeats 4000000
open PySem ND LK19
set_option hygiene false in
local macro_rules | `(tactic| walk_at "nm") => `(tactic| (try dsimp only [setS, putB_t, putB_f, stB, stL, wipeE, wipL, restE, restL, keepSh, List.set_cons_succ, List.set_cons_zero, List.map_cons, List.map_nil, List.cons_append, List.nil_append, List.replicate_succ, List.replicate_zero, List.length_cons, List.length_nil, if_true, ↓reduceIte, Nat.reduceAdd, Nat.reduceSub, Nat.reduceMul, List.contains, List.elem, Nat.reduceBEq, Nat.reduceAdd, cond_true, cond_false, Bool.false_eq_true, Bool.not_true, Bool.not_false] at *))
set_option hygiene false in
local macro_rules | `(tactic| walk_at "op") => `(tactic| fail)
set_option hygiene false in
local macro_rules | `(tactic| walk_at "w") => `(tactic| (repeat' (first
 | ((with_reducible apply m_run); exact rfl; walk_at "nm")
 | ((with_reducible first | apply ws_set | apply ws_if | apply w_set | apply w_if | apply w_ret | apply ws_bagSt | apply w_ite); walk_at "nm")
 | with_reducible first | apply ws_seq | apply ws_skip | apply ws_ret | apply ws_retO | apply ws_retN | apply ws_brk | apply ws_cnt | apply ws_drop | apply ws_par | apply ws_par3 | apply ws_unp | apply w_bagSt | apply w_retN | apply w_skip | apply w_brk | apply w_cnt' | apply w_drop | apply w_par | apply w_par3 | apply w_unp | apply w_cst | apply w_vD | apply w_dV | apply w_lift2 | apply w_lift2L | apply w_un1 | apply w_testB | apply w_testV | apply w_notT | apply w_andT | apply w_orT | apply w_andV | apply w_orV | apply w_notV | apply w_anil | apply w_acons | apply w_tup | apply w_lst | apply w_cnt | apply w_callP | apply w_callD | apply w_callK | apply w_bltE | apply w_bltQ | apply w_bltQL | apply w_bltL | apply w_join | apply w_sl | apply w_noP | apply w_parP | apply w_dic | apply w_pnil | apply w_pcons | apply w_seqI | apply w_rngI | apply w_zipI | apply w_yes | apply rq_rt | apply rq_nx | apply ex_inS1 | apply w_lift2V | apply sq_nx | apply sq_ct | apply sq_bk | apply sq_rt | apply aft_nx | apply aft_ct | apply aft_bk | apply aft_rt | apply w_iNil | apply w_iCons | apply w_lendG | apply w_excE | apply w_chn | apply w_newE | apply ws_unpDV | apply ws_unpVV | apply w_setDS | apply ws_setDS | apply w_pixG | apply w_revE
 | ((with_reducible first | apply ws_aug | apply w_retO_sh | apply w_aug | apply w_vr_sh | apply w_pk | apply w_callB | apply w_bagIx); exact rfl)
 | ((with_reducible first | apply w_retO_ow | apply w_vr_ow); exact rfl)
 | ((with_reducible first | apply w_vr_put | apply w_pk_put | apply w_iSlot_put); exact rfl)
 | ((with_reducible apply w_retO_put); exact rfl; intro rho rhob)
 | ((with_reducible first | apply w_lendH | apply w_iSlot | apply w_meth | apply ex_rev); exact rfl)
 | first | refine ex_app (by exact rfl) ?_ ?_ | refine ex_ext (by exact rfl) ?_ ?_
 | walk_at "op"
 | ((with_reducible first | apply ex_isiT | apply ex_isi2T | apply ex_isXT | apply ex_isX2T); (first | exact rfl | assumption); decide +kernel)
 | ((with_reducible first | apply ex_isiF | apply ex_isi2F | apply ex_isXF | apply ex_isX2F); (first | exact rfl | assumption); decide +kernel)
 | ((with_reducible apply ex_isXE); decide +kernel)
 | ((with_reducible apply ex_isXE2); decide +kernel; decide +kernel)
 | ((with_reducible apply ex_eqs); (first | assumption | decide +kernel); (first | assumption | decide +kernel))
 | ((with_reducible apply ex_lenS); first | assumption | omega)
 | ((with_reducible refine ex_slS ?_ ?_ (fun sy syo syl => ?_)); omega; assumption)
 | ((with_reducible first | refine ex_addS ?_ ?_ ?_ (fun sz szo szl => ?_) | refine or_addS ?_ ?_ ?_ (fun sz szo szl => ?_)); (first | assumption | decide +kernel); (first | assumption | decide +kernel); (first | omega | decide +kernel))
 | with_reducible first | refine ex_mul (by decide) ?_ | refine ex_mod (by first | assumption | decide | (dsimp only; omega)) ?_ | refine ex_fdiv (by first | assumption | decide | (dsimp only; omega)) (by first | assumption | decide | (dsimp only; omega)) ?_ | apply ex_eqi | apply ex_eqb | apply ex_neb | refine ex_pow (by decide) (by first | omega | (dsimp only; omega)) ?_
 | ((with_reducible refine ex_ixns ?_ ?_ (fun it => ?_)); assumption; assumption)
 | ((with_reducible first | apply ex_one | apply ex_par | apply ex_par3); exact rfl)
 | ((with_reducible apply ex_bag); exact rfl; exact rfl; exact rfl)
 | ((with_reducible apply ex_join); exact rfl; exact rfl)
 | ((with_reducible refine And.intro (fun hk => ?_) (fun hk => ?_)) <;> try cases hk)
 | ((with_reducible show _ < big); first | with_reducible assumption | omega)
 | with_reducible first | (apply Pl_as; assumption) | exact pl_C _ _ | exact Pl.bl _ _ | exact Pl.int _ _ | exact Pl.non _ | exact pls_nil | apply pls_cons | apply pl_R | apply pl_Rs | apply pl_lst | apply pl_tup
 | ((with_reducible show _ ≤ big); first | with_reducible assumption | exact Nat.le_of_ble_eq_true rfl | omega)
 | ((with_reducible apply And.intro); first | exact rfl | exact Nat.le_of_ble_eq_true rfl))))
set_option hygiene false in
local macro_rules | `(tactic| walk_at "op") => `(tactic| (refine ex_one (by with_reducible assumption) ?_))
local macro_rules | `(tactic| walk_at "op") => `(tactic| with_reducible refine ex_one (bD_isC _) ?_)
local macro_rules | `(tactic| walk_at "op") => `(tactic| with_reducible refine ex_one (nD_isC _) ?_)
local macro_rules | `(tactic| walk_at "op") => `(tactic| with_reducible refine ex_one (bD_eqC _ _) ?_)
local macro_rules | `(tactic| walk_at "op") => `(tactic| with_reducible refine ex_one (nD_eqC _ _) ?_)
local macro_rules | `(tactic| walk_at "op") => `(tactic| with_reducible refine ex_one (nD_eqi _ _) ?_)
local macro_rules | `(tactic| walk_at "op") => `(tactic| with_reducible refine ex_one (nD_eqn _ _) ?_)
local macro_rules | `(tactic| walk_at "op") => `(tactic| with_reducible refine ex_one (bD_eqn _ _) ?_)
local macro_rules | `(tactic| walk_at "op") => `(tactic| with_reducible refine ex_one (lenR _) ?_)
local macro_rules | `(tactic| walk_at "op") => `(tactic| with_reducible refine ex_one (seqR _) ?_)
local macro_rules | `(tactic| walk_at "op") => `(tactic| with_reducible refine ex_one (zipR _ _) ?_)
local macro_rules | `(tactic| walk_at "op") => `(tactic| with_reducible refine ex_one (tupR _) ?_)
local macro_rules | `(tactic| walk_at "op") => `(tactic| with_reducible refine ex_one (allD_map _ _) ?_)
local macro_rules | `(tactic| walk_at "op") => `(tactic| with_reducible refine ex_one (seqL _) ?_)
local macro_rules | `(tactic| walk_at "op") => `(tactic| with_reducible refine ex_one (lenL _) ?_)
local macro_rules | `(tactic| walk_at "op") => `(tactic| with_reducible refine ex_one (nD_inC _) ?_)
local macro_rules | `(tactic| walk_at "op") => `(tactic| with_reducible refine ex_one (bW_T _ _) ?_)
local macro_rules | `(tactic| walk_at "op") => `(tactic| with_reducible refine ex_one (inG_T) ?_)
namespace LK19
open PySem ND
variable {d : D} {count : Int} {b : Bag} {R : D → Bool → Bag → Prop} {x : List Cl} {y : List Nat} {c : Nat} {p : List Nat × List Nat} {ps : List (List Nat × List Nat)} {n : Nat}
def DctA (c : Nat) (ks : List (List L2.Key × D)) : Prop := ∀ p ∈ ks, ∃ q, p = (keyL q.1, encL q.2) ∧ (GoodP c q ∧ Asc q.2) ∧ q.2.length ≤ 7
theorem flt_put {i : Nat} {ys : List Nat} {g : Nat → Bool} (h : ys = (List.range i).filter g) : ∃ g', ys ++ [i] = (List.range (i + 1)).filter g' := by
  refine ⟨fun r => if r < i then g r else true, ?_⟩
  rw [List.range_succ, List.filter_append, h]
  congr 1
  · refine List.filter_congr fun r hr => ?_
    rw [if_pos (List.mem_range.mp hr)]
  · simp
theorem flt_no {i : Nat} {ys : List Nat} {g : Nat → Bool} (h : ys = (List.range i).filter g) : ∃ g', ys = (List.range (i + 1)).filter g' := by
  refine ⟨fun r => if r < i then g r else false, ?_⟩
  rw [List.range_succ, List.filter_append, h]
  rw [show [i].filter (fun r => if r < i then g r else false) = [] from by simp, List.append_nil]
  refine List.filter_congr fun r hr => ?_
  rw [if_pos (List.mem_range.mp hr)]
theorem putA_mem {c : Nat} {ks : List (List L2.Key × D)} {k : List L2.Key} {d : D} (h : DctA c ks) (hq : ∃ q, (k, d) = (keyL q.1, encL q.2) ∧ (GoodP c q ∧ Asc q.2) ∧ q.2.length ≤ 7) : DctA c (putKD ks k d) := put_mem (P := fun p : List L2.Key × D => ∃ q : List Nat × List Nat, p = (keyL q.1, encL q.2) ∧ (GoodP c q ∧ Asc q.2) ∧ q.2.length ≤ 7) h hq
theorem drawn_pairs_spec {n : Nat} (hb : BagOk b) (h0 : 0 < c) (hc : c ≤ 7) (hn : n ≤ 100) (q : ∀ (ps : List (List Nat × List Nat)) b', BagOk b' → ps.length ≤ 200 → (∀ p ∈ ps, (GoodP c p ∧ Asc p.2) ∧ p.1 ∈ lotsN c c) → R (.lst (ps.map encP)) true b') : M m_l_drawn_pairs [.int c, .int n] b R := by
  have hg := bigN
  have hr := rngO1 c (by omega)
  obtain ⟨hne, hok⟩ := lots_ok ⟨c, by omega⟩ h0
  dsimp only at hne hok
  have hlen := (lots_len c hc c hc).1
  have hl0 : 0 < (lotsN c c).length := List.length_pos_iff.mpr hne
  unfold m_l_drawn_pairs g_l_drawn_pairs
  walk_at "w"
  refine l_lots_spec hc fun fr b => ?_
  have hlm : lenD (.lst ((lotsN c c).map encL)) = some (.int (lotsN c c).length) := by show some (D.int _) = _; rw [List.length_map]
  walk_at "w"
  refine w_sq ?_
  refine w_forN' ?_
  walk_at "w"
  refine take_nat (k := n + 1) hb (by omega) (by omega) fun t b hb ht => ?_
  have hrt := rngO1 t (by omega)
  have hpe : ∀ y ∈ lotsN c c, ∀ i : Nat, (lotsN c c)[i]? = some y → ixD (.lst ((lotsN c c).map encL)) (.int i) = some (encL y) := fun y _ i hi => ixL_nat (by rw [List.getElem?_map, hi]; rfl)
  walk_at "w"
  refine ⟨t, fun k ρ => ∃ b ks s5 s6 s7 s8 s9, ρ = ⟨b, [.bag, .sh (.int c), .sh (.int n), .sh (.lst ((lotsN c c).map encL)), .ow (.dct ks), s5, s6, s7, s8, s9]⟩ ∧ BagOk b ∧ DctA c ks ∧ ks.length ≤ k, rfl, ⟨_, _, _, _, _, _, _, rfl, hb, (fun p hp => by cases hp), Nat.le_refl _⟩, fun k hk ρ hj => ?_, fun ρ hj => ?_⟩
  · obtain ⟨b, ks, s5, s6, s7, s8, s9, rfl, hb, hd, hkl⟩ := hj
    refine ⟨_, rfl, ?_⟩
    walk_at "w"
    refine take_nat hb hl0 (by omega) fun i b hb hi => ?_
    walk_at "w"
    refine take_nat hb hl0 (by omega) fun j b hb hj => ?_
    have hm := minD_nat i j
    have hml : min i j < (lotsN c c).length := by omega
    generalize min i j = m at hm hml
    have hix := hpe _ (List.getElem_mem hml) m (List.getElem?_eq_getElem hml)
    obtain ⟨hy1, hy2, hy3⟩ := hok _ (List.getElem_mem hml)
    generalize (lotsN c c)[m] = y at *
    walk_at "w"
    refine w_sq ?_
    refine w_forN c (fun i ρ => ∃ (b : Bag) (ys : List Nat) (s8 s9 : SD), (∃ g, ys = (List.range i).filter g) ∧ ρ = ⟨b, [.bag, .sh (.int c), .sh (.int n), .sh (.lst ((lotsN c c).map encL)), .ow (.dct ks), .sh (.int k), .sh (encL y), .ow (.lst (ys.map fun n : Nat => D.int n)), s8, s9]⟩ ∧ BagOk b ∧ ys.length ≤ i ∧ (∀ r ∈ y, r < i → r ∈ ys) ∧ ∀ r ∈ ys, r < i) ?_
    walk_at "w"
    refine ⟨⟨_, [], _, _, ⟨fun _ => true, rfl⟩, rfl, hb, Nat.le_refl _, (fun r _ h => by omega), (fun r h => by cases h)⟩, fun i hi ρ hj => ?_, fun ρ hj => ?_⟩
    · obtain ⟨b, ys, s8, s9, ⟨gy, hgy⟩, rfl, hb, h1, h2, h3⟩ := hj
      refine ⟨_, rfl, ?_⟩
      walk_at "w"
      refine take_nat (k := 3) hb (by decide) (by decide) fun more b hb _ => ?_
      have put : ∃ (b' : Bag) (ys' : List Nat) (s8 s9 : SD), (∃ g, ys' = (List.range (i + 1)).filter g) ∧ (⟨b, [.bag, .sh (.int c), .sh (.int n), .sh (.lst ((lotsN c c).map encL)), .ow (.dct ks), .sh (.int k), .sh (encL y), .ow (.lst (ys.map (fun n : Nat => D.int n) ++ [D.int i])), .sh (.int i), .sh (.int more)]⟩ : En) = ⟨b', [.bag, .sh (.int c), .sh (.int n), .sh (.lst ((lotsN c c).map encL)), .ow (.dct ks), .sh (.int k), .sh (encL y), .ow (.lst (ys'.map fun n : Nat => D.int n)), s8, s9]⟩ ∧ BagOk b' ∧ ys'.length ≤ i + 1 ∧ (∀ r ∈ y, r < i + 1 → r ∈ ys') ∧ ∀ r ∈ ys', r < i + 1 := by
        refine ⟨b, ys ++ [i], _, _, flt_put hgy, by rw [List.map_append]; rfl, hb, by simp; omega, fun r hr hl => ?_, fun r hr => ?_⟩
        · rcases Nat.lt_or_ge r i with z | z
          · exact List.mem_append.mpr (.inl (h2 r hr z))
          · obtain rfl : r = i := by omega
            exact List.mem_append.mpr (.inr (.head _))
        · rcases List.mem_append.mp hr with z | z
          · have := h3 r z
            omega
          · rw [List.mem_singleton] at z
            omega
      walk_at "w"
      all_goals first
        | exact put
        | (rw [List.length_map]; show _ < big; omega)
        | skip
      have hni : i ∉ y := of_decide_eq_false ‹decide (i ∈ y) = false›
      refine ⟨b, ys, _, _, flt_no hgy, rfl, hb, by omega, fun r hr hl => ?_, fun r hr => by have := h3 r hr; omega⟩
      rcases Nat.lt_or_ge r i with z | z
      · exact h2 r hr z
      · obtain rfl : r = i := by omega
        exact absurd hr hni
    · obtain ⟨b, ys, s8, s9, ⟨gy, hgy⟩, rfl, hb, h1, h2, h3⟩ := hj
      have hset := setDc_T (ks := ks) (y := y) (d := encL ys) (by omega)
      walk_at "w"
      refine ⟨_, rfl, _, hset, ?_⟩
      refine ⟨b, _, _, _, _, _, _, rfl, hb, putA_mem hd ⟨(y, ys), rfl, ⟨⟨hy2, by show ys.length ≤ 7; omega, hy1, fun r hr => h2 r hr (hy3 r hr), h3⟩, by show Asc ys; rw [hgy]; exact asc_filter gy (by omega)⟩, by show ys.length ≤ 7; omega⟩, ?_⟩
      have := put_len (ks := ks) (k := keyL y) (d := encL ys)
      omega
  · obtain ⟨b, ks, s5, s6, s7, s8, s9, rfl, hb, hd, hkl⟩ := hj
    walk_at "w"
    refine w_lcFI encL (fun y => .tup [encL y, (valD ks (keyL y)).getD .non]) (fun y => (valD ks (keyL y)).isSome) (lotsN c c) ?_
    walk_at "w"
    refine ⟨by omega, fun ρ => ∃ fr s6, ρ = ⟨b, [.bag, .sh (.int c), .sh (.int n), .sh (.lst ((lotsN c c).map encL)), putB fr (.dct ks), s5, s6, s7, s8, s9]⟩, ⟨true, s6, rfl⟩, fun y hy ρ hi => ?_, fun ρ' hi => ?_⟩
    · obtain ⟨fr, s6, rfl⟩ := hi
      refine ⟨_, rfl, ?_⟩
      walk_at "w"
      · exact ⟨false, _, rfl⟩
      · obtain ⟨d, hd⟩ := Option.isSome_iff_exists.mp hk
        have := ixG_T hd
        walk_at "w"
        exact ⟨by rw [hd]; rfl, false, _, rfl⟩
    · obtain ⟨fr, s6, rfl⟩ := hi
      obtain ⟨ps, e, hps, hpl⟩ := ex_map encP (fun p => (GoodP c p ∧ Asc p.2) ∧ p.1 ∈ lotsN c c) (((lotsN c c).filter fun y => (valD ks (keyL y)).isSome).map fun y => D.tup [encL y, (valD ks (keyL y)).getD .non]) (fun e he => by
        obtain ⟨y, hy, rfl⟩ := List.mem_map.mp he
        have hs := (List.mem_filter.mp hy).2
        obtain ⟨d, hd'⟩ := Option.isSome_iff_exists.mp hs
        obtain ⟨q, hq, hg, hl⟩ := hd _ (val_mem hd')
        simp only [Prod.mk.injEq] at hq
        obtain ⟨h1, rfl⟩ := hq
        have := keyL_inj h1
        subst this
        exact ⟨q, by rw [hd']; rfl, hg, (List.mem_filter.mp hy).1⟩)
      rw [e]
      walk_at "w"
      refine q ps _ (by assumption) ?_ hps
      rw [hpl, List.length_map]
      exact Nat.le_trans (List.length_filter_le _ _) hlen
end LK19

end
section
set_option Elab.async false
set_option linter.all false
set_option maxRecDepth 100000
set_option maxHeartbeats 4000000
open PySem ND LK19
namespace ND
theorem w_enumI {ρ : En} {fa : FA} {QA : List D → En → Prop} (q : W (fa ρ) fun ds ρ1 => ∃ es, enumD ds = some es ∧ QA es ρ1) : W (enumI fa ρ) QA := by
  obtain ⟨ds, ρ1, e, es, h, q⟩ := q
  exact ⟨_, _, by unfold enumI; rw [e]; simp only [Out.bind, h, ofO], q⟩
theorem band255 (a : Nat) : bandD (.int a) (.int 255) = some (.int ((a &&& 255 : Nat) : Int)) := band_nat a 255
theorem band1 (a : Nat) : bandD (.int a) (.int 1) = some (.int ((a &&& 1 : Nat) : Int)) := band_nat a 1
theorem bandM (a : Nat) : bandD (.int a) (.int 65793) = some (.int ((a &&& 65793 : Nat) : Int)) := band_nat a 65793
theorem shr8 (a : Nat) : shrD (.int a) (.int 8) = some (.int ((a >>> 8 : Nat) : Int)) := shr_nat a 8
theorem shr16 (a : Nat) : shrD (.int a) (.int (2 * 8)) = some (.int ((a >>> 16 : Nat) : Int)) := shr_nat a 16
theorem mask_snoc (y : List Nat) (n : Nat) : maskN (y ++ [n]) = maskN y ||| 1 <<< n := by unfold maskN; rw [List.foldl_append]; rfl
theorem rng_nat (n : Nat) : rng 0 n = (List.range n).map fun n : Nat => D.int n := by
  unfold rng
  exact List.map_congr_left fun i _ => by congr 1; omega
theorem rngL (n : Nat) (h : n ≤ big) : rngO [.int n] = some ((List.range n).map fun n : Nat => D.int n) := by rw [rngO1 n h, rng_nat]
theorem bit_tru (n r : Nat) : (!decide (n >>> r &&& 1 = 0)) = n.testBit r := by
  rw [Nat.testBit, Nat.and_comm]
  rw [Bool.eq_iff_iff]
  simp
theorem enumL_map {α : Type} (f : α → D) : ∀ (x : List α) (k : Nat), enumL k (x.map f) = (x.zipIdx k).map fun p => D.tup [.int p.2, f p.1]
  | [], k => rfl
  | a :: x, k => by simp only [List.map_cons, enumL, List.zipIdx_cons, enumL_map f x]
theorem enumT {α : Type} (f : α → D) (x : List α) : enumD [.tup (x.map f)] = some ((x.zipIdx 0).map fun p => D.tup [.int p.2, f p.1]) := by
  show some (enumL 0 _) = _
  rw [enumL_map]
theorem enumLs {α : Type} (f : α → D) (x : List α) : enumD [.lst (x.map f)] = some ((x.zipIdx 0).map fun p => D.tup [.int p.2, f p.1]) := by
  show some (enumL 0 _) = _
  rw [enumL_map]
theorem zip_part {α : Type} {x : List α} {pre suf : List (α × Nat)} {p : α × Nat} {k : Nat} (e : x.zipIdx k = pre ++ p :: suf) : p.2 = k + pre.length ∧ x[pre.length]? = some p.1 ∧ pre.map (·.1) = x.take pre.length := by
  have h1 : (x.zipIdx k)[pre.length]? = some p := by rw [e]; simp
  rw [List.getElem?_zipIdx] at h1
  obtain ⟨a, ha, rfl⟩ := Option.map_eq_some_iff.mp h1
  refine ⟨rfl, ha, ?_⟩
  have h2 : (x.zipIdx k).map (·.1) = x := List.zipIdx_map_fst ..
  have h3 := congrArg (List.take pre.length) h2
  rw [e, List.map_append, List.take_left' (List.length_map ..)] at h3
  exact h3
theorem map_zip {α : Type} (f : α → D) (x : List α) (k : Nat) : (x.map f).zipIdx k = (x.zipIdx k).map fun p => (f p.1, p.2) := by
  induction x generalizing k with
  | nil => rfl
  | cons a x ih => simp only [List.map_cons, List.zipIdx_cons, ih]
end ND
set_option hygiene false in
local macro_rules | `(tactic| walk_at "nm") => `(tactic| (try dsimp only [setS, putB_t, putB_f, stB, stL, wipeE, wipL, restE, restL, keepSh, List.set_cons_succ, List.set_cons_zero, List.map_cons, List.map_nil, List.cons_append, List.nil_append, List.replicate_succ, List.replicate_zero, List.length_cons, List.length_nil, if_true, ↓reduceIte, Nat.reduceAdd, Nat.reduceSub, Nat.reduceMul, List.contains, List.elem, Nat.reduceBEq, Nat.reduceAdd, cond_true, cond_false, Bool.false_eq_true, Bool.not_true, Bool.not_false] at *))
set_option hygiene false in
local macro_rules | `(tactic| walk_at "op") => `(tactic| fail)
set_option hygiene false in
local macro_rules | `(tactic| walk_at "w") => `(tactic| (repeat' (first
 | ((with_reducible apply m_run); exact rfl; walk_at "nm")
 | ((with_reducible first | apply ws_set | apply ws_if | apply w_set | apply w_if | apply w_ret | apply ws_bagSt | apply w_ite); walk_at "nm")
 | with_reducible first | apply ws_seq | apply ws_skip | apply ws_ret | apply ws_retO | apply ws_retN | apply ws_brk | apply ws_cnt | apply ws_drop | apply ws_par | apply ws_par3 | apply ws_unp | apply w_bagSt | apply w_retN | apply w_skip | apply w_brk | apply w_cnt' | apply w_drop | apply w_par | apply w_par3 | apply w_unp | apply w_cst | apply w_vD | apply w_dV | apply w_lift2 | apply w_lift2L | apply w_un1 | apply w_testB | apply w_testV | apply w_notT | apply w_andT | apply w_orT | apply w_andV | apply w_orV | apply w_notV | apply w_anil | apply w_acons | apply w_tup | apply w_lst | apply w_cnt | apply w_callP | apply w_callD | apply w_callK | apply w_bltE | apply w_bltQ | apply w_bltQL | apply w_bltL | apply w_join | apply w_sl | apply w_noP | apply w_parP | apply w_dic | apply w_pnil | apply w_pcons | apply w_seqI | apply w_rngI | apply w_zipI | apply w_yes | apply rq_rt | apply rq_nx | apply ex_inS1 | apply w_lift2V | apply sq_nx | apply sq_ct | apply sq_bk | apply sq_rt | apply aft_nx | apply aft_ct | apply aft_bk | apply aft_rt | apply w_iNil | apply w_iCons | apply w_lendG | apply w_excE | apply w_chn | apply w_newE | apply ws_unpDV | apply ws_unpVV | apply w_setDS | apply ws_setDS | apply w_pixG | apply w_revE
 | ((with_reducible first | apply ws_aug | apply w_retO_sh | apply w_aug | apply w_vr_sh | apply w_pk | apply w_callB | apply w_bagIx); exact rfl)
 | ((with_reducible first | apply w_retO_ow | apply w_vr_ow); exact rfl)
 | ((with_reducible first | apply w_vr_put | apply w_pk_put | apply w_iSlot_put); exact rfl)
 | ((with_reducible apply w_retO_put); exact rfl; intro rho rhob)
 | ((with_reducible first | apply w_lendH | apply w_iSlot | apply w_meth | apply ex_rev); exact rfl)
 | first | refine ex_app (by exact rfl) ?_ ?_ | refine ex_ext (by exact rfl) ?_ ?_
 | walk_at "op"
 | ((with_reducible first | apply ex_isiT | apply ex_isi2T | apply ex_isXT | apply ex_isX2T); (first | exact rfl | assumption); decide +kernel)
 | ((with_reducible first | apply ex_isiF | apply ex_isi2F | apply ex_isXF | apply ex_isX2F); (first | exact rfl | assumption); decide +kernel)
 | ((with_reducible apply ex_isXE); decide +kernel)
 | ((with_reducible apply ex_isXE2); decide +kernel; decide +kernel)
 | ((with_reducible apply ex_eqs); (first | assumption | decide +kernel); (first | assumption | decide +kernel))
 | ((with_reducible apply ex_lenS); first | assumption | omega)
 | ((with_reducible refine ex_slS ?_ ?_ (fun sy syo syl => ?_)); omega; assumption)
 | ((with_reducible first | refine ex_addS ?_ ?_ ?_ (fun sz szo szl => ?_) | refine or_addS ?_ ?_ ?_ (fun sz szo szl => ?_)); (first | assumption | decide +kernel); (first | assumption | decide +kernel); (first | omega | decide +kernel))
 | with_reducible first | refine ex_mul (by decide) ?_ | refine ex_mod (by first | assumption | decide | (dsimp only; omega)) ?_ | refine ex_fdiv (by first | assumption | decide | (dsimp only; omega)) (by first | assumption | decide | (dsimp only; omega)) ?_ | apply ex_eqi | apply ex_eqb | apply ex_neb | refine ex_pow (by decide) (by first | omega | (dsimp only; omega)) ?_
 | ((with_reducible refine ex_ixns ?_ ?_ (fun it => ?_)); assumption; assumption)
 | ((with_reducible first | apply ex_one | apply ex_par | apply ex_par3); exact rfl)
 | ((with_reducible apply ex_bag); exact rfl; exact rfl; exact rfl)
 | ((with_reducible apply ex_join); exact rfl; exact rfl)
 | ((with_reducible refine And.intro (fun hk => ?_) (fun hk => ?_)) <;> try cases hk)
 | ((with_reducible show _ < big); first | with_reducible assumption | omega)
 | with_reducible first | (apply Pl_as; assumption) | exact pl_C _ _ | exact Pl.bl _ _ | exact Pl.int _ _ | exact Pl.non _ | exact pls_nil | apply pls_cons | apply pl_R | apply pl_Rs | apply pl_lst | apply pl_tup
 | ((with_reducible show _ ≤ big); first | with_reducible assumption | exact Nat.le_of_ble_eq_true rfl | omega)
 | ((with_reducible apply And.intro); first | exact rfl | exact Nat.le_of_ble_eq_true rfl))))
local macro_rules | `(tactic| walk_at "op") => `(tactic| with_reducible refine ex_one (bD_isC _) ?_)
local macro_rules | `(tactic| walk_at "op") => `(tactic| with_reducible refine ex_one (nD_isC _) ?_)
local macro_rules | `(tactic| walk_at "op") => `(tactic| with_reducible refine ex_one (bD_eqC _ _) ?_)
local macro_rules | `(tactic| walk_at "op") => `(tactic| with_reducible refine ex_one (nD_eqC _ _) ?_)
local macro_rules | `(tactic| walk_at "op") => `(tactic| with_reducible refine ex_one (nD_eqi _ _) ?_)
local macro_rules | `(tactic| walk_at "op") => `(tactic| with_reducible refine ex_one (nD_eqn _ _) ?_)
local macro_rules | `(tactic| walk_at "op") => `(tactic| with_reducible refine ex_one (bD_eqn _ _) ?_)
local macro_rules | `(tactic| walk_at "op") => `(tactic| with_reducible refine ex_one (lenR _) ?_)
local macro_rules | `(tactic| walk_at "op") => `(tactic| with_reducible refine ex_one (seqR _) ?_)
local macro_rules | `(tactic| walk_at "op") => `(tactic| with_reducible refine ex_one (zipR _ _) ?_)
local macro_rules | `(tactic| walk_at "op") => `(tactic| with_reducible refine ex_one (tupR _) ?_)
local macro_rules | `(tactic| walk_at "op") => `(tactic| with_reducible refine ex_one (allD_map _ _) ?_)
local macro_rules | `(tactic| walk_at "op") => `(tactic| with_reducible refine ex_one (seqL _) ?_)
local macro_rules | `(tactic| walk_at "op") => `(tactic| with_reducible refine ex_one (lenL _) ?_)
local macro_rules | `(tactic| walk_at "op") => `(tactic| with_reducible refine ex_one (band_not _ _) ?_)
local macro_rules | `(tactic| walk_at "op") => `(tactic| with_reducible refine ex_one (band_nat _ _) ?_)
local macro_rules | `(tactic| walk_at "op") => `(tactic| with_reducible refine ex_one (bor_nat _ _) ?_)
local macro_rules | `(tactic| walk_at "op") => `(tactic| with_reducible refine ex_one (shr_nat _ _) ?_)
local macro_rules | `(tactic| walk_at "op") => `(tactic| with_reducible refine ex_one (inv_nat _) ?_)
local macro_rules | `(tactic| walk_at "op") => `(tactic| with_reducible refine ex_one (truI _) ?_)
local macro_rules | `(tactic| walk_at "op") => `(tactic| with_reducible refine ex_one (band255 _) ?_)
local macro_rules | `(tactic| walk_at "op") => `(tactic| with_reducible refine ex_one (band1 _) ?_)
local macro_rules | `(tactic| walk_at "op") => `(tactic| with_reducible refine ex_one (bandM _) ?_)
local macro_rules | `(tactic| walk_at "op") => `(tactic| with_reducible refine ex_one (shr8 _) ?_)
local macro_rules | `(tactic| walk_at "op") => `(tactic| with_reducible refine ex_one (shr16 _) ?_)
set_option hygiene false in
local macro_rules | `(tactic| walk_at "op") => `(tactic| (refine ex_one (by with_reducible assumption) ?_))
set_option hygiene false in
local macro_rules | `(tactic| walk_at "op") => `(tactic| (with_reducible apply w_enumI))
namespace LK19
open PySem ND
variable {d : D} {count : Int} {b : Bag} {R : D → Bool → Bag → Prop} {x : List Cl} {y : List Nat} {c : Nat} {p : List Nat × List Nat} {ps : List (List Nat × List Nat)} {n : Nat}
theorem mask_of_spec (h : ∀ r ∈ y, r ≤ 64) (q : ∀ b, R (.int (maskN y)) false b) : M m_mask_of [encL y] b R := by
  have hg := bigN
  unfold m_mask_of g_mask_of
  walk_at "w"
  refine w_sq ?_
  refine w_forM (fun n : Nat => D.int n) y (fun pre ρ => ∃ b s2, ρ = ⟨b, [.sh (encL y), .sh (.int (maskN pre)), s2]⟩) ?_
  walk_at "w"
  refine ⟨⟨_, _, rfl⟩, fun pre r suf e ρ hj => ?_, fun ρ hj => ?_⟩
  · obtain ⟨b, s2, rfl⟩ := hj
    refine ⟨_, rfl, ?_⟩
    have := shl_one r (h r (by rw [e]; simp))
    walk_at "w"
    simp only [mask_snoc]
    exact ⟨_, _, rfl⟩
  · obtain ⟨b, s2, rfl⟩ := hj
    walk_at "w"
    exact q _
theorem answered_spec (q : ∀ b, R (.int (ansM n)) false b) : M m_answered [.int n] b R := by
  unfold m_answered g_answered
  walk_at "w"
  exact q _
theorem numbers_of_spec {f : Nat → Bool} (h : MaskOk n f) (q : ∀ b, R (encL ((List.range 8).filter f)) false b) : M m_numbers_of [.int n] b R := by
  have hg := bigN
  have hr : rngO [.int 8] = some ((List.range 8).map fun n : Nat => D.int n) := rngL 8 (by decide)
  unfold m_numbers_of g_numbers_of
  walk_at "w"
  refine w_lcFM (fun n : Nat => D.int n) (fun n : Nat => D.int n) f (List.range 8) ?_
  walk_at "w"
  refine ⟨fun r hr => ⟨_, rfl, ?_⟩, ?_⟩
  · walk_at "w"
    refine ⟨by rw [bit_tru, h], fun _ => rfl, fun _ => ?_⟩
    walk_at "w"
    exact rfl
  · walk_at "w"
    exact q _
theorem code_of_spec (hl : x.length ≤ 8) (v : V3 x) (q : ∀ b, R (.int (codeN x)) false b) : M m_code_of [encR x] b R := by
  have hg := bigN
  have he := enumT encC x
  unfold m_code_of g_code_of
  walk_at "w"
  refine w_sq ?_
  refine w_forM (fun p : Cl × Nat => D.tup [.int p.2, encC p.1]) (x.zipIdx 0) (fun pre ρ => ∃ b s2 s3, ρ = ⟨b, [.sh (encR x), .sh (.int (pre.foldl (fun m p => match p.1 with | none => m | some s => m ||| 1 <<< (8 * s + p.2)) 0 : Nat)), s2, s3]⟩) ?_
  walk_at "w"
  refine ⟨enumL_map encC x 0, ⟨_, _, _, rfl⟩, fun pre p suf e ρ hj => ?_, fun ρ hj => ?_⟩
  · obtain ⟨b, s2, s3, rfl⟩ := hj
    obtain ⟨h1, h2, _⟩ := zip_part e
    obtain ⟨cl, i⟩ := p
    dsimp only at h1 h2
    refine ⟨_, rfl, ?_⟩
    have hi : i < x.length := by have := (List.getElem?_eq_some_iff.mp h2).1; omega
    cases cl with
    | none =>
      walk_at "w"
      simp only [List.foldl_append, List.foldl_cons, List.foldl_nil]
      exact ⟨_, _, _, rfl⟩
    | some s =>
      have hs : s < 3 := v i s (by unfold atC; rw [List.getD_eq_getElem?_getD, show i = pre.length from by omega, h2]; rfl)
      have hm : mulD (.int 8) (.int s) = some (.int ((8 * s : Nat) : Int)) := by
        simp only [mulD]
        rw [if_pos (Or.inl ⟨by decide, by decide⟩)]
        congr 2
      have ha : addD (.int ((8 * s : Nat) : Int)) (.int (i : Nat)) = some (.int ((8 * s + i : Nat) : Int)) := rfl
      have hsh := shl_one (8 * s + i) (by omega)
      unfold encC
      walk_at "w"
      simp only [List.foldl_append, List.foldl_cons, List.foldl_nil]
      exact ⟨_, _, _, rfl⟩
  · obtain ⟨b, s2, s3, rfl⟩ := hj
    walk_at "w"
    exact q _
theorem value_at_spec {r : Nat} (h : CodeOk n x) (hr : r < 8) (v : V3 x) (q : ∀ b, R (encC (atC x r)) false b) : M m_value_at [.int n, .int r] b R := by
  have hg := bigN
  unfold m_value_at g_value_at
  cases hx : atC x r with
  | none =>
    have hm := mark_none h hr hx
    unfold markN at hm
    rw [hx] at q
    walk_at "w"
    · exact q _
    · rw [hm] at hk
      cases hk
  | some s =>
    have hs := v r s hx
    have hm := mark_some h hr hs hx
    unfold markN at hm
    rw [hx] at q
    have h1 : (1 <<< (8 * s) : Nat) ≠ 0 := by match s, hs with | 0, _ => decide | 1, _ => decide | 2, _ => decide
    have h2 : ((Builtin.Int.intBits ((1 <<< (8 * s) : Nat) : Int) : Nat) - 1 : Int) / 8 = s := by match s, hs with | 0, _ => decide +kernel | 1, _ => decide +kernel | 2, _ => decide +kernel
    walk_at "w"
    · rw [hm] at hk
      exact absurd (of_decide_eq_true hk) h1
    · show R (.int _) false _
      rw [hm, h2]
      exact q _
theorem column_of_spec (h : CodeOk n x) (hl : x.length ≤ 8) (v : V3 x) (q : ∀ b, R (encR x) false b) : M m_column_of [.int n, .int x.length] b R := by
  have hg := bigN
  have hr := rngL x.length (by omega)
  unfold m_column_of g_column_of
  walk_at "w"
  refine w_lcM (fun n : Nat => D.int n) (fun r => encC (atC x r)) (List.range x.length) ?_
  walk_at "w"
  refine ⟨by rw [List.length_range]; omega, fun r hr => ⟨_, rfl, ?_⟩, ?_⟩
  · have := List.mem_range.mp hr
    walk_at "w"
    refine value_at_spec h (by omega) v fun _ => ?_
    exact ⟨rfl, rfl⟩
  · have e : ((List.range x.length).map fun r => encC (atC x r)) = x.map encC := by
      apply List.ext_getElem?
      intro i
      rw [List.getElem?_map, List.getElem?_map]
      by_cases hi : i < x.length
      · rw [List.getElem?_range hi, List.getElem?_eq_getElem hi]
        unfold atC
        rw [Option.map_some, List.getD_eq_getElem?_getD, List.getElem?_eq_getElem hi]
        rfl
      · rw [List.getElem?_eq_none (by simpa using hi), List.getElem?_eq_none (by omega)]
        rfl
    rw [e]
    walk_at "w"
    exact q _
/-- the lowest row of a lot -/
def Low (y : List Nat) : Prop := Builtin.bitAnd (maskN y : Nat) (-((maskN y : Nat) : Int)) = ((1 <<< fst0 y : Nat) : Int)
theorem tru_bit (n r : Nat) : (!decide (n &&& 1 <<< r = 0)) = n.testBit r := by
  rw [Bool.eq_iff_iff]
  simp only [Bool.not_eq_true', decide_eq_false_iff_not]
  constructor
  · intro h
    cases hb : n.testBit r with
    | true => rfl
    | false =>
      exfalso
      apply h
      apply Nat.eq_of_testBit_eq
      intro i
      rw [Nat.testBit_and, one_shl, Nat.zero_testBit]
      by_cases z : i = r
      · subst z; rw [hb]; rfl
      · rw [decide_eq_false z, Bool.and_false]
  · intro h z
    have := congrArg (fun m => m.testBit r) z
    simp only [Nat.testBit_and, one_shl, Nat.zero_testBit, h] at this
    simp at this
theorem sign_shift_spec {s : Nat} (h : CodeOk n x) (hl : x.length ≤ 8) (v : V3 x) (low : Low y) (h0 : fst0 y < 8) (hs : atC x (fst0 y) = some s) (q : ∀ b, R (.int ((8 * s : Nat) : Int)) false b) : M m_sign_shift [.int n, .int (maskN y)] b R := by
  have hg := bigN
  have hb : bandD (.int (maskN y)) (.int (-(maskN y : Int))) = some (.int ((1 <<< fst0 y : Nat) : Int)) := by
    show some (D.int _) = _
    rw [low]
  have hs3 := v _ s hs
  have t0 : n.testBit (fst0 y) = decide (s = 0) := by
    rw [h, show fst0 y % 8 = fst0 y from by omega, show fst0 y / 8 = 0 from by omega, hs, decide_eq_decide]
    simp
  have t1 : (n >>> 8).testBit (fst0 y) = decide (s = 1) := by
    rw [Nat.testBit_shiftRight, h, show (8 + fst0 y) % 8 = fst0 y from by omega, show (8 + fst0 y) / 8 = 1 from by omega, hs, decide_eq_decide]
    simp
  unfold m_sign_shift g_sign_shift
  walk_at "w"
  · rw [tru_bit, t0] at hk
    have := of_decide_eq_true hk
    subst this
    exact q _
  · rw [tru_bit, t1] at hk
    have := of_decide_eq_true hk
    subst this
    exact q _
  · rename_i hk0
    rw [tru_bit, t0] at hk0
    rw [tru_bit, t1] at hk
    have h1 := of_decide_eq_false hk0
    have h2 := of_decide_eq_false hk
    obtain rfl : s = 2 := by omega
    exact q _
/-! pairs as numbers -/
def encM (p : List Nat × List Nat) : D := .tup [.int (maskN p.1 : Nat), .int (maskN p.2 : Nat)]
structure Hnd (ps : List (List Nat × List Nat)) (pd : D) : Prop where
  seq : seqOf pd = some (ps.map encP)
  ix : ∀ (i : Nat) p, ps[i]? = some p → ixD pd (.int i) = some (encP p)
theorem pair_masks_spec {n : Nat} {pd : D} (hd : Hnd ps pd) (hn : n ≤ 64) (hp : ∀ p ∈ ps, GoodP n p) (hl : ps.length ≤ big) (q : ∀ b, R (.lst (ps.map encM)) true b) : M m_pair_masks [pd] b R := by
  have hg := bigN
  have hsq := hd.seq
  unfold m_pair_masks g_pair_masks
  walk_at "w"
  refine w_lcM encP encM ps ?_
  walk_at "w"
  refine ⟨hl, fun p hp' => ⟨_, rfl, ?_⟩, ?_⟩
  · have hg := hp p hp'
    walk_at "w"
    refine mask_of_spec (fun r hr => by have := hg.h1n r hr; omega) fun _ => ?_
    walk_at "w"
    refine mask_of_spec (fun r hr => by have := hg.h2 r hr; omega) fun _ => ?_
    walk_at "w"
    exact rfl
  · walk_at "w"
    exact q _
theorem off_zero {m a : Nat} {f g : Nat → Bool} (hm : MaskOk m f) (ha : MaskOk a g) : offN m a = 0 ↔ ∀ i, f i = true → g i = true := by
  constructor
  · intro e i hi
    have := congrArg (fun z => z.testBit i) e
    simp only [off_test, hm i, ha i, hi, Nat.zero_testBit, Bool.true_and, Bool.not_eq_false'] at this
    exact this
  · intro h
    apply Nat.eq_of_testBit_eq
    intro i
    rw [off_test, hm, ha, Nat.zero_testBit]
    cases hf : f i with
    | false => rfl
    | true => rw [h i hf]; rfl
/-- the lot's rows answer: mask against mask -/
theorem lot_ans (h : CodeOk n x) (hl : x.length ≤ 8) (v : V3 x) (y : List Nat) : decide (offN (maskN y) (ansM n) = 0) = ansB x y := by
  rw [Bool.eq_iff_iff, decide_eq_true_eq, off_zero (mask_ok y) (ansM_ok h v hl)]
  unfold ansB
  rw [List.all_eq_true]
  constructor
  · intro g r hr
    exact g r (by simpa using hr)
  · intro g r hr
    exact g r (by simpa using hr)
theorem reach_not (h : CodeOk n x) {s : Nat} (hr : ∀ r ∈ p.2, r < 8) (hs : atC x (fst0 p.1) = some s) : (!decide (offN (maskN p.2) (n >>> (8 * s)) = 0)) = !(diffs x p).isEmpty := by
  congr 1
  rw [Bool.eq_iff_iff, decide_eq_true_eq]
  have ho : offN (maskN p.2) (n >>> (8 * s)) = 0 ↔ ∀ r ∈ p.2, atC x r = some s := by
    constructor
    · intro e r hr'
      have := congrArg (fun z => z.testBit r) e
      simp only [off_test, Nat.zero_testBit, mask_ok p.2 r, decide_eq_true hr', Bool.true_and, Bool.not_eq_false'] at this
      have t := signM_test (s := s) h (hr r hr')
      unfold signM at t
      rw [t] at this
      exact of_decide_eq_true this
    · intro g
      apply Nat.eq_of_testBit_eq
      intro i
      rw [off_test, Nat.zero_testBit, mask_ok p.2 i]
      by_cases hi : i ∈ p.2
      · have t := signM_test (s := s) h (hr i hi)
        unfold signM at t
        rw [t, g i hi]
        simp
      · simp [hi]
  rw [ho]
  unfold diffs
  rw [List.isEmpty_iff, List.filter_eq_nil_iff]
  constructor
  · intro g r hr'
    rw [g r hr', hs]
    simp
  · intro g r hr'
    have := g r hr'
    rw [hs] at this
    simpa using this
theorem split_at {α : Type} {l : List α} {i : Nat} {a : α} (h : l[i]? = some a) : l.take i ++ a :: l.drop (i + 1) = l := by
  obtain ⟨hi, e⟩ := List.getElem?_eq_some_iff.mp h
  subst e
  rw [← List.drop_eq_getElem_cons hi, List.take_append_drop]
theorem first_unkept_spec {m : Nat} (h : CodeOk n x) (hl : x.length ≤ 8) (v : V3 x) (hp : ∀ p ∈ ps, GoodP x.length p ∧ Low p.1)
    (q1 : (∀ p ∈ ps, keepB x p = true) → ∀ b, R .non false b) (q2 : ∀ pre p suf s, ps = pre ++ p :: suf → (∀ z ∈ pre, keepB x z = true) → keepB x p = false → atC x (fst0 p.1) = some s → ∀ b, R (.tup [.int (pre.length : Nat), .int ((8 * s : Nat) : Int)]) false b) : M m_first_unkept [.lst (ps.map encM), .int n] b R := by
  have hg := bigN
  have he := enumLs encM ps
  unfold m_first_unkept g_first_unkept
  walk_at "w"
  refine answered_spec fun _ => ?_
  walk_at "w"
  refine w_sq ?_
  refine w_forM (fun p : (List Nat × List Nat) × Nat => D.tup [.int p.2, encM p.1]) (ps.zipIdx 0) (fun pre ρ => ∃ b s3 s4 s5 s6, ρ = ⟨b, [.sh (.lst (ps.map encM)), .sh (.int n), .sh (.int (Builtin.bitNot (ansM n : Nat))), s3, s4, s5, s6]⟩ ∧ ∀ p ∈ pre, keepB x p.1 = true) ?_
  walk_at "w"
  refine ⟨⟨_, _, _, _, _, rfl, fun p hp => by cases hp⟩, fun pre p suf e ρ hj => ?_, fun ρ hj => ?_⟩
  · obtain ⟨b, s3, s4, s5, s6, rfl, hpre⟩ := hj
    obtain ⟨h1, h2, h3⟩ := zip_part e
    obtain ⟨p, i⟩ := p
    dsimp only at h1 h2
    have hmem : p ∈ ps := List.mem_of_getElem? h2
    obtain ⟨gp, low⟩ := hp p hmem
    refine ⟨_, rfl, ?_⟩
    have keep : keepB x p = true → ∀ q ∈ pre ++ [(p, i)], keepB x q.1 = true := fun hk q hq => by
      rcases List.mem_append.mp hq with hq | hq
      · exact hpre q hq
      · rw [List.mem_singleton] at hq
        rw [hq]
        exact hk
    have hbk := brk_keep gp (x := x)
    have hip : i = pre.length := by omega
    unfold encM
    walk_at "w"
    · have hans : ansB x p.1 = true := by rw [← lot_ans h hl v]; simpa using hk
      obtain ⟨s, hs⟩ := Option.isSome_iff_exists.mp (List.all_eq_true.mp hans _ (fst0_mem gp.ne))
      have h8 : ∀ r ∈ p.2, r < 8 := fun r hr => by have := gp.h2 r hr; omega
      refine sign_shift_spec h hl v low (h8 _ (gp.h1 _ (fst0_mem gp.ne))) hs fun _ => ?_
      have hrn := reach_not (p := p) h h8 hs
      walk_at "w"
      · have hkp : keepB x p = false := by
          rw [hbk, hans, ← hrn]
          simpa using hk
        have hlen : (ps.take i).length = i := by
          rw [List.length_take]
          have := (List.getElem?_eq_some_iff.mp h2).1
          omega
        have := q2 (ps.take i) p (ps.drop (i + 1)) s (by
          rw [hip]
          exact (split_at h2).symm) (fun z hz => by
          rw [hip, ← h3] at hz
          obtain ⟨w, hw, rfl⟩ := List.mem_map.mp hz
          exact hpre w hw) hkp hs
        rw [hlen] at this
        exact this _
      · refine ⟨_, _, _, _, _, rfl, keep ?_⟩
        rw [hbk, hans, ← hrn]
        simpa using hk
    · have hans : ansB x p.1 = false := by rw [← lot_ans h hl v]; simpa using hk
      exact ⟨_, _, _, _, _, rfl, keep (by rw [hbk, hans]; rfl)⟩
  · obtain ⟨b, s3, s4, s5, s6, rfl, hpre⟩ := hj
    walk_at "w"
    refine q1 (fun p hp => ?_) _
    obtain ⟨i, hi, rfl⟩ := List.getElem_of_mem hp
    exact hpre (ps[i], i) (by
      have : (ps.zipIdx 0)[i]? = some (ps[i], i) := by rw [List.getElem?_zipIdx, List.getElem?_eq_getElem hi]; simp
      exact List.mem_of_getElem? this)
end LK19

end
section
set_option Elab.async false
set_option linter.all false
set_option maxRecDepth 100000
set_option maxHeartbeats 4000000
open PySem ND LK19
set_option hygiene false in
local macro_rules | `(tactic| walk_at "nm") => `(tactic| (try dsimp only [setS, putB_t, putB_f, stB, stL, wipeE, wipL, restE, restL, keepSh, List.set_cons_succ, List.set_cons_zero, List.map_cons, List.map_nil, List.cons_append, List.nil_append, List.replicate_succ, List.replicate_zero, List.length_cons, List.length_nil, if_true, ↓reduceIte, Nat.reduceAdd, Nat.reduceSub, Nat.reduceMul, List.contains, List.elem, Nat.reduceBEq, Nat.reduceAdd, cond_true, cond_false, Bool.false_eq_true, Bool.not_true, Bool.not_false] at *))
set_option hygiene false in
local macro_rules | `(tactic| walk_at "op") => `(tactic| fail)
set_option hygiene false in
local macro_rules | `(tactic| walk_at "w") => `(tactic| (repeat' (first
 | ((with_reducible apply m_run); exact rfl; walk_at "nm")
 | ((with_reducible first | apply ws_set | apply ws_if | apply w_set | apply w_if | apply w_ret | apply ws_bagSt | apply w_ite); walk_at "nm")
 | with_reducible first | apply ws_seq | apply ws_skip | apply ws_ret | apply ws_retO | apply ws_retN | apply ws_brk | apply ws_cnt | apply ws_drop | apply ws_par | apply ws_par3 | apply ws_unp | apply w_bagSt | apply w_retN | apply w_skip | apply w_brk | apply w_cnt' | apply w_drop | apply w_par | apply w_par3 | apply w_unp | apply w_cst | apply w_vD | apply w_dV | apply w_lift2 | apply w_lift2L | apply w_un1 | apply w_testB | apply w_testV | apply w_notT | apply w_andT | apply w_orT | apply w_andV | apply w_orV | apply w_notV | apply w_anil | apply w_acons | apply w_tup | apply w_lst | apply w_cnt | apply w_callP | apply w_callD | apply w_callK | apply w_bltE | apply w_bltQ | apply w_bltQL | apply w_bltL | apply w_join | apply w_sl | apply w_noP | apply w_parP | apply w_dic | apply w_pnil | apply w_pcons | apply w_seqI | apply w_rngI | apply w_zipI | apply w_yes | apply rq_rt | apply rq_nx | apply ex_inS1 | apply w_lift2V | apply sq_nx | apply sq_ct | apply sq_bk | apply sq_rt | apply aft_nx | apply aft_ct | apply aft_bk | apply aft_rt | apply w_iNil | apply w_iCons | apply w_lendG | apply w_excE | apply w_chn | apply w_newE | apply ws_unpDV | apply ws_unpVV | apply w_setDS | apply ws_setDS | apply w_pixG | apply w_revE
 | ((with_reducible first | apply ws_aug | apply w_retO_sh | apply w_aug | apply w_vr_sh | apply w_pk | apply w_callB | apply w_bagIx); exact rfl)
 | ((with_reducible first | apply w_retO_ow | apply w_vr_ow); exact rfl)
 | ((with_reducible first | apply w_vr_put | apply w_pk_put | apply w_iSlot_put); exact rfl)
 | ((with_reducible apply w_retO_put); exact rfl; intro rho rhob)
 | ((with_reducible first | apply w_lendH | apply w_iSlot | apply w_meth | apply ex_rev); exact rfl)
 | first | refine ex_app (by exact rfl) ?_ ?_ | refine ex_ext (by exact rfl) ?_ ?_
 | walk_at "op"
 | ((with_reducible first | apply ex_isiT | apply ex_isi2T | apply ex_isXT | apply ex_isX2T); (first | exact rfl | assumption); decide +kernel)
 | ((with_reducible first | apply ex_isiF | apply ex_isi2F | apply ex_isXF | apply ex_isX2F); (first | exact rfl | assumption); decide +kernel)
 | ((with_reducible apply ex_isXE); decide +kernel)
 | ((with_reducible apply ex_isXE2); decide +kernel; decide +kernel)
 | ((with_reducible apply ex_eqs); (first | assumption | decide +kernel); (first | assumption | decide +kernel))
 | ((with_reducible apply ex_lenS); first | assumption | omega)
 | ((with_reducible refine ex_slS ?_ ?_ (fun sy syo syl => ?_)); omega; assumption)
 | ((with_reducible first | refine ex_addS ?_ ?_ ?_ (fun sz szo szl => ?_) | refine or_addS ?_ ?_ ?_ (fun sz szo szl => ?_)); (first | assumption | decide +kernel); (first | assumption | decide +kernel); (first | omega | decide +kernel))
 | with_reducible first | refine ex_mul (by decide) ?_ | refine ex_mod (by first | assumption | decide | (dsimp only; omega)) ?_ | refine ex_fdiv (by first | assumption | decide | (dsimp only; omega)) (by first | assumption | decide | (dsimp only; omega)) ?_ | apply ex_eqi | apply ex_eqb | apply ex_neb | refine ex_pow (by decide) (by first | omega | (dsimp only; omega)) ?_
 | ((with_reducible refine ex_ixns ?_ ?_ (fun it => ?_)); assumption; assumption)
 | ((with_reducible first | apply ex_one | apply ex_par | apply ex_par3); exact rfl)
 | ((with_reducible apply ex_bag); exact rfl; exact rfl; exact rfl)
 | ((with_reducible apply ex_join); exact rfl; exact rfl)
 | ((with_reducible refine And.intro (fun hk => ?_) (fun hk => ?_)) <;> try cases hk)
 | ((with_reducible show _ < big); first | with_reducible assumption | omega)
 | with_reducible first | (apply Pl_as; assumption) | exact pl_C _ _ | exact Pl.bl _ _ | exact Pl.int _ _ | exact Pl.non _ | exact pls_nil | apply pls_cons | apply pl_R | apply pl_Rs | apply pl_lst | apply pl_tup
 | ((with_reducible show _ ≤ big); first | with_reducible assumption | exact Nat.le_of_ble_eq_true rfl | omega)
 | ((with_reducible apply And.intro); first | exact rfl | exact Nat.le_of_ble_eq_true rfl))))
local macro_rules | `(tactic| walk_at "op") => `(tactic| with_reducible refine ex_one (bD_isC _) ?_)
local macro_rules | `(tactic| walk_at "op") => `(tactic| with_reducible refine ex_one (nD_isC _) ?_)
local macro_rules | `(tactic| walk_at "op") => `(tactic| with_reducible refine ex_one (bD_eqC _ _) ?_)
local macro_rules | `(tactic| walk_at "op") => `(tactic| with_reducible refine ex_one (nD_eqC _ _) ?_)
local macro_rules | `(tactic| walk_at "op") => `(tactic| with_reducible refine ex_one (nD_eqi _ _) ?_)
local macro_rules | `(tactic| walk_at "op") => `(tactic| with_reducible refine ex_one (nD_eqn _ _) ?_)
local macro_rules | `(tactic| walk_at "op") => `(tactic| with_reducible refine ex_one (bD_eqn _ _) ?_)
local macro_rules | `(tactic| walk_at "op") => `(tactic| with_reducible refine ex_one (lenR _) ?_)
local macro_rules | `(tactic| walk_at "op") => `(tactic| with_reducible refine ex_one (seqR _) ?_)
local macro_rules | `(tactic| walk_at "op") => `(tactic| with_reducible refine ex_one (zipR _ _) ?_)
local macro_rules | `(tactic| walk_at "op") => `(tactic| with_reducible refine ex_one (tupR _) ?_)
local macro_rules | `(tactic| walk_at "op") => `(tactic| with_reducible refine ex_one (allD_map _ _) ?_)
local macro_rules | `(tactic| walk_at "op") => `(tactic| with_reducible refine ex_one (seqL _) ?_)
local macro_rules | `(tactic| walk_at "op") => `(tactic| with_reducible refine ex_one (lenL _) ?_)
local macro_rules | `(tactic| walk_at "op") => `(tactic| with_reducible refine ex_one (band_not _ _) ?_)
local macro_rules | `(tactic| walk_at "op") => `(tactic| with_reducible refine ex_one (band_nat _ _) ?_)
local macro_rules | `(tactic| walk_at "op") => `(tactic| with_reducible refine ex_one (bor_nat _ _) ?_)
local macro_rules | `(tactic| walk_at "op") => `(tactic| with_reducible refine ex_one (shr_nat _ _) ?_)
local macro_rules | `(tactic| walk_at "op") => `(tactic| with_reducible refine ex_one (inv_nat _) ?_)
local macro_rules | `(tactic| walk_at "op") => `(tactic| with_reducible refine ex_one (truI _) ?_)
local macro_rules | `(tactic| walk_at "op") => `(tactic| with_reducible refine ex_one (band255 _) ?_)
local macro_rules | `(tactic| walk_at "op") => `(tactic| with_reducible refine ex_one (band1 _) ?_)
local macro_rules | `(tactic| walk_at "op") => `(tactic| with_reducible refine ex_one (bandM _) ?_)
local macro_rules | `(tactic| walk_at "op") => `(tactic| with_reducible refine ex_one (shr8 _) ?_)
local macro_rules | `(tactic| walk_at "op") => `(tactic| with_reducible refine ex_one (shr16 _) ?_)
set_option hygiene false in
local macro_rules | `(tactic| walk_at "op") => `(tactic| (refine ex_one (by with_reducible assumption) ?_))
namespace LK19
open PySem ND
variable {d : D} {count : Int} {b : Bag} {R : D → Bool → Bag → Prop} {x x0 : List Cl} {y : List Nat} {c : Nat} {p : List Nat × List Nat} {ps : List (List Nat × List Nat)} {n s : Nat}
def clashB (x : List Cl) (z : List Nat) (s r : Nat) : Bool := decide (r ∈ z) && (atC x r).isSome && !decide (atC x r = some s)
theorem clashing_spec {m : Nat} {z : List Nat} (h : CodeOk m x) (hl : x.length ≤ 8) (v : V3 x) (h8 : ∀ r ∈ z, r < 8) (q : ∀ k b, MaskOk k (clashB x z s) → R (.int (k : Nat)) false b) : M m_clashing_rows [.int m, .int (maskN z), .int ((8 * s : Nat) : Int)] b R := by
  unfold m_clashing_rows g_clashing_rows
  walk_at "w"
  refine answered_spec fun _ => ?_
  walk_at "w"
  refine q _ _ fun r => ?_
  rw [off_test, Nat.testBit_and, mask_ok z, ansM_ok h v hl]
  unfold clashB
  by_cases hr : r ∈ z
  · have t := signM_test (s := s) h (h8 r hr)
    unfold signM at t
    rw [t]
  · simp [hr]
def FillOk (n : Nat) (ps : List (List Nat × List Nat)) (x0 : List Cl) (d e : D) : Prop := ∃ f st, d = encR f ∧ e = .lst (st.map encP) ∧ FInv n ps x0 f st ∧ fillF ps (n + 1) x0 [] = (some f, st, none) ∧ (∀ p ∈ ps, keepB f p = true) ∧ st.length ≤ 8
def ClashOk (n : Nat) (ps : List (List Nat × List Nat)) (x0 : List Cl) (fs : List (Str × D)) : Prop := ∃ p ∈ ps, ∃ (w : Nat) (st : List (List Nat × List Nat)), fillF ps (n + 1) x0 [] = (none, st, some (p, w)) ∧ fs = mkF ["lot", "one", "other"] (.str (Str.ofString "Clash")) [encL p.1, .int (fst0 p.1 : Nat), .int w]
def JF (n : Nat) (pd : D) (ps : List (List Nat × List Nat)) (x0 : List Cl) (m : Nat) (ρ : En) : Prop := ∃ b code x st s5 s6 s7 s8 s9 s10, ρ = ⟨b, [.sh pd, .sh (.lst (ps.map encM)), .sh (encR x0), .sh (.int (code : Nat)), .ow (.lst (st.map encP)), s5, s6, s7, s8, s9, s10]⟩ ∧ CodeOk code x ∧ FInv n ps x0 x st ∧ noneC x = m ∧ st.length + m ≤ n ∧ fillF ps (n + 1) x0 [] = fillF ps (n + 1 - st.length) x st
def QF (n : Nat) (pd : D) (ps : List (List Nat × List Nat)) (x0 : List Cl) (fl : Fl) (ρ : En) : Prop := fl = .nx ∧ ∃ b code x st s5 s6 s7 s8 s9 s10, ρ = ⟨b, [.sh pd, .sh (.lst (ps.map encM)), .sh (encR x0), .sh (.int (code : Nat)), .ow (.lst (st.map encP)), s5, s6, s7, s8, s9, s10]⟩ ∧ CodeOk code x ∧ FInv n ps x0 x st ∧ fillF ps (n + 1) x0 [] = (some x, st, none) ∧ (∀ p ∈ ps, keepB x p = true) ∧ st.length ≤ 8
def fbF : FS := (seqS (unpE (tT 2 (tsC (tN 6) (tsC (tN 7) tsN))) (vr 5))
    (seqS (setE 8 (dV (lift2 ixD (lift2 ixD (vr 0) (vr 6)) (cst (.int 0)))))
    (seqS (setE 9 (dV (lift2 ixD (lift2 ixD (vr 1) (vr 6)) (cst (.int 1)))))
    (seqS (setE 10 (callP m_clashing_rows (cnt 3 (acons (vr 3) (acons (vr 9) (acons (vr 7) anil))))))
    (seqS (ifS (testV (pk 10)) (raiseS 1 ["lot", "one", "other"] (Str.ofString "Clash") (acons (vr 8) (acons (lift2 ixD (vr 8) (cst (.int 0))) (acons (lift2 ixD (vD (callP m_numbers_of (cnt 1 (acons (vr 10) anil)))) (cst (.int 0))) anil)))) skipS)
    (seqS (dropS (methE 4 appD (acons (tupE (acons (vr 8) (acons (vD (callP m_numbers_of (cnt 1 (acons (lift2 bandD (vr 9) (un1 invD (vD (callP m_answered (cnt 1 (acons (vr 3) anil)))))) anil)))) anil))) anil)))
    (setE 3 (dV (lift2 borD (vr 3) (lift2 shlD (vr 9) (vr 7)))))))))))
def ftF : FD := vD (callP m_first_unkept (cnt 2 (acons (vr 1) (acons (vr 3) anil))))
theorem run_eq : g_run_filling = seqPr (setE 3 (callP m_code_of (cnt 1 (acons (vr 2) anil)))) (seqPr (setE 4 (lstE anil)) (seqPr (whW 5 ftF fbF 2000)
    (retPr (vD (callP m_column_of (cnt 2 (acons (vr 3) (acons (bltQ lenD (pk 2)) anil))))) 4))) := rfl
theorem wrongs_clash (ha : Asc p.2) (hs : atC x (fst0 p.1) = some s) : wrongs x p = (List.range 8).filter (clashB x p.2 s) := by
  unfold wrongs diffs clashB
  rw [List.filter_filter]
  have : ((List.range 8).filter fun r => decide (r ∈ p.2) && ((atC x r).isSome && !decide (atC x r = some s))) = _ := asc_sub ha fun r => (atC x r).isSome && !decide (atC x r = some s)
  simp only [Bool.and_assoc]
  rw [this, hs]
theorem clash_zero {k : Nat} {z : List Nat} (h : MaskOk k (clashB x z s)) : k = 0 ↔ ∀ r ∈ z, atC x r = none ∨ atC x r = some s := by
  rw [mask_zero h]
  constructor
  · intro g r hr
    have := g r
    unfold clashB at this
    rw [decide_eq_true hr, Bool.true_and] at this
    cases hx : atC x r with
    | none => exact .inl rfl
    | some t =>
      rw [hx] at this
      simp at this
      exact .inr (by rw [this])
  · intro g r
    unfold clashB
    by_cases hr : r ∈ z
    · rcases g r hr with e | e <;> simp [hr, e]
    · simp [hr]
theorem clash_mem {z : List Nat} {i : Nat} (h : clashB x z s i = true) : i ∈ z := by
  unfold clashB at h
  simp only [Bool.and_eq_true, decide_eq_true_eq] at h
  exact h.1.1
theorem mask_lt {z : List Nat} (h : ∀ r ∈ z, r < 8) : maskN z < 2 ^ 8 := by
  refine Nat.lt_pow_two_of_testBit _ fun i hi => ?_
  rw [mask_ok z i]
  exact decide_eq_false fun hm => by have := h i hm; omega
theorem loop_fact {pd : D} (hpd : Hnd ps pd) (hn : n ≤ 7) (hp : ∀ p ∈ ps, (GoodP n p ∧ Asc p.2) ∧ Low p.1) : ∀ m ρ, JF n pd ps x0 m ρ → W (ftF ρ) fun d ρ1 => ∃ k, notN d = some k ∧ (k = false → QF n pd ps x0 .nx (setS ρ1 5 (.sh d))) ∧ (k = true → (W (fbF (setS ρ1 5 (.sh d))) fun fl ρ2 => fl = .nx ∧ ∃ m', m' < m ∧ JF n pd ps x0 m' ρ2) ∨ XW (fbF (setS ρ1 5 (.sh d))) fun t fs _ => t = 1 ∧ ClashOk n ps x0 fs) := by
  rintro m ρ ⟨b, code, x, st, s5, s6, s7, s8, s9, s10, rfl, hc, inv, hm, hst, hfl⟩
  have hg := bigN
  have hxl : x.length ≤ 8 := by rw [inv.len]; omega
  have hpx : ∀ p ∈ ps, GoodP x.length p ∧ Low p.1 := fun p h => by rw [inv.len]; exact ⟨(hp p h).1.1, (hp p h).2⟩
  unfold ftF
  walk_at "w"
  refine first_unkept_spec (m := 0) hc hxl inv.v hpx (fun hk b' => ?_) (fun pre p suf s e hpre hk hs b' => ?_)
  · exact ⟨false, rfl, fun _ => ⟨rfl, b, code, x, st, _, _, _, _, _, _, rfl, hc, inv, by rw [hfl, fill_end hk], hk, by omega⟩, fun z => by cases z⟩
  · refine ⟨true, rfl, (fun z => by cases z), fun _ => ?_⟩
    have hmem : p ∈ ps := by rw [e]; simp
    obtain ⟨⟨gp, asc⟩, low⟩ := hp p hmem
    have gpx : GoodP x.length p := by rw [inv.len]; exact gp
    have h8 : ∀ r ∈ p.2, r < 8 := fun r hr => by have := gp.h2 r hr; omega
    have hbk := brk_keep gpx (x := x)
    rw [hk] at hbk
    have ha : ansB x p.1 = true := by cases h : ansB x p.1 <;> simp [h] at hbk ⊢
    have hd : diffs x p ≠ [] := diffs_ne gpx hk
    have hk' := hk
    have hs3 := inv.v _ _ hs
    have hat1 : ixD pd (.int (pre.length : Nat)) = some (encP p) := hpd.ix _ _ (by rw [e, List.getElem?_append_right (Nat.le_refl _), Nat.sub_self]; rfl)
    have hat2 : ixD (.lst (ps.map encM)) (.int (pre.length : Nat)) = some (encM p) := ixL_nat (by rw [e, List.map_append, List.getElem?_append_right (by rw [List.length_map]; exact Nat.le_refl _), List.length_map, Nat.sub_self]; rfl)
    have i0 : ixD (encP p) (.int 0) = some (encL p.1) := rfl
    have i1 : ixD (encM p) (.int 1) = some (.int (maskN p.2 : Nat)) := rfl
    have i2 := ixL0 gp.ne
    unfold fbF
    by_cases hcl : ∀ r ∈ p.2, atC x r = none ∨ atC x r = some s
    · refine .inl ?_
      walk_at "w"
      refine clashing_spec hc hxl inv.v h8 fun k _ hk => ?_
      have hk0 := (clash_zero hk).mpr hcl
      subst hk0
      have hshl := shl_nat (maskN p.2) (8 * s) (Nat.lt_of_lt_of_le (mask_lt h8) (by decide)) (by omega)
      have hmask : MaskOk (offN (maskN p.2) (ansM code)) (fun r => decide (r ∈ p.2) && !(atC x r).isSome) := fun r => by rw [off_test, mask_ok p.2, ansM_ok hc inv.v hxl]
      walk_at "w"
      refine answered_spec fun _ => ?_
      walk_at "w"
      refine numbers_of_spec hmask fun _ => ?_
      walk_at "w"
      · rw [List.length_map]
        show _ < big
        omega
      · refine ⟨noneC (setC x p.2 s), ?_, b, code ||| maskN p.2 <<< (8 * s), setC x p.2 s, st ++ [(p.1, hangs x p.2)], .sh (.tup [.int (pre.length : Nat), .int ((8 * s : Nat) : Int)]), .sh (.int (pre.length : Nat)), .sh (.int ((8 * s : Nat) : Int)), .sh (encL p.1), .sh (.int (maskN p.2 : Nat)), .sh (.int ((0 : Nat) : Int)), ?_, setC_code hc (mask_ok p.2) gpx.h2 hxl hcl, finv_step inv (by omega) hmem gp ha hs hcl, rfl, ?_, ?_⟩
        · rw [← hm]
          exact none_less inv.len gp hd hs hcl
        · rw [List.map_append]
          rfl
        · have := none_less inv.len gp hd hs hcl
          rw [List.length_append]
          show st.length + 1 + _ ≤ n
          omega
        · have hw := (wrongs_nil hs).mpr hcl
          have := fill_step (k := n - st.length) (st := st) e hpre hk' hw
          rw [hfl, show n + 1 - st.length = n - st.length + 1 from by omega, this, hangs_diffs asc hs hcl, List.length_append]
          unfold signOf
          rw [hs]
          show _ = fillF ps (n + 1 - (st.length + 1)) _ _
          rw [show n + 1 - (st.length + 1) = n - st.length from by omega]
          rfl
    · refine .inr ?_
      have hk0 : ∀ k, MaskOk k (clashB x p.2 s) → k ≠ 0 := fun k hk z => hcl ((clash_zero hk).mp z)
      refine xw_seq ?_
      walk_at "w"
      refine xw_seq ?_
      walk_at "w"
      refine xw_seq ?_
      walk_at "w"
      refine xw_seq ?_
      walk_at "w"
      refine clashing_spec hc hxl inv.v h8 fun k _ hk => ?_
      refine ⟨rfl, xw_seqL (xw_if ?_)⟩
      walk_at "w"
      have hk1 := hk0 k hk
      have hne : (List.range 8).filter (clashB x p.2 s) ≠ [] := by
        intro z
        apply hk1
        rw [mask_zero hk]
        intro i
        cases hci : clashB x p.2 s i with
        | false => rfl
        | true =>
          have : i ∈ (List.range 8).filter (clashB x p.2 s) := List.mem_filter.mpr ⟨List.mem_range.mpr (h8 i (clash_mem hci)), hci⟩
          rw [z] at this
          cases this
      have i3 := ixL0 hne
      have hw := wrongs_clash (x := x) (s := s) asc hs
      obtain ⟨w, ws, he⟩ := List.exists_cons_of_ne_nil hne
      rw [he] at hw
      have hf0 : fst0 ((List.range 8).filter (clashB x p.2 s)) = w := by rw [he]; rfl
      have hcla := fill_clash (k := n - st.length) (st := st) e hpre hk' hw
      rw [hf0] at i3
      rw [decide_eq_false hk1, Bool.not_false, if_pos rfl]
      refine xw_raise ?_
      walk_at "w"
      refine numbers_of_spec hk fun _ => ?_
      walk_at "w"
      refine ⟨⟨rfl, by decide⟩, rfl, p, hmem, w, st, ?_, rfl⟩
      rw [hfl, show n + 1 - st.length = n - st.length + 1 from by omega, hcla]
theorem run_filling_fact {pd : D} (hpd : Hnd ps pd) (hn : n ≤ 7) (hl : x0.length = n) (v : V3 x0) (hp : ∀ p ∈ ps, (GoodP n p ∧ Asc p.2) ∧ Low p.1) :
    MPk m_run_filling [pd, .lst (ps.map encM), encR x0] (FillOk n ps x0) ∨ MPx m_run_filling [pd, .lst (ps.map encM), encR x0] (fun t fs => t = 1 ∧ ClashOk n ps x0 fs) := by
  have hg := bigN
  have hc := code_ok (x := x0) (by omega)
  have h0 := noneC_le x0
  have J0 : ∀ s5 s6 s7 s8 s9 s10 b, JF n pd ps x0 (noneC x0) ⟨b, [.sh pd, .sh (.lst (ps.map encM)), .sh (encR x0), .sh (.int (codeN x0 : Nat)), .ow (.lst []), s5, s6, s7, s8, s9, s10]⟩ := fun s5 s6 s7 s8 s9 s10 b => ⟨b, codeN x0, x0, [], _, _, _, _, _, _, rfl, hc, finv0 hl v, rfl, by show 0 + _ ≤ n; omega, rfl⟩
  have hloop := fun ρ h => wx_whW (i := 5) (f := ftF) (g := fbF) (Q := QF n pd ps x0) (E := fun t fs _ => t = 1 ∧ ClashOk n ps x0 fs) (JF n pd ps x0) (loop_fact hpd hn hp) 2000 (noneC x0) ρ (by omega) h
  rcases hloop _ (J0 .un .un .un .un .un .un default) with q | q
  · left
    have : W (g_run_filling (startE false 11 [pd, .lst (ps.map encM), encR x0] default)) fun r _ => FillOk n ps x0 r.1 r.2 := by
      rw [run_eq]
      refine w_seqPr ?_
      walk_at "w"
      refine code_of_spec (by omega) v fun _ => ?_
      refine ⟨rfl, w_seqPr ?_⟩
      walk_at "w"
      refine w_seqPr (q.mp fun fl ρ h => ?_)
      obtain ⟨rfl, b, code, x, st, s5, s6, s7, s8, s9, s10, rfl, hcx, inv, hf, hk, hst⟩ := h
      have hxx : x0.length = x.length := by rw [hl, inv.len]
      refine ⟨rfl, w_retPr ?_⟩
      walk_at "w"
      rw [hxx]
      refine column_of_spec hcx (by rw [inv.len]; omega) inv.v fun _ => ?_
      refine ⟨_, rfl, x, st, rfl, rfl, inv, hf, hk, hst⟩
    obtain ⟨⟨d, e⟩, ρ, h, hf⟩ := this
    exact ⟨d, e, ρ, h, hf⟩
  · right
    have : XW (g_run_filling (startE false 11 [pd, .lst (ps.map encM), encR x0] default)) fun t fs _ => t = 1 ∧ ClashOk n ps x0 fs := by
      rw [run_eq]
      refine xw_seqPr ?_
      walk_at "w"
      refine code_of_spec (by omega) v fun _ => ?_
      refine ⟨rfl, xw_seqPr ?_⟩
      walk_at "w"
      exact xw_seqPrL q
    obtain ⟨t, fs, ρ, e, rfl, hf⟩ := this
    exact ⟨1, fs, ρ, e, rfl, hf⟩
end LK19

end
section
set_option Elab.async false
set_option linter.all false
set_option maxRecDepth 100000
set_option maxHeartbeats 4000000
open PySem ND LK19
set_option hygiene false in
local macro_rules | `(tactic| walk_at "nm") => `(tactic| (try dsimp only [setS, putB_t, putB_f, stB, stL, wipeE, wipL, restE, restL, keepSh, List.set_cons_succ, List.set_cons_zero, List.map_cons, List.map_nil, List.cons_append, List.nil_append, List.replicate_succ, List.replicate_zero, List.length_cons, List.length_nil, if_true, ↓reduceIte, Nat.reduceAdd, Nat.reduceSub, Nat.reduceMul, List.contains, List.elem, Nat.reduceBEq, Nat.reduceAdd, cond_true, cond_false, Bool.false_eq_true, Bool.not_true, Bool.not_false] at *))
set_option hygiene false in
local macro_rules | `(tactic| walk_at "op") => `(tactic| fail)
set_option hygiene false in
local macro_rules | `(tactic| walk_at "w") => `(tactic| (repeat' (first
 | ((with_reducible apply m_run); exact rfl; walk_at "nm")
 | ((with_reducible first | apply ws_set | apply ws_if | apply w_set | apply w_if | apply w_ret | apply ws_bagSt | apply w_ite); walk_at "nm")
 | with_reducible first | apply ws_seq | apply ws_skip | apply ws_ret | apply ws_retO | apply ws_retN | apply ws_brk | apply ws_cnt | apply ws_drop | apply ws_par | apply ws_par3 | apply ws_unp | apply w_bagSt | apply w_retN | apply w_skip | apply w_brk | apply w_cnt' | apply w_drop | apply w_par | apply w_par3 | apply w_unp | apply w_cst | apply w_vD | apply w_dV | apply w_lift2 | apply w_lift2L | apply w_un1 | apply w_testB | apply w_testV | apply w_notT | apply w_andT | apply w_orT | apply w_andV | apply w_orV | apply w_notV | apply w_anil | apply w_acons | apply w_tup | apply w_lst | apply w_cnt | apply w_callP | apply w_callD | apply w_callK | apply w_bltE | apply w_bltQ | apply w_bltQL | apply w_bltL | apply w_join | apply w_sl | apply w_noP | apply w_parP | apply w_dic | apply w_pnil | apply w_pcons | apply w_seqI | apply w_rngI | apply w_zipI | apply w_yes | apply rq_rt | apply rq_nx | apply ex_inS1 | apply w_lift2V | apply sq_nx | apply sq_ct | apply sq_bk | apply sq_rt | apply aft_nx | apply aft_ct | apply aft_bk | apply aft_rt | apply w_iNil | apply w_iCons | apply w_lendG | apply w_excE | apply w_chn | apply w_newE | apply ws_unpDV | apply ws_unpVV | apply w_setDS | apply ws_setDS | apply w_pixG | apply w_revE
 | ((with_reducible first | apply ws_aug | apply w_retO_sh | apply w_aug | apply w_vr_sh | apply w_pk | apply w_callB | apply w_bagIx); exact rfl)
 | ((with_reducible first | apply w_retO_ow | apply w_vr_ow); exact rfl)
 | ((with_reducible first | apply w_vr_put | apply w_pk_put | apply w_iSlot_put); exact rfl)
 | ((with_reducible apply w_retO_put); exact rfl; intro rho rhob)
 | ((with_reducible first | apply w_lendH | apply w_iSlot | apply w_meth | apply ex_rev); exact rfl)
 | first | refine ex_app (by exact rfl) ?_ ?_ | refine ex_ext (by exact rfl) ?_ ?_
 | walk_at "op"
 | ((with_reducible first | apply ex_isiT | apply ex_isi2T | apply ex_isXT | apply ex_isX2T); (first | exact rfl | assumption); decide +kernel)
 | ((with_reducible first | apply ex_isiF | apply ex_isi2F | apply ex_isXF | apply ex_isX2F); (first | exact rfl | assumption); decide +kernel)
 | ((with_reducible apply ex_isXE); decide +kernel)
 | ((with_reducible apply ex_isXE2); decide +kernel; decide +kernel)
 | ((with_reducible apply ex_eqs); (first | assumption | decide +kernel); (first | assumption | decide +kernel))
 | ((with_reducible apply ex_lenS); first | assumption | omega)
 | ((with_reducible refine ex_slS ?_ ?_ (fun sy syo syl => ?_)); omega; assumption)
 | ((with_reducible first | refine ex_addS ?_ ?_ ?_ (fun sz szo szl => ?_) | refine or_addS ?_ ?_ ?_ (fun sz szo szl => ?_)); (first | assumption | decide +kernel); (first | assumption | decide +kernel); (first | omega | decide +kernel))
 | with_reducible first | refine ex_mul (by decide) ?_ | refine ex_mod (by first | assumption | decide | (dsimp only; omega)) ?_ | refine ex_fdiv (by first | assumption | decide | (dsimp only; omega)) (by first | assumption | decide | (dsimp only; omega)) ?_ | apply ex_eqi | apply ex_eqb | apply ex_neb | refine ex_pow (by decide) (by first | omega | (dsimp only; omega)) ?_
 | ((with_reducible refine ex_ixns ?_ ?_ (fun it => ?_)); assumption; assumption)
 | ((with_reducible first | apply ex_one | apply ex_par | apply ex_par3); exact rfl)
 | ((with_reducible apply ex_bag); exact rfl; exact rfl; exact rfl)
 | ((with_reducible apply ex_join); exact rfl; exact rfl)
 | ((with_reducible refine And.intro (fun hk => ?_) (fun hk => ?_)) <;> try cases hk)
 | ((with_reducible show _ < big); first | with_reducible assumption | omega)
 | with_reducible first | (apply Pl_as; assumption) | exact pl_C _ _ | exact Pl.bl _ _ | exact Pl.int _ _ | exact Pl.non _ | exact pls_nil | apply pls_cons | apply pl_R | apply pl_Rs | apply pl_lst | apply pl_tup
 | ((with_reducible show _ ≤ big); first | with_reducible assumption | exact Nat.le_of_ble_eq_true rfl | omega)
 | ((with_reducible apply And.intro); first | exact rfl | exact Nat.le_of_ble_eq_true rfl))))
local macro_rules | `(tactic| walk_at "op") => `(tactic| with_reducible refine ex_one (bD_isC _) ?_)
local macro_rules | `(tactic| walk_at "op") => `(tactic| with_reducible refine ex_one (nD_isC _) ?_)
local macro_rules | `(tactic| walk_at "op") => `(tactic| with_reducible refine ex_one (bD_eqC _ _) ?_)
local macro_rules | `(tactic| walk_at "op") => `(tactic| with_reducible refine ex_one (nD_eqC _ _) ?_)
local macro_rules | `(tactic| walk_at "op") => `(tactic| with_reducible refine ex_one (nD_eqi _ _) ?_)
local macro_rules | `(tactic| walk_at "op") => `(tactic| with_reducible refine ex_one (nD_eqn _ _) ?_)
local macro_rules | `(tactic| walk_at "op") => `(tactic| with_reducible refine ex_one (bD_eqn _ _) ?_)
local macro_rules | `(tactic| walk_at "op") => `(tactic| with_reducible refine ex_one (lenR _) ?_)
local macro_rules | `(tactic| walk_at "op") => `(tactic| with_reducible refine ex_one (seqR _) ?_)
local macro_rules | `(tactic| walk_at "op") => `(tactic| with_reducible refine ex_one (zipR _ _) ?_)
local macro_rules | `(tactic| walk_at "op") => `(tactic| with_reducible refine ex_one (tupR _) ?_)
local macro_rules | `(tactic| walk_at "op") => `(tactic| with_reducible refine ex_one (allD_map _ _) ?_)
local macro_rules | `(tactic| walk_at "op") => `(tactic| with_reducible refine ex_one (seqL _) ?_)
local macro_rules | `(tactic| walk_at "op") => `(tactic| with_reducible refine ex_one (lenL _) ?_)
set_option hygiene false in
local macro_rules | `(tactic| walk_at "op") => `(tactic| (refine ex_one (by with_reducible assumption) ?_))
set_option hygiene false in
local macro_rules | `(tactic| walk_at "op") => `(tactic| (with_reducible apply w_xatE))
set_option hygiene false in
local macro_rules | `(tactic| walk_at "op") => `(tactic| (refine ⟨_, _, rfl, rfl, _, by exact rfl, ?_⟩))
namespace LK19
open PySem ND
variable {d : D} {count : Int} {b : Bag} {R : D → Bool → Bag → Prop} {x x0 : List Cl} {y : List Nat} {c : Nat} {p : List Nat × List Nat} {ps : List (List Nat × List Nat)} {n s : Nat}
abbrev mD (ps : List (List Nat × List Nat)) : D := .lst (ps.map encM)
theorem hndL (ps : List (List Nat × List Nat)) : Hnd ps (.lst (ps.map encP)) := ⟨rfl, fun i p h => ixL_nat (by rw [List.getElem?_map, h]; rfl)⟩
theorem hndT (ps : List (List Nat × List Nat)) : Hnd ps (.tup (ps.map encP)) := ⟨rfl, fun i p h => ixT_nat (by rw [List.getElem?_map, h]; rfl)⟩
structure Giv (n : Nat) (ps : List (List Nat × List Nat)) (pd : D) (x0 : List Cl) : Prop where
  hd : Hnd ps pd
  hn : n ≤ 7
  hl : x0.length = n
  hv : V3 x0
  hp : ∀ p ∈ ps, (GoodP n p ∧ Asc p.2) ∧ Low p.1
  len : ps.length ≤ big
section
variable {pd : D} (g : Giv n ps pd x0)
include g
theorem fill_good {f : List Cl} {st : List (List Nat × List Nat)} (hf : fillF ps (n + 1) x0 [] = (some f, st, none)) : FInv n ps x0 f st ∧ (∀ p ∈ ps, keepB f p = true) ∧ st.length ≤ 8 := by
  rcases run_filling_fact g.hd g.hn g.hl g.hv g.hp with ⟨d, e, ρ, _, f', st', rfl, rfl, inv, hf', hk, hst⟩ | ⟨t, fs, ρ, _, _, p, hp, w, st', hf', rfl⟩
  · rw [hf] at hf'
    cases hf'
    exact ⟨inv, hk, hst⟩
  · rw [hf] at hf'
    cases hf'
theorem fill_no {p : List Nat × List Nat} {w : Nat} {st : List (List Nat × List Nat)} (hf : fillF ps (n + 1) x0 [] = (none, st, some (p, w))) : p ∈ ps := by
  rcases run_filling_fact g.hd g.hn g.hl g.hv g.hp with ⟨d, e, ρ, _, f', st', rfl, rfl, inv, hf', hk, hst⟩ | ⟨t, fs, ρ, _, _, p, hp, w, st', hf', rfl⟩
  · rw [hf] at hf'
    cases hf'
  · rw [hf] at hf'
    cases hf'
    exact hp
theorem fill_alt : (∃ f st, fillF ps (n + 1) x0 [] = (some f, st, none)) ∨ ∃ p w st, fillF ps (n + 1) x0 [] = (none, st, some (p, w)) := by
  rcases run_filling_fact g.hd g.hn g.hl g.hv g.hp with ⟨d, e, ρ, _, f', st', rfl, rfl, inv, hf', hk, hst⟩ | ⟨t, fs, ρ, _, _, p, hp, w, st', hf', rfl⟩
  · exact .inl ⟨_, _, hf'⟩
  · exact .inr ⟨_, _, _, hf'⟩
end
section
variable {f : List Cl} {st : List (List Nat × List Nat)} {pd : D} (g : Giv n ps pd x0) (hf : fillF ps (n + 1) x0 [] = (some f, st, none))
include g hf
theorem run_ok {R : D → D → Prop} (q : R (encR f) (.lst (st.map encP))) : MPk m_run_filling [pd, .lst (ps.map encM), encR x0] R := by
  rcases run_filling_fact g.hd g.hn g.hl g.hv g.hp with ⟨d, e, ρ, h, f', st', rfl, rfl, inv, hf', hk, hst⟩ | ⟨t, fs, ρ, _, _, p, hp, w, st', hf', rfl⟩
  · rw [hf] at hf'
    cases hf'
    exact ⟨_, _, ρ, h, q⟩
  · rw [hf] at hf'
    cases hf'
theorem filled_ok (q : ∀ b, R (encR f) false b) : M m_filled [pd, encR x0] b R := by
  unfold m_filled g_filled
  walk_at "w"
  refine w_callIxF ?_
  walk_at "w"
  refine pair_masks_spec (n := n) g.hd (by have := g.hn; omega) (fun p hp => (g.hp p hp).1.1) g.len fun _ => ?_
  walk_at "w"
  refine run_ok g hf ?_
  exact q _
theorem steps_ok (q : ∀ b, R (.lst (st.map encP)) true b) : M m_fill_steps [pd, encR x0] b R := by
  unfold m_fill_steps g_fill_steps
  walk_at "w"
  refine w_callIxT ?_
  walk_at "w"
  refine pair_masks_spec (n := n) g.hd (by have := g.hn; omega) (fun p hp => (g.hp p hp).1.1) g.len fun _ => ?_
  walk_at "w"
  refine run_ok g hf ?_
  exact q _
theorem tell0_ok (q : ∀ b, R (encR f) false b) : M m_l_tell [.int 0, pd, encR x0] b R := by
  unfold m_l_tell g_l_tell
  walk_at "w"
  refine w_try ?_
  walk_at "w"
  refine filled_ok g hf fun _ => ?_
  exact q _
theorem tell1_ok (q : ∀ b, R (.lst (st.map encP)) true b) : M m_l_tell [.int 1, pd, encR x0] b R := by
  unfold m_l_tell g_l_tell
  walk_at "w"
  refine w_try ?_
  walk_at "w"
  refine steps_ok g hf fun _ => ?_
  exact q _
end
def clashD (y : List Nat) (one other : Nat) : D := .tup [.str (Str.ofString "Clash"), encL y, .int one, .int other]
theorem ex_ints (y : List Nat) : exFs (y.map fun n : Nat => D.int n) = true := by
  induction y with
  | nil => rfl
  | cons a y ih => simp only [List.map_cons, exFs, ih]; rfl
theorem ex_clash (y : List Nat) (one other : Nat) : exF (clashD y one other) = true := by
  show exFs [_, encL y, _, _] = true
  simp only [exFs, encL, exF, ex_ints]
  rfl
section
variable {st : List (List Nat × List Nat)} {pd : D} {p : List Nat × List Nat} {w : Nat} (g : Giv n ps pd x0) (hf : fillF ps (n + 1) x0 [] = (none, st, some (p, w)))
include g hf
theorem run_err {R : Nat → List (Str × D) → Prop} (q : R 1 (mkF ["lot", "one", "other"] (.str (Str.ofString "Clash")) [encL p.1, .int (fst0 p.1 : Nat), .int w])) : MPx m_run_filling [pd, .lst (ps.map encM), encR x0] R := by
  rcases run_filling_fact g.hd g.hn g.hl g.hv g.hp with ⟨d, e, ρ, h, f', st', rfl, rfl, inv, hf', hk, hst⟩ | ⟨t, fs, ρ, h, rfl, p, hp, w, st', hf', rfl⟩
  · rw [hf] at hf'
    cases hf'
  · rw [hf] at hf'
    cases hf'
    exact ⟨_, _, ρ, h, q⟩
theorem filled_err : MX m_filled [pd, encR x0] b fun t fs => t = 1 ∧ fs = mkF ["lot", "one", "other"] (.str (Str.ofString "Clash")) [encL p.1, .int (fst0 p.1 : Nat), .int w] := by
  unfold m_filled g_filled
  refine mx_run (xw_ret (xw_callIx ?_))
  walk_at "w"
  refine pair_masks_spec (n := n) g.hd (by have := g.hn; omega) (fun p hp => (g.hp p hp).1.1) g.len fun _ => ?_
  walk_at "w"
  exact run_err g hf ⟨rfl, rfl⟩
theorem steps_err : MX m_fill_steps [pd, encR x0] b fun t fs => t = 1 ∧ fs = mkF ["lot", "one", "other"] (.str (Str.ofString "Clash")) [encL p.1, .int (fst0 p.1 : Nat), .int w] := by
  unfold m_fill_steps g_fill_steps
  refine mx_run (xw_ret (xw_callIx ?_))
  walk_at "w"
  refine pair_masks_spec (n := n) g.hd (by have := g.hn; omega) (fun p hp => (g.hp p hp).1.1) g.len fun _ => ?_
  walk_at "w"
  exact run_err g hf ⟨rfl, rfl⟩
theorem tell0_err (hb : b.me = none) (q : ∀ b, R (clashD p.1 (fst0 p.1) w) false b) : M m_l_tell [.int 0, pd, encR x0] b R := by
  unfold m_l_tell g_l_tell
  walk_at "w"
  refine x_try ?_
  refine xw_seqL (xw_if ?_)
  walk_at "w"
  refine xw_ret (xw_callP ?_)
  walk_at "w"
  obtain ⟨t, fs, ρ2, e2, rfl, rfl⟩ := filled_err (b := default) g hf
  refine mx_of e2 ⟨by decide +kernel, ?_⟩
  unfold bindX
  walk_at "w"
  refine ⟨ex_clash _ _ _, ?_, q _⟩
  show meF b = true
  unfold meF
  rw [hb]
theorem tell1_err (hb : b.me = none) (q : ∀ b, R (clashD p.1 (fst0 p.1) w) false b) : M m_l_tell [.int 1, pd, encR x0] b R := by
  unfold m_l_tell g_l_tell
  walk_at "w"
  refine x_try ?_
  refine xw_seq ?_
  walk_at "w"
  refine xw_ret (xw_callP ?_)
  walk_at "w"
  obtain ⟨t, fs, ρ2, e2, rfl, rfl⟩ := steps_err (b := default) g hf
  refine mx_of e2 ⟨by decide +kernel, ?_⟩
  unfold bindX
  walk_at "w"
  refine ⟨ex_clash _ _ _, ?_, q _⟩
  show meF b = true
  unfold meF
  rw [hb]
end
end LK19

end
section
set_option Elab.async false
set_option linter.all false
set_option maxRecDepth 100000
set_option maxHeartbeats 4000000
open PySem ND LK19
namespace ND
open PySem
variable {x y : List Cl} {p : List Nat × List Nat} {ps : List (List Nat × List Nat)} {n s : Nat}
theorem atC_ext (h : x.length = y.length) (g : ∀ r, atC x r = atC y r) : x = y := by
  apply List.ext_getElem?
  intro r
  have := g r
  unfold atC at this
  rw [List.getD_eq_getElem?_getD, List.getD_eq_getElem?_getD] at this
  by_cases hr : r < x.length
  · rw [List.getElem?_eq_getElem hr, List.getElem?_eq_getElem (by omega)] at this ⊢
    exact congrArg some this
  · rw [List.getElem?_eq_none (by omega), List.getElem?_eq_none (by omega)]
theorem atC_set {r t : Nat} {c : Cl} (h : r < x.length) : atC (x.set r c) t = if t = r then c else atC x t := by
  unfold atC
  rw [List.getD_eq_getElem?_getD, List.getD_eq_getElem?_getD, List.getElem?_set]
  by_cases z : r = t
  · subst z
    rw [if_pos rfl, if_pos h, if_pos rfl]
    rfl
  · rw [if_neg z, if_neg (Ne.symm z)]
theorem setC_snoc {pre : List Nat} {r : Nat} (hp : ∀ q ∈ pre, q < x.length) (hr : r < x.length) : (setC x pre s).set r (some s) = setC x (pre ++ [r]) s := by
  refine atC_ext (by rw [List.length_set, setC_len, setC_len]) fun t => ?_
  rw [atC_set (by rw [setC_len]; exact hr), setC_at hp, setC_at (fun q hq => by
    rcases List.mem_append.mp hq with z | z
    · exact hp q z
    · rw [List.mem_singleton] at z; rw [z]; exact hr)]
  by_cases z : t = r
  · subst z
    simp
  · simp [z]
theorem setC_nil : setC x [] s = x := atC_ext (by rw [setC_len]) fun t => by rw [setC_at (fun q hq => by cases hq)]; simp
theorem setC_diffs (hs : atC x (fst0 p.1) = some s) (h2 : ∀ r ∈ p.2, r < x.length) : setC x (diffs x p) s = setC x p.2 s := by
  have hd : ∀ r ∈ diffs x p, r < x.length := fun r hr => h2 r (List.mem_filter.mp hr).1
  refine atC_ext (by rw [setC_len, setC_len]) fun t => ?_
  rw [setC_at hd, setC_at h2]
  by_cases ht : t ∈ p.2
  · rw [if_pos ht]
    by_cases e : atC x t = some s
    · rw [e]
      split <;> rfl
    · rw [if_pos]
      unfold diffs
      rw [List.mem_filter, hs]
      exact ⟨ht, by simpa using e⟩
  · rw [if_neg ht, if_neg (show t ∉ diffs x p from fun z => ht (List.mem_filter.mp z).1)]
theorem ixCL {r : Nat} (h : r < x.length) : ixD (.lst (x.map encC)) (.int r) = some (encC (atC x r)) := ixL_nat (by
  rw [List.getElem?_map, List.getElem?_eq_getElem h]
  unfold atC
  rw [List.getD_eq_getElem?_getD, List.getElem?_eq_getElem h]
  rfl)
def outF (r : Option (List Cl) × List (List Nat × List Nat) × Option ((List Nat × List Nat) × Nat)) : D :=
  .tup [(match r.1 with | some f => encR f | none => .non), .lst (r.2.1.map encP), match r.2.2 with | none => .non | some (p, w) => .tup [encL p.1, .int (fst0 p.1 : Nat), .int w]]
def firstD (x : List Cl) (pre : List (List Nat × List Nat)) : D := match pre.find? fun p => !keepB x p with
  | none => .non
  | some p => .tup [encL p.1, .lst ((diffs x p).map fun n : Nat => D.int n)]
end ND
set_option hygiene false in
local macro_rules | `(tactic| walk_at "nm") => `(tactic| (try dsimp only [setS, putB_t, putB_f, stB, stL, wipeE, wipL, restE, restL, keepSh, List.set_cons_succ, List.set_cons_zero, List.map_cons, List.map_nil, List.cons_append, List.nil_append, List.replicate_succ, List.replicate_zero, List.length_cons, List.length_nil, if_true, ↓reduceIte, Nat.reduceAdd, Nat.reduceSub, Nat.reduceMul, List.contains, List.elem, Nat.reduceBEq, Nat.reduceAdd, cond_true, cond_false, Bool.false_eq_true, Bool.not_true, Bool.not_false] at *))
set_option hygiene false in
local macro_rules | `(tactic| walk_at "op") => `(tactic| fail)
set_option hygiene false in
local macro_rules | `(tactic| walk_at "w") => `(tactic| (repeat' (first
 | ((with_reducible apply m_run); exact rfl; walk_at "nm")
 | ((with_reducible first | apply ws_set | apply ws_if | apply w_set | apply w_if | apply w_ret | apply ws_bagSt | apply w_ite); walk_at "nm")
 | with_reducible first | apply ws_seq | apply ws_skip | apply ws_ret | apply ws_retO | apply ws_retN | apply ws_brk | apply ws_cnt | apply ws_drop | apply ws_par | apply ws_par3 | apply ws_unp | apply w_bagSt | apply w_retN | apply w_skip | apply w_brk | apply w_cnt' | apply w_drop | apply w_par | apply w_par3 | apply w_unp | apply w_cst | apply w_vD | apply w_dV | apply w_lift2 | apply w_lift2L | apply w_un1 | apply w_testB | apply w_testV | apply w_notT | apply w_andT | apply w_orT | apply w_andV | apply w_orV | apply w_notV | apply w_anil | apply w_acons | apply w_tup | apply w_lst | apply w_cnt | apply w_callP | apply w_callD | apply w_callK | apply w_bltE | apply w_bltQ | apply w_bltQL | apply w_bltL | apply w_join | apply w_sl | apply w_noP | apply w_parP | apply w_dic | apply w_pnil | apply w_pcons | apply w_seqI | apply w_rngI | apply w_zipI | apply w_yes | apply rq_rt | apply rq_nx | apply ex_inS1 | apply w_lift2V | apply sq_nx | apply sq_ct | apply sq_bk | apply sq_rt | apply aft_nx | apply aft_ct | apply aft_bk | apply aft_rt | apply w_iNil | apply w_iCons | apply w_lendG | apply w_excE | apply w_chn | apply w_newE | apply ws_unpDV | apply ws_unpVV | apply w_setDS | apply ws_setDS | apply w_pixG | apply w_revE
 | ((with_reducible first | apply ws_aug | apply w_retO_sh | apply w_aug | apply w_vr_sh | apply w_pk | apply w_callB | apply w_bagIx); exact rfl)
 | ((with_reducible first | apply w_retO_ow | apply w_vr_ow); exact rfl)
 | ((with_reducible first | apply w_vr_put | apply w_pk_put | apply w_iSlot_put); exact rfl)
 | ((with_reducible apply w_retO_put); exact rfl; intro rho rhob)
 | ((with_reducible first | apply w_lendH | apply w_iSlot | apply w_meth | apply ex_rev); exact rfl)
 | first | refine ex_app (by exact rfl) ?_ ?_ | refine ex_ext (by exact rfl) ?_ ?_
 | walk_at "op"
 | ((with_reducible first | apply ex_isiT | apply ex_isi2T | apply ex_isXT | apply ex_isX2T); (first | exact rfl | assumption); decide +kernel)
 | ((with_reducible first | apply ex_isiF | apply ex_isi2F | apply ex_isXF | apply ex_isX2F); (first | exact rfl | assumption); decide +kernel)
 | ((with_reducible apply ex_isXE); decide +kernel)
 | ((with_reducible apply ex_isXE2); decide +kernel; decide +kernel)
 | ((with_reducible apply ex_eqs); (first | assumption | decide +kernel); (first | assumption | decide +kernel))
 | ((with_reducible apply ex_lenS); first | assumption | omega)
 | ((with_reducible refine ex_slS ?_ ?_ (fun sy syo syl => ?_)); omega; assumption)
 | ((with_reducible first | refine ex_addS ?_ ?_ ?_ (fun sz szo szl => ?_) | refine or_addS ?_ ?_ ?_ (fun sz szo szl => ?_)); (first | assumption | decide +kernel); (first | assumption | decide +kernel); (first | omega | decide +kernel))
 | with_reducible first | refine ex_mul (by decide) ?_ | refine ex_mod (by first | assumption | decide | (dsimp only; omega)) ?_ | refine ex_fdiv (by first | assumption | decide | (dsimp only; omega)) (by first | assumption | decide | (dsimp only; omega)) ?_ | apply ex_eqi | apply ex_eqb | apply ex_neb | refine ex_pow (by decide) (by first | omega | (dsimp only; omega)) ?_
 | ((with_reducible refine ex_ixns ?_ ?_ (fun it => ?_)); assumption; assumption)
 | ((with_reducible first | apply ex_one | apply ex_par | apply ex_par3); exact rfl)
 | ((with_reducible apply ex_bag); exact rfl; exact rfl; exact rfl)
 | ((with_reducible apply ex_join); exact rfl; exact rfl)
 | ((with_reducible refine And.intro (fun hk => ?_) (fun hk => ?_)) <;> try cases hk)
 | ((with_reducible show _ < big); first | with_reducible assumption | omega)
 | with_reducible first | (apply Pl_as; assumption) | exact pl_C _ _ | exact Pl.bl _ _ | exact Pl.int _ _ | exact Pl.non _ | exact pls_nil | apply pls_cons | apply pl_R | apply pl_Rs | apply pl_lst | apply pl_tup
 | ((with_reducible show _ ≤ big); first | with_reducible assumption | exact Nat.le_of_ble_eq_true rfl | omega)
 | ((with_reducible apply And.intro); first | exact rfl | exact Nat.le_of_ble_eq_true rfl))))
local macro_rules | `(tactic| walk_at "op") => `(tactic| with_reducible refine ex_one (bD_isC _) ?_)
local macro_rules | `(tactic| walk_at "op") => `(tactic| with_reducible refine ex_one (nD_isC _) ?_)
local macro_rules | `(tactic| walk_at "op") => `(tactic| with_reducible refine ex_one (bD_eqC _ _) ?_)
local macro_rules | `(tactic| walk_at "op") => `(tactic| with_reducible refine ex_one (nD_eqC _ _) ?_)
local macro_rules | `(tactic| walk_at "op") => `(tactic| with_reducible refine ex_one (nD_eqi _ _) ?_)
local macro_rules | `(tactic| walk_at "op") => `(tactic| with_reducible refine ex_one (nD_eqn _ _) ?_)
local macro_rules | `(tactic| walk_at "op") => `(tactic| with_reducible refine ex_one (bD_eqn _ _) ?_)
local macro_rules | `(tactic| walk_at "op") => `(tactic| with_reducible refine ex_one (lenR _) ?_)
local macro_rules | `(tactic| walk_at "op") => `(tactic| with_reducible refine ex_one (seqR _) ?_)
local macro_rules | `(tactic| walk_at "op") => `(tactic| with_reducible refine ex_one (zipR _ _) ?_)
local macro_rules | `(tactic| walk_at "op") => `(tactic| with_reducible refine ex_one (tupR _) ?_)
local macro_rules | `(tactic| walk_at "op") => `(tactic| with_reducible refine ex_one (allD_map _ _) ?_)
local macro_rules | `(tactic| walk_at "op") => `(tactic| with_reducible refine ex_one (seqL _) ?_)
local macro_rules | `(tactic| walk_at "op") => `(tactic| with_reducible refine ex_one (lenL _) ?_)
set_option hygiene false in
local macro_rules | `(tactic| walk_at "op") => `(tactic| (refine ex_one (by with_reducible assumption) ?_))
set_option hygiene false in
local macro_rules | `(tactic| walk_at "op") => `(tactic| (with_reducible apply w_pixE))
set_option hygiene false in
local macro_rules | `(tactic| walk_at "op") => `(tactic| (with_reducible first | apply ws_setI | apply w_setI))
namespace LK19
open PySem ND
variable {d : D} {count : Int} {b : Bag} {R : D → Bool → Bag → Prop} {x x0 : List Cl} {y : List Nat} {c : Nat} {p : List Nat × List Nat} {ps : List (List Nat × List Nat)} {n s : Nat}
theorem l_steps_spec (hx : x0.length = n) (hn : n ≤ 7) (hp : ∀ p ∈ ps, GoodP n p ∧ Asc p.2) (hpl : ps.length ≤ big) (q : ∀ b, R (outF (fillF ps (n + 1) x0 [])) false b) : M m_l_steps [.lst (ps.map encP), encR x0] b R := by
  have hg := bigN
  unfold m_l_steps g_l_steps
  have hl0 : listA (encR x0) = some (x0.map encC) := rfl
  have hl1 : lenD (.lst (x0.map encC)) = some (.int (n : Nat)) := by show some (D.int _) = _; rw [List.length_map, hx]
  have ha : addD (.int (n : Nat)) (.int 1) = some (.int ((n + 1 : Nat) : Int)) := rfl
  have hr := rngO1 (n + 1) (by omega)
  walk_at "w"
  refine w_sq ?_
  refine w_forN' ?_
  walk_at "w"
  refine ⟨n + 1, fun j ρ => ∃ b x st s4 s5 s6 s7 s8 s9 s10, ρ = ⟨b, [.sh (.lst (ps.map encP)), .sh (encR x0), .ow (.lst (x.map encC)), .ow (.lst (st.map encP)), s4, s5, s6, s7, s8, s9, s10]⟩ ∧ x.length = n ∧ st.length ≤ j ∧ fillF ps (n + 1) x0 [] = fillF ps (n + 1 - j) x st, rfl, ⟨_, x0, [], _, _, _, _, _, _, _, rfl, hx, Nat.le_refl _, rfl⟩, fun j hj ρ hJ => ?_, fun ρ hJ => ?_⟩
  · obtain ⟨b, x, st, s4, s5, s6, s7, s8, s9, s10, rfl, hxl, hst, hfl⟩ := hJ
    refine ⟨_, rfl, ?_⟩
    walk_at "w"
    refine w_sq ?_
    refine w_forM encP ps (fun pre ρ => ∃ s6 s7 s8 s9, ρ = ⟨b, [.sh (.lst (ps.map encP)), .sh (encR x0), .ow (.lst (x.map encC)), .ow (.lst (st.map encP)), .sh (.int j), .sh (firstD x pre), s6, s7, s8, s9, s10]⟩) ?_
    walk_at "w"
    refine ⟨⟨_, _, _, _, rfl⟩, fun pre p suf e ρ hJ => ?_, fun ρ hJ => ?_⟩
    · obtain ⟨s6, s7, s8, s9, rfl⟩ := hJ
      refine ⟨_, rfl, ?_⟩
      have gp : GoodP x.length p := by rw [hxl]; exact (hp p (by rw [e]; simp)).1
      have hbk := brk_keep gp (x := x)
      cases hf : pre.find? (fun p => !keepB x p) with
      | some p0 =>
        have h1 : firstD x pre = .tup [encL p0.1, .lst ((diffs x p0).map fun n : Nat => D.int n)] := by unfold firstD; rw [hf]
        have h2 : firstD x (pre ++ [p]) = .tup [encL p0.1, .lst ((diffs x p0).map fun n : Nat => D.int n)] := by unfold firstD; rw [List.find?_append, hf]; rfl
        rw [h1, h2]
        have h3 : bD isN (.tup [encL p0.1, .lst ((diffs x p0).map fun n : Nat => D.int n)]) .non = some (.bl false) := rfl
        walk_at "w"
        exact ⟨_, _, _, _, rfl⟩
      | none =>
        have h1 : firstD x pre = .non := by unfold firstD; rw [hf]
        rw [h1]
        have h2 : firstD x (pre ++ [p]) = if keepB x p = true then .non else .tup [encL p.1, .lst ((diffs x p).map fun n : Nat => D.int n)] := by
          unfold firstD
          rw [List.find?_append, hf, List.find?_cons]
          cases keepB x p <;> rfl
        rw [h2]
        have h3 : bD isN .non .non = some (.bl true) := rfl
        walk_at "w"
        refine w_lcM (fun n : Nat => D.int n) (fun r => encC (atC x r)) p.1 ?_
        walk_at "w"
        refine ⟨gp.l1, fun r hr => ⟨_, rfl, ?_⟩, ?_⟩
        · have := ixCL (gp.h1n r hr)
          walk_at "w"
          exact rfl
        · have hn := nD_inC (p.1.map fun r => atC x r)
          rw [List.map_map, ans_all] at hn
          refine ex_one hn ?_
          walk_at "w"
          · refine w_lcFM (fun n : Nat => D.int n) (fun n : Nat => D.int n) (fun r => !decide (atC x r = atC x (fst0 p.1))) p.2 ?_
            walk_at "w"
            refine ⟨gp.l2, fun r hr => ⟨_, rfl, ?_⟩, ?_⟩
            · have h4 := ixCL (gp.h2 r hr)
              have h5 := ixCL (gp.h1n _ (fst0_mem gp.ne))
              have h6 := ixL0 gp.ne
              walk_at "w"
              all_goals exact rfl
            · have ht := tru_map (fun n : Nat => D.int n) (p.2.filter fun r => !decide (atC x r = atC x (fst0 p.1)))
              walk_at "w"
              · have hkk : keepB x p = false := by
                  rw [hbk, ‹ansB x p.1 = true›, show (diffs x p).isEmpty = false from by rw [Bool.not_eq_true'] at hk; exact hk]
                  rfl
                rw [hkk]
                exact ⟨_, _, _, _, rfl⟩
              · have hkk : keepB x p = true := by
                  rw [hbk, ‹ansB x p.1 = true›, show (diffs x p).isEmpty = true from by rw [Bool.not_eq_false'] at hk; exact hk]
                  rfl
                rw [hkk]
                exact ⟨_, _, _, _, rfl⟩
          · have hkk : keepB x p = true := by rw [hbk, hk]; rfl
            rw [hkk]
            exact ⟨_, _, _, _, rfl⟩
    · obtain ⟨s6, s7, s8, s9, rfl⟩ := hJ
      cases hf : ps.find? (fun p => !keepB x p) with
      | none =>
        have h1 : firstD x ps = .non := by unfold firstD; rw [hf]
        have h3 : bD isN .non .non = some (.bl true) := rfl
        rw [h1]
        have hq : fillF ps (n + 1) x0 [] = (some x, st, none) := by
          rw [hfl, fill_end]
          intro p hp
          have := List.find?_eq_none.mp hf p hp
          simpa using this
        rw [hq] at q
        walk_at "w"
        exact q _
      | some p =>
        have h1 : firstD x ps = .tup [encL p.1, .lst ((diffs x p).map fun n : Nat => D.int n)] := by unfold firstD; rw [hf]
        have h3 : bD isN (.tup [encL p.1, .lst ((diffs x p).map fun n : Nat => D.int n)]) .non = some (.bl false) := rfl
        rw [h1]
        have hmem := List.mem_of_find?_eq_some hf
        have gp : GoodP x.length p := by rw [hxl]; exact (hp p hmem).1
        have hk : keepB x p = false := by simpa using List.find?_some hf
        have hbk := brk_keep gp (x := x)
        rw [hk] at hbk
        have ha : ansB x p.1 = true := by cases h : ansB x p.1 <;> simp [h] at hbk ⊢
        obtain ⟨s, hs⟩ := Option.isSome_iff_exists.mp (List.all_eq_true.mp ha _ (fst0_mem gp.ne))
        obtain ⟨k, hk1⟩ : ∃ k, n + 1 - j = k + 1 := ⟨n - j, by omega⟩
        have hfk : fillF ps (n + 1) x0 [] = (match wrongs x p with | w :: _ => (none, st, some (p, w)) | [] => fillF ps k (setC x p.2 (signOf x p)) (st ++ [(p.1, diffs x p)])) := by
          rw [hfl, hk1]
          show (match ps.find? _ with | none => _ | some p => _) = _
          rw [hf] <;> rfl
        have hd2 : (diffs x p).length ≤ big := by
          have := List.length_filter_le (fun r => !decide (atC x r = atC x (fst0 p.1))) p.2
          have := gp.l2
          unfold diffs
          omega
        have hdx : ∀ r ∈ diffs x p, r < x.length := fun r hr => gp.h2 r (List.mem_filter.mp hr).1
        walk_at "w"
        refine w_lcFM (fun n : Nat => D.int n) (fun n : Nat => D.int n) (fun r => (atC x r).isSome) (diffs x p) ?_
        walk_at "w"
        refine ⟨hd2, fun r hr => ⟨_, rfl, ?_⟩, ?_⟩
        · have h4 := ixCL (hdx r hr)
          walk_at "w"
          refine ⟨not_isNone _, fun _ => rfl, fun _ => ?_⟩
          walk_at "w"
          exact rfl
        · have ht := tru_map (fun n : Nat => D.int n) ((diffs x p).filter fun r => (atC x r).isSome)
          have hww : (diffs x p).filter (fun r => (atC x r).isSome) = wrongs x p := rfl
          rw [hww] at ht
          rw [hww]
          have h6 := ixL0 gp.ne
          cases hw : wrongs x p with
          | cons w ws =>
            rw [hw] at hfk ht
            have h7 : ixD (.lst ((w :: ws).map fun n : Nat => D.int n)) (.int 0) = some (.int w) := ixLs0 (y := w :: ws) (fun z => by cases z)
            have h8 : truD (.lst ((w :: ws).map fun n : Nat => D.int n)) = some true := ht
            rw [hfk] at q
            walk_at "w"
            exact q _
          | nil =>
            rw [hw] at hfk ht
            have h8 : truD (.lst (([] : List Nat).map fun n : Nat => D.int n)) = some false := ht
            have hsx : signOf x p = s := by unfold signOf; rw [hs]; rfl
            rw [hsx, ← setC_diffs hs gp.h2] at hfk
            dsimp only at hfk
            walk_at "w"
            refine w_sq ?_
            refine w_forM (fun n : Nat => D.int n) (diffs x p) (fun pre ρ => ∃ s8, ρ = ⟨b, [.sh (.lst (ps.map encP)), .sh (encR x0), .ow (.lst ((setC x pre s).map encC)), .ow (.lst (st.map encP)), .sh (.int j), .sh (.tup [encL p.1, .lst ((diffs x p).map fun n : Nat => D.int n)]), .sh (encL p.1), s7, s8, .sh (.lst ((diffs x p).map fun n : Nat => D.int n)), .ow (.lst [])]⟩) ?_
            walk_at "w"
            refine ⟨⟨_, by rw [setC_nil]; rfl⟩, fun pre r suf e ρ hJ => ?_, fun ρ hJ => ?_⟩
            · obtain ⟨s8, rfl⟩ := hJ
              refine ⟨_, rfl, ?_⟩
              have hpre : ∀ q ∈ pre, q < x.length := fun q hq => hdx q (by rw [e]; exact List.mem_append.mpr (.inl hq))
              have hrx : r < x.length := hdx r (by rw [e]; simp)
              have h5 : ixD (.lst ((setC x pre s).map encC)) (.int (fst0 p.1 : Nat)) = some (.int s) := by
                rw [ixCL (by rw [setC_len]; exact gp.h1n _ (fst0_mem gp.ne)), setC_at hpre, hs]
                split <;> rfl
              walk_at "w"
              refine ⟨_, rfl, _, rfl, r, ?_, ?_⟩
              · unfold L2.ixN
                rw [if_pos (by omega), if_pos (by rw [List.length_map, setC_len]; omega)]
                rfl
              · refine aft_nx ⟨.sh (.int r), ?_⟩
                rw [← setC_snoc hpre hrx, List.map_set]
                rfl
            · obtain ⟨s8, rfl⟩ := hJ
              walk_at "w"
              · rw [List.length_map]
                show _ < big
                omega
              · refine ⟨b, setC x (diffs x p) s, st ++ [(p.1, diffs x p)], .sh (.int j), .sh (.tup [encL p.1, .lst ((diffs x p).map fun n : Nat => D.int n)]), .sh (encL p.1), s7, s8, .sh (.lst ((diffs x p).map fun n : Nat => D.int n)), .ow (.lst []), ?_, by rw [setC_len]; exact hxl, by rw [List.length_append]; show st.length + 1 ≤ j + 1; omega, by rw [hfk, show n + 1 - (j + 1) = k from by omega]⟩
                rw [List.map_append]
                rfl
  · obtain ⟨b, x, st, s4, s5, s6, s7, s8, s9, s10, rfl, hxl, hst, hfl⟩ := hJ
    walk_at "w"
    rw [hfl, Nat.sub_self] at q
    exact q _
end LK19

end
section
set_option Elab.async false
set_option linter.all false
set_option maxRecDepth 100000
set_option maxHeartbeats 4000000
open PySem ND LK19
set_option hygiene false in
local macro_rules | `(tactic| walk_at "nm") => `(tactic| (try dsimp only [setS, putB_t, putB_f, stB, stL, wipeE, wipL, restE, restL, keepSh, List.set_cons_succ, List.set_cons_zero, List.map_cons, List.map_nil, List.cons_append, List.nil_append, List.replicate_succ, List.replicate_zero, List.length_cons, List.length_nil, if_true, ↓reduceIte, Nat.reduceAdd, Nat.reduceSub, Nat.reduceMul, List.contains, List.elem, Nat.reduceBEq, Nat.reduceAdd, cond_true, cond_false, Bool.false_eq_true, Bool.not_true, Bool.not_false] at *))
set_option hygiene false in
local macro_rules | `(tactic| walk_at "op") => `(tactic| fail)
set_option hygiene false in
local macro_rules | `(tactic| walk_at "w") => `(tactic| (repeat' (first
 | ((with_reducible apply m_run); exact rfl; walk_at "nm")
 | ((with_reducible first | apply ws_set | apply ws_if | apply w_set | apply w_if | apply w_ret | apply ws_bagSt | apply w_ite); walk_at "nm")
 | with_reducible first | apply ws_seq | apply ws_skip | apply ws_ret | apply ws_retO | apply ws_retN | apply ws_brk | apply ws_cnt | apply ws_drop | apply ws_par | apply ws_par3 | apply ws_unp | apply w_bagSt | apply w_retN | apply w_skip | apply w_brk | apply w_cnt' | apply w_drop | apply w_par | apply w_par3 | apply w_unp | apply w_cst | apply w_vD | apply w_dV | apply w_lift2 | apply w_lift2L | apply w_un1 | apply w_testB | apply w_testV | apply w_notT | apply w_andT | apply w_orT | apply w_andV | apply w_orV | apply w_notV | apply w_anil | apply w_acons | apply w_tup | apply w_lst | apply w_cnt | apply w_callP | apply w_callD | apply w_callK | apply w_bltE | apply w_bltQ | apply w_bltQL | apply w_bltL | apply w_join | apply w_sl | apply w_noP | apply w_parP | apply w_dic | apply w_pnil | apply w_pcons | apply w_seqI | apply w_rngI | apply w_zipI | apply w_yes | apply rq_rt | apply rq_nx | apply ex_inS1 | apply w_lift2V | apply sq_nx | apply sq_ct | apply sq_bk | apply sq_rt | apply aft_nx | apply aft_ct | apply aft_bk | apply aft_rt | apply w_iNil | apply w_iCons | apply w_lendG | apply w_excE | apply w_chn | apply w_newE | apply ws_unpDV | apply ws_unpVV | apply w_setDS | apply ws_setDS | apply w_pixG | apply w_revE
 | ((with_reducible first | apply ws_aug | apply w_retO_sh | apply w_aug | apply w_vr_sh | apply w_pk | apply w_callB | apply w_bagIx); exact rfl)
 | ((with_reducible first | apply w_retO_ow | apply w_vr_ow); exact rfl)
 | ((with_reducible first | apply w_vr_put | apply w_pk_put | apply w_iSlot_put); exact rfl)
 | ((with_reducible apply w_retO_put); exact rfl; intro rho rhob)
 | ((with_reducible first | apply w_lendH | apply w_iSlot | apply w_meth | apply ex_rev); exact rfl)
 | first | refine ex_app (by exact rfl) ?_ ?_ | refine ex_ext (by exact rfl) ?_ ?_
 | walk_at "op"
 | ((with_reducible first | apply ex_isiT | apply ex_isi2T | apply ex_isXT | apply ex_isX2T); (first | exact rfl | assumption); decide +kernel)
 | ((with_reducible first | apply ex_isiF | apply ex_isi2F | apply ex_isXF | apply ex_isX2F); (first | exact rfl | assumption); decide +kernel)
 | ((with_reducible apply ex_isXE); decide +kernel)
 | ((with_reducible apply ex_isXE2); decide +kernel; decide +kernel)
 | ((with_reducible apply ex_eqs); (first | assumption | decide +kernel); (first | assumption | decide +kernel))
 | ((with_reducible apply ex_lenS); first | assumption | omega)
 | ((with_reducible refine ex_slS ?_ ?_ (fun sy syo syl => ?_)); omega; assumption)
 | ((with_reducible first | refine ex_addS ?_ ?_ ?_ (fun sz szo szl => ?_) | refine or_addS ?_ ?_ ?_ (fun sz szo szl => ?_)); (first | assumption | decide +kernel); (first | assumption | decide +kernel); (first | omega | decide +kernel))
 | with_reducible first | refine ex_mul (by decide) ?_ | refine ex_mod (by first | assumption | decide | (dsimp only; omega)) ?_ | refine ex_fdiv (by first | assumption | decide | (dsimp only; omega)) (by first | assumption | decide | (dsimp only; omega)) ?_ | apply ex_eqi | apply ex_eqb | apply ex_neb | refine ex_pow (by decide) (by first | omega | (dsimp only; omega)) ?_
 | ((with_reducible refine ex_ixns ?_ ?_ (fun it => ?_)); assumption; assumption)
 | ((with_reducible first | apply ex_one | apply ex_par | apply ex_par3); exact rfl)
 | ((with_reducible apply ex_bag); exact rfl; exact rfl; exact rfl)
 | ((with_reducible apply ex_join); exact rfl; exact rfl)
 | ((with_reducible refine And.intro (fun hk => ?_) (fun hk => ?_)) <;> try cases hk)
 | ((with_reducible show _ < big); first | with_reducible assumption | omega)
 | with_reducible first | (apply Pl_as; assumption) | exact pl_C _ _ | exact Pl.bl _ _ | exact Pl.int _ _ | exact Pl.non _ | exact pls_nil | apply pls_cons | apply pl_R | apply pl_Rs | apply pl_lst | apply pl_tup
 | ((with_reducible show _ ≤ big); first | with_reducible assumption | exact Nat.le_of_ble_eq_true rfl | omega)
 | ((with_reducible apply And.intro); first | exact rfl | exact Nat.le_of_ble_eq_true rfl))))
local macro_rules | `(tactic| walk_at "op") => `(tactic| with_reducible refine ex_one (bD_isC _) ?_)
local macro_rules | `(tactic| walk_at "op") => `(tactic| with_reducible refine ex_one (nD_isC _) ?_)
local macro_rules | `(tactic| walk_at "op") => `(tactic| with_reducible refine ex_one (bD_eqC _ _) ?_)
local macro_rules | `(tactic| walk_at "op") => `(tactic| with_reducible refine ex_one (nD_eqC _ _) ?_)
local macro_rules | `(tactic| walk_at "op") => `(tactic| with_reducible refine ex_one (nD_eqi _ _) ?_)
local macro_rules | `(tactic| walk_at "op") => `(tactic| with_reducible refine ex_one (nD_eqn _ _) ?_)
local macro_rules | `(tactic| walk_at "op") => `(tactic| with_reducible refine ex_one (bD_eqn _ _) ?_)
local macro_rules | `(tactic| walk_at "op") => `(tactic| with_reducible refine ex_one (lenR _) ?_)
local macro_rules | `(tactic| walk_at "op") => `(tactic| with_reducible refine ex_one (seqR _) ?_)
local macro_rules | `(tactic| walk_at "op") => `(tactic| with_reducible refine ex_one (zipR _ _) ?_)
local macro_rules | `(tactic| walk_at "op") => `(tactic| with_reducible refine ex_one (tupR _) ?_)
local macro_rules | `(tactic| walk_at "op") => `(tactic| with_reducible refine ex_one (allD_map _ _) ?_)
local macro_rules | `(tactic| walk_at "op") => `(tactic| with_reducible refine ex_one (seqL _) ?_)
local macro_rules | `(tactic| walk_at "op") => `(tactic| with_reducible refine ex_one (lenL _) ?_)
local macro_rules | `(tactic| walk_at "op") => `(tactic| with_reducible refine ex_one (nD_inC _) ?_)
local macro_rules | `(tactic| walk_at "op") => `(tactic| with_reducible refine ex_one (bW_T _ _) ?_)
local macro_rules | `(tactic| walk_at "op") => `(tactic| with_reducible refine ex_one (bW_Ls _ _) ?_)
local macro_rules | `(tactic| walk_at "op") => `(tactic| with_reducible refine ex_one (inG_T) ?_)
set_option hygiene false in
local macro_rules | `(tactic| walk_at "op") => `(tactic| (refine ex_one (by with_reducible assumption) ?_))
namespace LK19
open PySem ND
variable {d : D} {count : Int} {b : Bag} {R : D → Bool → Bag → Prop} {x x0 : List Cl} {y : List Nat} {c : Nat} {p : List Nat × List Nat} {ps : List (List Nat × List Nat)} {n s : Nat}
def rowA (rows : List (List Cl)) (r : Nat) : List Cl := rows.getD r []
theorem ixRow {rows : List (List Cl)} {r : Nat} (h : r < rows.length) : ixD (.lst (rows.map encR)) (.int r) = some (encR (rowA rows r)) := ixL_nat (by
  unfold rowA
  rw [List.getElem?_map, List.getElem?_eq_getElem h, List.getD_eq_getElem?_getD, List.getElem?_eq_getElem h]
  rfl)
def toldB (rows : List (List Cl)) (y : List Nat) (i : Nat) : Bool := y.all fun r => (atC (rowA rows r) i).isSome
def likeB (rows : List (List Cl)) (y told : List Nat) (r : Nat) : Bool := told.all fun i => decide (atC (rowA rows r) i = atC (rowA rows (fst0 y)) i)
theorem l_asking_spec {rows : List (List Cl)} (hr : rows.length = n) (h0 : 0 < n) (hn : n ≤ 7) (hw : ∀ x ∈ rows, x.length = 3) (q : ∀ (ps : List (List Nat × List Nat)) b, ps.length ≤ 200 → (∀ p ∈ ps, (GoodP n p ∧ Asc p.2) ∧ p.1 ∈ lotsN n n) → R (.lst (ps.map encP)) true b) : M m_l_asking [.lst (rows.map encR)] b R := by
  have hg := bigN
  obtain ⟨hne, hok⟩ := lots_ok ⟨n, by omega⟩ h0
  dsimp only at hne hok
  have hlen := (lots_len n hn n hn).1
  have hlr : lenD (.lst (rows.map encR)) = some (.int (n : Nat)) := by show some (D.int _) = _; rw [List.length_map, hr]
  have hrow : ∀ r, r < n → (rowA rows r).length = 3 := fun r h => hw _ (by
    unfold rowA
    rw [List.getD_eq_getElem?_getD, List.getElem?_eq_getElem (by omega)]
    exact List.getElem_mem _)
  have hr3 := rngL 3 (by omega)
  have hrn := rngL n (by omega)
  unfold m_l_asking g_l_asking
  walk_at "w"
  refine w_sq ?_
  refine w_forM encL (lotsN n n) (fun pre ρ => ∃ (b : Bag) (ps : List (List Nat × List Nat)) (s2 s3 s4 s5 s6 s7 : SD), ρ = ⟨b, [.sh (.lst (rows.map encR)), .ow (.lst (ps.map encP)), s2, s3, s4, s5, s6, s7]⟩ ∧ (∀ p ∈ ps, (GoodP n p ∧ Asc p.2) ∧ p.1 ∈ lotsN n n) ∧ ps.length ≤ pre.length) ?_
  walk_at "w"
  refine l_lots_spec hn fun fr b => ?_
  walk_at "w"
  refine ⟨⟨_, [], _, _, _, _, _, _, rfl, (fun p h => by cases h), Nat.le_refl _⟩, fun pre y suf e ρ hJ => ?_, fun ρ hJ => ?_⟩
  · obtain ⟨b, ps, s2, s3, s4, s5, s6, s7, rfl, hps, hpl⟩ := hJ
    refine ⟨_, rfl, ?_⟩
    have hmem : y ∈ lotsN n n := by rw [e]; simp
    obtain ⟨hy1, hy2, hy3⟩ := hok y hmem
    have h1 := ixL0 hy1
    have hf := fst0_mem hy1
    have h2 := ixRow (rows := rows) (r := fst0 y) (by have := hy3 _ hf; omega)
    have h3 : lenD (encR (rowA rows (fst0 y))) = some (.int (3 : Nat)) := by show some (D.int _) = _; rw [List.length_map, hrow _ (hy3 _ hf)]
    walk_at "w"
    refine w_lcFI (fun n : Nat => D.int n) (fun n : Nat => D.int n) (toldB rows y) (List.range 3) ?_
    walk_at "w"
    refine ⟨fun ρ => ∃ s4 s5 s6 s7, ρ = ⟨b, [.sh (.lst (rows.map encR)), .ow (.lst (ps.map encP)), .sh (encL y), .sh (encR (rowA rows (fst0 y))), s4, s5, s6, s7]⟩, ⟨_, _, _, _, rfl⟩, fun i hi ρ hI => ?_, fun ρ hI => ?_⟩
    · obtain ⟨s4, s5, s6, s7, rfl⟩ := hI
      refine ⟨_, rfl, ?_⟩
      have hi3 := List.mem_range.mp hi
      walk_at "w"
      refine w_lcM (fun n : Nat => D.int n) (fun r => D.bl (atC (rowA rows r) i).isSome) y ?_
      walk_at "w"
      refine ⟨by omega, fun r hr => ⟨_, rfl, ?_⟩, ?_⟩
      · have hrn := hy3 r hr
        have h4 := ixRow (rows := rows) (r := r) (by omega)
        have h5 := ixC (x := rowA rows r) (r := i) (by rw [hrow r hrn]; exact hi3)
        walk_at "w"
        exact ⟨by rw [not_isNone], rfl⟩
      · walk_at "w"
        · exact ⟨_, _, _, _, rfl⟩
        · exact ⟨_, _, _, _, rfl⟩
    · obtain ⟨s4, s5, s6, s7, rfl⟩ := hI
      generalize ht : (List.range 3).filter (toldB rows y) = told
      have htl : ∀ i ∈ told, i < 3 := fun i hi => by rw [← ht] at hi; exact List.mem_range.mp (List.mem_filter.mp hi).1
      have htn : told.length ≤ 3 := by
        have := List.length_filter_le (toldB rows y) (List.range 3)
        rw [ht] at this
        simpa using this
      walk_at "w"
      refine w_lcFI (fun n : Nat => D.int n) (fun n : Nat => D.int n) (likeB rows y told) (List.range n) ?_
      walk_at "w"
      refine ⟨by rw [List.length_range]; omega, fun ρ => ∃ fr4 s5 s6 s7, ρ = ⟨b, [.sh (.lst (rows.map encR)), .ow (.lst (ps.map encP)), .sh (encL y), .sh (encR (rowA rows (fst0 y))), putB fr4 (.lst (told.map fun n : Nat => D.int n)), s5, s6, s7]⟩, ⟨true, _, _, _, rfl⟩, fun r hr ρ hI => ?_, fun ρ hI => ?_⟩
      · obtain ⟨fr4, s5, s6, s7, rfl⟩ := hI
        refine ⟨_, rfl, ?_⟩
        have hrn := List.mem_range.mp hr
        have h4 := ixRow (rows := rows) (r := r) (by omega)
        walk_at "w"
        refine w_lcM (fun n : Nat => D.int n) (fun i => D.bl (decide (atC (rowA rows r) i = atC (rowA rows (fst0 y)) i))) told ?_
        walk_at "w"
        refine ⟨by omega, fun i hi => ⟨_, rfl, ?_⟩, ?_⟩
        · have hi3 := htl i hi
          have h5 := ixC (x := rowA rows r) (r := i) (by rw [hrow r hrn]; exact hi3)
          have h6 := ixC (x := rowA rows (fst0 y)) (r := i) (by rw [hrow _ (hy3 _ hf)]; exact hi3)
          walk_at "w"
          exact rfl
        · walk_at "w"
          · exact ⟨false, _, _, _, rfl⟩
          · exact ⟨false, _, _, _, rfl⟩
      · obtain ⟨fr4, s5, s6, s7, rfl⟩ := hI
        generalize hal : (List.range n).filter (likeB rows y told) = al
        have hasc : Asc al := by rw [← hal]; exact asc_filter _ (by omega)
        have haln : ∀ r ∈ al, r < n := fun r hr => by rw [← hal] at hr; exact List.mem_range.mp (List.mem_filter.mp hr).1
        have hall : al.length ≤ n := by
          have := List.length_filter_le (likeB rows y told) (List.range n)
          rw [hal] at this
          simpa using this
        walk_at "w"
        refine w_lcFI (fun n : Nat => D.int n) (fun r => D.bl (decide (r ∈ al))) (fun _ => true) y ?_
        walk_at "w"
        refine ⟨by omega, fun ρ => ∃ fr4 fr5 s6 s7, ρ = ⟨b, [.sh (.lst (rows.map encR)), .ow (.lst (ps.map encP)), .sh (encL y), .sh (encR (rowA rows (fst0 y))), putB fr4 (.lst (told.map fun n : Nat => D.int n)), putB fr5 (.lst (al.map fun n : Nat => D.int n)), s6, s7]⟩, ⟨fr4, true, _, _, rfl⟩, fun r hr ρ hI => ?_, fun ρ hI => ?_⟩
        · obtain ⟨fr4, fr5, s6, s7, rfl⟩ := hI
          refine ⟨_, rfl, ?_⟩
          walk_at "w"
          exact ⟨fr4, false, _, _, rfl⟩
        · obtain ⟨fr4, fr5, s6, s7, rfl⟩ := hI
          rw [show y.filter (fun _ => true) = y from List.filter_eq_self.mpr fun _ _ => rfl]
          walk_at "w"
          · rw [List.length_map]
            have := congrArg List.length e
            rw [List.length_append, List.length_cons] at this
            show _ < big
            omega
          · refine ⟨b, ps ++ [(y, al)], _, _, _, _, _, _, by rw [List.map_append]; rfl, fun p hp => ?_, by rw [List.length_append, List.length_append]; exact Nat.add_le_add_right hpl 1⟩
            rcases List.mem_append.mp hp with hp | hp
            · exact hps p hp
            · rw [List.mem_singleton] at hp
              subst hp
              refine ⟨⟨⟨hy2, by show al.length ≤ 7; omega, hy1, fun r hr => ?_, haln⟩, hasc⟩, hmem⟩
              exact of_decide_eq_true (List.all_eq_true.mp hk r hr)
          · exact ⟨b, ps, _, _, _, _, _, _, rfl, hps, by rw [List.length_append]; omega⟩
  · obtain ⟨b, ps, s2, s3, s4, s5, s6, s7, rfl, hps, hpl⟩ := hJ
    walk_at "w"
    exact q _ _ (by omega) hps
end LK19

end
section
set_option Elab.async false
set_option linter.all false
set_option maxRecDepth 100000
set_option maxHeartbeats 8000000
open PySem ND LK19
set_option hygiene false in
local macro_rules | `(tactic| walk_at "nm") => `(tactic| (try dsimp only [setS, putB_t, putB_f, stB, stL, wipeE, wipL, restE, restL, keepSh, List.set_cons_succ, List.set_cons_zero, List.map_cons, List.map_nil, List.cons_append, List.nil_append, List.replicate_succ, List.replicate_zero, List.length_cons, List.length_nil, if_true, ↓reduceIte, Nat.reduceAdd, Nat.reduceSub, Nat.reduceMul, List.contains, List.elem, Nat.reduceBEq, Nat.reduceAdd, cond_true, cond_false, Bool.false_eq_true, Bool.not_true, Bool.not_false] at *))
set_option hygiene false in
local macro_rules | `(tactic| walk_at "op") => `(tactic| fail)
set_option hygiene false in
local macro_rules | `(tactic| walk_at "w") => `(tactic| (repeat' (first
 | ((with_reducible apply m_run); exact rfl; walk_at "nm")
 | ((with_reducible first | apply ws_set | apply ws_if | apply w_set | apply w_if | apply w_ret | apply ws_bagSt | apply w_ite); walk_at "nm")
 | with_reducible first | apply ws_seq | apply ws_skip | apply ws_ret | apply ws_retO | apply ws_retN | apply ws_brk | apply ws_cnt | apply ws_drop | apply ws_par | apply ws_par3 | apply ws_unp | apply w_bagSt | apply w_retN | apply w_skip | apply w_brk | apply w_cnt' | apply w_drop | apply w_par | apply w_par3 | apply w_unp | apply w_cst | apply w_vD | apply w_dV | apply w_lift2 | apply w_lift2L | apply w_un1 | apply w_testB | apply w_testV | apply w_notT | apply w_andT | apply w_orT | apply w_andV | apply w_orV | apply w_notV | apply w_anil | apply w_acons | apply w_tup | apply w_lst | apply w_cnt | apply w_callP | apply w_callD | apply w_callK | apply w_bltE | apply w_bltQ | apply w_bltQL | apply w_bltL | apply w_join | apply w_sl | apply w_noP | apply w_parP | apply w_dic | apply w_pnil | apply w_pcons | apply w_seqI | apply w_rngI | apply w_zipI | apply w_yes | apply rq_rt | apply rq_nx | apply ex_inS1 | apply w_lift2V | apply sq_nx | apply sq_ct | apply sq_bk | apply sq_rt | apply aft_nx | apply aft_ct | apply aft_bk | apply aft_rt | apply w_iNil | apply w_iCons | apply w_lendG | apply w_excE | apply w_chn | apply w_newE | apply ws_unpDV | apply ws_unpVV | apply w_setDS | apply ws_setDS | apply w_pixG | apply w_revE
 | ((with_reducible first | apply ws_aug | apply w_retO_sh | apply w_aug | apply w_vr_sh | apply w_pk | apply w_callB | apply w_bagIx); exact rfl)
 | ((with_reducible first | apply w_retO_ow | apply w_vr_ow); exact rfl)
 | ((with_reducible first | apply w_vr_put | apply w_pk_put | apply w_iSlot_put); exact rfl)
 | ((with_reducible apply w_retO_put); exact rfl; intro rho rhob)
 | ((with_reducible first | apply w_lendH | apply w_iSlot | apply w_meth | apply ex_rev); exact rfl)
 | first | refine ex_app (by exact rfl) ?_ ?_ | refine ex_ext (by exact rfl) ?_ ?_
 | walk_at "op"
 | ((with_reducible first | apply ex_isiT | apply ex_isi2T | apply ex_isXT | apply ex_isX2T); (first | exact rfl | assumption); decide +kernel)
 | ((with_reducible first | apply ex_isiF | apply ex_isi2F | apply ex_isXF | apply ex_isX2F); (first | exact rfl | assumption); decide +kernel)
 | ((with_reducible apply ex_isXE); decide +kernel)
 | ((with_reducible apply ex_isXE2); decide +kernel; decide +kernel)
 | ((with_reducible apply ex_eqs); (first | assumption | decide +kernel); (first | assumption | decide +kernel))
 | ((with_reducible apply ex_lenS); first | assumption | omega)
 | ((with_reducible refine ex_slS ?_ ?_ (fun sy syo syl => ?_)); omega; assumption)
 | ((with_reducible first | refine ex_addS ?_ ?_ ?_ (fun sz szo szl => ?_) | refine or_addS ?_ ?_ ?_ (fun sz szo szl => ?_)); (first | assumption | decide +kernel); (first | assumption | decide +kernel); (first | omega | decide +kernel))
 | with_reducible first | refine ex_mul (by decide) ?_ | refine ex_mod (by first | assumption | decide | (dsimp only; omega)) ?_ | refine ex_fdiv (by first | assumption | decide | (dsimp only; omega)) (by first | assumption | decide | (dsimp only; omega)) ?_ | apply ex_eqi | apply ex_eqb | apply ex_neb | refine ex_pow (by decide) (by first | omega | (dsimp only; omega)) ?_
 | ((with_reducible refine ex_ixns ?_ ?_ (fun it => ?_)); assumption; assumption)
 | ((with_reducible first | apply ex_one | apply ex_par | apply ex_par3); exact rfl)
 | ((with_reducible apply ex_bag); exact rfl; exact rfl; exact rfl)
 | ((with_reducible apply ex_join); exact rfl; exact rfl)
 | ((with_reducible refine And.intro (fun hk => ?_) (fun hk => ?_)) <;> try cases hk)
 | ((with_reducible show _ < big); first | with_reducible assumption | omega)
 | with_reducible first | (apply Pl_as; assumption) | exact pl_C _ _ | exact Pl.bl _ _ | exact Pl.int _ _ | exact Pl.non _ | exact pls_nil | apply pls_cons | apply pl_R | apply pl_Rs | apply pl_lst | apply pl_tup
 | ((with_reducible show _ ≤ big); first | with_reducible assumption | exact Nat.le_of_ble_eq_true rfl | omega)
 | ((with_reducible apply And.intro); first | exact rfl | exact Nat.le_of_ble_eq_true rfl))))
set_option hygiene false in
local macro_rules | `(tactic| walk_at "op") => `(tactic| (refine ex_one (by with_reducible assumption) ?_))
local macro_rules | `(tactic| walk_at "op") => `(tactic| with_reducible refine ex_one (bD_isC _) ?_)
local macro_rules | `(tactic| walk_at "op") => `(tactic| with_reducible refine ex_one (nD_isC _) ?_)
local macro_rules | `(tactic| walk_at "op") => `(tactic| with_reducible refine ex_one (bD_eqC _ _) ?_)
local macro_rules | `(tactic| walk_at "op") => `(tactic| with_reducible refine ex_one (nD_eqC _ _) ?_)
local macro_rules | `(tactic| walk_at "op") => `(tactic| with_reducible refine ex_one (nD_eqi _ _) ?_)
local macro_rules | `(tactic| walk_at "op") => `(tactic| with_reducible refine ex_one (nD_eqn _ _) ?_)
local macro_rules | `(tactic| walk_at "op") => `(tactic| with_reducible refine ex_one (bD_eqn _ _) ?_)
local macro_rules | `(tactic| walk_at "op") => `(tactic| with_reducible refine ex_one (lenR _) ?_)
local macro_rules | `(tactic| walk_at "op") => `(tactic| with_reducible refine ex_one (seqR _) ?_)
local macro_rules | `(tactic| walk_at "op") => `(tactic| with_reducible refine ex_one (zipR _ _) ?_)
local macro_rules | `(tactic| walk_at "op") => `(tactic| with_reducible refine ex_one (tupR _) ?_)
local macro_rules | `(tactic| walk_at "op") => `(tactic| with_reducible refine ex_one (allD_map _ _) ?_)
local macro_rules | `(tactic| walk_at "op") => `(tactic| with_reducible refine ex_one (seqL _) ?_)
local macro_rules | `(tactic| walk_at "op") => `(tactic| with_reducible refine ex_one (lenL _) ?_)
local macro_rules | `(tactic| walk_at "op") => `(tactic| with_reducible refine ex_one (nD_inC _) ?_)
local macro_rules | `(tactic| walk_at "op") => `(tactic| with_reducible refine ex_one (nD_eqL _ _) ?_)
set_option hygiene false in
local macro_rules | `(tactic| walk_at "op") => `(tactic| (with_reducible first | apply ws_setI | apply w_setI))
set_option hygiene false in
local macro_rules | `(tactic| walk_at "op") => `(tactic| (with_reducible apply ex_int))
set_option hygiene false in
local macro_rules | `(tactic| walk_at "op") => `(tactic| ((with_reducible apply ex_slot); exact rfl))
namespace LK19
open PySem ND
variable {b : Bag}
theorem low_lots : ∀ c : Fin 8, ∀ y ∈ lotsN c c, Builtin.bitAnd (maskN y : Nat) (-((maskN y : Nat) : Int)) = ((1 <<< fst0 y : Nat) : Int) := by decide +kernel
def ok3 (x : List Cl) : Prop := ∀ v ∈ x, ∀ t, v = some t → t < 3
theorem ok3_v {x : List Cl} (h : ok3 x) : V3 x := fun r t e => by
  unfold atC at e
  rw [List.getD_eq_getElem?_getD] at e
  cases hx : x[r]? with
  | none => rw [hx] at e; cases e
  | some c =>
    rw [hx] at e
    exact h c (List.mem_of_getElem? hx) t e
theorem ok3_of {x : List Cl} (h : V3 x) : ok3 x := fun v hv t e => by
  obtain ⟨r, hr⟩ := List.getElem?_of_mem hv
  refine h r t ?_
  unfold atC
  rw [List.getD_eq_getElem?_getD, hr]
  exact e
theorem ok3_set {x : List Cl} {v : Cl} (h : ok3 x) (hv : ∀ t, v = some t → t < 3) (j : Nat) : ok3 (x.set j v) := fun w hw t e => by
  rcases List.mem_or_eq_of_mem_set hw with z | z
  · exact h w z t e
  · exact hv t (by rw [← z]; exact e)
theorem ok3_rep (n : Nat) : ok3 (List.replicate n none) := fun v hv t e => by
  rw [(List.mem_replicate.mp hv).2] at e
  cases e
theorem flat_none : ∀ n : Nat, (List.replicate n [D.non]).flatten = (List.replicate n (none : Cl)).map encC
  | 0 => rfl
  | n + 1 => by rw [List.replicate_succ, List.replicate_succ, List.flatten_cons, flat_none n]; rfl
theorem rep_none {c : Nat} (hc : c ≤ 7) : repD (.lst [.non]) (.int c) = some ((List.replicate c none).map encC) := by
  have hg := bigN
  show (if _ then _ else _) = _
  rw [if_pos ⟨by omega, by omega, by show 1 * _ ≤ _; omega⟩, Int.toNat_natCast, flat_none]
theorem ne_pairs (ps : List (List Nat × List Nat)) : nD eqD (.lst (ps.map encP)) (.lst (ps.map encP)) = some (.bl false) := by
  have h : Pd 3 (.lst (ps.map encP)) := .lst fun d hd => by
    obtain ⟨p, _, rfl⟩ := List.mem_map.mp hd
    exact pd_P p
  unfold nD
  rw [eqD_to h h (b := true) (by decide) (by simp)]
  rfl
/-- a drawn cell -/
def CV (k : Nat) (d : D) : Prop := ∃ c : Cl, d = encC c ∧ ∀ t, c = some t → t < 3
theorem cv_mem {k : Nat} {ds : List D} {d : D} (h : ∀ d ∈ ds, CV k d) (hd : d ∈ ds) : CV k d := h d hd
theorem cv_n {k : Nat} : CV k .non := ⟨none, rfl, fun t h => by cases h⟩
theorem cv_i {k : Nat} (i : Nat) (h : i < 3) : CV k (.int i) := ⟨some i, rfl, fun t h => by cases h; omega⟩
theorem cv_k {k : Nat} (h : k = 2 ∨ k = 3) : CV k (.int ((k : Int) - 1)) := ⟨some (k - 1), by show D.int _ = D.int _; congr 1; omega, fun t h => by cases h; omega⟩
def J1 (k n : Nat) (ps : List (List Nat × List Nat)) (j : Nat) (ρ : En) : Prop := ∃ b fr4 x5 s6 s7 s8 s9 s10 s11 s12 s13 s14 s15 s16 s17 s18, ρ = ⟨b, [.un, .bag, .sh (.int k), .sh (.int n), putB fr4 (.lst (ps.map encP)), .sh (encR x5), s6, s7, s8, s9, s10, s11, s12, s13, s14, s15, s16, s17, s18]⟩ ∧ BagOk b ∧ x5.length = n ∧ ok3 x5
theorem pl_Ps {j : Nat} {st : List (List Nat × List Nat)} (hl : st.length ≤ 8) (h : ∀ q ∈ st, q.1.length ≤ 8 ∧ q.2.length ≤ 8) : Pl (j + 4) (.lst (st.map encP)) := by
  have hg := bigN
  refine pl_lst (by rw [List.length_map]; omega) (pls_map fun q hq => ?_)
  have := h q hq
  exact pl_tup (Nat.le_of_ble_eq_true rfl) (pls_cons (pl_tup (by rw [List.length_map]; omega) (pls_map fun _ _ => .int _ _)) (pls_cons (pl_tup (by rw [List.length_map]; omega) (pls_map fun _ _ => .int _ _)) pls_nil))
theorem law_true : ∀ b : Bag, BagOk b → ∃ ρ, g_law (lawE 17 b) = .ok (.rt (.bl true) false, ρ) := by
  intro b hb
  have hg := bigN
  have : W (g_law (lawE 17 b)) fun fl _ => fl = .rt (.bl true) false := by
    unfold g_law
    walk_at "w"
    refine of_spec hb (by simp) (Nat.le_of_ble_eq_true rfl) fun d hd b hb => ?_
    obtain ⟨k, rfl, hk⟩ : ∃ k : Nat, d = .int k ∧ (k = 2 ∨ k = 3) := by
      simp only [List.mem_cons, List.not_mem_nil, or_false] at hd
      rcases hd with rfl | rfl
      · exact ⟨2, rfl, .inl rfl⟩
      · exact ⟨3, rfl, .inr rfl⟩
    clear hd
    walk_at "w"
    refine of_spec hb (by simp) (Nat.le_of_ble_eq_true rfl) fun d hd b hb => ?_
    obtain ⟨n, rfl, h0, hn⟩ : ∃ n : Nat, d = .int n ∧ 0 < n ∧ n ≤ 7 := by
      simp only [List.mem_cons, List.not_mem_nil, or_false] at hd
      rcases hd with rfl | rfl | rfl | rfl | rfl | rfl | rfl | rfl
      · exact ⟨3, rfl, by decide, by decide⟩
      · exact ⟨4, rfl, by decide, by decide⟩
      · exact ⟨5, rfl, by decide, by decide⟩
      · exact ⟨2, rfl, by decide, by decide⟩
      · exact ⟨4, rfl, by decide, by decide⟩
      · exact ⟨6, rfl, by decide, by decide⟩
      · exact ⟨1, rfl, by decide, by decide⟩
      · exact ⟨7, rfl, by decide, by decide⟩
    clear hd
    have hk2 := hk
    have hr3 := rngL 3 (by omega)
    have hrn := rngL n (by omega)
    walk_at "w"
    refine drawn_pairs_spec hb h0 hn (n := 9) (by decide) fun ps b hb hpl hps => ?_
    walk_at "nm"
    refine w_sq (W.mp (Q := fun fl ρ => fl = .nx ∧ ∃ (b : Bag) (fr4 : Bool) (ps : List (List Nat × List Nat)) (s16 s18 : SD), ρ = ⟨b, [.un, .bag, .sh (.int k), .sh (.int n), putB fr4 (.lst (ps.map encP)), .un, .un, .un, .un, .un, .un, .un, .un, .un, .un, .un, s16, .un, s18]⟩ ∧ BagOk b ∧ ps.length ≤ 200 ∧ ∀ p ∈ ps, (GoodP n p ∧ Asc p.2) ∧ p.1 ∈ lotsN n n) ?_ ?_)
    · walk_at "w"
      refine take_nat (k := 4) hb (by decide) (by decide) fun t b hb ht => ?_
      walk_at "w"
      · refine w_lcB (fun _ e => ∃ x : List Cl, e = encR x ∧ x.length = 3) ?_
        walk_at "w"
        refine ⟨by rw [List.length_map, List.length_range]; omega, hb, fun d hd b hb => ⟨_, rfl, ?_⟩, fun es b hb hle hP => ?_⟩
        · walk_at "w"
          refine w_lcB (fun _ e => CV k e) ?_
          walk_at "w"
          refine ⟨hb, fun d hd b hb => ⟨_, rfl, ?_⟩, fun es b hb hle hP => ?_⟩
          · walk_at "w"
            refine of_spec hb (by simp) (Nat.le_of_ble_eq_true rfl) fun d hd b hb => ?_
            walk_at "w"
            refine ⟨?_, hb, rfl⟩
            simp only [List.mem_cons, List.not_mem_nil, or_false] at hd
            rcases hd with rfl | rfl | rfl | rfl
            · exact cv_n
            · exact cv_i 0 (by decide)
            · exact cv_i 1 (by decide)
            · exact cv_k hk2
          · obtain ⟨x, rfl, hxv, hxl⟩ := ex_map encC (fun q => ∀ t, q = some t → t < 3) es (fun e he => by
              obtain ⟨i, hi, rfl⟩ := List.getElem_of_mem he
              exact hP i _ _ (List.getElem?_eq_getElem (by omega)) (List.getElem?_eq_getElem hi))
            rw [rng0_len] at hle
            have hx3 : x.length = 3 := by rw [hxl, hle]; rfl
            walk_at "w"
            exact ⟨⟨x, rfl, hx3⟩, hb, rfl⟩
        · obtain ⟨rows, rfl, hrw, hrl⟩ := ex_map encR (fun x => x.length = 3) es (fun e he => by
            obtain ⟨i, hi, rfl⟩ := List.getElem_of_mem he
            exact hP i _ _ (List.getElem?_eq_getElem (by omega)) (List.getElem?_eq_getElem hi))
          simp only [List.length_map, List.length_range] at hle
          walk_at "w"
          refine l_asking_spec (rows := rows) (by omega) h0 hn hrw fun ps b' hpl hps => ?_
          walk_at "nm"
          exact ⟨rfl, _, true, ps, _, _, rfl, hb, hpl, hps⟩
      · exact ⟨b, true, ps, _, _, rfl, hb, hpl, hps⟩
    clear hpl hps ps
    rintro fl ρ ⟨rfl, b, fr4, ps, s16, s18, rfl, hb, hpl, hps⟩
    refine sq_nx ?_
    have hrep := rep_none hn
    walk_at "w"
    refine w_sq ?_
    refine w_forN' ?_
    walk_at "w"
    refine ⟨5, J1 k n ps, rfl, ⟨b, fr4, List.replicate n none, _, _, _, _, _, _, _, _, _, _, _, _, _, rfl, hb, List.length_replicate, ok3_rep n⟩, fun j hj ρ hJ => ?_, fun ρ hJ => ?_⟩
    · obtain ⟨b, fr4, x5, s6, s7, s8, s9, s10, s11, s12, s13, s14, s15, s16, s17, s18, rfl, hb, h5l, h5o⟩ := hJ
      refine ⟨_, rfl, ?_⟩
      walk_at "w"
      refine w_lcB (fun _ e => CV k e) ?_
      walk_at "w"
      refine ⟨by rw [List.length_map, List.length_range]; omega, hb, fun d hd b hb => ⟨_, rfl, ?_⟩, fun es b hb hle hP => ?_⟩
      · walk_at "w"
        refine of_spec hb (by simp) (Nat.le_of_ble_eq_true rfl) fun d hd b hb => ?_
        walk_at "w"
        refine ⟨?_, hb, rfl⟩
        simp only [List.mem_cons, List.not_mem_nil, or_false] at hd
        rcases hd with rfl | rfl | rfl | rfl | rfl | rfl
        · exact cv_n
        · exact cv_n
        · exact cv_i 0 (by decide)
        · exact cv_i 1 (by decide)
        · exact cv_n
        · exact cv_k hk2
      · obtain ⟨x, rfl, hxv, hxl⟩ := ex_map encC (fun q => ∀ t, q = some t → t < 3) es (fun e he => by
          obtain ⟨i, hi, rfl⟩ := List.getElem_of_mem he
          exact hP i _ _ (List.getElem?_eq_getElem (by omega)) (List.getElem?_eq_getElem hi))
        simp only [List.length_map, List.length_range] at hle
        have hx0 : x.length = n := by omega
        have hxo : ok3 x := hxv
        clear hP hle hxl hxv
        walk_at "nm"
        refine w_sq (W.mp (Q := fun fl ρ => fl = .nx ∧ ∃ (b : Bag) (x : List Cl) (s15 s17 : SD), ρ = ⟨b, [.un, .bag, .sh (.int k), .sh (.int n), putB fr4 (.lst (ps.map encP)), .sh (encR x5), .sh (.int j), .ow (.lst (x.map encC)), s8, s9, s10, s11, s12, s13, s14, s15, s16, s17, s18]⟩ ∧ BagOk b ∧ x.length = n ∧ ok3 x) ?_ ?_)
        · walk_at "w"
          · refine of_spec hb (by simp) (Nat.le_of_ble_eq_true rfl) fun d hd b hb => ?_
            obtain ⟨c, rfl, hc⟩ : CV k d := by
              simp only [List.mem_cons, List.not_mem_nil, or_false] at hd
              rcases hd with rfl | rfl | rfl
              · exact cv_n
              · exact cv_i 0 (by decide)
              · exact cv_i 1 (by decide)
            refine ⟨_, rfl, ?_⟩
            walk_at "w"
            refine take_nat (k := n) hb h0 (by omega) fun i b hb hi => ?_
            have hset : (x5.map encC).set i (encC c) = (x5.set i c).map encC := by rw [List.map_set]
            refine ⟨x5.map encC, rfl, _, rfl, i, ?_, ?_⟩
            · unfold L2.ixN
              rw [if_pos (by omega), if_pos (by rw [List.length_map]; omega)]
              rfl
            · walk_at "nm"
              rw [hset]
              exact ⟨rfl, b, x5.set i c, _, _, rfl, hb, by rw [List.length_set]; exact h5l, ok3_set h5o hc i⟩
          · refine w_lcM encC (fun v => encC (if v.isNone then none else some 1)) x ?_
            walk_at "w"
            refine ⟨by omega, fun v hv => ⟨_, rfl, ?_⟩, ?_⟩
            · walk_at "w"
              · cases v with
                | none => exact ⟨rfl, rfl⟩
                | some z => simp at hk
              · cases v with
                | none => simp at hk
                | some z => exact ⟨rfl, rfl⟩
            · rw [show (x.map fun v => encC (if v.isNone then none else some 1)) = (x.map fun v => if v.isNone then none else some 1).map encC from by rw [List.map_map]; rfl]
              refine ⟨rfl, b, x.map fun v => if v.isNone then none else some 1, _, _, rfl, hb, by rw [List.length_map]; exact hx0, fun v hv t e => ?_⟩
              obtain ⟨w, _, rfl⟩ := List.mem_map.mp hv
              cases w with
              | none => cases e
              | some z => cases e; decide
          · exact ⟨b, x, _, _, rfl, hb, hx0, hxo⟩
        clear hx0 hxo x
        rintro fl ρ ⟨rfl, b, x, s15, s17, rfl, hb, hxl, hxo⟩
        refine sq_nx ?_
        have gen : ∀ pd, Hnd ps pd → Giv n ps pd x := fun pd h => ⟨h, hn, hxl, ok3_v hxo, fun p hp => ⟨(hps p hp).1, low_lots ⟨n, by omega⟩ p.1 (hps p hp).2⟩, by omega⟩
        have gL := gen _ (hndL ps)
        have hpp : ∀ p ∈ ps, GoodP n p ∧ Asc p.2 := fun p hp => (hps p hp).1
        rcases fill_alt gL with ⟨f, st, hf⟩ | ⟨p, w, st, hf⟩
        · obtain ⟨inv, hkeep, hst⟩ := fill_good gL hf
          walk_at "w"
          refine l_steps_spec hxl hn hpp (by omega) fun _ => ?_
          rw [hf]
          unfold outF
          walk_at "w"
          refine take_nat (k := 2) hb (by decide) (by decide) fun t b hb ht => ?_
          have hl1 : listA (.lst (ps.map encP)) = some (ps.map encP) := rfl
          have hl2 : listA (.tup (ps.map encP)) = some (ps.map encP) := rfl
          have hnp := ne_pairs ps
          have hff := fill_end (k := n + 1) (st := []) hkeep
          have hpf : Pl 6 (encR f) := pl_R _ (by rw [inv.len]; omega)
          have hps : Pl 6 (.lst (st.map encP)) := pl_Ps hst inv.sl
          walk_at "w"
          · have gp := gen _ (hndL ps)
            have gf : Giv n ps _ f := ⟨hndL ps, hn, inv.len, inv.v, gL.hp, gL.len⟩
            refine tell0_ok gp hf fun _ => ?_
            walk_at "w"
            refine tell1_ok gp hf fun _ => ?_
            walk_at "w"
            refine same_eq rfl hpf fun _ => ?_
            walk_at "w"
            refine same_eq rfl hps fun _ => ?_
            walk_at "w"
            · rw [List.length_map]
              show _ < big
              omega
            refine tell1_ok gp hf fun _ => ?_
            walk_at "w"
            refine same_eq rfl hps fun _ => ?_
            walk_at "w"
            refine tell0_ok gf hff fun _ => ?_
            walk_at "w"
            refine same_eq rfl hpf fun _ => ?_
            walk_at "w"
            refine tell1_ok gf hff fun _ => ?_
            walk_at "w"
            refine same_eq rfl (pl_lst (Nat.le_of_ble_eq_true rfl) pls_nil) fun _ => ?_
            walk_at "w"
            exact ⟨b, false, f, _, _, _, _, _, _, _, _, _, _, _, _, _, rfl, hb, inv.len, ok3_of inv.v⟩
          · have gp := gen _ (hndT ps)
            have gf : Giv n ps _ f := ⟨hndT ps, hn, inv.len, inv.v, gL.hp, gL.len⟩
            refine tell0_ok gp hf fun _ => ?_
            walk_at "w"
            refine tell1_ok gp hf fun _ => ?_
            walk_at "w"
            refine same_eq rfl hpf fun _ => ?_
            walk_at "w"
            refine same_eq rfl hps fun _ => ?_
            walk_at "w"
            · rw [List.length_map]
              show _ < big
              omega
            refine tell1_ok gp hf fun _ => ?_
            walk_at "w"
            refine same_eq rfl hps fun _ => ?_
            walk_at "w"
            refine tell0_ok gf hff fun _ => ?_
            walk_at "w"
            refine same_eq rfl hpf fun _ => ?_
            walk_at "w"
            refine tell1_ok gf hff fun _ => ?_
            walk_at "w"
            refine same_eq rfl (pl_lst (Nat.le_of_ble_eq_true rfl) pls_nil) fun _ => ?_
            walk_at "w"
            exact ⟨b, false, f, _, _, _, _, _, _, _, _, _, _, _, _, _, rfl, hb, inv.len, ok3_of inv.v⟩
        · have hp := fill_no gL hf
          walk_at "w"
          refine l_steps_spec hxl hn hpp (by omega) fun _ => ?_
          rw [hf]
          unfold outF
          walk_at "w"
          refine take_nat (k := 2) hb (by decide) (by decide) fun t b hb ht => ?_
          have hl1 : listA (.lst (ps.map encP)) = some (ps.map encP) := rfl
          have hl2 : listA (.tup (ps.map encP)) = some (ps.map encP) := rfl
          have hnp := ne_pairs ps
          have hpc : Pl 6 (clashD p.1 (fst0 p.1) w) := pl_tup (Nat.le_of_ble_eq_true rfl) (pls_cons (.str _ (by decide +kernel)) (pls_cons (pl_tup (by rw [List.length_map]; exact (hpp p hp).1.l1) (pls_map fun _ _ => .int _ _)) (pls_cons (.int _ _) (pls_cons (.int _ _) pls_nil))))
          have i0 : ixD (.tup [encL p.1, .int (fst0 p.1 : Nat), .int w]) (.int 0) = some (encL p.1) := rfl
          have i1 : ixD (.tup [encL p.1, .int (fst0 p.1 : Nat), .int w]) (.int 1) = some (.int (fst0 p.1 : Nat)) := rfl
          have i2 : ixD (.tup [encL p.1, .int (fst0 p.1 : Nat), .int w]) (.int 2) = some (.int w) := rfl
          have i3 : nD isN (.tup [encL p.1, .int (fst0 p.1 : Nat), .int w]) .non = some (.bl true) := rfl
          walk_at "w"
          · have gp := gen _ (hndL ps)
            refine tell0_err gp hf rfl fun _ => ?_
            walk_at "w"
            refine tell1_err gp hf rfl fun _ => ?_
            walk_at "w"
            refine same_eq rfl hpc fun _ => ?_
            walk_at "w"
            refine same_eq rfl hpc fun _ => ?_
            walk_at "w"
            exact ⟨b, false, x5, _, _, _, _, _, _, _, _, _, _, _, _, _, rfl, hb, h5l, h5o⟩
          · have gp := gen _ (hndT ps)
            refine tell0_err gp hf rfl fun _ => ?_
            walk_at "w"
            refine tell1_err gp hf rfl fun _ => ?_
            walk_at "w"
            refine same_eq rfl hpc fun _ => ?_
            walk_at "w"
            refine same_eq rfl hpc fun _ => ?_
            walk_at "w"
            exact ⟨b, false, x5, _, _, _, _, _, _, _, _, _, _, _, _, _, rfl, hb, h5l, h5o⟩
    · obtain ⟨b, fr4, x5, s6, s7, s8, s9, s10, s11, s12, s13, s14, s15, s16, s17, s18, rfl, hb, h5l, h5o⟩ := hJ
      walk_at "w"
      exact rfl
  obtain ⟨fl, ρ, e, h⟩ := this
  subst h
  exact ⟨ρ, e⟩
end LK19


end
section
open PySem PySem.W PyProof.Rows
set_option maxHeartbeats 0 in
theorem PySem.Challenge.cw_neverboxes_k19_whole_fillings_holds : PySem.Challenge.rw_neverboxes_k19_whole_fillings.Holds := by
  w_on; o_law; k_head; (case hw => w_witness2)
  k_fill
  refine L2.walk_of (l := PySem.Challenge.rw_neverboxes_k19_whole_fillings) (n := 63) (k := 7) (x := "_law_script") (CX := fun _ => L2.CX0) (sp := fun w => ND.spLaw _) rfl (by decide) rfl ⟨rfl, by decide, by decide⟩ (fun w h Y => PySem.W.kIn_of Y) ?F (fun _ _ a ns hl _ hS => ⟨a, ns, rfl, hS, hl, fun _ => rfl⟩) (fun _ _ _ _ _ h => h)
  case F =>
    intro w mg fa h KX G hmg
    refine' LK19.all_mk KX G hmg ?a0 ?l0 ?c0 ?k0 ?a1 ?l1 ?c1 ?k1 ?a2 ?l2 ?c2 ?k2 ?a3 ?l3 ?c3 ?k3 ?a4 ?l4 ?c4 ?k4 ?a5 ?l5 ?c5 ?k5 ?a6 ?l6 ?c6 ?k6 ?a7 ?l7 ?c7 ?k7 ?a8 ?l8 ?c8 ?k8 ?a9 ?l9 ?c9 ?k9 ?a10 ?l10 ?c10 ?k10 ?a11 ?l11 ?c11 ?k11 ?a12 ?l12 ?c12 ?k12 ?a13 ?l13 ?c13 ?k13 ?a14 ?l14 ?c14 ?k14 ?a15 ?l15 ?c15 ?k15 ?a16 ?l16 ?c16 ?k16 ?a17 ?l17 ?c17 ?k17 ?a18 ?l18 ?c18 ?k18 ?a19 ?l19 ?c19 ?k19 ?a20 ?l20 ?c20 ?k20 ?a21 ?l21 ?c21 ?k21 ?a22 ?l22 ?c22 ?k22 ?cg_BoxError ?cx_BoxError ?csa_BoxError ?cga_BoxError ?cgg_BoxError ?cca_BoxError ?ckp_BoxError ?cg_Clash ?cx_Clash ?csa_Clash ?cga_Clash ?cgg_Clash ?cca_Clash ?ckp_Clash ?cn_lot_Clash ?cn_one_Clash ?cn_other_Clash ?cn_code_Clash ?cin_Clash ?cil_Clash ?cic_Clash ?cs_Clash_BoxError ?cs_Clash_Clash ?cc_g ?cc_t ?zg_WIDTH ?zg_MARKS ?zg_ROWS ?z_len ?z_isinstance ?z_int ?z_str ?z_bool ?z_list ?z_tuple ?z_dict ?z_all ?z_any ?z_sum ?z_range ?z_zip ?z_sorted ?z_min ?z_max ?z_enumerate LK19.law_true
    (case a0 => k_is); (case l0 => k_is); (case c0 => k_is); (case k0 => k_is); (case a1 => k_is); (case l1 => k_is); (case c1 => k_is); (case k1 => k_is); (case a2 => k_is); (case l2 => k_is); (case c2 => k_is); (case k2 => k_is); (case a3 => k_is); (case l3 => k_is); (case c3 => k_is); (case k3 => k_is); (case a4 => k_is); (case l4 => k_is); (case c4 => k_is); (case k4 => k_is); (case a5 => k_is); (case l5 => k_is); (case c5 => k_is); (case k5 => k_is); (case a6 => k_is); (case l6 => k_is); (case c6 => k_is); (case k6 => k_is); (case a7 => k_is); (case l7 => k_is); (case c7 => k_is); (case k7 => k_is); (case a8 => k_is); (case l8 => k_is); (case c8 => k_is); (case k8 => k_is); (case a9 => k_is); (case l9 => k_is); (case c9 => k_is); (case k9 => k_is); (case a10 => k_is); (case l10 => k_is); (case c10 => k_is); (case k10 => k_is); (case a11 => k_is); (case l11 => k_is); (case c11 => k_is); (case k11 => k_is); (case a12 => k_is); (case l12 => k_is); (case c12 => k_is); (case k12 => k_is); (case a13 => k_is); (case l13 => k_is); (case c13 => k_is); (case k13 => k_is); (case a14 => k_is); (case l14 => k_is); (case c14 => k_is); (case k14 => k_is); (case a15 => k_is); (case l15 => k_is); (case c15 => k_is); (case k15 => k_is); (case a16 => k_is); (case l16 => k_is); (case c16 => k_is); (case k16 => k_is); (case a17 => k_is); (case l17 => k_is); (case c17 => k_is); (case k17 => k_is); (case a18 => k_is); (case l18 => k_is); (case c18 => k_is); (case k18 => k_is); (case a19 => k_is); (case l19 => k_is); (case c19 => k_is); (case k19 => k_is); (case a20 => k_is); (case l20 => k_is); (case c20 => k_is); (case k20 => k_is); (case a21 => k_is); (case l21 => k_is); (case c21 => k_is); (case k21 => k_is); (case a22 => k_is); (case l22 => k_is); (case c22 => k_is); (case k22 => k_is); (case cg_BoxError => k_is); (case cx_BoxError => k_is); (case csa_BoxError => k_is); (case cga_BoxError => k_is); (case cgg_BoxError => k_is); (case cca_BoxError => k_is); (case ckp_BoxError => k_is); (case cg_Clash => k_is); (case cx_Clash => k_is); (case csa_Clash => k_is); (case cga_Clash => k_is); (case cgg_Clash => k_is); (case cca_Clash => k_is); (case ckp_Clash => k_is); (case cn_lot_Clash => k_is); (case cn_one_Clash => k_is); (case cn_other_Clash => k_is); (case cn_code_Clash => k_is); (case cin_Clash => k_is); (case cil_Clash => k_is); (case cic_Clash => k_is); (case cs_Clash_BoxError => k_is); (case cs_Clash_Clash => k_is); (case cc_g => k_is); (case cc_t => k_is); (case zg_WIDTH => k_is); (case zg_MARKS => k_is); (case zg_ROWS => k_is); (case z_len => k_is); (case z_isinstance => k_is); (case z_int => k_is); (case z_str => k_is); (case z_bool => k_is); (case z_list => k_is); (case z_tuple => k_is); (case z_dict => k_is); (case z_all => k_is); (case z_any => k_is); (case z_sum => k_is); (case z_range => k_is); (case z_zip => k_is); (case z_sorted => k_is); (case z_min => k_is); (case z_max => k_is); (case z_enumerate => k_is)

end