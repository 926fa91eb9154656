import PyProof.Rows.All
import Wide.All
import OpenK.AllK
import Wide.FinOn
import PySem.Challenge.RW_tokensteps_k77_whole_watched_sums
import HandS.ForMost
import HandS.ForExc
import HandS.Zip
import HandS.Walk
import HandS.TupAny
import HandS.TupMul
import HandS.IsInst
import HandS.Style
import HandS.Flow
import HandS.Rev
import HandS.Wide
import HandS.HeadHook2
import PyProof.ReprRoads
import HandS.Text
import KE.GoesMore
import HandS.Small
import HandS.Defaults
import HandS.HeadEnd
import HandS.RevTup
import KE.DataMinMax
import PyProof.ListRange
import KE.GoesZip
import KE.GoesEnum
import HandS.Head2
set_option Elab.async false
set_option linter.all false
set_option maxRecDepth 100000
set_option maxHeartbeats 0
section part_KdA
/-! Kd, part A: data, environments, what stands for what in the abstract heap. -/
namespace Kd
open PySem PySem.Spec PyProof.Rows L2
abbrev D := PyData
/-- what a slot holds: data; a list or dict that this slot alone reaches (it may be changed); the same, walked by a loop; the law's pot of draws -/
inductive Sv where
  | dat (d : D) | own (d : D) | lk (d : D) | bag | scr
abbrev Env := List (Option Sv)
/-- an error of the program: its class's name, its fields -/
structure Ex where
  cls : Str
  args : List D
inductive Rs (G α : Type) where
  | ok (a : α) (g : G)
  | er (x : Ex) (g : G)
def Rs.bind {G α β : Type} : Option (Rs G α) → (α → G → Option (Rs G β)) → Option (Rs G β)
  | some (.ok a g), k => k a g
  | some (.er x g), _ => some (.er x g)
  | none, _ => none
@[simp] theorem Rs.bind_ok {G α β : Type} (a : α) (g : G) (k : α → G → Option (Rs G β)) : Rs.bind (some (.ok a g)) k = k a g := rfl
@[simp] theorem Rs.bind_er {G α β : Type} (x : Ex) (g : G) (k : α → G → Option (Rs G β)) : Rs.bind (some (.er x g)) k = some (.er x g) := rfl
@[simp] theorem Rs.bind_none {G α β : Type} (k : α → G → Option (Rs G β)) : Rs.bind none k = none := rfl
theorem Rs.bind_eq {G α β : Type} {r : Option (Rs G α)} {k : α → G → Option (Rs G β)} {b : β} {g : G} (h : Rs.bind r k = some (.ok b g)) : ∃ a g1, r = some (.ok a g1) ∧ k a g1 = some (.ok b g) := by
  match r, h with
  | some (.ok a g1), h => exact ⟨a, g1, rfl, h⟩
abbrev Mn (G α : Type) := Env → G → Option (Rs G α)
abbrev EM (G : Type) := Mn G D
abbrev Sem1 (G : Type) := List Sv → G → Option (Rs G D)

/-! ### what stands for what -/
mutual
inductive Rp (H : Hp) (S : Addr → Prop) : V → D → Prop
  | non : Rp H S .non .none
  | bl (b : Bool) : Rp H S (.bl b) (.bool b)
  | int (i : Int) : Rp H S (.int i) (.int i)
  | str (x : Str) : Rp H S (.str x) (.str x)
  | tup {a : Addr} {xs : List V} {ds : List D} : H a = some (.tup xs) → xs.length ≤ sizeLine → RpL H S xs ds → Rp H S (.ref a) (.tuple ds)
  | lst {a : Addr} {xs : List V} {ds : List D} : H a = some (.lst xs) → S a → xs.length ≤ sizeLine → RpL H S xs ds → Rp H S (.ref a) (.list ds)
  | dic {a : Addr} {kvs : List (Key × V)} {ps : List (D × D)} : H a = some (.dK kvs) → S a → RpK H S kvs ps → Rp H S (.ref a) (.dict ps)
inductive RpL (H : Hp) (S : Addr → Prop) : List V → List D → Prop
  | nil : RpL H S [] []
  | cons {v : V} {vs : List V} {d : D} {ds : List D} : Rp H S v d → RpL H S vs ds → RpL H S (v :: vs) (d :: ds)
inductive RpK (H : Hp) (S : Addr → Prop) : List (Key × V) → List (D × D) → Prop
  | nil : RpK H S [] []
  | int {i : Int} {v : V} {r : List (Key × V)} {d : D} {ps : List (D × D)} : Rp H S v d → RpK H S r ps → RpK H S ((.inl i, v) :: r) ((.int i, d) :: ps)
  | str {x : Str} {v : V} {r : List (Key × V)} {d : D} {ps : List (D × D)} : Rp H S v d → RpK H S r ps → RpK H S ((.inr x, v) :: r) ((.str x, d) :: ps)
end
/-- what is kept from one heap to a later one: the frozen objects, the tuples -/
structure Kp (H : Hp) (S : Addr → Prop) (H' : Hp) (S' : Addr → Prop) : Prop where
  sub : ∀ a, S a → S' a
  fr : ∀ a o, S a → H a = some o → H' a = some o
  tp : ∀ a ts, H a = some (.tup ts) → H' a = some (.tup ts)
theorem Rd.kp {H : Hp} {S : Addr → Prop} {H' : Hp} {S' : Addr → Prop} (k : Kp H S H' S') {a : Addr} {u : HO} (s : S a) (h : Rd H a u) : Rd H' a u := by
  rcases h with h | ⟨o, h⟩
  · exact .inl (k.fr a _ s h)
  · exact .inr ⟨o, k.fr a _ s h⟩
mutual
theorem Rp.kp {H : Hp} {S : Addr → Prop} {H' : Hp} {S' : Addr → Prop} (k : Kp H S H' S') : ∀ {v : V} {d : D}, Rp H S v d → Rp H' S' v d
  | _, _, .non => .non
  | _, _, .bl b => .bl b
  | _, _, .int i => .int i
  | _, _, .str x => .str x
  | _, _, .tup h l r => .tup (k.tp _ _ h) l (RpL.kp k r)
  | _, _, .lst h s l r => .lst (k.fr _ _ s h) (k.sub _ s) l (RpL.kp k r)
  | _, _, .dic h s r => .dic (k.fr _ _ s h) (k.sub _ s) (RpK.kp k r)
theorem RpL.kp {H : Hp} {S : Addr → Prop} {H' : Hp} {S' : Addr → Prop} (k : Kp H S H' S') : ∀ {vs : List V} {ds : List D}, RpL H S vs ds → RpL H' S' vs ds
  | _, _, .nil => .nil
  | _, _, .cons a b => .cons (Rp.kp k a) (RpL.kp k b)
theorem RpK.kp {H : Hp} {S : Addr → Prop} {H' : Hp} {S' : Addr → Prop} (k : Kp H S H' S') : ∀ {vs : List (Key × V)} {ds : List (D × D)}, RpK H S vs ds → RpK H' S' vs ds
  | _, _, .nil => .nil
  | _, _, .int a b => .int (Rp.kp k a) (RpK.kp k b)
  | _, _, .str a b => .str (Rp.kp k a) (RpK.kp k b)
end
section
variable {H : Hp} {S : Addr → Prop}
theorem RpL.length : ∀ {vs : List V} {ds : List D}, RpL H S vs ds → vs.length = ds.length
  | _, _, .nil => rfl
  | _, _, .cons _ r => congrArg Nat.succ (RpL.length r)
theorem RpL.get : ∀ {vs : List V} {ds : List D} {i : Nat} {v : V}, RpL H S vs ds → vs[i]? = some v → ∃ d, ds[i]? = some d ∧ Rp H S v d
  | _, _, _, _, .nil, e => by simp at e
  | _, _, 0, _, .cons r _, e => by simp at e; subst e; exact ⟨_, rfl, r⟩
  | _, _, i + 1, v, .cons _ t, e => by
    obtain ⟨u, h1, h2⟩ := RpL.get (i := i) (v := v) t (by simpa using e)
    exact ⟨u, by simpa using h1, h2⟩
theorem RpL.getD : ∀ {vs : List V} {ds : List D} {i : Nat} {d : D}, RpL H S vs ds → ds[i]? = some d → ∃ v, vs[i]? = some v ∧ Rp H S v d
  | _, _, _, _, .nil, e => by simp at e
  | _, _, 0, _, .cons r _, e => by simp at e; subst e; exact ⟨_, rfl, r⟩
  | _, _, i + 1, d, .cons _ t, e => by
    obtain ⟨u, h1, h2⟩ := RpL.getD (i := i) (d := d) t (by simpa using e)
    exact ⟨u, by simpa using h1, h2⟩
theorem RpL.append : ∀ {vs ws : List V} {ds es : List D}, RpL H S vs ds → RpL H S ws es → RpL H S (vs ++ ws) (ds ++ es)
  | _, _, _, _, .nil, s => s
  | _, _, _, _, .cons r t, s => .cons r (RpL.append t s)
theorem RpL.take : ∀ {vs : List V} {ds : List D} (n : Nat), RpL H S vs ds → RpL H S (vs.take n) (ds.take n)
  | _, _, 0, _ => by simpa using RpL.nil
  | _, _, _ + 1, .nil => .nil
  | _, _, n + 1, .cons r t => .cons r (RpL.take n t)
theorem RpL.drop : ∀ {vs : List V} {ds : List D} (n : Nat), RpL H S vs ds → RpL H S (vs.drop n) (ds.drop n)
  | _, _, 0, r => by simpa using r
  | _, _, _ + 1, .nil => .nil
  | _, _, n + 1, .cons _ t => RpL.drop n t
theorem RpL.set {v : V} {d : D} (r : Rp H S v d) : ∀ {vs : List V} {ds : List D} (i : Nat), RpL H S vs ds → RpL H S (vs.set i v) (ds.set i d)
  | _, _, _, .nil => .nil
  | _, _, 0, .cons _ t => .cons r t
  | _, _, i + 1, .cons q t => .cons q (RpL.set r i t)
theorem RpL.reverse {vs : List V} {ds : List D} (h : RpL H S vs ds) : RpL H S vs.reverse ds.reverse := by
  induction vs generalizing ds with
  | nil => cases h; exact .nil
  | cons v vs ih =>
    cases h with
    | cons a b =>
      rw [List.reverse_cons, List.reverse_cons]
      exact (ih b).append (.cons a .nil)
theorem RpL.ints : ∀ {vs : List V} {ns : List Int}, RpL H S vs (ns.map PyData.int) → vs = ns.map V.int
  | [], [], .nil => rfl
  | v :: vs, n :: ns, .cons a b => by
    cases a
    rw [RpL.ints b]; rfl
theorem RpL.ofInts : ∀ (ns : List Int), RpL H S (ns.map V.int) (ns.map PyData.int)
  | [] => .nil
  | n :: ns => .cons (.int n) (RpL.ofInts ns)
theorem RpL.bools : ∀ {vs : List V} {ns : List Bool}, RpL H S vs (ns.map PyData.bool) → vs = ns.map V.bl
  | [], [], .nil => rfl
  | v :: vs, n :: ns, .cons a b => by
    cases a
    rw [RpL.bools b]; rfl
end
/-- data without a list or a dict in it -/
def still : D → Bool
  | .list _ => false
  | .dict _ => false
  | .tuple xs => stillL xs
  | _ => true
where stillL : List D → Bool
  | [] => true
  | x :: xs => still x && stillL xs
abbrev stillL := still.stillL
mutual
theorem Rp.still {H : Hp} {S S' : Addr → Prop} : ∀ {v : V} {d : D}, Rp H S v d → still d = true → Rp H S' v d
  | _, _, .non, _ => .non
  | _, _, .bl b, _ => .bl b
  | _, _, .int i, _ => .int i
  | _, _, .str x, _ => .str x
  | _, _, .tup h l r, e => .tup h l (RpL.still r (by simpa [Kd.still] using e))
  | _, _, .lst _ _ _ _, e => by simp [Kd.still] at e
  | _, _, .dic _ _ _, e => by simp [Kd.still] at e
theorem RpL.still {H : Hp} {S S' : Addr → Prop} : ∀ {vs : List V} {ds : List D}, RpL H S vs ds → Kd.stillL ds = true → RpL H S' vs ds
  | _, _, .nil, _ => .nil
  | _, _, .cons a b, e => by
    have e' : (Kd.still _ && Kd.stillL _) = true := e
    rw [Bool.and_eq_true] at e'
    exact .cons (Rp.still a e'.1) (RpL.still b e'.2)
end

/-- what may be changed -/
def MutO : HO → Prop
  | .lst _ => True
  | .dK _ => True
  | .dT _ => True
  | _ => False
/-- the pot of draws: where it lies, what it holds; the script -/
structure BagR (G : Type) where
  R : List Addr → Hp → G → Prop
  Scr : Hp → Addr → Prop
  scrK : ∀ {H H' a}, Scr H a → (∀ b o u, H b = some (.frz o u) → H' b = some (.frz o u)) → Scr H' a
  mu : ∀ {F H g}, R F H g → ∀ a ∈ F, ∃ o, H a = some o ∧ MutO o
  frame : ∀ {F H g H'}, R F H g → (∀ a ∈ F, H' a = H a) → R F H' g
inductive OwnAt (H : Hp) (S : Addr → Prop) (r : Addr) : D → Prop
  | lst {xs : List V} {ds : List D} : H r = some (.lst xs) → xs.length ≤ sizeLine → RpL H S xs ds → OwnAt H S r (.list ds)
  | dic {kvs : List (Key × V)} {ps : List (D × D)} : H r = some (.dK kvs) → RpK H S kvs ps → OwnAt H S r (.dict ps)
theorem OwnAt.some {H : Hp} {S : Addr → Prop} {r : Addr} {d : D} (h : OwnAt H S r d) : ∃ o, H r = some o ∧ MutO o := by
  cases h with
  | lst h _ _ => exact ⟨_, h, trivial⟩
  | dic h _ => exact ⟨_, h, trivial⟩
theorem OwnAt.kp {H : Hp} {S : Addr → Prop} {H' : Hp} {S' : Addr → Prop} (k : Kp H S H' S') {r : Addr} {d : D} (e : H' r = H r) (h : OwnAt H S r d) : OwnAt H' S' r d := by
  cases h with
  | lst h l q => exact .lst (e.trans h) l (q.kp k)
  | dic h q => exact .dic (e.trans h) (q.kp k)
/-- frozen: it stands for data as it is -/
theorem OwnAt.rp {H : Hp} {S : Addr → Prop} {r : Addr} {d : D} (s : S r) (h : OwnAt H S r d) : Rp H S (.ref r) d := by
  cases h with
  | lst h l q => exact .lst h s l q
  | dic h q => exact .dic h s q
def RpB (H : Hp) (S : Addr → Prop) (F : List Addr) (v : V) (d : D) : Prop := Rp H S v d ∨ ∃ r, v = .ref r ∧ r ∉ F ∧ OwnAt H S r d
theorem Rp.b {H : Hp} {S : Addr → Prop} {F : List Addr} {v : V} {d : D} (h : Rp H S v d) : RpB H S F v d := .inl h
def SlotR {G : Type} (BR : BagR G) (H : Hp) (S : Addr → Prop) (F : List Addr) : Sv → V → Prop
  | .dat d, v => Rp H S v d
  | .own d, v => ∃ r, v = .ref r ∧ OwnAt H S r d
  | .lk d, v => ∃ r, v = .ref r ∧ OwnAt H S r d
  | .bag, v => ∃ b, v = .ref b ∧ F.head? = some b
  | .scr, v => ∃ b, v = .ref b ∧ BR.Scr H b
def Sv.isOwn : Sv → Bool
  | .own _ => true
  | .lk _ => true
  | _ => false
section
variable {G : Type} (BR : BagR G)
/-- the surroundings -/
structure Amb (H : Hp) (F : List Addr) (S : Addr → Prop) (g : G) : Prop where
  live : ∀ a, S a → ∃ o, H a = some o
  dis : ∀ a ∈ F, ¬ S a
  bag : BR.R F H g
structure RelE (σ : L2.St) (H : Hp) (ρ : Env) (F : List Addr) (S : Addr → Prop) (g : G) : Prop where
  len : ρ.length = σ.length
  slot : ∀ (i : Nat) (s : Sv), ρ[i]? = some (some s) → ∃ v, σ[i]? = some (some v) ∧ SlotR BR H S F s v
  amb : Amb BR H F S g
  ownS : ∀ (i : Nat) (s : Sv) (r : Addr), ρ[i]? = some (some s) → s.isOwn = true → σ[i]? = some (some (.ref r)) → ¬ S r ∧ r ∉ F
  inj : ∀ (i j : Nat) (s t : Sv) (r : Addr), ρ[i]? = some (some s) → s.isOwn = true → σ[i]? = some (some (.ref r)) → ρ[j]? = some (some t) → t.isOwn = true → σ[j]? = some (some (.ref r)) → i = j
end
/-- the later heap of an expression: only the pot has changed, the rest is new -/
structure Ext (H : Hp) (F : List Addr) (S : Addr → Prop) (H' : Hp) (F' : List Addr) (S' : Addr → Prop) : Prop where
  keep : ∀ a o, H a = some o → a ∉ F → H' a = some o
  sub : ∀ a, S a → S' a
  new : ∀ a, S' a → S a ∨ H a = none
  live : ∀ a, S' a → ∃ o, H' a = some o
  dis : ∀ a ∈ F', ¬ S' a
  bag : F' = F ∨ (F = [] ∧ ∀ a ∈ F', H a = none)
section
variable {G : Type} {BR : BagR G} {H H' H2 : Hp} {F F' F2 : List Addr} {S S' S2 : Addr → Prop} {g g' : G} {σ : L2.St} {ρ : Env}
theorem Amb.mu (A : Amb BR H F S g) {a : Addr} (h : a ∈ F) : ∃ o, H a = some o ∧ MutO o := BR.mu A.bag a h
theorem Amb.tup (A : Amb BR H F S g) {a : Addr} {ts : List V} (h : H a = some (.tup ts)) : a ∉ F := fun hm => by
  obtain ⟨o, e, m⟩ := A.mu hm
  rw [h] at e; cases e; exact m
theorem Amb.frz (A : Amb BR H F S g) {a : Addr} {o : Obj} {u : HO} (h : H a = some (.frz o u)) : a ∉ F := fun hm => by
  obtain ⟨o, e, m⟩ := A.mu hm
  rw [h] at e; cases e; exact m
theorem Ext.amb (E : Ext H F S H' F' S') (b : BR.R F' H' g') : Amb BR H' F' S' g' := ⟨E.live, E.dis, b⟩
theorem Ext.refl (A : Amb BR H F S g) : Ext H F S H F S := ⟨fun _ _ h _ => h, fun _ h => h, fun _ h => .inl h, A.live, A.dis, .inl rfl⟩
theorem Ext.kp (E : Ext H F S H' F' S') (A : Amb BR H F S g) : Kp H S H' S' := ⟨E.sub, fun a o s h => E.keep a o h fun q => A.dis a q s, fun a ts h => E.keep a _ h (A.tup h)⟩
theorem Ext.trans (E : Ext H F S H' F' S') (A : Amb BR H F S g) (E2 : Ext H' F' S' H2 F2 S2) : Ext H F S H2 F2 S2 where
  keep := fun a o h n => by
    have h1 := E.keep a o h n
    refine E2.keep a o h1 fun q => ?_
    rcases E.bag with e | ⟨_, e⟩
    · rw [e] at q; exact n q
    · have := e a q; rw [h] at this; cases this
  sub := fun a s => E2.sub a (E.sub a s)
  new := fun a s => by
    rcases E2.new a s with q | q
    · exact E.new a q
    · cases h : H a with
      | none => exact .inr rfl
      | some o =>
        by_cases n : a ∈ F
        · rcases E.bag with e | ⟨e, _⟩
          · exfalso
            have hm : a ∈ F' := by rw [e]; exact n
            rcases E2.bag with e2 | ⟨e2, _⟩
            · exact E2.dis a (by rw [e2]; exact hm) s
            · rw [e2] at hm; cases hm
          · rw [e] at n; cases n
        · rw [E.keep a o h n] at q; cases q
  live := E2.live
  dis := E2.dis
  bag := by
    rcases E.bag with e | ⟨e, n⟩
    · rcases E2.bag with e2 | ⟨e2, n2⟩
      · exact .inl (e2.trans e)
      · refine .inr ⟨e ▸ e2, fun a ha => ?_⟩
        have := n2 a ha
        cases h : H a with
        | none => rfl
        | some o => rw [E.keep a o h (by rw [← e, e2]; intro z; cases z)] at this; cases this
    · refine .inr ⟨e, fun a ha => ?_⟩
      rcases E2.bag with e2 | ⟨e2, n2⟩
      · rw [e2] at ha; exact n a ha
      · have := n2 a ha
        cases h : H a with
        | none => rfl
        | some o => rw [E.keep a o h (by rw [e]; intro z; cases z)] at this; cases this
theorem Ext.notF (E : Ext H F S H' F' S') {a : Addr} {o : HO} (h : H a = some o) (n : a ∉ F) : a ∉ F' := fun q => by
  rcases E.bag with e | ⟨_, e⟩
  · rw [e] at q; exact n q
  · have := e a q; rw [h] at this; cases this
theorem Ext.notS (E : Ext H F S H' F' S') {a : Addr} {o : HO} (h : H a = some o) (n : ¬ S a) : ¬ S' a := fun q => by
  rcases E.new a q with e | e
  · exact n e
  · rw [h] at e; cases e
theorem Ext.rpB (E : Ext H F S H' F' S') (A : Amb BR H F S g) {v : V} {d : D} (h : RpB H S F v d) : RpB H' S' F' v d := by
  rcases h with h | ⟨r, e, n, h⟩
  · exact .inl (h.kp (E.kp A))
  · obtain ⟨o, ho, _⟩ := h.some
    exact .inr ⟨r, e, E.notF ho n, h.kp (E.kp A) ((E.keep r o ho n).trans ho.symm)⟩
theorem RelE.later (R : RelE BR σ H ρ F S g) (E : Ext H F S H' F' S') (b : BR.R F' H' g') : RelE BR σ H' ρ F' S' g' where
  len := R.len
  slot := fun i s e => by
    obtain ⟨v, e1, q⟩ := R.slot i s e
    refine ⟨v, e1, ?_⟩
    have go : ∀ {d : D}, s.isOwn = true → (∃ r, v = .ref r ∧ OwnAt H S r d) → ∃ r, v = .ref r ∧ OwnAt H' S' r d := fun {d} hs ⟨r, er, q⟩ => by
      obtain ⟨o, ho, _⟩ := q.some
      have n := (R.ownS i s r e hs (by rw [e1, er])).2
      exact ⟨r, er, q.kp (E.kp R.amb) ((E.keep r o ho n).trans ho.symm)⟩
    cases s with
    | dat d => exact Rp.kp (E.kp R.amb) q
    | own d => exact go rfl q
    | lk d => exact go rfl q
    | bag =>
      obtain ⟨b, e2, hb⟩ := q
      refine ⟨b, e2, ?_⟩
      rcases E.bag with z | ⟨z, _⟩
      · rw [z]; exact hb
      · rw [z] at hb; cases hb
    | scr =>
      obtain ⟨b, e2, hb⟩ := q
      exact ⟨b, e2, BR.scrK hb fun c o u h => E.keep c _ h (R.amb.frz h)⟩
  amb := E.amb b
  ownS := fun i s r e hs e1 => by
    obtain ⟨v, e2, q⟩ := R.slot i s e
    rw [e1] at e2; cases e2
    have n := R.ownS i s r e hs e1
    have : ∃ o, H r = some o := by
      cases s with
      | dat d => cases hs
      | bag => cases hs
      | scr => cases hs
      | own d => obtain ⟨r', er, q⟩ := q; cases er; obtain ⟨o, ho, _⟩ := q.some; exact ⟨o, ho⟩
      | lk d => obtain ⟨r', er, q⟩ := q; cases er; obtain ⟨o, ho, _⟩ := q.some; exact ⟨o, ho⟩
    obtain ⟨o, ho⟩ := this
    exact ⟨E.notS ho n.1, E.notF ho n.2⟩
  inj := R.inj
/-- a new object -/
theorem Amb.new (A : Amb BR H F S g) {p : Addr} {o : HO} (hp : H p = none) : Ext H F S (upd H p o) F S ∧ BR.R F (upd H p o) g := by
  refine ⟨⟨fun a u h _ => by rw [upd_ne (ne_of_none h hp)]; exact h, fun _ h => h, fun _ h => .inl h, fun a s => ?_, A.dis, .inl rfl⟩, BR.frame A.bag fun a ha => ?_⟩
  · obtain ⟨u, h⟩ := A.live a s
    exact ⟨u, by rw [upd_ne (ne_of_none h hp)]; exact h⟩
  · obtain ⟨u, h, _⟩ := A.mu ha
    rw [upd_ne (ne_of_none h hp)]
/-- .. and frozen -/
theorem Ext.freeze (E : Ext H F S H' F' S') {p : Addr} {o : HO} (hp : H p = none) (h' : H' p = some o) (hF : p ∉ F') : Ext H F S H' F' (fun a => S' a ∨ a = p) where
  keep := E.keep
  sub := fun a s => .inl (E.sub a s)
  new := fun a s => s.elim (E.new a) fun e => by subst e; exact .inr hp
  live := fun a s => s.elim (E.live a) fun e => by subst e; exact ⟨o, h'⟩
  dis := fun a ha s => s.elim (E.dis a ha) fun e => by subst e; exact hF ha
  bag := E.bag
theorem Amb.notF (A : Amb BR H F S g) {p : Addr} (hp : H p = none) : p ∉ F := fun q => by
  obtain ⟨o, h, _⟩ := A.mu q
  rw [hp] at h; cases h
theorem Amb.notS (A : Amb BR H F S g) {p : Addr} (hp : H p = none) : ¬ S p := fun q => by
  obtain ⟨o, h⟩ := A.live p q
  rw [hp] at h; cases h
end
end Kd

end part_KdA
section part_KdB
/-! Kd, part B: readings of expressions, operators, built-in functions. -/
namespace Kd
open PySem PySem.Spec PyProof.Rows L2
theorem PE.imp {X : Cx} {e : Expr} {t t' : TE} (h : PE X e t) (k : ∀ σ H Q, t' σ H Q → t σ H Q) : PE X e t' := ⟨fun pins s σ H Q I q => h.run pins s σ H Q I (k σ H Q q)⟩
theorem PT.imp {X : Cx} {e : Expr} {t t' : TT} (h : PT X e t) (k : ∀ σ H Q, t' σ H Q → t σ H Q) : PT X e t' := ⟨fun pins s σ H Q I q => h.run pins s σ H Q I (k σ H Q q)⟩
theorem PW.imp {X : Cx} {e : Expr} {t t' : TT} (h : PW X e t) (k : ∀ σ H Q, t' σ H Q → t σ H Q) : PW X e t' := ⟨fun wh pins s σ H Q I q => h.run wh pins s σ H Q I (k σ H Q q)⟩
theorem PA.imp {X : Cx} {e : List Expr} {t t' : TA} (h : PA X e t) (k : ∀ σ H Q, t' σ H Q → t σ H Q) : PA X e t' := ⟨fun pos pins s σ H Q I q => h.run pos pins s σ H Q I (k σ H Q q)⟩
section
variable {G : Type} (BR : BagR G)
def tV (f : EM G) : TE := fun σ H Q => ∃ ρ F S g, RelE BR σ H ρ F S g ∧ ∃ d g', f ρ g = some (.ok d g') ∧ ∀ v H' F' S', Ext H F S H' F' S' → BR.R F' H' g' → Rp H' S' v d → Q v H'
def tB (f : EM G) : TE := fun σ H Q => ∃ ρ F S g, RelE BR σ H ρ F S g ∧ ∃ d g', f ρ g = some (.ok d g') ∧ ∀ v H' F' S', Ext H F S H' F' S' → BR.R F' H' g' → RpB H' S' F' v d → Q v H'
def tF (f : EM G) : TE := fun σ H Q => ∃ ρ F S g, RelE BR σ H ρ F S g ∧ ∃ d g', f ρ g = some (.ok d g') ∧
  ∀ r H' F' S', Ext H F S H' F' S' → BR.R F' H' g' → H r = none → ¬ S' r → r ∉ F' → OwnAt H' S' r d → Q (.ref r) H'
def tT (f : Mn G Bool) : TT := fun σ H Q => ∃ ρ F S g, RelE BR σ H ρ F S g ∧ ∃ b g', f ρ g = some (.ok b g') ∧ ∀ H' F' S', Ext H F S H' F' S' → BR.R F' H' g' → Q b H'
end
section
variable {G : Type} {BR : BagR G} {X : Cx} {e a b : Expr} {f h : EM G} {H : Hp} {F : List Addr} {S : Addr → Prop} {g : G} {v u : V} {Q : VK}
theorem tV_of_F (he : PE X e (tF BR f)) : PE X e (tV BR f) := PE.imp he fun σ H Q ⟨ρ, F, S, g, R, d, g', e, k⟩ =>
  ⟨ρ, F, S, g, R, d, g', e, fun r H' F' S' E b n1 n2 n3 o => by
    obtain ⟨u, hu, _⟩ := o.some
    refine k _ H' F' _ (E.freeze n1 hu n3) b ((o.kp (S' := fun a => S' a ∨ a = r) ⟨fun _ s => .inl s, fun _ _ _ h => h, fun _ _ h => h⟩ rfl).rp (.inr rfl))⟩
theorem tB_of_V (he : PE X e (tV BR f)) : PE X e (tB BR f) := PE.imp he fun σ H Q ⟨ρ, F, S, g, R, d, g', e, k⟩ =>
  ⟨ρ, F, S, g, R, d, g', e, fun v H' F' S' E b r => k v H' F' S' E b r.b⟩

/-! ### what a value is that stands for such data -/
theorem RpB.int {i : Int} (h : RpB H S F v (.int i)) : v = .int i := by
  rcases h with h | ⟨r, _, _, h⟩
  · cases h; rfl
  · cases h
theorem RpB.bool {i : Bool} (h : RpB H S F v (.bool i)) : v = .bl i := by
  rcases h with h | ⟨r, _, _, h⟩
  · cases h; rfl
  · cases h
theorem RpB.str {i : Str} (h : RpB H S F v (.str i)) : v = .str i := by
  rcases h with h | ⟨r, _, _, h⟩
  · cases h; rfl
  · cases h
theorem RpB.none (h : RpB H S F v .none) : v = .non := by
  rcases h with h | ⟨r, _, _, h⟩
  · cases h; rfl
  · cases h
theorem RpB.tup {ds : List D} (h : RpB H S F v (.tuple ds)) : ∃ a xs, v = .ref a ∧ H a = some (.tup xs) ∧ xs.length ≤ sizeLine ∧ RpL H S xs ds := by
  rcases h with h | ⟨r, _, _, h⟩
  · cases h with
    | tup h l r => exact ⟨_, _, rfl, h, l, r⟩
  · cases h
theorem RpB.lst {ds : List D} (h : RpB H S F v (.list ds)) : ∃ a xs, v = .ref a ∧ H a = some (.lst xs) ∧ xs.length ≤ sizeLine ∧ RpL H S xs ds := by
  rcases h with h | ⟨r, e, _, h⟩
  · cases h with
    | lst h _ l r => exact ⟨_, _, rfl, h, l, r⟩
  · cases h with
    | lst h l q => exact ⟨_, _, e, h, l, q⟩
theorem RpB.dic {ds : List (D × D)} (h : RpB H S F v (.dict ds)) : ∃ a kvs, v = .ref a ∧ H a = some (.dK kvs) ∧ RpK H S kvs ds := by
  rcases h with h | ⟨r, e, _, h⟩
  · cases h with
    | dic h _ r => exact ⟨_, _, rfl, h, r⟩
  · cases h with
    | dic h q => exact ⟨_, _, e, h, q⟩

/-! ### ways back -/
/-- what an operation is to reach -/
abbrev Ret (BR : BagR G) (H : Hp) (F : List Addr) (S : Addr → Prop) (g : G) (d : D) (Q : VK) : Prop := ∀ w H' S', Ext H F S H' F S' → BR.R F H' g → Rp H' S' w d → Q w H'
theorem Ret.here {d : D} (k : Ret BR H F S g d Q) (A : Amb BR H F S g) (r : Rp H S v d) : Q v H := k v H S (Ext.refl A) A.bag r
theorem kpSub {S' : Addr → Prop} (h : ∀ a, S a → S' a) : Kp H S H S' := ⟨h, fun _ _ _ h => h, fun _ _ h => h⟩
theorem kpNew (A : Amb BR H F S g) {p : Addr} {o : HO} (hp : H p = none) : Kp H S (upd H p o) S := (A.new (o := o) hp).1.kp A
theorem Ret.tup {ds : List D} {xs : List V} (k : Ret BR H F S g (.tuple ds) Q) (A : Amb BR H F S g) (l : xs.length ≤ sizeLine) (r : RpL H S xs ds) : ∀ p, H p = none → Q (.ref p) (upd H p (.tup xs)) := fun p hp => by
  obtain ⟨E, b⟩ := A.new (o := .tup xs) hp
  exact k _ _ S E b (.tup upd_same l (r.kp (E.kp A)))
theorem Ret.lst {ds : List D} {xs : List V} (k : Ret BR H F S g (.list ds) Q) (A : Amb BR H F S g) (l : xs.length ≤ sizeLine) (r : RpL H S xs ds) : ∀ p, H p = none → Q (.ref p) (upd H p (.lst xs)) := fun p hp => by
  obtain ⟨E, b⟩ := A.new (o := .lst xs) hp
  exact k _ _ _ (E.freeze hp upd_same (A.notF hp)) b (.lst upd_same (.inr rfl) l ((r.kp (E.kp A)).kp (kpSub fun _ s => .inl s)))
/-- .. to a new list -/
abbrev RetF (BR : BagR G) (H : Hp) (F : List Addr) (S : Addr → Prop) (g : G) (d : D) (Q : VK) : Prop := ∀ r H' S', Ext H F S H' F S' → BR.R F H' g → H r = none → ¬ S' r → r ∉ F → OwnAt H' S' r d → Q (.ref r) H'
theorem RetF.lst {ds : List D} {xs : List V} (k : RetF BR H F S g (.list ds) Q) (A : Amb BR H F S g) (l : xs.length ≤ sizeLine) (r : RpL H S xs ds) : ∀ p, H p = none → Q (.ref p) (upd H p (.lst xs)) := fun p hp => by
  obtain ⟨E, b⟩ := A.new (o := .lst xs) hp
  exact k p _ S E b hp (A.notS hp) (A.notF hp) (.lst upd_same l (r.kp (E.kp A)))

/-! ### names, constants -/
def varM (i : Nat) : EM G := fun ρ g => match ρ[i]? with
  | some (some (.dat d)) => some (.ok d g)
  | _ => none
def brwM (i : Nat) : EM G := fun ρ g => match ρ[i]? with
  | some (some (.dat d)) => some (.ok d g)
  | some (some (.own d)) => some (.ok d g)
  | some (some (.lk d)) => some (.ok d g)
  | _ => none
def cM (d : D) : EM G := fun _ g => some (.ok d g)
theorem ce_var {i : Nat} {x : Str} {p : Pos} (hN : X.N[i]? = some x) (hv : Vis X.env.scope x) (hd : (x == ("__debug__" : Str)) = false) (hcd : (x == ("__classdict__" : Str)) = false) : PE X (.Name x p) (tV BR (varM i)) :=
  PE.imp (pe_var hN hv hd hcd) fun σ H Q ⟨ρ, F, S, g, R, d, g', e, k⟩ => by
    unfold varM at e
    split at e
    · rename_i d' h
      cases e
      obtain ⟨v, hv, q⟩ := R.slot i _ h
      exact ⟨v, hv, k v H F S (Ext.refl R.amb) R.amb.bag q⟩
    · cases e
theorem cb_var {i : Nat} {x : Str} {p : Pos} (hN : X.N[i]? = some x) (hv : Vis X.env.scope x) (hd : (x == ("__debug__" : Str)) = false) (hcd : (x == ("__classdict__" : Str)) = false) : PE X (.Name x p) (tB BR (brwM i)) :=
  PE.imp (pe_var hN hv hd hcd) fun σ H Q ⟨ρ, F, S, g, R, d, g', e, k⟩ => by
    have go : ∀ {s : Sv} {d : D}, ρ[i]? = some (some s) → s.isOwn = true → (∀ v, SlotR BR H S F s v → ∃ r, v = .ref r ∧ OwnAt H S r d) → (∀ v H' F' S', Ext H F S H' F' S' → BR.R F' H' g → RpB H' S' F' v d → Q v H') → tVar i σ H Q := fun {s d} h hs hq k => by
      obtain ⟨v, hv, q⟩ := R.slot i _ h
      obtain ⟨r, er, q2⟩ := hq v q
      subst er
      exact ⟨_, hv, k _ H F S (Ext.refl R.amb) R.amb.bag (.inr ⟨r, rfl, (R.ownS i _ r h hs hv).2, q2⟩)⟩
    unfold brwM at e
    split at e
    · rename_i d' h
      cases e
      obtain ⟨v, hv, q⟩ := R.slot i _ h
      exact ⟨v, hv, k v H F S (Ext.refl R.amb) R.amb.bag (Rp.b q)⟩
    · rename_i d' h
      cases e
      exact go h rfl (fun _ q => q) k
    · rename_i d' h
      cases e
      exact go h rfl (fun _ q => q) k
    · cases e
theorem ce_c {d : D} {v : V} (he : PE X e (tC v)) (hr : ∀ H S, Rp H S v d) : PE X e (tV BR (cM d)) :=
  PE.imp he fun σ H Q ⟨ρ, F, S, g, R, d, g', e, k⟩ => by
    cases e
    exact k v H F S (Ext.refl R.amb) R.amb.bag (hr H S)

/-! ### operators -/
def un (sem : D → Option D) (f : EM G) : EM G := fun ρ g => Rs.bind (f ρ g) fun x g1 => match sem x with
  | some z => some (.ok z g1)
  | none => none
def bin (sem : D → D → Option D) (f h : EM G) : EM G := fun ρ g => Rs.bind (f ρ g) fun x g1 => Rs.bind (h ρ g1) fun y g2 => match sem x y with
  | some z => some (.ok z g2)
  | none => none
def Ok1 (BR : BagR G) (r : V → Hp → VK → Prop) (sem : D → Option D) : Prop := ∀ {H : Hp} {F : List Addr} {S : Addr → Prop} {g : G} {x d : D} {u : V} {Q : VK}, Amb BR H F S g → sem x = some d → RpB H S F u x → Ret BR H F S g d Q → r u H Q
def Ok2 (BR : BagR G) (r : R2) (sem : D → D → Option D) : Prop := ∀ {H : Hp} {F : List Addr} {S : Addr → Prop} {g : G} {x y d : D} {u v : V} {Q : VK}, Amb BR H F S g → sem x y = some d → RpB H S F u x → RpB H S F v y → Ret BR H F S g d Q → r u v H Q
def Ok1F (BR : BagR G) (r : V → Hp → VK → Prop) (sem : D → Option D) : Prop := ∀ {H : Hp} {F : List Addr} {S : Addr → Prop} {g : G} {x d : D} {u : V} {Q : VK}, Amb BR H F S g → sem x = some d → RpB H S F u x → RetF BR H F S g d Q → r u H Q
def Ok2F (BR : BagR G) (r : R2) (sem : D → D → Option D) : Prop := ∀ {H : Hp} {F : List Addr} {S : Addr → Prop} {g : G} {x y d : D} {u v : V} {Q : VK}, Amb BR H F S g → sem x y = some d → RpB H S F u x → RpB H S F v y → RetF BR H F S g d Q → r u v H Q
theorem un_eq {sem : D → Option D} {ρ : Env} {g g' : G} {d : D} (e : un sem f ρ g = some (.ok d g')) : ∃ x, f ρ g = some (.ok x g') ∧ sem x = some d := by
  obtain ⟨x, g1, e1, e⟩ := Rs.bind_eq e
  split at e
  · rename_i z hz
    cases e
    exact ⟨x, e1, hz⟩
  · cases e
theorem bin_eq {sem : D → D → Option D} {ρ : Env} {g g' : G} {d : D} (e : bin sem f h ρ g = some (.ok d g')) : ∃ x g1 y, f ρ g = some (.ok x g1) ∧ h ρ g1 = some (.ok y g') ∧ sem x y = some d := by
  obtain ⟨x, g1, e1, e⟩ := Rs.bind_eq e
  obtain ⟨y, g2, e2, e⟩ := Rs.bind_eq e
  split at e
  · rename_i z hz
    cases e
    exact ⟨x, g1, y, e1, e2, hz⟩
  · cases e
theorem sound1 {r : V → Hp → VK → Prop} {sem : D → Option D} (hs : Ok1 BR r sem) (σ : L2.St) (H : Hp) (Q : VK) (q : tV BR (un sem f) σ H Q) : tUn r (tB BR f) σ H Q := by
  obtain ⟨ρ, F, S, g, R, d, g', e, k⟩ := q
  obtain ⟨x, e1, hz⟩ := un_eq e
  refine ⟨ρ, F, S, g, R, x, g', e1, fun v H1 F1 S1 E1 b1 r1 => ?_⟩
  exact hs (E1.amb b1) hz r1 fun w H3 S3 E3 b3 r3 => k w H3 F1 S3 (E1.trans R.amb E3) b3 r3
theorem sound1F {r : V → Hp → VK → Prop} {sem : D → Option D} (hs : Ok1F BR r sem) (σ : L2.St) (H : Hp) (Q : VK) (q : tF BR (un sem f) σ H Q) : tUn r (tB BR f) σ H Q := by
  obtain ⟨ρ, F, S, g, R, d, g', e, k⟩ := q
  obtain ⟨x, e1, hz⟩ := un_eq e
  refine ⟨ρ, F, S, g, R, x, g', e1, fun v H1 F1 S1 E1 b1 r1 => ?_⟩
  refine hs (E1.amb b1) hz r1 fun w H3 S3 E3 b3 n1 n2 n3 o => k w H3 F1 S3 (E1.trans R.amb E3) b3 ?_ n2 n3 o
  cases h : H w with
  | none => rfl
  | some o =>
    by_cases n : w ∈ F
    · obtain ⟨o', h', _⟩ := R.amb.mu n
      rcases E1.bag with z | ⟨z, _⟩
      · exact absurd (by rw [z]; exact n) n3
      · rw [z] at n; cases n
    · rw [E1.keep w o h n] at n1; cases n1
theorem sound2 {r : R2} {sem : D → D → Option D} (hs : Ok2 BR r sem) (σ : L2.St) (H : Hp) (Q : VK) (q : tV BR (bin sem f h) σ H Q) : tOp r (tB BR f) (tB BR h) σ H Q := by
  obtain ⟨ρ, F, S, g, R, d, g', e, k⟩ := q
  obtain ⟨x, g1, y, e1, e2, hz⟩ := bin_eq e
  refine ⟨ρ, F, S, g, R, x, g1, e1, fun v H1 F1 S1 E1 b1 r1 => ?_⟩
  have R1 := R.later E1 b1
  refine ⟨ρ, F1, S1, g1, R1, y, g', e2, fun u H2 F2 S2 E2 b2 r2 => ?_⟩
  exact hs (E2.amb b2) hz (E2.rpB R1.amb r1) r2 fun w H3 S3 E3 b3 r3 => k w H3 F2 S3 ((E1.trans R.amb E2).trans R.amb E3) b3 r3
theorem ce_bin {op : Operator} {r : R2} {sem : D → D → Option D} {p : Pos} (ho : OpR X (binaryOp op) r) (hs : Ok2 BR r sem) (ha : PE X a (tB BR f)) (hb : PE X b (tB BR h)) : PE X (.BinOp a op b p) (tV BR (bin sem f h)) := PE.imp (pe_op ho ha hb) (sound2 hs)
theorem ce_un {op : UnaryOp} {r : V → Hp → VK → Prop} {sem : D → Option D} {p : Pos} (ho : UnR X (unaryOp op) r) (hs : Ok1 BR r sem) (ha : PE X a (tB BR f)) : PE X (.UnaryOp op a p) (tV BR (un sem f)) := PE.imp (pe_un ho ha) (sound1 hs)
theorem ce_cmp {op : CmpOp} {r : R2} {sem : D → D → Option D} {p : Pos} (ho : OpR X (compareOp op) r) (hs : Ok2 BR r sem) (hm : behindInMarks op b = false) (ha : PE X a (tB BR f)) (hb : PE X b (tB BR h)) : PE X (.Compare a [op] [b] p) (tV BR (bin sem f h)) := PE.imp (pe_cmpR ho ha hb hm) (sound2 hs)
theorem Ok2.orL {r r' : R2} {sem : D → D → Option D} (h : Ok2 BR r sem) : Ok2 BR (fun x y H Q => r x y H Q ∨ r' x y H Q) sem := fun A e r1 r2 k => .inl (h A e r1 r2 k)
theorem Ok2.or {r r' : R2} {s s' : D → D → Option D} (h : Ok2 BR r s) (h' : Ok2 BR r' s') : Ok2 BR (fun x y H Q => r x y H Q ∨ r' x y H Q) (fun x y => (s x y).or (s' x y)) := fun {H F S g x y d u v Q} A e r1 r2 k => by
  cases hz : s x y with
  | some z => simp only [hz, Option.some_or] at e; cases e; exact .inl (h A hz r1 r2 k)
  | none => simp only [hz, Option.none_or] at e; exact .inr (h' A e r1 r2 k)
end

/-! ### what operators do to data -/
def addI : D → D → Option D
  | .int a, .int b => some (.int (a + b))
  | _, _ => none
def addS : D → D → Option D
  | .str a, .str b => if a.length + b.length ≤ sizeLine then some (.str (a ++ b)) else none
  | _, _ => none
def addT : D → D → Option D
  | .tuple a, .tuple b => if a.length + b.length ≤ sizeLine then some (.tuple (a ++ b)) else none
  | _, _ => none
def addL : D → D → Option D
  | .list a, .list b => if a.length + b.length ≤ sizeLine then some (.list (a ++ b)) else none
  | _, _ => none
def addD (x y : D) : Option D := ((addI x y).or (addS x y)).or ((addT x y).or (addL x y))
def subD : D → D → Option D
  | .int a, .int b => some (.int (a - b))
  | _, _ => none
def mulOk (a b : Int) : Bool := (decide (-(2 ^ 64) < a) && decide (a < 2 ^ 64)) || (decide (-(2 ^ 64) < b) && decide (b < 2 ^ 64))
def mulI : D → D → Option D
  | .int a, .int b => if mulOk a b = true then some (.int (a * b)) else none
  | _, _ => none
def mulT : D → D → Option D
  | .tuple xs, .int k => if xs ≠ [] ∧ 2 ≤ k ∧ k ≤ 1000 ∧ xs.length ≤ 1000 then some (.tuple (List.replicate k.toNat xs).flatten) else none
  | _, _ => none
def mulL : D → D → Option D
  | .list xs, .int k => if -(2 ^ 63) ≤ k ∧ k < 2 ^ 63 ∧ xs.length * k.toNat ≤ sizeLine then some (.list (List.replicate k.toNat xs).flatten) else none
  | _, _ => none
def fdivD : D → D → Option D
  | .int a, .int b => if 0 < b ∧ b < 1073741824 then some (.int (a / b)) else none
  | _, _ => none
def modD : D → D → Option D
  | .int a, .int b => if 0 < b then some (.int (a % b)) else none
  | _, _ => none
def powD : D → D → Option D
  | .int a, .int b => if 0 ≤ b ∧ ((Builtin.Int.intBits a : Nat) : Int) * b ≤ 2 ^ 27 then some (.int (a ^ b.toNat)) else none
  | _, _ => none
def negD : D → Option D
  | .int a => some (.int (-a))
  | _ => none
def ltI : D → D → Option D
  | .int a, .int b => some (.bool (decide (a < b)))
  | _, _ => none
def leI : D → D → Option D
  | .int a, .int b => some (.bool (decide (a ≤ b)))
  | _, _ => none
def gtI : D → D → Option D
  | .int a, .int b => some (.bool (decide (b < a)))
  | _, _ => none
def geI : D → D → Option D
  | .int a, .int b => some (.bool (decide (b ≤ a)))
  | _, _ => none
def eqD (x y : D) : Option D := if SeqAt.shaped x && SeqAt.shaped y then some (.bool (PyData.eqv x y)) else none
def neD (x y : D) : Option D := if SeqAt.shaped x && SeqAt.shaped y then some (.bool (!PyData.eqv x y)) else none
def noneD : D → Bool
  | .none => true
  | _ => false
def isN (x y : D) : Option D := if noneD y then some (.bool (noneD x)) else none
def notN (x y : D) : Option D := if noneD y then some (.bool (!noneD x)) else none

section
variable {G : Type} {BR : BagR G} {X : Cx}
theorem ok_addI : Ok2 BR (rI0 fun i j => .int (i + j)) addI := fun {H F S g x y d u v Q} A e r1 r2 k => by
  unfold addI at e
  split at e
  · cases e
    exact ⟨_, _, r1.int, r2.int, Ret.here k A (.int _)⟩
  · cases e
theorem ok_addS : Ok2 BR (fun x y H Q => ∃ i j, x = .str i ∧ y = .str j ∧ i.length + j.length ≤ sizeLine ∧ Q (.str (i ++ j)) H) addS := fun {H F S g x y d u v Q} A e r1 r2 k => by
  unfold addS at e
  split at e
  · split at e
    · cases e
      exact ⟨_, _, r1.str, r2.str, by assumption, Ret.here k A (.str _)⟩
    · cases e
  · cases e
theorem ok_addT : Ok2 BR (rCatA X.K) addT := fun {H F S g x y d u v Q} A e r1 r2 k => by
  unfold addT at e
  split at e
  · rename_i xs ys
    split at e
    · rename_i hl
      cases e
      obtain ⟨a, vs, rfl, h1, l1, q1⟩ := r1.tup
      obtain ⟨b, ws, rfl, h2, l2, q2⟩ := r2.tup
      have e1 := q1.length
      have e2 := q2.length
      refine ⟨a, b, vs, ws, rfl, rfl, SqT.of h1, SqT.of h2, by omega, fun z => ?_, fun _ z => ?_, fun _ _ => Ret.tup k A (by rw [List.length_append]; omega) (q1.append q2)⟩
      · subst z
        cases q1
        exact Ret.here k A (.tup h2 l2 q2)
      · subst z
        cases q2
        refine Ret.here k A ?_
        rw [List.append_nil]
        exact .tup h1 l1 q1
    · cases e
  · cases e
theorem ok_addL : Ok2 BR rCat addL := fun {H F S g x y d u v Q} A e r1 r2 k => by
  unfold addL at e
  split at e
  · split at e
    · cases e
      obtain ⟨a, vs, rfl, h1, l1, q1⟩ := r1.lst
      obtain ⟨b, ws, rfl, h2, l2, q2⟩ := r2.lst
      have e1 := q1.length
      have e2 := q2.length
      exact ⟨a, b, vs, ws, rfl, rfl, h1, h2, by omega, Ret.lst k A (by rw [List.length_append]; omega) (q1.append q2)⟩
    · cases e
  · cases e
theorem ok_subD : Ok2 BR (rI0 fun i j => .int (i - j)) subD := fun {H F S g x y d u v Q} A e r1 r2 k => by
  unfold subD at e
  split at e
  · cases e
    exact ⟨_, _, r1.int, r2.int, Ret.here k A (.int _)⟩
  · cases e
theorem ok_mulI : Ok2 BR (rI CMul fun i j => .int (i * j)) mulI := fun {H F S g x y d u v Q} A e r1 r2 k => by
  unfold mulI at e
  split at e
  · split at e
    · rename_i h
      cases e
      refine ⟨_, _, r1.int, r2.int, ?_, Ret.here k A (.int _)⟩
      unfold mulOk at h
      simp only [Bool.or_eq_true, Bool.and_eq_true, decide_eq_true_eq] at h
      exact h
    · cases e
  · cases e
theorem flat_rep {H : Hp} {S : Addr → Prop} {xs : List V} {ds : List D} (h : RpL H S xs ds) : ∀ n : Nat, RpL H S (List.replicate n xs).flatten (List.replicate n ds).flatten
  | 0 => by simpa using RpL.nil
  | n + 1 => by
    rw [List.replicate_succ, List.replicate_succ, List.flatten_cons, List.flatten_cons]
    exact h.append (flat_rep h n)
theorem flat_len {α : Type} (xs : List α) : ∀ n : Nat, (List.replicate n xs).flatten.length = n * xs.length
  | 0 => by simp
  | n + 1 => by
    rw [List.replicate_succ, List.flatten_cons, List.length_append, flat_len xs n, Nat.succ_mul, Nat.add_comm]
theorem ok_mulT : Ok2 BR (rRepT X.K) mulT := fun {H F S g x y d u v Q} A e r1 r2 k => by
  unfold mulT at e
  split at e
  · rename_i ds kk
    split at e
    · rename_i h
      obtain ⟨h0, h1, h2, h3⟩ := h
      cases e
      obtain ⟨a, vs, rfl, ha, l1, q1⟩ := r1.tup
      have e1 := q1.length
      refine ⟨a, kk, vs, rfl, r2.int, SqT.of ha, ?_, h1, h2, by omega, Ret.tup k A ?_ (flat_rep q1 _)⟩
      · rintro rfl
        cases q1
        exact h0 rfl
      · rw [flat_len, sizeLine_eq]
        have : kk.toNat * vs.length ≤ 1000 * 1000 := Nat.mul_le_mul (by omega) (by omega)
        omega
    · cases e
  · cases e
theorem ok_mulL : Ok2 BR rRep mulL := fun {H F S g x y d u v Q} A e r1 r2 k => by
  unfold mulL at e
  split at e
  · rename_i ds kk
    split at e
    · rename_i h
      obtain ⟨h1, h2, h3⟩ := h
      cases e
      obtain ⟨a, vs, rfl, ha, l1, q1⟩ := r1.lst
      have e1 := q1.length
      refine ⟨a, kk, vs, rfl, r2.int, ha, h1, h2, by rw [e1]; exact h3, Ret.lst k A ?_ (flat_rep q1 _)⟩
      rw [flat_len, Nat.mul_comm, e1]; exact h3
    · cases e
  · cases e
theorem ok_fdiv : Ok2 BR (rI CDiv fun i j => .int (i / j)) fdivD := fun {H F S g x y d u v Q} A e r1 r2 k => by
  unfold fdivD at e
  split at e
  · split at e
    · rename_i h
      cases e
      exact ⟨_, _, r1.int, r2.int, h, Ret.here k A (.int _)⟩
    · cases e
  · cases e
theorem ok_mod : Ok2 BR (rI (fun _ j => 0 < j) fun i j => .int (i % j)) modD := fun {H F S g x y d u v Q} A e r1 r2 k => by
  unfold modD at e
  split at e
  · split at e
    · rename_i h
      cases e
      exact ⟨_, _, r1.int, r2.int, h, Ret.here k A (.int _)⟩
    · cases e
  · cases e
def CPowG (i j : Int) : Prop := 0 ≤ j ∧ ((Builtin.Int.intBits i : Nat) : Int) * j ≤ 2 ^ 27
theorem op_powG : OpR X (binaryOp .Pow) (rI CPowG fun i j => .int (i ^ j.toNat)) := opI fun _ _ _ _ _ _ _ hc q => pow_int hc.1 hc.2 q
theorem ok_pow : Ok2 BR (rI CPowG fun i j => .int (i ^ j.toNat)) powD := fun {H F S g x y d u v Q} A e r1 r2 k => by
  unfold powD at e
  split at e
  · split at e
    · rename_i h
      cases e
      exact ⟨_, _, r1.int, r2.int, h, Ret.here k A (.int _)⟩
    · cases e
  · cases e
theorem ok_neg : Ok1 BR (rU fun i => .int (-i)) negD := fun {H F S g x d u Q} A e r1 k => by
  unfold negD at e
  split at e
  · cases e
    exact ⟨_, r1.int, Ret.here k A (.int _)⟩
  · cases e
theorem ok_lt : Ok2 BR (rI0 fun i j => .bl (decide (i < j))) ltI := fun {H F S g x y d u v Q} A e r1 r2 k => by
  unfold ltI at e
  split at e
  · cases e
    exact ⟨_, _, r1.int, r2.int, Ret.here k A (.bl _)⟩
  · cases e
theorem ok_le : Ok2 BR (rI0 fun i j => .bl (decide (i ≤ j))) leI := fun {H F S g x y d u v Q} A e r1 r2 k => by
  unfold leI at e
  split at e
  · cases e
    exact ⟨_, _, r1.int, r2.int, Ret.here k A (.bl _)⟩
  · cases e
theorem ok_gt : Ok2 BR (rI0 fun i j => .bl (decide (j < i))) gtI := fun {H F S g x y d u v Q} A e r1 r2 k => by
  unfold gtI at e
  split at e
  · cases e
    exact ⟨_, _, r1.int, r2.int, Ret.here k A (.bl _)⟩
  · cases e
theorem ok_ge : Ok2 BR (rI0 fun i j => .bl (decide (j ≤ i))) geI := fun {H F S g x y d u v Q} A e r1 r2 k => by
  unfold geI at e
  split at e
  · cases e
    exact ⟨_, _, r1.int, r2.int, Ret.here k A (.bl _)⟩
  · cases e
/-! equality of data -/
mutual
theorem dpR {K : PySem.W.Frag} {H : Hp} {S : Addr → Prop} : ∀ {d : D} {v : V}, Rp H S v d → PyData.canLay0 d = true → Dp K H v d
  | _, _, .non, _ => .non
  | _, _, .bl b, _ => .bl b
  | _, _, .int i, _ => .int i
  | _, _, .str x, _ => .str x
  | .tuple ds, _, .tup h l r, c => .tup (SqT.of h) (dpRL r (by simpa only [PyData.canLay0] using c))
  | .list ds, _, .lst h s l r, c => .lst (SqL.of h) (dpRL r (by simpa only [PyData.canLay0] using c))
  | .dict ps, _, .dic _ _ _, c => by simp only [PyData.canLay0] at c; cases c
theorem dpRL {K : PySem.W.Frag} {H : Hp} {S : Addr → Prop} : ∀ {ds : List D} {vs : List V}, RpL H S vs ds → PyData.canLayAll0 ds = true → DpAll K H vs ds
  | [], _, .nil, _ => .nil
  | d :: ds, _, .cons a b, c => by
    simp only [PyData.canLayAll0, Bool.and_eq_true] at c
    exact .cons (dpR a c.1) (dpRL b c.2)
end
theorem dpB {K : PySem.W.Frag} {H : Hp} {S : Addr → Prop} {F : List Addr} {v : V} {d : D} (h : RpB H S F v d) (c : SeqAt.shaped d = true) : Dp K H v d := by
  have c0 : PyData.canLay0 d = true := by
    unfold SeqAt.shaped at c
    rw [Bool.and_eq_true] at c
    exact c.1
  rcases h with h | ⟨r, rfl, _, h⟩
  · exact dpR h c0
  · cases h with
    | lst h l q => exact .lst (SqL.of h) (dpRL q (by simpa only [PyData.canLay0] using c0))
    | dic h q => simp only [PyData.canLay0] at c0; cases c0
theorem ok_eq : Ok2 BR (rEqD X.K) eqD := fun {H F S g x y d u v Q} A e r1 r2 k => by
  unfold eqD at e
  split at e
  · rename_i h
    cases e
    rw [Bool.and_eq_true] at h
    exact ⟨x, y, dpB r1 h.1, dpB r2 h.2, h.1, h.2, Ret.here k A (.bl _)⟩
  · cases e
theorem ok_ne : Ok2 BR (rNeD X.K) neD := fun {H F S g x y d u v Q} A e r1 r2 k => by
  unfold neD at e
  split at e
  · rename_i h
    cases e
    rw [Bool.and_eq_true] at h
    exact ⟨x, y, dpB r1 h.1, dpB r2 h.2, h.1, h.2, Ret.here k A (.bl _)⟩
  · cases e
theorem nonB {H : Hp} {S : Addr → Prop} {F : List Addr} {v : V} {x : D} (h : RpB H S F v x) : decide (v = .non) = noneD x := by
  rcases h with h | ⟨r, rfl, _, h⟩
  · cases h <;> rfl
  · cases h <;> rfl
theorem noneD_eq {x : D} (h : noneD x = true) : x = .none := by
  cases x <;> first | rfl | cases h
theorem ok_isN : Ok2 BR (fun x y H Q => y = .non ∧ Q (.bl (decide (x = .non))) H) isN := fun {H F S g x y d u v Q} A e r1 r2 k => by
  unfold isN at e
  split at e
  · rename_i h
    cases e
    have := noneD_eq h
    subst this
    refine ⟨r2.none, ?_⟩
    rw [nonB r1]
    exact Ret.here k A (.bl _)
  · cases e
theorem ok_notN : Ok2 BR (fun x y H Q => y = .non ∧ Q (.bl (!decide (x = .non))) H) notN := fun {H F S g x y d u v Q} A e r1 r2 k => by
  unfold notN at e
  split at e
  · rename_i h
    cases e
    have := noneD_eq h
    subst this
    refine ⟨r2.none, ?_⟩
    rw [nonB r1]
    exact Ret.here k A (.bl _)
  · cases e
end
end Kd

end part_KdB
section part_KdC
/-! Kd, part C: built-in functions, repr, isinstance, subscripts, displays, tests. -/
namespace Kd
open PySem PySem.Spec PyProof.Rows L2
/-! ### what is known where one stands -/
structure Xk (X : Cx) (N : List Str) (sc : Scope) : Prop where
  n : X.N = N
  sc : X.env.scope = sc
  calm : X.calm = true
  nd : N.Nodup
  un : X.A.units + 200 < cLine
  gd : X.A.guards = some []
  sy : ∃ o, X.base.get? sysModules = some o
section
variable {G : Type} {BR : BagR G} {X : Cx} {N : List Str} {sc : Scope}
theorem Xk.gl (k : Xk X N sc) {x : Str} (h : sc.names.lookup x = some .globalImplicit) : Gl X x := by
  show X.env.scope.names.lookup x = _
  rw [k.sc]; exact h
def noStar : Expr → Bool
  | .Starred _ _ => false
  | _ => true
end
end Kd
namespace Kd
open PySem PySem.Spec PyProof.Rows L2
theorem starEach_ns {e : Expr} (h : noStar e = true) (es : List Expr) (env : PySem.Env) : starEach (e :: es) env = (false, eval e env) :: starEach es env := by
  cases e <;> first | rfl | cases h
theorem star1 {e : Expr} (h : noStar e = true) (env : PySem.Env) (pos : Pos) : (backTo pos (starEach [e] env)).any (·.1) = false := by
  rw [starEach_ns h]
  rfl
section
variable {G : Type} {BR : BagR G} {X : Cx} {N : List Str} {sc : Scope} {x : Str} {p pos : Pos} {a b : Expr} {f h : EM G} {id T : String}
/-- a builtin's name where it is called -/
structure Bn (X : Cx) (x : Str) (v : Value) : Prop where
  gl : Gl X x
  free : X.mg x = none
  boot : bootBuiltins x = some v
  nm : x ≠ "__name__"
  db : (x == ("__debug__" : Str)) = false
theorem ce_call1 {r : List V → Hp → VK → Prop} {sem : D → Option D} (hc : CallR X (.builtin id) r) (hs : Ok1 BR (fun u H Q => r [u] H Q) sem) (B : Bn X x (.builtin id)) (na : noStar a = true) (ha : PE X a (tB BR f)) :
    PE X (.Call (.Name x p) [a] [] pos) (tV BR (un sem f)) :=
  PE.imp (pe_callB hc B.gl B.free B.boot (pa_cons ha pa_nil (starEach_ns na _ _)) B.nm B.db (starEach_ns na _ _) rfl) (sound1 hs)
theorem ce_call1T {r : List V → Hp → VK → Prop} {sem : D → Option D} (hc : CallR X (.type T) r) (hs : Ok1 BR (fun u H Q => r [u] H Q) sem) (B : Bn X x (.type T)) (na : noStar a = true) (ha : PE X a (tB BR f)) :
    PE X (.Call (.Name x p) [a] [] pos) (tV BR (un sem f)) :=
  PE.imp (pe_callTy hc B.gl B.free B.boot (pa_cons ha pa_nil (starEach_ns na _ _)) B.nm B.db (starEach_ns na _ _) rfl) (sound1 hs)
theorem ce_call1TF {r : List V → Hp → VK → Prop} {sem : D → Option D} (hc : CallR X (.type T) r) (hs : Ok1F BR (fun u H Q => r [u] H Q) sem) (B : Bn X x (.type T)) (na : noStar a = true) (ha : PE X a (tB BR f)) :
    PE X (.Call (.Name x p) [a] [] pos) (tF BR (un sem f)) :=
  PE.imp (pe_callTy hc B.gl B.free B.boot (pa_cons ha pa_nil (starEach_ns na _ _)) B.nm B.db (starEach_ns na _ _) rfl) (sound1F hs)
theorem ce_call2 {r : List V → Hp → VK → Prop} {sem : D → D → Option D} (hc : CallR X (.builtin id) r) (hs : Ok2 BR (fun u v H Q => r [u, v] H Q) sem) (B : Bn X x (.builtin id)) (na : noStar a = true) (nb : noStar b = true) (ha : PE X a (tB BR f)) (hb : PE X b (tB BR h)) :
    PE X (.Call (.Name x p) [a, b] [] pos) (tV BR (bin sem f h)) :=
  PE.imp (pe_callB hc B.gl B.free B.boot (pa_cons ha (pa_cons hb pa_nil (starEach_ns nb _ _)) (starEach_ns na _ _)) B.nm B.db (starEach_ns na _ _) (star1 nb _ _)) (sound2 hs)

/-! ### len, tuple, list, sum, all, any, abs, int, max, min -/
def lenD : D → Option D
  | .tuple xs => some (.int xs.length)
  | .list xs => some (.int xs.length)
  | .str x => if x.length ≤ sizeLine then some (.int x.length) else none
  | _ => none
theorem ok_len : Ok1 BR (fun u H Q => (fun xs H Q => ∃ x n, xs = [x] ∧ LenV X.K x H n ∧ Q (.int n) H) [u] H Q) lenD := fun {H F S g x d u Q} A e r k => by
  unfold lenD at e
  split at e
  · cases e
    obtain ⟨a, vs, rfl, h, l, q⟩ := r.tup
    exact ⟨_, vs.length, rfl, .inr ⟨vs, SqT.of h, rfl⟩, Ret.here k A (by rw [q.length]; exact .int _)⟩
  · cases e
    obtain ⟨a, vs, rfl, h, l, q⟩ := r.lst
    exact ⟨_, vs.length, rfl, .inl ⟨vs, SqL.of h, rfl⟩, Ret.here k A (by rw [q.length]; exact .int _)⟩
  · split at e
    · cases e
      cases r.str
      exact ⟨_, _, rfl, ⟨by assumption, rfl⟩, Ret.here k A (.int _)⟩
    · cases e
  · cases e
def tupleD : D → Option D
  | .tuple xs => some (.tuple xs)
  | .list xs => some (.tuple xs)
  | _ => none
theorem ok_tuple : Ok1 BR (fun u H Q => (fun xs H Q => ∃ p ys, xs = [.ref p] ∧ ((SqL X.K H p ys ∧ ∀ l, H l = none → Q (.ref l) (upd H l (.tup ys))) ∨ (SqT X.K H p ys ∧ Q (.ref p) H))) [u] H Q) tupleD := fun {H F S g x d u Q} A e r k => by
  unfold tupleD at e
  split at e
  · cases e
    obtain ⟨a, vs, rfl, h, l, q⟩ := r.tup
    exact ⟨a, vs, rfl, .inr ⟨SqT.of h, Ret.here k A (.tup h l q)⟩⟩
  · cases e
    obtain ⟨a, vs, rfl, h, l, q⟩ := r.lst
    exact ⟨a, vs, rfl, .inl ⟨SqL.of h, Ret.tup k A l q⟩⟩
  · cases e
def listD : D → Option D
  | .tuple xs => some (.list xs)
  | .list xs => some (.list xs)
  | _ => none
theorem ok_list : Ok1F BR (fun u H Q => (fun xs H Q => ∃ p ys, xs = [.ref p] ∧ (SqL X.K H p ys ∨ SqT X.K H p ys) ∧ ∀ l, H l = none → Q (.ref l) (upd H l (.lst ys))) [u] H Q) listD := fun {H F S g x d u Q} A e r k => by
  unfold listD at e
  split at e
  · cases e
    obtain ⟨a, vs, rfl, h, l, q⟩ := r.tup
    exact ⟨a, vs, rfl, .inr (SqT.of h), RetF.lst k A l q⟩
  · cases e
    obtain ⟨a, vs, rfl, h, l, q⟩ := r.lst
    exact ⟨a, vs, rfl, .inl (SqL.of h), RetF.lst k A l q⟩
  · cases e
def ints? : List D → Option (List Int)
  | [] => some []
  | .int i :: r => (ints? r).map (i :: ·)
  | _ :: _ => none
theorem ints?_eq : ∀ {ds : List D} {ns : List Int}, ints? ds = some ns → ds = ns.map PyData.int
  | [], ns, h => by cases h; rfl
  | d :: r, ns, h => by
    cases d with
    | int i =>
      unfold ints? at h
      obtain ⟨ms, h1, rfl⟩ := Option.map_eq_some_iff.mp h
      rw [ints?_eq h1]; rfl
    | _ => cases h
@[simp] theorem ints?_map (ns : List Int) : ints? (ns.map PyData.int) = some ns := by
  induction ns with
  | nil => rfl
  | cons n ns ih => show (ints? (ns.map PyData.int)).map (n :: ·) = _; rw [ih]; rfl
def bools? : List D → Option (List Bool)
  | [] => some []
  | .bool i :: r => (bools? r).map (i :: ·)
  | _ :: _ => none
theorem bools?_eq : ∀ {ds : List D} {ns : List Bool}, bools? ds = some ns → ds = ns.map PyData.bool
  | [], ns, h => by cases h; rfl
  | d :: r, ns, h => by
    cases d with
    | bool i =>
      unfold bools? at h
      obtain ⟨ms, h1, rfl⟩ := Option.map_eq_some_iff.mp h
      rw [bools?_eq h1]; rfl
    | _ => cases h
@[simp] theorem bools?_map (ns : List Bool) : bools? (ns.map PyData.bool) = some ns := by
  induction ns with
  | nil => rfl
  | cons n ns ih => show (bools? (ns.map PyData.bool)).map (n :: ·) = _; rw [ih]; rfl
def sumD : D → Option D
  | .list xs => (ints? xs).map fun ns => .int ns.sum
  | _ => none
theorem ok_sum : Ok1 BR (fun u H Q => rSum X.K [u] H Q) sumD := fun {H F S g x d u Q} A e r k => by
  unfold sumD at e
  split at e
  · obtain ⟨ns, h1, rfl⟩ := Option.map_eq_some_iff.mp e
    rw [ints?_eq h1] at r
    obtain ⟨a, vs, rfl, h, l, q⟩ := r.lst
    rw [q.ints] at h
    exact ⟨a, ns, rfl, SqL.of h, Ret.here k A (.int _)⟩
  · cases e
def allD : D → Option D
  | .list xs => (bools? xs).map fun ns => .bool (ns.all _root_.id)
  | _ => none
theorem ok_all : Ok1 BR (fun u H Q => rAll X.K [u] H Q) allD := fun {H F S g x d u Q} A e r k => by
  unfold allD at e
  split at e
  · obtain ⟨ns, h1, rfl⟩ := Option.map_eq_some_iff.mp e
    rw [bools?_eq h1] at r
    obtain ⟨a, vs, rfl, h, l, q⟩ := r.lst
    rw [q.bools] at h
    exact ⟨a, ns, rfl, SqL.of h, Ret.here k A (.bl _)⟩
  · cases e
def anyD : D → Option D
  | .list xs => (bools? xs).map fun ns => .bool (ns.any _root_.id)
  | _ => none
theorem ok_any : Ok1 BR (fun u H Q => rAny X.K [u] H Q) anyD := fun {H F S g x d u Q} A e r k => by
  unfold anyD at e
  split at e
  · obtain ⟨ns, h1, rfl⟩ := Option.map_eq_some_iff.mp e
    rw [bools?_eq h1] at r
    obtain ⟨a, vs, rfl, h, l, q⟩ := r.lst
    rw [q.bools] at h
    exact ⟨a, ns, rfl, SqL.of h, Ret.here k A (.bl _)⟩
  · cases e
def absD : D → Option D
  | .int i => some (.int (if i < 0 then -i else i))
  | _ => none
theorem ok_abs : Ok1 BR (fun u H Q => (fun xs H Q => ∃ i, xs = [.int i] ∧ Q (.int (if i < 0 then -i else i)) H) [u] H Q) absD := fun {H F S g x d u Q} A e r k => by
  unfold absD at e
  split at e
  · cases e
    cases r.int
    exact ⟨_, rfl, Ret.here k A (.int _)⟩
  · cases e
def intD : D → Option D
  | .int i => some (.int i)
  | .bool b => some (.int (if b then 1 else 0))
  | _ => none
theorem ok_int : Ok1 BR (fun u H Q => (fun xs H Q => (∃ i, xs = [.int i] ∧ Q (.int i) H) ∨ ∃ k, xs = [.bl k] ∧ Q (.int (if k then 1 else 0)) H) [u] H Q) intD := fun {H F S g x d u Q} A e r k => by
  unfold intD at e
  split at e
  · cases e
    cases r.int
    exact .inl ⟨_, rfl, Ret.here k A (.int _)⟩
  · cases e
    cases r.bool
    exact .inr ⟨_, rfl, Ret.here k A (.int _)⟩
  · cases e
def max2D : D → D → Option D
  | .int i, .int j => some (.int (if j > i then j else i))
  | _, _ => none
theorem ok_max2 : Ok2 BR (fun u v H Q => (fun xs H Q => ∃ i j, xs = [.int i, .int j] ∧ Q (.int (if j > i then j else i)) H) [u, v] H Q) max2D := fun {H F S g x y d u v Q} A e r1 r2 k => by
  unfold max2D at e
  split at e
  · cases e
    cases r1.int
    cases r2.int
    exact ⟨_, _, rfl, Ret.here k A (.int _)⟩
  · cases e
def min2D : D → D → Option D
  | .int i, .int j => some (.int (if j < i then j else i))
  | _, _ => none
theorem ok_min2 : Ok2 BR (fun u v H Q => (fun xs H Q => ∃ i j, xs = [.int i, .int j] ∧ Q (.int (if j < i then j else i)) H) [u, v] H Q) min2D := fun {H F S g x y d u v Q} A e r1 r2 k => by
  unfold min2D at e
  split at e
  · cases e
    cases r1.int
    cases r2.int
    exact ⟨_, _, rfl, Ret.here k A (.int _)⟩
  · cases e

/-! ### repr -/
theorem Inv.noSys {pins : List (Addr × Obj)} {σ : L2.St} {H : Hp} {s : Shared} (I : Inv X pins σ H s) (sy : ∃ o, X.base.get? sysModules = some o) : H sysModules = none := by
  obtain ⟨o, h⟩ := sy
  exact (I.bs _ _ h).2
theorem keysRead {w : World} {hp : Heap} {P : Program} : ∀ {kvs : List (Key × V)} {ps : List (D × D)} {H : Hp} {S : Addr → Prop} {vs : List (Key × Value)} {es : List DictEntry}, RpK H S kvs ps → KV kvs vs → Pairs (mixKind P w) es vs →
    ReadsAll hp (es.map (·.key)) (ps.map (·.1)) []
  | _, _, _, _, _, _, .nil, .nil, .nil => .nil
  | _, _, _, _, _, _, .int (i := i) _ r, .cons h t, .cons hk hv hr => by
    obtain ⟨h1, h2⟩ := h
    rcases keyIs_shape (k := .inl i) (by rw [← h1] at hk; exact hk) with ⟨j, u, e1, e2⟩ | ⟨y, u, e1, e2⟩
    · cases e1
      rw [List.map_cons, e2]
      exact ReadsAll.cons (as := []) (bs := []) (Reads.int _ u) (keysRead r t hr)
    · cases e1
  | _, _, _, _, _, _, .str (x := x) _ r, .cons h t, .cons hk hv hr => by
    obtain ⟨h1, h2⟩ := h
    rcases keyIs_shape (k := .inr x) (by rw [← h1] at hk; exact hk) with ⟨j, u, e1, e2⟩ | ⟨y, u, e1, e2⟩
    · cases e1
    · cases e1
      rw [List.map_cons, e2]
      exact ReadsAll.cons (as := []) (bs := []) (Reads.str _ u) (keysRead r t hr)
mutual
theorem readsR {pins : List (Addr × Obj)} {σ : L2.St} {H : Hp} {s : Shared} {S : Addr → Prop} (I : Inv X pins σ H s) (sy : H sysModules = none) : ∀ {d : D} {v : V} {u : Value}, Rp H S v d → RelV v u → ∃ as, Reads s.heap u d as ∧ sysModules ∉ as
  | _, _, _, .non, r => by cases r; exact ⟨_, .none, by simp⟩
  | _, _, _, .bl b, r => by cases r; exact ⟨_, .bool b, by simp⟩
  | _, _, _, .int i, r => by obtain ⟨t, rfl⟩ := r; exact ⟨_, .int i t, by simp⟩
  | _, _, _, .str x, r => by obtain ⟨t, rfl⟩ := r; exact ⟨_, .str x t, by simp⟩
  | _, _, _, .tup h l q, r => by
    cases r
    obtain ⟨its, rv, ⟨o, ho, hc, n, hd⟩, _⟩ := I.tuple (SqT.of (K := X.K) h)
    obtain ⟨as, hr, hn⟩ := readsRL I sy q rv
    exact ⟨_, Reads.tuple ho hc hd hr, hn⟩
  | _, _, _, .lst (a := a) h s l q, r => by
    cases r
    obtain ⟨its, rv, ⟨o, n, ho, hc, _, hd⟩, _⟩ := I.list (SqL.of (K := X.K) h)
    obtain ⟨as, hr, hn⟩ := readsRL I sy q rv
    refine ⟨_, Reads.list ho hc hd hr, ?_⟩
    simp only [List.mem_cons, not_or]
    exact ⟨fun e => (by rw [← e, sy] at h; cases h), hn⟩
  | _, _, _, .dic (a := a) h s q, r => by
    cases r
    obtain ⟨_, _, vs, kv, o, es, ep, ho, hc, hd, _, hp, _⟩ := dk_of I.hok h
    obtain ⟨bs, hr, hn⟩ := readsRK I sy q kv hp
    refine ⟨_, Reads.dict ho hc.1 hd (keysRead q kv hp) hr, ?_⟩
    simp only [List.mem_append, List.mem_cons, not_or]
    exact ⟨⟨fun e => (by rw [← e, sy] at h; cases h), by simp⟩, hn⟩
theorem readsRL {pins : List (Addr × Obj)} {σ : L2.St} {H : Hp} {s : Shared} {S : Addr → Prop} (I : Inv X pins σ H s) (sy : H sysModules = none) : ∀ {ds : List D} {vs : List V} {us : List Value}, RpL H S vs ds → Vals vs us → ∃ as, ReadsAll s.heap us ds as ∧ sysModules ∉ as
  | _, _, _, .nil, .nil => ⟨_, .nil, by simp⟩
  | _, _, _, .cons a b, .cons c e => by
    obtain ⟨as, h1, n1⟩ := readsR I sy a c
    obtain ⟨bs, h2, n2⟩ := readsRL I sy b e
    exact ⟨_, .cons h1 h2, by simp [n1, n2]⟩
theorem readsRK {pins : List (Addr × Obj)} {σ : L2.St} {H : Hp} {s : Shared} {S : Addr → Prop} (I : Inv X pins σ H s) (sy : H sysModules = none) : ∀ {ps : List (D × D)} {kvs : List (Key × V)} {vs : List (Key × Value)} {es : List DictEntry}, RpK H S kvs ps → KV kvs vs → Pairs (mixKind X.prog X.w) es vs →
    ∃ as, ReadsAll s.heap (es.map (·.val)) (ps.map (·.2)) as ∧ sysModules ∉ as
  | _, _, _, _, .nil, .nil, .nil => ⟨_, .nil, by simp⟩
  | _, _, _, _, .int a r, .cons h t, .cons hk hv hr => by
    obtain ⟨h1, h2⟩ := h
    obtain ⟨as, q1, n1⟩ := readsR I sy a h2
    obtain ⟨bs, q2, n2⟩ := readsRK I sy r t hr
    refine ⟨as ++ bs, ?_, by simp [n1, n2]⟩
    rw [List.map_cons, hv]
    exact .cons q1 q2
  | _, _, _, _, .str a r, .cons h t, .cons hk hv hr => by
    obtain ⟨h1, h2⟩ := h
    obtain ⟨as, q1, n1⟩ := readsR I sy a h2
    obtain ⟨bs, q2, n2⟩ := readsRK I sy r t hr
    refine ⟨as ++ bs, ?_, by simp [n1, n2]⟩
    rw [List.map_cons, hv]
    exact .cons q1 q2
end
theorem readsB {pins : List (Addr × Obj)} {σ : L2.St} {H : Hp} {s : Shared} {S : Addr → Prop} {F : List Addr} (I : Inv X pins σ H s) (sy : H sysModules = none) {d : D} {v : V} {u : Value} (h : RpB H S F v d) (r : RelV v u) : ∃ as, Reads s.heap u d as ∧ sysModules ∉ as := by
  rcases h with h | ⟨a, rfl, _, h⟩
  · exact readsR I sy h r
  · refine readsR (S := fun b => S b ∨ b = a) I sy ((h.kp (S' := fun b => S b ∨ b = a) (kpSub fun _ s => .inl s) rfl).rp (.inr rfl)) r
/-- the text of data -/
def rpD (d : D) : Option D := if d.showable && (decide (d.depth ≤ 64) && decide (d.shown.length ≤ sizeLine)) then some (.str d.shown) else none
def rRepr : V → Hp → VK → Prop := fun v H Q => ∃ (S : Addr → Prop) (F : List Addr) (d : D), RpB H S F v d ∧ d.showable = true ∧ d.depth ≤ 64 ∧ d.shown.length ≤ sizeLine ∧ Q (.str d.shown) H
theorem call_repr (k : Xk X N sc) : CallR X (.builtin "repr") (fun xs H Q => ∃ v, xs = [v] ∧ rRepr v H Q) := by
  intro pins s σ H xs us Q I r h
  obtain ⟨v, rfl, S, F, d, hr, hs, hd, hz, q⟩ := h
  obtain ⟨u, rfl, ru⟩ := vals1 r
  obtain ⟨as, rd, hn⟩ := readsB I (Inv.noSys I k.sy) hr ru
  have hun := k.un
  cases rd with
  | none =>
    refine PySem.P.repr_of_none ⟨.str _, H, I.tok _, ⟨_, rfl⟩, ?_⟩
    rw [PyData.shown_none] at q
    exact q
  | bool b =>
    refine PySem.P.repr_of_bool ⟨.str _, H, I.tok _, ⟨_, rfl⟩, ?_⟩
    rw [PyData.shown_bool] at q
    cases b <;> exact q
  | int i t =>
    refine PySem.P.repr_of_int (by simpa [PyData.showable] using hs) ⟨.str _, H, I.tok _, ⟨_, rfl⟩, ?_⟩
    rw [PyData.shown_int] at q
    exact q
  | str x t =>
    refine PySem.P.repr_of_str ⟨.str _, H, I.tok _, ⟨_, rfl⟩, ?_⟩ ?_
    · rw [PyData.shown_str] at q
      exact q
    · rw [PyData.shown_str] at hz
      exact hz
  | list a b c e =>
    exact PySem.repr_of_reads' (Reads.list a b c e) hs (fun _ => hn) k.gd (by omega) (fun _ _ q => q) (fun h' u tk hk => ⟨.str _, H, I.kept hk, ⟨_, rfl⟩, q⟩) hz
  | tuple a b c e =>
    exact PySem.repr_of_reads' (Reads.tuple a b c e) hs (fun _ => hn) k.gd (by omega) (fun _ _ q => q) (fun h' u tk hk => ⟨.str _, H, I.kept hk, ⟨_, rfl⟩, q⟩) hz
  | dict a b c e1 e2 =>
    exact PySem.repr_of_reads' (Reads.dict a b c e1 e2) hs (fun _ => hn) k.gd (by omega) (fun _ _ q => q) (fun h' u tk hk => ⟨.str _, H, I.kept hk, ⟨_, rfl⟩, q⟩) hz
theorem ok_repr : Ok1 BR (fun u H Q => (fun xs H Q => ∃ v, xs = [v] ∧ rRepr v H Q) [u] H Q) rpD := fun {H F S g x d u Q} A e r k => by
  unfold rpD at e
  split at e
  · rename_i h
    cases e
    simp only [Bool.and_eq_true, decide_eq_true_eq] at h
    exact ⟨u, rfl, S, F, x, r, h.1, h.2.1, h.2.2, Ret.here k A (.str _)⟩
  · cases e
/-- str(x) of an int, a text, a tuple, a list -/
def strD : D → Option D
  | .str x => some (.str x)
  | .int i => if i.natAbs.log2 < 1920 then some (.str (toString i : String)) else none
  | .tuple xs => rpD (.tuple xs)
  | .list xs => rpD (.list xs)
  | _ => none
theorem call_strG (k : Xk X N sc) : CallR X (.type "str") (fun xs H Q => ∃ (v : V) (S : Addr → Prop) (F : List Addr) (d : D), xs = [v] ∧ RpB H S F v d ∧ ∃ x, strD d = some (.str x) ∧ Q (.str x) H) := by
  intro pins s σ H xs us Q I r h
  obtain ⟨v, S, F, d, rfl, hr, x, hx, q⟩ := h
  obtain ⟨u, rfl, ru⟩ := vals1 r
  have hun := k.un
  obtain ⟨as, rd, hn⟩ := readsB I (Inv.noSys I k.sy) hr ru
  cases rd with
  | none => cases hx
  | bool b => cases hx
  | int i t =>
    unfold strD at hx
    dsimp only at hx
    split at hx
    · rename_i hz
      cases hx
      exact PySem.P.str_of_int hz ⟨.str _, H, I.tok _, ⟨_, rfl⟩, q⟩
    · cases hx
  | str y t =>
    cases hx
    exact PySem.P.str_of_str ⟨.str _, H, I, ⟨t, rfl⟩, q⟩
  | list a b c e =>
    unfold strD rpD at hx
    dsimp only at hx
    split at hx
    · rename_i hz
      cases hx
      simp only [Bool.and_eq_true, decide_eq_true_eq] at hz
      exact PySem.str_of_reads (Reads.list a b c e) hz.1 (fun _ => hn) k.gd (by have := hz.2.1; omega) (fun _ _ q => q) (fun h' u tk hk => ⟨.str _, H, I.kept hk, ⟨_, rfl⟩, q⟩) hz.2.2
    · cases hx
  | tuple a b c e =>
    unfold strD rpD at hx
    dsimp only at hx
    split at hx
    · rename_i hz
      cases hx
      simp only [Bool.and_eq_true, decide_eq_true_eq] at hz
      exact PySem.str_of_reads (Reads.tuple a b c e) hz.1 (fun _ => hn) k.gd (by have := hz.2.1; omega) (fun _ _ q => q) (fun h' u tk hk => ⟨.str _, H, I.kept hk, ⟨_, rfl⟩, q⟩) hz.2.2
    · cases hx
  | dict a b c e1 e2 => cases hx
theorem strD_str {x d : D} (h : strD x = some d) : ∃ y, d = .str y := by
  cases x with
  | str y => cases h; exact ⟨_, rfl⟩
  | int i =>
    unfold strD at h
    dsimp only at h
    split at h
    · cases h; exact ⟨_, rfl⟩
    · cases h
  | tuple xs =>
    unfold strD rpD at h
    dsimp only at h
    split at h
    · cases h; exact ⟨_, rfl⟩
    · cases h
  | list xs =>
    unfold strD rpD at h
    dsimp only at h
    split at h
    · cases h; exact ⟨_, rfl⟩
    · cases h
  | _ => cases h
theorem ok_str : Ok1 BR (fun u H Q => (fun xs H Q => ∃ (v : V) (S : Addr → Prop) (F : List Addr) (d : D), xs = [v] ∧ RpB H S F v d ∧ ∃ x, strD d = some (.str x) ∧ Q (.str x) H) [u] H Q) strD := fun {H F S g x d u Q} A e r k => by
  obtain ⟨y, rfl⟩ := strD_str e
  exact ⟨u, S, F, x, rfl, r, y, e, Ret.here k A (.str _)⟩
end
end Kd

end part_KdC
section part_KdD
/-! Kd, part D: isinstance, subscripts, slices, displays, tests. -/
namespace Kd
open PySem PySem.Spec PyProof.Rows L2
/-! ### isinstance -/
def tyN : D → String
  | .none => "NoneType"
  | .bool _ => "bool"
  | .int _ => "int"
  | .str _ => "str"
  | .tuple _ => "tuple"
  | .list _ => "list"
  | .dict _ => "dict"
inductive Ty where | int | bool | str | tuple | list | dict
def Ty.s : Ty → String
  | .int => "int"
  | .bool => "bool"
  | .str => "str"
  | .tuple => "tuple"
  | .list => "list"
  | .dict => "dict"
def isiB : Ty → D → Bool
  | .int, .int _ => true
  | .int, .bool _ => true
  | .bool, .bool _ => true
  | .str, .str _ => true
  | .tuple, .tuple _ => true
  | .list, .list _ => true
  | .dict, .dict _ => true
  | _, _ => false
def isiD (T : Ty) (d : D) : Option D := some (.bool (isiB T d))
theorem isi_kit (T : Ty) (d : D) : kitB (tyN d) T.s = some (isiB T d) := by
  cases d with
  | none => cases T <;> decide +kernel
  | bool b => cases T with
    | int => show kitB "bool" "int" = some true; decide +kernel
    | bool => show kitB "bool" "bool" = some true; decide +kernel
    | str => show kitB "bool" "str" = some false; decide +kernel
    | tuple => show kitB "bool" "tuple" = some false; decide +kernel
    | list => show kitB "bool" "list" = some false; decide +kernel
    | dict => show kitB "bool" "dict" = some false; decide +kernel
  | int b => cases T with
    | int => show kitB "int" "int" = some true; decide +kernel
    | bool => show kitB "int" "bool" = some false; decide +kernel
    | str => show kitB "int" "str" = some false; decide +kernel
    | tuple => show kitB "int" "tuple" = some false; decide +kernel
    | list => show kitB "int" "list" = some false; decide +kernel
    | dict => show kitB "int" "dict" = some false; decide +kernel
  | str b => cases T with
    | int => show kitB "str" "int" = some false; decide +kernel
    | bool => show kitB "str" "bool" = some false; decide +kernel
    | str => show kitB "str" "str" = some true; decide +kernel
    | tuple => show kitB "str" "tuple" = some false; decide +kernel
    | list => show kitB "str" "list" = some false; decide +kernel
    | dict => show kitB "str" "dict" = some false; decide +kernel
  | tuple b => cases T with
    | int => show kitB "tuple" "int" = some false; decide +kernel
    | bool => show kitB "tuple" "bool" = some false; decide +kernel
    | str => show kitB "tuple" "str" = some false; decide +kernel
    | tuple => show kitB "tuple" "tuple" = some true; decide +kernel
    | list => show kitB "tuple" "list" = some false; decide +kernel
    | dict => show kitB "tuple" "dict" = some false; decide +kernel
  | list b => cases T with
    | int => show kitB "list" "int" = some false; decide +kernel
    | bool => show kitB "list" "bool" = some false; decide +kernel
    | str => show kitB "list" "str" = some false; decide +kernel
    | tuple => show kitB "list" "tuple" = some false; decide +kernel
    | list => show kitB "list" "list" = some true; decide +kernel
    | dict => show kitB "list" "dict" = some false; decide +kernel
  | dict b => cases T with
    | int => show kitB "dict" "int" = some false; decide +kernel
    | bool => show kitB "dict" "bool" = some false; decide +kernel
    | str => show kitB "dict" "str" = some false; decide +kernel
    | tuple => show kitB "dict" "tuple" = some false; decide +kernel
    | list => show kitB "dict" "list" = some false; decide +kernel
    | dict => show kitB "dict" "dict" = some true; decide +kernel
section
variable {G : Type} {BR : BagR G} {X : Cx} {N : List Str} {sc : Scope} {x y : Str} {p p2 pos : Pos} {a b c : Expr} {f h : EM G}
theorem tyX {H : Hp} {S : Addr → Prop} {F : List Addr} {v : V} {d : D} (r : RpB H S F v d) : TyX X.K H v (.type (tyN d)) := by
  cases d with
  | none => cases r.none; exact .base .non
  | bool b => cases r.bool; exact .base (.bl b)
  | int i => cases r.int; exact .base (.int i)
  | str i => cases r.str; exact .base (.str i)
  | tuple ds => obtain ⟨a, xs, rfl, h, _⟩ := r.tup; exact .base (.tup h)
  | list ds => obtain ⟨a, xs, rfl, h, _⟩ := r.lst; exact .base (.lst h)
  | dict ds => obtain ⟨a, xs, rfl, h, _⟩ := r.dic; exact .base (.dK h)
theorem ce_isi {T : Ty} (B : Bn X x (.builtin "isinstance")) (B2 : Bn X y (.type T.s)) (na : noStar a = true) (ha : PE X a (tB BR f)) :
    PE X (.Call (.Name x p) [a, .Name y p2] [] pos) (tV BR (un (isiD T) f)) :=
  PE.imp (pe_callB call_isi B.gl B.free B.boot (pa_cons ha (pa_cons (pe_bltn (v := .ty T.s) B2.gl B2.free B2.boot rfl B2.nm B2.db) pa_nil rfl) (starEach_ns na _ _)) B.nm B.db (starEach_ns na _ _) rfl) fun σ H Q q => by
    obtain ⟨ρ, F, S, g, R, d, g', e, k⟩ := q
    obtain ⟨z, e1, hz⟩ := un_eq e
    refine ⟨ρ, F, S, g, R, z, g', e1, fun v H1 F1 S1 E1 b1 r1 => ?_⟩
    cases hz
    refine ⟨v, .ty T.s, .type (tyN z), .type T.s, isiB T z, rfl, .ty _, tyX r1, kit_ty (isi_kit T z), ?_⟩
    exact k _ H1 F1 S1 E1 b1 (.bl _)

/-! ### a[i] -/
def idxD : D → D → Option D
  | .list xs, .int i => atI xs i
  | .tuple xs, .int i => atI xs i
  | .str x, .int i => if x.length ≤ sizeLine then (atI x.cps.toList i).map fun c => .str ⟨#[c]⟩ else none
  | _, _ => none
theorem RpL.atI {H : Hp} {S : Addr → Prop} {vs : List V} {ds : List D} {i : Int} {d : D} (r : RpL H S vs ds) (e : L2.atI ds i = some d) : ∃ v, L2.atI vs i = some v ∧ Rp H S v d := by
  unfold L2.atI at e ⊢
  rw [r.length]
  obtain ⟨j, h1, h2⟩ := Option.bind_eq_some_iff.mp e
  obtain ⟨v, h3, h4⟩ := r.getD h2
  exact ⟨v, by rw [h1]; exact h3, h4⟩
theorem ok_idx : Ok2 BR (rIx X.K) idxD := fun {H F S g x y d u v Q} A e r1 r2 k => by
  unfold idxD at e
  split at e
  · obtain ⟨a, vs, rfl, h, l, q⟩ := r1.lst
    cases r2.int
    obtain ⟨w, hw, rw⟩ := q.atI e
    exact .inl ⟨a, vs, _, w, rfl, rfl, SqL.of h, hw, Ret.here k A rw⟩
  · obtain ⟨a, vs, rfl, h, l, q⟩ := r1.tup
    cases r2.int
    obtain ⟨w, hw, rw⟩ := q.atI e
    exact .inr (.inl ⟨a, vs, _, w, rfl, rfl, SqT.of h, hw, Ret.here k A rw⟩)
  · cases r1.str
    cases r2.int
    split at e
    · rename_i hl
      obtain ⟨c, hc, rfl⟩ := Option.map_eq_some_iff.mp e
      exact .inr (.inr ⟨_, _, c, rfl, rfl, hl, hc, Ret.here k A (.str _)⟩)
    · cases e
  · cases e
def plainIx : Expr → Bool
  | .Slice _ _ none _ => false
  | _ => true
theorem plainIx_ok {b : Expr} (h : plainIx b = true) : PlainIx b := by
  intro o i
  cases b with
  | Slice l u s p =>
    cases s with
    | none => cases h
    | some s => rfl
  | _ => rfl
theorem ce_idx (hb : plainIx b = true) (ha : PE X a (tB BR f)) (hb2 : PE X b (tB BR h)) : PE X (.Subscript a b pos) (tV BR (bin idxD f h)) := PE.imp (pe_ix ix_seq ha hb2 (plainIx_ok hb)) (sound2 ok_idx)
end
end Kd

end part_KdD
section part_KdE
/-! Kd, part E: slices, displays, tests, choices. -/
namespace Kd
open PySem PySem.Spec PyProof.Rows L2
/-! ### slices -/
def cutG {α : Type} (xs : List α) (lo hi : Option Int) : List α := (xs.drop (HT.sIx xs.length 0 lo)).take (HT.sIx xs.length xs.length hi - HT.sIx xs.length 0 lo)
def sliceD (d : D) (lo hi : Option Int) : Option D := match d with
  | .list xs => some (.list (cutG xs lo hi))
  | .tuple xs => some (.tuple (cutG xs lo hi))
  | _ => none
def partM {G : Type} (f : Option (EM G)) : Mn G (Option Int) := fun ρ g => match f with
  | none => some (.ok none g)
  | some f => Rs.bind (f ρ g) fun x g1 => match x with
    | .int i => some (.ok (some i) g1)
    | _ => none
def sliceM {G : Type} (f : EM G) (lo hi : Option (EM G)) : EM G := fun ρ g => Rs.bind (f ρ g) fun x g1 => Rs.bind (partM lo ρ g1) fun l g2 => Rs.bind (partM hi ρ g2) fun u g3 => match sliceD x l u with
  | some z => some (.ok z g3)
  | none => none
section
variable {G : Type} {BR : BagR G} {X : Cx} {N : List Str} {sc : Scope} {x y : Str} {p p2 pos : Pos} {a b c : Expr} {f h : EM G}
def tO (BR : BagR G) (f : Option (EM G)) : TO := fun σ H Q => ∃ ρ F S g, RelE BR σ H ρ F S g ∧ ∃ o g', partM f ρ g = some (.ok o g') ∧ ∀ H' F' S', Ext H F S H' F' S' → BR.R F' H' g' → Q o H'
theorem PO.imp {e : Option Expr} {t t' : TO} (h : PO X e t) (k : ∀ σ H Q, t' σ H Q → t σ H Q) : PO X e t' := ⟨fun pins s σ H Q I q => h.run pins s σ H Q I (k σ H Q q)⟩
theorem co_none : PO X none (tO BR (none : Option (EM G))) := PO.imp po_none fun σ H Q ⟨ρ, F, S, g, R, o, g', e, k⟩ => by
  cases e
  exact k H F S (Ext.refl R.amb) R.amb.bag
theorem co_some (ha : PE X a (tB BR f)) : PO X (some a) (tO BR (some f)) := PO.imp (po_some ha) fun σ H Q ⟨ρ, F, S, g, R, o, g', e, k⟩ => by
  obtain ⟨z, g1, e1, e2⟩ := Rs.bind_eq e
  split at e2
  · cases e2
    exact ⟨ρ, F, S, g, R, _, _, e1, fun v H1 F1 S1 E1 b1 r1 => ⟨_, r1.int, k H1 F1 S1 E1 b1⟩⟩
  · cases e2
theorem RpL.cut {H : Hp} {S : Addr → Prop} {vs : List V} {ds : List D} (r : RpL H S vs ds) (lo hi : Option Int) : RpL H S (cutV vs lo hi) (cutG ds lo hi) := by
  unfold cutV cutG
  rw [r.length]
  exact (r.drop _).take _
theorem cut_whole {α : Type} {xs : List α} {lo hi : Option Int} (h : HT.sIx xs.length 0 lo = 0 ∧ HT.sIx xs.length xs.length hi = xs.length) : cutG xs lo hi = xs := by
  unfold cutG
  rw [h.1, h.2, List.drop_zero, Nat.sub_zero, List.take_length]
theorem ce_slice {lo hi : Option Expr} {fl fh : Option (EM G)} (ha : PE X a (tB BR f)) (hl : PO X lo (tO BR fl)) (hh : PO X hi (tO BR fh)) : PE X (.Subscript a (.Slice lo hi none p2) pos) (tV BR (sliceM f fl fh)) :=
  PE.imp (pe_slice (sl_list.or sl_tupA) ha hl hh) fun σ H Q ⟨ρ, F, S, g, R, d, g', e, k⟩ => by
    obtain ⟨z, g1, e1, e⟩ := Rs.bind_eq e
    obtain ⟨l, g2, e2, e⟩ := Rs.bind_eq e
    obtain ⟨u, g3, e3, e⟩ := Rs.bind_eq e
    split at e
    · rename_i w hw
      cases e
      refine ⟨ρ, F, S, g, R, z, g1, e1, fun v H1 F1 S1 E1 b1 r1 => ?_⟩
      have R1 := R.later E1 b1
      refine ⟨ρ, F1, S1, g1, R1, l, g2, e2, fun H2 F2 S2 E2 b2 => ?_⟩
      have R2 := R1.later E2 b2
      refine ⟨ρ, F2, S2, g2, R2, u, _, e3, fun H3 F3 S3 E3 b3 => ?_⟩
      have R3 := R2.later E3 b3
      have r3 := E3.rpB R2.amb (E2.rpB R1.amb r1)
      have kk : Ret BR H3 F3 S3 g' d Q := fun w H4 S4 E4 b4 r4 => k w H4 F3 S4 (((E1.trans R.amb E2).trans R.amb E3).trans R.amb E4) b4 r4
      unfold sliceD at hw
      split at hw
      · cases hw
        obtain ⟨a, vs, rfl, h, ll, q⟩ := r3.lst
        exact .inl ⟨a, vs, rfl, SqL.of h, Ret.lst kk R3.amb (Nat.le_trans (cutV_length _ _ _) ll) (q.cut l u)⟩
      · cases hw
        obtain ⟨a, vs, rfl, h, ll, q⟩ := r3.tup
        refine .inr ⟨a, vs, rfl, SqT.of h, fun hh => ?_, fun _ => Ret.tup kk R3.amb (Nat.le_trans (cutV_length _ _ _) ll) (q.cut l u)⟩
        rw [q.length] at hh
        rw [cut_whole hh] at kk
        exact Ret.here kk R3.amb (.tup h ll q)
      · cases hw
    · cases e

/-! ### displays -/
def argsM {G : Type} : List (EM G) → Mn G (List D)
  | [] => fun _ g => some (.ok [] g)
  | f :: fs => fun ρ g => Rs.bind (f ρ g) fun x g1 => Rs.bind (argsM fs ρ g1) fun xs g2 => some (.ok (x :: xs) g2)
theorem argsM_len : ∀ {fs : List (EM G)} {ρ : Env} {g g' : G} {ds : List D}, argsM fs ρ g = some (.ok ds g') → ds.length = fs.length
  | [], _, _, _, _, e => by cases e; rfl
  | f :: fs, _, _, _, _, e => by
    obtain ⟨x, g1, e1, e⟩ := Rs.bind_eq e
    obtain ⟨xs, g2, e2, e⟩ := Rs.bind_eq e
    cases e
    rw [List.length_cons, List.length_cons, argsM_len e2]
def tAV (BR : BagR G) (fs : List (EM G)) : TA := fun σ H Q => ∃ ρ F S g, RelE BR σ H ρ F S g ∧ ∃ ds g', argsM fs ρ g = some (.ok ds g') ∧ ∀ vs H' F' S', Ext H F S H' F' S' → BR.R F' H' g' → RpL H' S' vs ds → Q vs H'
theorem ca_nil : PA X [] (tAV BR []) := PA.imp pa_nil fun σ H Q ⟨ρ, F, S, g, R, d, g', e, k⟩ => by
  cases e
  exact k [] H F S (Ext.refl R.amb) R.amb.bag .nil
theorem ca_cons {es : List Expr} {fs : List (EM G)} (na : noStar a = true) (ha : PE X a (tV BR f)) (hr : PA X es (tAV BR fs)) : PA X (a :: es) (tAV BR (f :: fs)) :=
  PA.imp (pa_cons ha hr (starEach_ns na _ _)) fun σ H Q ⟨ρ, F, S, g, R, d, g', e, k⟩ => by
    obtain ⟨x, g1, e1, e⟩ := Rs.bind_eq e
    obtain ⟨xs, g2, e2, e⟩ := Rs.bind_eq e
    cases e
    refine ⟨ρ, F, S, g, R, x, g1, e1, fun v H1 F1 S1 E1 b1 r1 => ?_⟩
    have R1 := R.later E1 b1
    refine ⟨ρ, F1, S1, g1, R1, xs, _, e2, fun vs H2 F2 S2 E2 b2 r2 => ?_⟩
    exact k _ H2 F2 S2 (E1.trans R.amb E2) b2 (.cons (r1.kp (E2.kp R1.amb)) r2)
def tupM {G : Type} (fs : List (EM G)) : EM G := fun ρ g => Rs.bind (argsM fs ρ g) fun xs g1 => some (.ok (.tuple xs) g1)
def lstM {G : Type} (fs : List (EM G)) : EM G := fun ρ g => Rs.bind (argsM fs ρ g) fun xs g1 => some (.ok (.list xs) g1)
theorem ce_tup {es : List Expr} {fs : List (EM G)} {k : Nat} (hl : fs.length ≤ 100000) (h : PA X es (tAV BR fs)) : PE X (.Tuple es k pos) (tV BR (tupM fs)) :=
  PE.imp (pe_tup h) fun σ H Q ⟨ρ, F, S, g, R, d, g', e, k⟩ => by
    obtain ⟨xs, g1, e1, e⟩ := Rs.bind_eq e
    cases e
    refine ⟨ρ, F, S, g, R, xs, _, e1, fun vs H1 F1 S1 E1 b1 r1 => ?_⟩
    have hz : vs.length ≤ sizeLine := by rw [r1.length, argsM_len e1]; exact Nat.le_trans hl (by decide)
    exact ⟨hz, Ret.tup (fun w H2 S2 E2 b2 r2 => k w H2 F1 S2 (E1.trans R.amb E2) b2 r2) (E1.amb b1) hz r1⟩
theorem ce_lst {es : List Expr} {fs : List (EM G)} (hl : fs.length ≤ 100000) (h : PA X es (tAV BR fs)) : PE X (.List es pos) (tF BR (lstM fs)) :=
  PE.imp (pe_lst h) fun σ H Q ⟨ρ, F, S, g, R, d, g', e, k⟩ => by
    obtain ⟨xs, g1, e1, e⟩ := Rs.bind_eq e
    cases e
    refine ⟨ρ, F, S, g, R, xs, _, e1, fun vs H1 F1 S1 E1 b1 r1 => ?_⟩
    have hz : vs.length ≤ sizeLine := by rw [r1.length, argsM_len e1]; exact Nat.le_trans hl (by decide)
    refine ⟨hz, RetF.lst (fun w H2 S2 E2 b2 n1 n2 n3 o => k w H2 F1 S2 (E1.trans R.amb E2) b2 ?_ n2 n3 o) (E1.amb b1) hz r1⟩
    cases h : H w with
    | none => rfl
    | some o =>
      by_cases n : w ∈ F
      · rcases E1.bag with z | ⟨z, _⟩
        · exact absurd (by rw [z]; exact n) n3
        · rw [z] at n; cases n
      · rw [E1.keep w o h n] at n1; cases n1

/-! ### tests -/
def truD : D → Option Bool
  | .none => some false
  | .bool b => some b
  | .int i => some (i != 0)
  | .str x => if x.length ≤ sizeLine then some ((x.length : Int) != 0) else none
  | .tuple xs => some (!xs.isEmpty)
  | .list xs => some (!xs.isEmpty)
  | .dict ps => some (!ps.isEmpty)
def tstM {G : Type} (f : EM G) : Mn G Bool := fun ρ g => Rs.bind (f ρ g) fun x g1 => match truD x with
  | some b => some (.ok b g1)
  | none => none
theorem emptyL {H : Hp} {S : Addr → Prop} {vs : List V} {ds : List D} (r : RpL H S vs ds) : vs.isEmpty = ds.isEmpty := by cases r <;> rfl
theorem emptyK {H : Hp} {S : Addr → Prop} {vs : List (Key × V)} {ds : List (D × D)} (r : RpK H S vs ds) : vs.isEmpty = ds.isEmpty := by cases r <;> rfl
def plainT : Expr → Bool
  | .UnaryOp .Not _ _ => false
  | .BoolOp _ _ _ => false
  | .IfExp _ _ _ _ => false
  | .Compare _ _ _ _ => false
  | _ => true
theorem plainT_ok {e : Expr} (h : plainT e = true) (env : PySem.Env) (whole : Sem Value) : isTrue e env whole = (do let v ← whole; standAt e.pos; holding [v] (truthy v)) := by
  cases e with
  | UnaryOp op x p => cases op <;> first | rfl | cases h
  | BoolOp _ _ _ => cases h
  | IfExp _ _ _ _ => cases h
  | Compare _ _ _ _ => cases h
  | _ => rfl
theorem truV {H : Hp} {S : Addr → Prop} {F : List Addr} {v : V} {d : D} {k : Bool} (r : RpB H S F v d) (e : truD d = some k) : TruV X.K v H k := by
  cases d with
  | none => cases r.none; cases e; rfl
  | bool b => cases r.bool; cases e; rfl
  | int i => cases r.int; cases e; rfl
  | str x =>
    cases r.str
    unfold truD at e
    dsimp only at e
    split at e
    · rename_i hl; cases e; exact ⟨hl, rfl⟩
    · cases e
  | tuple ds =>
    obtain ⟨a, vs, rfl, h, l, q⟩ := r.tup
    cases e
    exact .inr (.inl ⟨vs, SqT.of h, by rw [emptyL q]⟩)
  | list ds =>
    obtain ⟨a, vs, rfl, h, l, q⟩ := r.lst
    cases e
    exact .inl ⟨vs, SqL.of h, by rw [emptyL q]⟩
  | dict ds =>
    obtain ⟨a, vs, rfl, h, q⟩ := r.dic
    cases e
    exact .inr (.inr ⟨vs, h, by rw [emptyK q]⟩)
theorem ct_val (hp : plainT a = true) (ha : PE X a (tB BR f)) : PT X a (tT BR (tstM f)) :=
  PT.imp (pt_truth ha (plainT_ok hp _)) fun σ H Q ⟨ρ, F, S, g, R, d, g', e, k⟩ => by
    obtain ⟨z, g1, e1, e⟩ := Rs.bind_eq e
    split at e
    · rename_i b hb
      cases e
      exact ⟨ρ, F, S, g, R, z, _, e1, fun v H1 F1 S1 E1 b1 r1 => ⟨_, truV r1 hb, k H1 F1 S1 E1 b1⟩⟩
    · cases e
/-- a value that is True or False -/
def blM {G : Type} (f : EM G) : Mn G Bool := fun ρ g => Rs.bind (f ρ g) fun x g1 => match x with
  | .bool b => some (.ok b g1)
  | _ => none
theorem blM_eq {ρ : Env} {g g' : G} {b : Bool} (e : blM f ρ g = some (.ok b g')) : f ρ g = some (.ok (.bool b) g') := by
  obtain ⟨z, g1, e1, e⟩ := Rs.bind_eq e
  split at e
  · cases e; exact e1
  · cases e
theorem bl_read {te : TE} (σ : L2.St) (H : Hp) (Q : Bool → Hp → Prop) (hte : ∀ Q', tV BR f σ H Q' → te σ H Q') (q : tT BR (blM f) σ H Q) : tTest te σ H Q := by
  obtain ⟨ρ, F, S, g, R, d, g', e, k⟩ := q
  exact hte _ ⟨ρ, F, S, g, R, _, _, blM_eq e, fun v H1 F1 S1 E1 b1 r1 => ⟨d, r1.b (F := F1).bool, k H1 F1 S1 E1 b1⟩⟩
theorem ct_cmp {op : CmpOp} {r : R2} {sem : D → D → Option D} (ho : OpR X (compareOp op) r) (hs : Ok2 BR r sem) (hm : behindInMarks op b = false) (ha : PE X a (tB BR f)) (hb : PE X b (tB BR h)) : PT X (.Compare a [op] [b] p) (tT BR (blM (bin sem f h))) :=
  PT.imp (pt_cmpR ho ha hb hm) fun σ H Q q => bl_read σ H Q (fun Q' => sound2 hs σ H Q') q
/-- a < b < c -/
def chainM {G : Type} (s s' : D → D → Option D) (f h k : EM G) : EM G := fun ρ g => Rs.bind (f ρ g) fun x g1 => Rs.bind (h ρ g1) fun y g2 => match s x y with
  | some (.bool true) => Rs.bind (k ρ g2) fun z g3 => match s' y z with
    | some w => some (.ok w g3)
    | none => none
  | some (.bool false) => some (.ok (.bool false) g2)
  | _ => none
theorem soundC {r r' : R2} {s s' : D → D → Option D} {k : EM G} (hs : Ok2 BR r s) (hs' : Ok2 BR r' s') (σ : L2.St) (H : Hp) (Q : VK) (q : tV BR (chainM s s' f h k) σ H Q) : tChain r r' (tB BR f) (tB BR h) (tB BR k) σ H Q := by
  obtain ⟨ρ, F, S, g, R, d, g', e, kk⟩ := q
  obtain ⟨x, g1, e1, e⟩ := Rs.bind_eq e
  obtain ⟨y, g2, e2, e⟩ := Rs.bind_eq e
  refine ⟨ρ, F, S, g, R, x, g1, e1, fun v H1 F1 S1 E1 b1 r1 => ?_⟩
  have R1 := R.later E1 b1
  refine ⟨ρ, F1, S1, g1, R1, y, g2, e2, fun u H2 F2 S2 E2 b2 r2 => ?_⟩
  have R2 := R1.later E2 b2
  have E12 := E1.trans R.amb E2
  split at e
  · rename_i hz
    obtain ⟨z, g3, e3, e⟩ := Rs.bind_eq e
    refine hs R2.amb hz (E2.rpB R1.amb r1) r2 fun w H3 S3 E3 b3 r3 => ?_
    cases (r3.b (F := F2)).bool
    refine ⟨true, rfl, ?_⟩
    rw [if_pos rfl]
    have R3 := R2.later E3 b3
    refine ⟨ρ, F2, S3, g2, R3, z, g3, e3, fun t H4 F4 S4 E4 b4 r4 => ?_⟩
    split at e
    · rename_i w hw
      cases e
      exact hs' (E4.amb b4) hw (E4.rpB R3.amb (E3.rpB R2.amb r2)) r4 fun w H5 S5 E5 b5 r5 => kk w H5 F4 S5 (((E12.trans R.amb E3).trans R.amb E4).trans R.amb E5) b5 r5
    · cases e
  · rename_i hz
    cases e
    refine hs R2.amb hz (E2.rpB R1.amb r1) r2 fun w H3 S3 E3 b3 r3 => ?_
    cases (r3.b (F := F2)).bool
    refine ⟨false, rfl, ?_⟩
    rw [if_neg Bool.false_ne_true]
    exact kk _ H3 F2 S3 (E12.trans R.amb E3) b3 (.bl _)
  · cases e
theorem lastM {op op' : CmpOp} {b c : Expr} (hm : behindInMarks op' c = false) : lastMarks [op, op'] [b, c] = false := hm
theorem ce_chain {op op' : CmpOp} {r r' : R2} {s s' : D → D → Option D} {k : EM G} (ho : OpR X (compareOp op) r) (ho' : OpR X (compareOp op') r') (hs : Ok2 BR r s) (hs' : Ok2 BR r' s') (hm : behindInMarks op' c = false)
    (ha : PE X a (tB BR f)) (hb : PE X b (tB BR h)) (hc : PE X c (tB BR k)) : PE X (.Compare a [op, op'] [b, c] pos) (tV BR (chainM s s' f h k)) := PE.imp (pe_chain ho ho' ha hb hc (lastM hm)) (soundC hs hs')
theorem ct_chain {op op' : CmpOp} {r r' : R2} {s s' : D → D → Option D} {k : EM G} (ho : OpR X (compareOp op) r) (ho' : OpR X (compareOp op') r') (hs : Ok2 BR r s) (hs' : Ok2 BR r' s') (hm : behindInMarks op' c = false)
    (ha : PE X a (tB BR f)) (hb : PE X b (tB BR h)) (hc : PE X c (tB BR k)) : PT X (.Compare a [op, op'] [b, c] pos) (tT BR (blM (chainM s s' f h k))) := PT.imp (pt_chain ho ho' ha hb hc (lastM hm)) fun σ H Q q => bl_read σ H Q (fun Q' => soundC hs hs' σ H Q') q
def notM {G : Type} (f : Mn G Bool) : Mn G Bool := fun ρ g => Rs.bind (f ρ g) fun b g1 => some (.ok (!b) g1)
def andM {G : Type} (f h : Mn G Bool) : Mn G Bool := fun ρ g => Rs.bind (f ρ g) fun b g1 => match b with
  | true => h ρ g1
  | false => some (.ok false g1)
def orM {G : Type} (f h : Mn G Bool) : Mn G Bool := fun ρ g => Rs.bind (f ρ g) fun b g1 => match b with
  | true => some (.ok true g1)
  | false => h ρ g1
def ifM {G : Type} {α : Type} (t : Mn G Bool) (f h : Mn G α) : Mn G α := fun ρ g => Rs.bind (t ρ g) fun b g1 => match b with
  | true => f ρ g1
  | false => h ρ g1
variable {t u : Mn G Bool}
theorem ct_not (ha : PT X a (tT BR t)) : PT X (.UnaryOp .Not a p) (tT BR (notM t)) :=
  PT.imp (pt_not ha) fun σ H Q ⟨ρ, F, S, g, R, d, g', e, k⟩ => by
    obtain ⟨z, g1, e1, e⟩ := Rs.bind_eq e
    cases e
    exact ⟨ρ, F, S, g, R, z, _, e1, fun H1 F1 S1 E1 b1 => k H1 F1 S1 E1 b1⟩
theorem sAnd {σ : L2.St} {H : Hp} {Q : Bool → Hp → Prop} (q : tT BR (andM t u) σ H Q) : tAnd (tT BR t) (tT BR u) σ H Q := by
  obtain ⟨ρ, F, S, g, R, d, g', e, k⟩ := q
  obtain ⟨z, g1, e1, e⟩ := Rs.bind_eq e
  refine ⟨ρ, F, S, g, R, z, _, e1, fun H1 F1 S1 E1 b1 => ?_⟩
  cases z with
  | true =>
    rw [if_pos rfl]
    exact ⟨ρ, F1, S1, g1, R.later E1 b1, d, g', e, fun H2 F2 S2 E2 b2 => k H2 F2 S2 (E1.trans R.amb E2) b2⟩
  | false =>
    rw [if_neg Bool.false_ne_true]
    cases e
    exact k H1 F1 S1 E1 b1
theorem sOr {σ : L2.St} {H : Hp} {Q : Bool → Hp → Prop} (q : tT BR (orM t u) σ H Q) : tOr (tT BR t) (tT BR u) σ H Q := by
  obtain ⟨ρ, F, S, g, R, d, g', e, k⟩ := q
  obtain ⟨z, g1, e1, e⟩ := Rs.bind_eq e
  refine ⟨ρ, F, S, g, R, z, _, e1, fun H1 F1 S1 E1 b1 => ?_⟩
  cases z with
  | false =>
    rw [if_neg Bool.false_ne_true]
    exact ⟨ρ, F1, S1, g1, R.later E1 b1, d, g', e, fun H2 F2 S2 E2 b2 => k H2 F2 S2 (E1.trans R.amb E2) b2⟩
  | true =>
    rw [if_pos rfl]
    cases e
    exact k H1 F1 S1 E1 b1
theorem cw_and1 (ha : PT X a (tT BR t)) : PW X (.BoolOp .And [a] p) (tT BR t) := pw_and1 ha
theorem cw_or1 (ha : PT X a (tT BR t)) : PW X (.BoolOp .Or [a] p) (tT BR t) := pw_or1 ha
theorem cw_and {r : List Expr} (ha : PT X a (tT BR t)) (hb : PW X (.BoolOp .And (b :: r) p) (tT BR u)) : PW X (.BoolOp .And (a :: b :: r) p) (tT BR (andM t u)) := PW.imp (pw_and ha hb) fun σ H Q q => sAnd q
theorem cw_or {r : List Expr} (ha : PT X a (tT BR t)) (hb : PW X (.BoolOp .Or (b :: r) p) (tT BR u)) : PW X (.BoolOp .Or (a :: b :: r) p) (tT BR (orM t u)) := PW.imp (pw_or ha hb) fun σ H Q q => sOr q
/-! .. as values -/
def vAndM {G : Type} (f h : EM G) : EM G := fun ρ g => Rs.bind (blM f ρ g) fun b g1 => match b with
  | true => h ρ g1
  | false => some (.ok (.bool false) g1)
def vOrM {G : Type} (f h : EM G) : EM G := fun ρ g => Rs.bind (blM f ρ g) fun b g1 => match b with
  | true => some (.ok (.bool true) g1)
  | false => h ρ g1
def vNotM {G : Type} (f : EM G) : EM G := fun ρ g => Rs.bind (blM f ρ g) fun b g1 => some (.ok (.bool (!b)) g1)
theorem ce_one {op : BoolOp} (h : PE X a (tV BR f)) : PE X (.BoolOp op [a] p) (tV BR f) := pe_one h
theorem ce_and {r : List Expr} (ha : PE X a (tV BR f)) (hb : PE X (.BoolOp .And (b :: r) p) (tV BR h)) : PE X (.BoolOp .And (a :: b :: r) p) (tV BR (vAndM f h)) :=
  PE.imp (pe_and ha hb) fun σ H Q ⟨ρ, F, S, g, R, d, g', e, k⟩ => by
    obtain ⟨z, g1, e1, e⟩ := Rs.bind_eq e
    refine ⟨ρ, F, S, g, R, _, _, blM_eq e1, fun v H1 F1 S1 E1 b1 r1 => ⟨z, (r1.b (F := F1)).bool, ?_⟩⟩
    cases z with
    | true =>
      rw [if_pos rfl]
      exact ⟨ρ, F1, S1, g1, R.later E1 b1, d, g', e, fun v H2 F2 S2 E2 b2 r2 => k v H2 F2 S2 (E1.trans R.amb E2) b2 r2⟩
    | false =>
      rw [if_neg Bool.false_ne_true]
      cases e
      exact k _ H1 F1 S1 E1 b1 (.bl _)
theorem ce_or {r : List Expr} (ha : PE X a (tV BR f)) (hb : PE X (.BoolOp .Or (b :: r) p) (tV BR h)) : PE X (.BoolOp .Or (a :: b :: r) p) (tV BR (vOrM f h)) :=
  PE.imp (pe_or ha hb) fun σ H Q ⟨ρ, F, S, g, R, d, g', e, k⟩ => by
    obtain ⟨z, g1, e1, e⟩ := Rs.bind_eq e
    refine ⟨ρ, F, S, g, R, _, _, blM_eq e1, fun v H1 F1 S1 E1 b1 r1 => ⟨z, (r1.b (F := F1)).bool, ?_⟩⟩
    cases z with
    | false =>
      rw [if_neg Bool.false_ne_true]
      exact ⟨ρ, F1, S1, g1, R.later E1 b1, d, g', e, fun v H2 F2 S2 E2 b2 r2 => k v H2 F2 S2 (E1.trans R.amb E2) b2 r2⟩
    | true =>
      rw [if_pos rfl]
      cases e
      exact k _ H1 F1 S1 E1 b1 (.bl _)
theorem ce_not (ha : PE X a (tV BR f)) : PE X (.UnaryOp .Not a p) (tV BR (vNotM f)) :=
  PE.imp (pe_not ha) fun σ H Q ⟨ρ, F, S, g, R, d, g', e, k⟩ => by
    obtain ⟨z, g1, e1, e⟩ := Rs.bind_eq e
    cases e
    exact ⟨ρ, F, S, g, R, _, _, blM_eq e1, fun v H1 F1 S1 E1 b1 r1 => ⟨z, (r1.b (F := F1)).bool, k _ H1 F1 S1 E1 b1 (.bl _)⟩⟩
theorem ce_if (hc : PT X c (tT BR t)) (ha : PE X a (tV BR f)) (hb : PE X b (tV BR h)) : PE X (.IfExp c a b p) (tV BR (ifM t f h)) :=
  PE.imp (pe_ifExp hc ha hb) fun σ H Q ⟨ρ, F, S, g, R, d, g', e, k⟩ => by
    obtain ⟨z, g1, e1, e⟩ := Rs.bind_eq e
    refine ⟨ρ, F, S, g, R, _, _, e1, fun H1 F1 S1 E1 b1 => ?_⟩
    cases z with
    | true =>
      rw [if_pos rfl]
      exact ⟨ρ, F1, S1, g1, R.later E1 b1, d, g', e, fun v H2 F2 S2 E2 b2 r2 => k v H2 F2 S2 (E1.trans R.amb E2) b2 r2⟩
    | false =>
      rw [if_neg Bool.false_ne_true]
      exact ⟨ρ, F1, S1, g1, R.later E1 b1, d, g', e, fun v H2 F2 S2 E2 b2 r2 => k v H2 F2 S2 (E1.trans R.amb E2) b2 r2⟩
end
end Kd

end part_KdE
section part_KdF
/-! Kd, part F: what a loop walks: lists, tuples, enumerate of both, zip, range, reversed. -/
namespace PySem
theorem kd_meets_enum {v : Value} {oi : Obj} {Hh : Heap → Prop} (Bg : Begins v oi Hh) :
    Meets (Builtin.«enumerate.__new__» ⟨[.type "enumerate", v], []⟩) (fun _ Rr st => Hh st.heap ∧
      Rr (.ok (.ret (.ref (st.heap.push oi).objs.size))) { st with heap := (st.heap.push oi).push { cls := .type "enumerate", data := .fields #[.none, .bool false, .ref st.heap.objs.size, rawInt 0, .none, .none] } }) :=
  .of_wp fun prg wo Ar Rr st hh => by
    obtain ⟨hp, ge, dr, tk, os⟩ := st
    obtain ⟨h1, hh⟩ := hh
    have hsb := sub_enumerate
    have it1 : ∀ {A' : Around} {Er : Value → Shared → Prop} {Qq : Value → Shared → Prop}, Qq (.ref hp.objs.size) ⟨hp.push oi, ge, dr, tk, os⟩ →
        wpAny (model prg wo) A' (pyIter v) Qq Er ⟨hp, ge, dr, tk, os⟩ := fun q => Bg.iter prg wo _ _ ⟨hp, ge, dr, tk, os⟩ _ h1 q
    wp_walk using it1
    refine wpAny_stack_any (fun stk => wpAny_pure ?_)
    split
    · rename_i c _ _ _ _ _
      cases (c == Value.type "enumerate")
      · wp_walk using it1
        exact ⟨_, rfl, hh⟩
      · wp_walk using it1
        exact ⟨_, rfl, hh⟩
    · wp_walk using it1
      exact ⟨_, rfl, hh⟩
theorem kd_call_enum {prg : Program} {wo : World} {Ar : Around} {Er : Value → Shared → Prop} {st : Shared} {v : Value} {oi : Obj} {Hh : Heap → Prop} {Qq : Value → Shared → Prop} (Bg : Begins v oi Hh) (h1 : Hh st.heap)
    (hq : ∀ h', IsEnum h' (st.heap.objs.size + 1) st.heap.objs.size 0 .none → h'.get? st.heap.objs.size = some oi → (∀ b o, st.heap.get? b = some o → h'.get? b = some o) → Qq (.ref (st.heap.objs.size + 1)) { st with heap := h' }) :
    wpAny (model prg wo) Ar (call (.type "enumerate") [v]) Qq Er st := by
  refine callType_new F.called_enumerate (by decide) (F.typeCall_enumerate_1 _) (F.newCall_enumerate_1 _) (fun obj => F.args_object_init_2 obj _) F.entry_enumerate_new (kd_meets_enum Bg) ⟨h1, ?_⟩
  have hsz : (st.heap.push oi).objs.size = st.heap.objs.size + 1 := Heap.size_push _ _
  show _ ∧ _
  rw [hsz]
  have hen : IsEnum ((st.heap.push oi).push { cls := .type "enumerate", data := .fields #[.none, .bool false, .ref st.heap.objs.size, rawInt 0, .none, .none] }) (st.heap.objs.size + 1) st.heap.objs.size 0 .none := by
    have q := Heap.get?_push_size (st.heap.push oi) (o := { cls := .type "enumerate", data := .fields #[.none, .bool false, .ref st.heap.objs.size, rawInt 0, .none, .none] }) rfl
    rwa [hsz] at q
  exact ⟨⟨_, hen, rfl⟩, hq _ hen (Heap.get?_push_of_some _ (Heap.get?_push_size _ Bg.free)) fun b o x => Heap.get?_push_of_some _ (Heap.get?_push_of_some _ x)⟩
end PySem
namespace Kd
open PySem PySem.Spec PyProof.Rows L2
/-- enumerate over a tuple: each item in a new pair -/
def ItET (K : PySem.W.Frag) (a : Addr) : It where
  go := fun i H => ∃ (xs : List V) (x : V), SqT K H a xs ∧ xs[i]? = some x
  yld := fun i H v H' => ∃ T x, v = .ref T ∧ H T = none ∧ H' = upd H T (.tup [.int (i : Nat), x]) ∧ ∀ xs, SqT K H a xs → xs[i]? = some x
  stop := fun i H => ∃ xs : List V, SqT K H a xs ∧ xs.length = i
theorem turnET {Pp : Program} {wo : World} {K : PySem.W.Frag} {elts : List Expr} {kk : Nat} {tpos : Pos} (a e it : Addr) :
    Turn Pp wo K (.Tuple elts kk tpos) (ItET K a) [e, it] e (fun i h => (∃ old, IsEnum h e it ((i : Nat) : Int) old) ∧ h.IsTupleIter it a i ∧ e ≠ it ∧ a ≠ it ∧ a ≠ e) where
  mem := List.mem_cons_self
  obj := fun i h st b hb => by
    obtain ⟨⟨old, he⟩, ⟨o, ho, hc, hd⟩, _⟩ := st
    rcases List.mem_cons.mp hb with z | hb
    · rw [z]
      exact ⟨_, he, fun v q => nomatch q⟩
    · rw [List.mem_singleton.mp hb]
      exact ⟨o, ho, fun v q => by rw [hd] at q; cases q⟩
  keep := fun i h h' st k => by
    obtain ⟨⟨old, he⟩, hi, n1, n2, n3⟩ := st
    exact ⟨⟨old, k e (by simp) _ he⟩, hi.at fun o q => k it (by simp) o q, n1, n2, n3⟩
  item := by
    intro X hP hw hK hc i pins s σ H E I hf st hg
    subst hP hw hK
    obtain ⟨⟨old, he⟩, hit, hne, na, nae⟩ := st
    obtain ⟨xs, x, hq, hx⟩ := hg
    obtain ⟨its, rv, tp, hz⟩ := I.tuple hq
    obtain ⟨u, hu, ru⟩ := rv.get hx
    have hel : e < s.heap.objs.size := Heap.lt_size he
    have hil : it < s.heap.objs.size := by
      obtain ⟨_, q, _⟩ := hit
      exact Heap.lt_size q
    have Dr := Draws.tuple (prog := X.prog) (w := X.w) (A := X.A.in1) (I.ok.hd hc) it a na its.toArray
    have hlt : i < its.toArray.size := by
      have := (List.getElem?_eq_some_iff.mp hu).1
      simpa using this
    refine wpAny_pyNext_enum_itemD Dr he ⟨hit, show s.heap.IsTuple a its.toArray from tp⟩ hlt hne (by simp [hne, nae.symm]) fun y h' tk hy ho hst' hT hsz hk => ?_
    have eu : y = u := by
      have hy' : its[i]? = some y := by simpa using hy
      rw [hu] at hy'
      exact (Option.some.inj hy').symm
    subst eu
    refine ⟨_, rfl, wpAny_letOwnedTupleGo_enum (s := { s with heap := h', toks := tk + 1 }) ho fun h'' he' sb => ?_⟩
    have hT2 : h''.get? s.heap.objs.size = some { cls := .type "tuple", data := .seq #[.int i tk, y] } := (sb.2 _ (Nat.ne_of_gt hel)).trans hT
    have new : ObjOk X.prog X.w (upd H s.heap.objs.size (.tup [.int (i : Nat), x])) h'' s.heap.objs.size (.tup [.int (i : Nat), x]) :=
      ⟨by show 2 ≤ sizeLine; decide, [.int i tk, y], .cons ⟨_, rfl⟩ (.cons ru .nil), ⟨_, hT2, rfl, _, rfl⟩⟩
    have I1 : Inv X pins σ (upd H s.heap.objs.size (.tup [.int (i : Nat), x])) { s with heap := h'', toks := tk + 1 } := I.turnedNew (ch := [e, it]) (fun b ob hb q => by
      have n1 : b ≠ e := fun z => hb (by simp [z])
      have n2 : b ≠ it := fun z => hb (by simp [z])
      exact (sb.2 b n1).trans (hk b ob n1 n2 q)) hf (Nat.le_refl _) new
    refine ⟨.ref s.heap.objs.size, _, I1, rfl, ⟨_, x, rfl, I.hok.fresh (Nat.le_refl _), rfl, fun ys hys => by rw [I.tuple_inj hys hq]; exact hx⟩, ⟨⟨y, ?_⟩, hst'.1.at fun o q => (sb.2 it (Ne.symm hne)).trans q, hne, na, nae⟩, fun b hb => ?_⟩
    · rw [show ((i + 1 : Nat) : Int) = (i : Int) + 1 by omega]
      exact he'
    · have hb' : b < s.heap.objs.size := by
        rcases List.mem_cons.mp hb with z | hb
        · exact z ▸ hel
        · exact (List.mem_singleton.mp hb) ▸ hil
      rw [upd_ne (Nat.ne_of_lt hb')]
      exact (hf b hb).1
  done := by
    intro X hP hw hK hc i pins s σ H E I hf st hg
    subst hP hw hK
    obtain ⟨⟨old, he⟩, hit, hne, na, nae⟩ := st
    obtain ⟨xs, hq, hx⟩ := hg
    obtain ⟨its, rv, tp, hz⟩ := I.tuple hq
    obtain ⟨f0, f1, f2, f3, f4, f5⟩ := hf it (by simp)
    have hl := rv.length
    have Dr := Draws.tuple (prog := X.prog) (w := X.w) (A := X.A.in1) (I.ok.hd hc) it a na its.toArray
    have hsz : its.toArray.size = i := by simp; omega
    subst hsz
    exact wpAny_pyNext_enum_endD Dr he ⟨hit, show s.heap.IsTuple a its.toArray from tp⟩ fun h' eb => ⟨rfl, I.turned (t' := s.toks) (fun b o hb q => eb b o hb q) f0 f1 f3 f4 f5⟩
  self := fun A i s Q E st h => by
    obtain ⟨⟨old, he⟩, _⟩ := st
    exact wpAny_pyIter_enum he h
theorem walk_ET {K : PySem.W.Frag} {a : Addr} {xs : List V} : Walk (ItET K a) xs.length (fun H => SqT K H a xs) (YPair (fun i => some (.int (i : Nat))) (fun i => xs[i]?)) := by
  refine ⟨fun i _ hi q => ⟨xs, xs[i], q, by simp [hi]⟩, fun _ q => ⟨xs, q, rfl⟩, fun i H v H' _ q y => ?_⟩
  obtain ⟨T, x, h1, h2, h3, h4⟩ := y
  exact ⟨T, .int (i : Nat), x, h1, h2, h3, rfl, h4 xs q⟩
section
variable {X : Cx}
/-- a list or a tuple, walked -/
def iSeq (K : PySem.W.Frag) (tl : TE) : TI := fun σ H Rr => tl σ H fun x H1 => ∃ a xs, x = .ref a ∧ ((SqL K H1 a xs ∧ Rr (Itl K a) H1) ∨ (SqT K H1 a xs ∧ Rr (Itt K a) H1))
theorem pi_seq {tg l : Expr} {tl : TE} (hl : PE X l tl) : PI X tg l (iSeq X.K tl) := by
  refine ⟨fun pins s σ H Rr I h => ?_⟩
  refine thn (hl.run pins s σ H _ I h) (fun v s1 ⟨x, H1, I1, r1, a, xs, ex, q1⟩ => ?_)
  subst ex
  cases r1
  have fpn : ∀ c, c ∈ [s1.heap.objs.size] → FpOk X pins H1 c := fun c hc => by
    rw [List.mem_singleton.mp hc]
    exact I1.fpOk (Nat.le_refl _) (I1.hok.fresh (Nat.le_refl _))
  rcases q1 with ⟨hq, q⟩ | ⟨hq, q⟩
  · obtain ⟨its, rv, pl, _⟩ := I1.list hq
    exact wpAny_pyIter_list pl.isList ⟨_, _, _, _, H1, rfl, I1.kept (t' := s1.toks) (fun b o e => Heap.get?_push_of_some _ e), turn_list a _, ⟨_, Heap.get?_push_size _ rfl, rfl, rfl⟩, fpn, q⟩
  · obtain ⟨its, rv, pl, _⟩ := I1.tuple hq
    exact wpAny_pyIter_tuple (show s1.heap.IsTuple a its.toArray from pl) ⟨_, _, _, _, H1, rfl, I1.kept (t' := s1.toks) (fun b o e => Heap.get?_push_of_some _ e), turn_tuple a _, ⟨_, Heap.get?_push_size _ rfl, rfl, rfl⟩, fpn, q⟩
/-- enumerate of a list or a tuple -/
def iEnA (K : PySem.W.Frag) (ta : TE) : TI := fun σ H Rr => ta σ H fun x H1 => ∃ a xs, x = .ref a ∧ ((SqL K H1 a xs ∧ Rr (Ite K a) H1) ∨ (SqT K H1 a xs ∧ Rr (ItET K a) H1))
theorem pi_enA {e : Expr} {ta : TE} {p pos tpos : Pos} {elts : List Expr} {kk : Nat} (hg : Gl X "enumerate") (hm : X.mg "enumerate" = none) (na : noStar e = true) (ha : PE X e ta) :
    PI X (.Tuple elts kk tpos) (.Call (.Name "enumerate" p) [e] [] pos) (iEnA X.K ta) := by
  refine ⟨fun pins s σ H Rr I h => ?_⟩
  have hA : PA X [e] (tCons ta tNil) := pa_cons ha pa_nil (starEach_ns na _ _)
  refine Call_ (ld_blt I hg hm boot_enumerate (PyProof.Rows.callWith_type1 (thn (hA.run pos pins s σ H (fun vs H1 => ∃ a xs, vs = [.ref a] ∧ ((SqL X.K H1 a xs ∧ Rr (Ite X.K a) H1) ∨ (SqT X.K H1 a xs ∧ Rr (ItET X.K a) H1))) I ?_) (fun us s1 h1 => ?_)) (starEach_ns na _ _) rfl))
  · show ta σ H fun x H1 => _
    refine Eq.mp ?_ h
    unfold iEnA
    congr 1
    funext x H1
    refine propext ⟨?_, ?_⟩
    · rintro ⟨a, xs, rfl, q⟩
      exact ⟨a, xs, rfl, q⟩
    · rintro ⟨a, xs, ex, q⟩
      cases ex
      exact ⟨a, xs, rfl, q⟩
  · obtain ⟨vs, H1, I1, r1, a, xs, ex, q1⟩ := h1
    subst ex
    cases r1 with
    | cons r rr =>
      cases rr
      cases r
      have fpn : ∀ c, c ∈ [s1.heap.objs.size + 1, s1.heap.objs.size] → FpOk X pins H1 c := fun c hc => by
        have hle : s1.heap.objs.size ≤ c := by
          rcases List.mem_cons.mp hc with z | hc
          · rw [z]; exact Nat.le_succ _
          · rw [List.mem_singleton.mp hc]; exact Nat.le_refl _
        exact I1.fpOk hle (I1.hok.fresh hle)
      rcases q1 with ⟨hq, q⟩ | ⟨hq, q⟩
      · obtain ⟨its, rv, pl, _⟩ := I1.list hq
        refine kd_call_enum (begins_list a its.toArray) pl.isList fun h' he hit hk => wpAny_pyIter_enum he ?_
        exact ⟨_, _, _, _, H1, rfl, I1.kept (h' := h') (t' := s1.toks) hk, turn_enum a (s1.heap.objs.size + 1) s1.heap.objs.size, ⟨⟨_, he⟩, ⟨_, hit, rfl, rfl⟩, Nat.succ_ne_self _⟩, fpn, q⟩
      · obtain ⟨its, rv, pl, _⟩ := I1.tuple hq
        have la : a < s1.heap.objs.size := by
          obtain ⟨o, ho, _⟩ := id pl
          exact Heap.lt_size ho
        refine kd_call_enum (begins_tuple a its.toArray) (show s1.heap.IsTuple a its.toArray from pl) fun h' he hit hk => wpAny_pyIter_enum he ?_
        exact ⟨_, _, _, _, H1, rfl, I1.kept (h' := h') (t' := s1.toks) hk, turnET a (s1.heap.objs.size + 1) s1.heap.objs.size, ⟨⟨_, he⟩, ⟨_, hit, rfl, rfl⟩, Nat.succ_ne_self _, Nat.ne_of_lt la, Nat.ne_of_lt (Nat.lt_succ_of_lt la)⟩, fpn, q⟩
end
end Kd

end part_KdF
section part_KdG
/-! Kd, part G: iterators, targets, comprehensions. -/
namespace Kd
open PySem PySem.Spec PyProof.Rows L2
/-! ### targets -/
mutual
inductive Tg where
  | nm (i : Nat)
  | tp (ts : Tgs)
inductive Tgs where
  | nil
  | cons (t : Tg) (ts : Tgs)
end
mutual
def Tg.slots : Tg → List Nat
  | .nm i => [i]
  | .tp ts => ts.slots
def Tgs.slots : Tgs → List Nat
  | .nil => []
  | .cons t ts => t.slots ++ ts.slots
end
def Tgs.len : Tgs → Nat
  | .nil => 0
  | .cons _ ts => ts.len + 1
mutual
def bindT : Tg → D → Env → Option Env
  | .nm i, d, ρ => some (ρ.set i (some (.dat d)))
  | .tp ts, d, ρ => match d with
    | .tuple ds => bindTs ts ds ρ
    | _ => none
def bindTs : Tgs → List D → Env → Option Env
  | .nil, [], ρ => some ρ
  | .cons t ts, d :: ds, ρ => match bindT t d ρ with
    | some ρ1 => bindTs ts ds ρ1
    | none => none
  | _, _, _ => none
end
/-- only the slots is have changed, to data -/
structure SetsTo (js : List Nat) (σ : L2.St) (ρ : Env) (σ1 : L2.St) (ρ1 : Env) : Prop where
  ls : σ1.length = σ.length
  lr : ρ1.length = ρ.length
  off : ∀ j, j ∉ js → σ1[j]? = σ[j]? ∧ ρ1[j]? = ρ[j]?
  dat : ∀ j s, j ∈ js → ρ1[j]? = some (some s) → s.isOwn = false
theorem SetsTo.refl (σ : L2.St) (ρ : Env) : SetsTo [] σ ρ σ ρ := ⟨rfl, rfl, fun _ _ => ⟨rfl, rfl⟩, fun _ _ h => nomatch h⟩
theorem SetsTo.trans {js ks : List Nat} {σ σ1 σ2 : L2.St} {ρ ρ1 ρ2 : Env} (a : SetsTo js σ ρ σ1 ρ1) (b : SetsTo ks σ1 ρ1 σ2 ρ2) : SetsTo (js ++ ks) σ ρ σ2 ρ2 where
  ls := b.ls.trans a.ls
  lr := b.lr.trans a.lr
  off := fun j h => by
    simp only [List.mem_append, not_or] at h
    obtain ⟨a1, a2⟩ := a.off j h.1
    obtain ⟨b1, b2⟩ := b.off j h.2
    exact ⟨b1.trans a1, b2.trans a2⟩
  dat := fun j s h e => by
    by_cases hk : j ∈ ks
    · exact b.dat j s hk e
    · rw [(b.off j hk).2] at e
      exact a.dat j s ((List.mem_append.mp h).resolve_right hk) e
section
variable {G : Type} {BR : BagR G} {X : Cx} {H : Hp} {F : List Addr} {S : Addr → Prop} {g : G} {σ : L2.St} {ρ : Env}
theorem RelE.sets {js : List Nat} {σ1 : L2.St} {ρ1 : Env} (R : RelE BR σ H ρ F S g) (t : SetsTo js σ ρ σ1 ρ1) (hs : ∀ j s, j ∈ js → ρ1[j]? = some (some s) → ∃ v, σ1[j]? = some (some v) ∧ SlotR BR H S F s v) : RelE BR σ1 H ρ1 F S g where
  len := by rw [t.lr, t.ls]; exact R.len
  slot := fun i s e => by
    by_cases hi : i ∈ js
    · exact hs i s hi e
    · rw [(t.off i hi).2] at e
      rw [(t.off i hi).1]
      exact R.slot i s e
  amb := R.amb
  ownS := fun i s r e ho e2 => by
    by_cases hi : i ∈ js
    · rw [t.dat i s hi e] at ho; cases ho
    · rw [(t.off i hi).2] at e
      rw [(t.off i hi).1] at e2
      exact R.ownS i s r e ho e2
  inj := fun i j s u r e1 h1 q1 e2 h2 q2 => by
    by_cases hi : i ∈ js
    · rw [t.dat i s hi e1] at h1; cases h1
    · by_cases hj : j ∈ js
      · rw [t.dat j u hj e2] at h2; cases h2
      · rw [(t.off i hi).2] at e1
        rw [(t.off i hi).1] at q1
        rw [(t.off j hj).2] at e2
        rw [(t.off j hj).1] at q2
        exact R.inj i j s u r e1 h1 q1 e2 h2 q2
theorem sets_set {i : Nat} {v : V} {d : D} (σ : L2.St) (ρ : Env) : SetsTo [i] σ ρ (σ.set i (some v)) (ρ.set i (some (.dat d))) where
  ls := List.length_set
  lr := List.length_set
  off := fun j h => by
    have h' : i ≠ j := fun e => h (by simp [e])
    exact ⟨List.getElem?_set_ne h', List.getElem?_set_ne h'⟩
  dat := fun j s h e => by
    have hj : j = i := List.mem_singleton.mp h
    subst hj
    by_cases hl : j < ρ.length
    · rw [List.getElem?_set_self hl] at e
      cases e; rfl
    · rw [List.getElem?_eq_none (by simpa using hl)] at e; cases e
theorem RelE.setD (R : RelE BR σ H ρ F S g) (i : Nat) {v : V} {d : D} (r : Rp H S v d) : RelE BR (σ.set i (some v)) H (ρ.set i (some (.dat d))) F S g :=
  R.sets (sets_set σ ρ) fun j s hj e => by
    have hj : j = i := List.mem_singleton.mp hj
    subst hj
    by_cases hl : j < ρ.length
    · rw [List.getElem?_set_self hl] at e
      cases e
      exact ⟨v, List.getElem?_set_self (by rw [← R.len]; exact hl), r⟩
    · rw [List.getElem?_eq_none (by simpa using hl)] at e; cases e
variable (BR) in
/-- a target's reading: it takes a value that stands for d -/
def tG (t : Tg) : TG := fun v σ H Q => ∃ ρ F S g d ρ1, RelE BR σ H ρ F S g ∧ Rp H S v d ∧ bindT t d ρ = some ρ1 ∧ ∀ σ1, RelE BR σ1 H ρ1 F S g → SetsTo t.slots σ ρ σ1 ρ1 → Q σ1 H
variable (BR) in
def tGs (ts : Tgs) : TGs := fun vs σ H Q => ∃ ρ F S g ds ρ1, RelE BR σ H ρ F S g ∧ RpL H S vs ds ∧ bindTs ts ds ρ = some ρ1 ∧ ∀ σ1, RelE BR σ1 H ρ1 F S g → SetsTo ts.slots σ ρ σ1 ρ1 → Q σ1 H
theorem PG.imp {e : Expr} {t t' : TG} (h : PG X e t) (k : ∀ v σ H Q, t' v σ H Q → t v σ H Q) : PG X e t' := ⟨fun pins s σ H v u Q I r q => h.run pins s σ H v u Q I r (k v σ H Q q)⟩
theorem PGs.imp {e : List Expr} {t t' : TGs} (h : PGs X e t) (k : ∀ v σ H Q, t' v σ H Q → t v σ H Q) : PGs X e t' := ⟨fun pins s σ H v u Q I r q => h.run pins s σ H v u Q I r (k v σ H Q q)⟩
theorem cg_nm {i : Nat} {x : Str} {p : Pos} (hN : X.N.Nodup) (hi : X.N[i]? = some x) (hx : Loc X.env.scope x) (hf : X.fn x = true ∨ X.env.scope.names.lookup x = some .local) : PG X (.Name x p) (tG BR (.nm i)) :=
  PG.imp (pg_name hN hi hx hf) fun v σ H Q ⟨ρ, F, S, g, d, ρ1, R, r, e, k⟩ => by
    cases e
    exact k _ (R.setD i r) (sets_set σ ρ)
theorem assign_ns {e : Expr} (h : noStar e = true) (es : List Expr) (env : PySem.Env) : (assignEach (e :: es) env).map (·.2) = assign e env :: (assignEach es env).map (·.2) := by
  cases e <;> first | rfl | cases h
theorem assignLen : ∀ (es : List Expr) (env : PySem.Env), (assignEach es env).length = es.length
  | [], _ => rfl
  | e :: es, env => by
    have h : (assignEach (e :: es) env).length = (assignEach es env).length + 1 := by cases e <;> rfl
    rw [h, assignLen es env]; rfl
theorem assignStar : ∀ (es : List Expr) (env : PySem.Env), es.all noStar = true → (assignEach es env).findIdx? (·.1) = none
  | [], _, _ => rfl
  | e :: es, env, h => by
    rw [List.all_cons, Bool.and_eq_true] at h
    have h1 : ∃ st, assignEach (e :: es) env = (false, st) :: assignEach es env := by
      have h' := h.1
      cases e <;> first | exact ⟨_, rfl⟩ | cases h'
    obtain ⟨st, h1⟩ := h1
    rw [h1, List.findIdx?_cons]
    rw [assignStar es env h.2]
    rfl
theorem cg_nil : PGs X [] (tGs BR .nil) := PGs.imp pgs_nil fun v σ H Q ⟨ρ, F, S, g, ds, ρ1, R, r, e, k⟩ => by
  cases r with
  | nil => cases e; exact ⟨rfl, k _ R (SetsTo.refl σ ρ)⟩
  | cons a b => cases e
theorem cg_cons {e : Expr} {es : List Expr} {t : Tg} {ts : Tgs} (ns : noStar e = true) (h1 : PG X e (tG BR t)) (h2 : PGs X es (tGs BR ts)) : PGs X (e :: es) (tGs BR (.cons t ts)) :=
  PGs.imp (pgs_cons h1 h2 (assign_ns ns _ _)) fun v σ H Q ⟨ρ, F, S, g, ds, ρ1, R, r, e, k⟩ => by
    cases r with
    | nil => cases e
    | @cons w ws d ds a b =>
      have e' : (match bindT t d ρ with | some ρ1 => bindTs ts ds ρ1 | none => none) = some ρ1 := by
        rw [← e]; rw [bindTs]
      split at e'
      · rename_i ρ2 h2
        refine ⟨w, ws, rfl, ρ, F, S, g, d, ρ2, R, a, h2, fun σ1 R1 t1 => ?_⟩
        exact ⟨ρ2, F, S, g, ds, ρ1, R1, b, e', fun σ2 R2 t2 => k σ2 R2 (t1.trans t2)⟩
      · cases e'
theorem bindTs_len : ∀ {ts : Tgs} {ds : List D} {ρ ρ1 : Env}, bindTs ts ds ρ = some ρ1 → ds.length = ts.len
  | .nil, [], _, _, _ => rfl
  | .nil, _ :: _, _, _, h => by rw [bindTs] at h; cases h; all_goals (intros; contradiction)
  | .cons _ _, [], _, _, h => by rw [bindTs] at h; cases h; all_goals (intros; contradiction)
  | .cons t ts, d :: ds, ρ, ρ1, h => by
    rw [bindTs] at h
    split at h
    · rw [List.length_cons, bindTs_len h]; rfl
    · cases h
theorem cg_tp {es : List Expr} {ts : Tgs} {k : Nat} {p : Pos} (hc : X.calm = true) (ns : es.all noStar = true) (hl : es.length = ts.len) (h : PGs X es (tGs BR ts)) : PG X (.Tuple es k p) (tG BR (.tp ts)) :=
  PG.imp (pg_tup (n := es.length) hc h (assignLen es _) (assignStar es _ ns)) fun v σ H Q ⟨ρ, F, S, g, d, ρ1, R, r, e, kk⟩ => by
    cases r with
    | tup h l q =>
      rw [bindT] at e
      refine ⟨_, _, rfl, SqT.of h, ?_, ρ, F, S, g, _, ρ1, R, q, e, fun σ1 R1 t1 => kk σ1 R1 t1⟩
      rw [q.length, bindTs_len e, hl]
    | _ => rw [bindT] at e; cases e; all_goals (intros; contradiction)

/-! ### wiping -/
def wipeE (ρ : Env) : List Nat → Env
  | [] => ρ
  | v :: vs => (wipeE ρ vs).set v none
theorem wipeE_len (ρ : Env) : ∀ vs, (wipeE ρ vs).length = ρ.length
  | [] => rfl
  | v :: vs => by unfold wipeE; rw [List.length_set, wipeE_len ρ vs]
theorem wipeE_some {ρ : Env} {i : Nat} {x : Sv} : ∀ {vs : List Nat}, (wipeE ρ vs)[i]? = some (some x) → ρ[i]? = some (some x) ∧ i ∉ vs
  | [], h => ⟨h, by simp⟩
  | v :: vs, h => by
    unfold wipeE at h
    by_cases hi : v = i
    · subst hi
      by_cases hv : v < (wipeE ρ vs).length
      · rw [List.getElem?_set_self hv] at h; cases h
      · rw [List.getElem?_eq_none (by simpa using hv)] at h; cases h
    · rw [List.getElem?_set_ne hi] at h
      obtain ⟨h1, h2⟩ := wipeE_some h
      exact ⟨h1, by simp only [List.mem_cons, not_or]; exact ⟨fun e => hi e.symm, h2⟩⟩
theorem wipe_off {σ : L2.St} {i : Nat} : ∀ {vs : List Nat}, i ∉ vs → (wipe σ vs)[i]? = σ[i]?
  | [], _ => rfl
  | v :: vs, h => by
    simp only [List.mem_cons, not_or] at h
    unfold wipe
    rw [List.getElem?_set_ne (Ne.symm h.1)]
    exact wipe_off h.2
theorem wipe_on {σ : L2.St} {i : Nat} : ∀ {vs : List Nat}, i ∈ vs → i < σ.length → (wipe σ vs)[i]? = some none
  | v :: vs, h, hl => by
    unfold wipe
    by_cases hv : v = i
    · subst hv
      rw [List.getElem?_set_self (by rw [wipe_length]; exact hl)]
    · rw [List.getElem?_set_ne hv]
      exact wipe_on ((List.mem_cons.mp h).resolve_left fun e => hv e.symm) hl
theorem wipe_eq {σ1 σ2 : L2.St} {vs : List Nat} (hl : σ1.length = σ2.length) (h : ∀ j, j ∉ vs → σ1[j]? = σ2[j]?) : wipe σ1 vs = wipe σ2 vs := by
  apply List.ext_getElem?
  intro i
  by_cases hi : i ∈ vs
  · by_cases hlt : i < σ1.length
    · rw [wipe_on hi hlt, wipe_on hi (by rw [← hl]; exact hlt)]
    · rw [List.getElem?_eq_none (by rw [wipe_length]; omega), List.getElem?_eq_none (by rw [wipe_length]; omega)]
  · rw [wipe_off hi, wipe_off hi, h i hi]
theorem RelE.wipe (R : RelE BR σ H ρ F S g) (vs : List Nat) : RelE BR (L2.wipe σ vs) H (wipeE ρ vs) F S g where
  len := by rw [wipeE_len, wipe_length]; exact R.len
  slot := fun i s e => by
    obtain ⟨h1, h2⟩ := wipeE_some e
    rw [wipe_off h2]
    exact R.slot i s h1
  amb := R.amb
  ownS := fun i s r e ho e2 => by
    obtain ⟨h1, h2⟩ := wipeE_some e
    rw [wipe_off h2] at e2
    exact R.ownS i s r h1 ho e2
  inj := fun i j s u r e1 h1 q1 e2 h2 q2 => by
    obtain ⟨a1, a2⟩ := wipeE_some e1
    obtain ⟨b1, b2⟩ := wipeE_some e2
    rw [wipe_off a2] at q1
    rw [wipe_off b2] at q2
    exact R.inj i j s u r a1 h1 q1 b1 h2 q2

/-! ### iterators -/
/-- what is yielded at a turn -/
inductive YR (H0 : Hp) (S0 : Addr → Prop) (H : Hp) : V → Hp → D → Prop
  | same {x : V} {d : D} : Rp H0 S0 x d → YR H0 S0 H x H d
  | new {T : Addr} {xs : List V} {ds : List D} : H T = none → xs.length ≤ sizeLine → RpL H0 S0 xs ds → YR H0 S0 H (.ref T) (upd H T (.tup xs)) (.tuple ds)
abbrev Pins := List (Addr × HO)
def Pinned (P : Pins) (H : Hp) : Prop := ∀ p ∈ P, H p.1 = some p.2
structure ItOk (H0 : Hp) (S0 : Addr → Prop) (P : Pins) (items : List D) (J : It) : Prop where
  walk : Walk J items.length (Pinned P) fun i H x H' => ∃ d, items[i]? = some d ∧ YR H0 S0 H x H' d
variable (BR) in
/-- an iterator, its sources untouched by the pot -/
def tIB (f : Mn G (List D)) : TI := fun σ H R => ∃ ρ F S g, RelE BR σ H ρ F S g ∧ ∃ items g', f ρ g = some (.ok items g') ∧
  ∀ J H' F' S' P, Ext H F S H' F' S' → BR.R F' H' g' → Pinned P H' → (∀ p ∈ P, p.1 ∉ F') → items.length ≤ sizeLine → ItOk H' S' P items J → R J H'
variable (BR) in
/-- .. its sources frozen, or tuples -/
def tIV (f : Mn G (List D)) : TI := fun σ H R => ∃ ρ F S g, RelE BR σ H ρ F S g ∧ ∃ items g', f ρ g = some (.ok items g') ∧
  ∀ J H' F' S' P, Ext H F S H' F' S' → BR.R F' H' g' → Pinned P H' → (∀ p ∈ P, S' p.1 ∨ ∃ ts, p.2 = .tup ts) → items.length ≤ sizeLine → ItOk H' S' P items J → R J H'
theorem PI.imp {tg e : Expr} {t t' : TI} (h : PI X tg e t) (k : ∀ σ H R, t' σ H R → t σ H R) : PI X tg e t' := ⟨fun pins s σ H R I q => h.run pins s σ H R I (k σ H R q)⟩
def seqD : D → Option (List D)
  | .list xs => some xs
  | .tuple xs => some xs
  | _ => none
def itSeq (f : EM G) : Mn G (List D) := fun ρ g => Rs.bind (f ρ g) fun x g1 => match seqD x with
  | some xs => some (.ok xs g1)
  | none => none
theorem itok_seq {K : PySem.W.Frag} {H0 : Hp} {S0 : Addr → Prop} {J : It} {a : Addr} {u : HO} {xs : List V} {ds : List D} (r : RpL H0 S0 xs ds) (w : Walk J xs.length (fun H => H a = some u) (YAt xs)) : ItOk H0 S0 [(a, u)] ds J := by
  constructor
  rw [← r.length]
  refine w.mono (fun H h => h (a, u) List.mem_cons_self) fun i H x H' hi _ y => ?_
  obtain ⟨rfl, hx⟩ := y
  obtain ⟨d, h1, h2⟩ := r.get hx
  exact ⟨d, h1, .same h2⟩
/-- a source: a list or a tuple at a -/
inductive Src (H : Hp) (S : Addr → Prop) : Addr → HO → List V → D → List D → Prop
  | lst {a : Addr} {xs : List V} {ds : List D} : H a = some (.lst xs) → xs.length ≤ sizeLine → RpL H S xs ds → Src H S a (.lst xs) xs (.list ds) ds
  | tup {a : Addr} {xs : List V} {ds : List D} : H a = some (.tup xs) → xs.length ≤ sizeLine → RpL H S xs ds → Src H S a (.tup xs) xs (.tuple ds) ds
theorem Src.of {v : V} {d : D} {ds : List D} (r : RpB H S F v d) (e : seqD d = some ds) : ∃ a u xs, v = .ref a ∧ Src H S a u xs d ds := by
  unfold seqD at e
  split at e
  · cases e
    obtain ⟨a, xs, rfl, h, l, q⟩ := r.lst
    exact ⟨a, _, xs, rfl, .lst h l q⟩
  · cases e
    obtain ⟨a, xs, rfl, h, l, q⟩ := r.tup
    exact ⟨a, _, xs, rfl, .tup h l q⟩
  · cases e
theorem Src.at {a : Addr} {u : HO} {xs : List V} {d : D} {ds : List D} (s : Src H S a u xs d ds) : H a = some u := by cases s <;> assumption
theorem Src.rpl {a : Addr} {u : HO} {xs : List V} {d : D} {ds : List D} (s : Src H S a u xs d ds) : RpL H S xs ds := by cases s <;> assumption
theorem Src.le {a : Addr} {u : HO} {xs : List V} {d : D} {ds : List D} (s : Src H S a u xs d ds) : ds.length ≤ sizeLine := by
  cases s with
  | lst h l q => rw [← q.length]; exact l
  | tup h l q => rw [← q.length]; exact l
/-- a source by a value is frozen or a tuple; by a name, it is not the pot's -/
theorem Src.val {a : Addr} {u : HO} {xs : List V} {d : D} {ds : List D} (s : Src H S a u xs d ds) (r : Rp H S (.ref a) d) : S a ∨ ∃ ts, u = .tup ts := by
  cases s with
  | lst h l q => cases r with | lst h' s' _ _ => exact .inl s'
  | tup h l q => exact .inr ⟨_, rfl⟩
theorem Src.notF (A : Amb BR H F S g) {a : Addr} {u : HO} {xs : List V} {d : D} {ds : List D} (s : Src H S a u xs d ds) (r : RpB H S F (.ref a) d) : a ∉ F := by
  rcases r with r | ⟨b, e, n, _⟩
  · intro hm
    rcases s.val r with z | ⟨ts, rfl⟩
    · exact A.dis a hm z
    · exact A.tup s.at hm
  · cases e; exact n
section
variable {tg a b : Expr} {f h : EM G} {p pos tpos : Pos} {elts : List Expr} {kk : Nat}
theorem seq_read {σ : L2.St} {H : Hp} {R : It → Hp → Prop} {K : PySem.W.Frag} {x : D} {ds : List D} {v : V} (r : RpB H S F v x) (e : seqD x = some ds) (k : ∀ a u xs J, v = .ref a → Src H S a u xs x ds → ItOk H S [(a, u)] ds J → R J H) :
    ∃ a xs, v = .ref a ∧ ((SqL K H a xs ∧ R (Itl K a) H) ∨ (SqT K H a xs ∧ R (Itt K a) H)) := by
  obtain ⟨a, u, xs, rfl, s⟩ := Src.of r e
  refine ⟨a, xs, rfl, ?_⟩
  cases s with
  | lst h l q => exact .inl ⟨SqL.of h, k a _ xs _ rfl (.lst h l q) (itok_seq (K := K) q (walk_list.mono (fun H h => SqL.of h) fun _ _ _ _ _ _ y => y))⟩
  | tup h l q => exact .inr ⟨SqT.of h, k a _ xs _ rfl (.tup h l q) (itok_seq (K := K) q (walk_tup.mono (fun H h => SqT.of h) fun _ _ _ _ _ _ y => y))⟩
theorem pin1 {a : Addr} {u : HO} (h : H a = some u) : Pinned [(a, u)] H := fun p hp => by
  rw [List.mem_singleton.mp hp]; exact h
theorem ib_seq (ha : PE X a (tB BR f)) : PI X tg a (tIB BR (itSeq f)) := PI.imp (pi_seq ha) fun σ H R ⟨ρ, F, S, g, Rr, items, g', e, k⟩ => by
  obtain ⟨x, g1, e1, e⟩ := Rs.bind_eq e
  split at e
  · rename_i xs hx
    cases e
    refine ⟨ρ, F, S, g, Rr, x, _, e1, fun v H1 F1 S1 E1 b1 r1 => seq_read (σ := σ) r1 hx fun a u vs J ev s ok => ?_⟩
    subst ev
    exact k J H1 F1 S1 _ E1 b1 (pin1 s.at) (fun p hp => by rw [List.mem_singleton.mp hp]; exact s.notF (E1.amb b1) r1) s.le ok
  · cases e
theorem iv_seq (ha : PE X a (tV BR f)) : PI X tg a (tIV BR (itSeq f)) := PI.imp (pi_seq ha) fun σ H R ⟨ρ, F, S, g, Rr, items, g', e, k⟩ => by
  obtain ⟨x, g1, e1, e⟩ := Rs.bind_eq e
  split at e
  · rename_i xs hx
    cases e
    refine ⟨ρ, F, S, g, Rr, x, _, e1, fun v H1 F1 S1 E1 b1 r1 => seq_read (σ := σ) (r1.b (F := F1)) hx fun a u vs J ev s ok => ?_⟩
    subst ev
    exact k J H1 F1 S1 _ E1 b1 (pin1 s.at) (fun p hp => by rw [List.mem_singleton.mp hp]; exact s.val r1) s.le ok
  · cases e
/-! enumerate -/
def enumL : Nat → List D → List D
  | _, [] => []
  | i, x :: xs => .tuple [.int (i : Nat), x] :: enumL (i + 1) xs
theorem enumL_len : ∀ (i : Nat) (xs : List D), (enumL i xs).length = xs.length
  | _, [] => rfl
  | i, x :: xs => by rw [enumL, List.length_cons, List.length_cons, enumL_len]
theorem enumL_get : ∀ (i : Nat) (xs : List D) (j : Nat), (enumL i xs)[j]? = xs[j]?.map fun x => .tuple [.int ((i + j : Nat) : Int), x]
  | _, [], j => by simp [enumL]
  | i, x :: xs, 0 => by simp [enumL]
  | i, x :: xs, j + 1 => by
    rw [enumL, List.getElem?_cons_succ, List.getElem?_cons_succ, enumL_get]
    rw [show i + 1 + j = i + (j + 1) by omega]
def itEnum (f : EM G) : Mn G (List D) := fun ρ g => Rs.bind (f ρ g) fun x g1 => match seqD x with
  | some xs => some (.ok (enumL 0 xs) g1)
  | none => none
theorem itok_enum {H0 : Hp} {S0 : Addr → Prop} {J : It} {a : Addr} {u : HO} {xs : List V} {ds : List D} (r : RpL H0 S0 xs ds) (w : Walk J xs.length (fun H => H a = some u) (YPair (fun i => some (.int (i : Nat))) (fun i => xs[i]?))) : ItOk H0 S0 [(a, u)] (enumL 0 ds) J := by
  constructor
  rw [enumL_len, ← r.length]
  refine w.mono (fun H h => h (a, u) List.mem_cons_self) fun i H x H' hi _ y => ?_
  obtain ⟨T, x1, x2, rfl, hT, rfl, e1, e2⟩ := y
  obtain ⟨d, h1, h2⟩ := r.get e2
  cases e1
  refine ⟨_, ?_, .new hT (by show 2 ≤ sizeLine; decide) (.cons (.int _) (.cons h2 .nil))⟩
  rw [enumL_get, h1, Nat.zero_add]; rfl
theorem enum_read {σ : L2.St} {H : Hp} {R : It → Hp → Prop} {K : PySem.W.Frag} {x : D} {ds : List D} {v : V} (r : RpB H S F v x) (e : seqD x = some ds) (k : ∀ a u xs J, v = .ref a → Src H S a u xs x ds → ItOk H S [(a, u)] (enumL 0 ds) J → R J H) :
    ∃ a xs, v = .ref a ∧ ((SqL K H a xs ∧ R (Ite K a) H) ∨ (SqT K H a xs ∧ R (ItET K a) H)) := by
  obtain ⟨a, u, xs, rfl, s⟩ := Src.of r e
  refine ⟨a, xs, rfl, ?_⟩
  cases s with
  | lst h l q => exact .inl ⟨SqL.of h, k a _ xs _ rfl (.lst h l q) (itok_enum q (walk_enum.mono (fun H h => SqL.of h) fun _ _ _ _ _ _ y => y))⟩
  | tup h l q => exact .inr ⟨SqT.of h, k a _ xs _ rfl (.tup h l q) (itok_enum q (walk_ET.mono (fun H h => SqT.of h) fun _ _ _ _ _ _ y => y))⟩
theorem ib_enum (hg : Gl X "enumerate") (hm : X.mg "enumerate" = none) (na : noStar a = true) (ha : PE X a (tB BR f)) : PI X (.Tuple elts kk tpos) (.Call (.Name "enumerate" p) [a] [] pos) (tIB BR (itEnum f)) :=
  PI.imp (pi_enA hg hm na ha) fun σ H R ⟨ρ, F, S, g, Rr, items, g', e, k⟩ => by
    obtain ⟨x, g1, e1, e⟩ := Rs.bind_eq e
    split at e
    · rename_i xs hx
      cases e
      refine ⟨ρ, F, S, g, Rr, x, _, e1, fun v H1 F1 S1 E1 b1 r1 => enum_read (σ := σ) r1 hx fun a u vs J ev s ok => ?_⟩
      subst ev
      exact k J H1 F1 S1 _ E1 b1 (pin1 s.at) (fun p hp => by rw [List.mem_singleton.mp hp]; exact s.notF (E1.amb b1) r1) (by rw [enumL_len]; exact s.le) ok
    · cases e
theorem iv_enum (hg : Gl X "enumerate") (hm : X.mg "enumerate" = none) (na : noStar a = true) (ha : PE X a (tV BR f)) : PI X (.Tuple elts kk tpos) (.Call (.Name "enumerate" p) [a] [] pos) (tIV BR (itEnum f)) :=
  PI.imp (pi_enA hg hm na ha) fun σ H R ⟨ρ, F, S, g, Rr, items, g', e, k⟩ => by
    obtain ⟨x, g1, e1, e⟩ := Rs.bind_eq e
    split at e
    · rename_i xs hx
      cases e
      refine ⟨ρ, F, S, g, Rr, x, _, e1, fun v H1 F1 S1 E1 b1 r1 => enum_read (σ := σ) (r1.b (F := F1)) hx fun a u vs J ev s ok => ?_⟩
      subst ev
      exact k J H1 F1 S1 _ E1 b1 (pin1 s.at) (fun p hp => by rw [List.mem_singleton.mp hp]; exact s.val r1) (by rw [enumL_len]; exact s.le) ok
    · cases e
/-! range -/
def rangeL (lo hi : Int) : List D := (List.range (hi - lo).toNat).map fun i => .int (lo + (i : Nat))
def itRange1 (f : EM G) : Mn G (List D) := fun ρ g => Rs.bind (f ρ g) fun x g1 => match x with
  | .int n => if -(2 ^ 62) ≤ n ∧ n ≤ 16777216 then some (.ok (rangeL 0 n) g1) else none
  | _ => none
def itRange2 (f h : EM G) : Mn G (List D) := fun ρ g => Rs.bind (f ρ g) fun x g1 => Rs.bind (h ρ g1) fun y g2 => match x, y with
  | .int lo, .int hi => if -(2 ^ 61) ≤ lo ∧ lo < 2 ^ 61 ∧ -(2 ^ 61) ≤ hi ∧ hi < 2 ^ 61 ∧ hi - lo ≤ 16777216 then some (.ok (rangeL lo hi) g2) else none
  | _, _ => none
theorem itok_range {H0 : Hp} {S0 : Addr → Prop} (lo hi : Int) : ItOk H0 S0 [] (rangeL lo hi) (Itr lo (hi - lo).toNat) := by
  constructor
  have hl : (rangeL lo hi).length = (hi - lo).toNat := by simp [rangeL]
  rw [hl]
  refine (walk_range (lo := lo) (n := (hi - lo).toNat)).mono (fun _ _ => trivial) fun i H x H' hi' _ y => ?_
  obtain ⟨rfl, rfl⟩ := y
  refine ⟨.int (lo + i), ?_, .same (.int _)⟩
  unfold rangeL
  rw [List.getElem?_map, List.getElem?_range hi']; rfl
theorem ib_range1 (hg : Gl X "range") (hm : X.mg "range" = none) (na : noStar a = true) (ha : PE X a (tB BR f)) : PI X tg (.Call (.Name "range" p) [a] [] pos) (tIB BR (itRange1 f)) :=
  PI.imp (pi_range1 hg hm (pa_cons ha pa_nil (starEach_ns na _ _)) (starEach_ns na _ _)) fun σ H R ⟨ρ, F, S, g, Rr, items, g', e, k⟩ => by
    obtain ⟨x, g1, e1, e⟩ := Rs.bind_eq e
    split at e
    · rename_i n
      split at e
      · rename_i hn
        cases e
        refine ⟨ρ, F, S, g, Rr, _, _, e1, fun v H1 F1 S1 E1 b1 r1 => ⟨n, by rw [r1.int], hn.1, by omega, ?_⟩⟩
        have ok := itok_range (H0 := H1) (S0 := S1) 0 n
        rw [Int.sub_zero] at ok
        exact k _ H1 F1 S1 [] E1 b1 (fun _ h => nomatch h) (fun _ h => nomatch h) (by rw [rangeL, List.length_map, List.length_range, sizeLine_eq]; omega) ok
      · cases e
    · cases e
theorem iv_range1 (hg : Gl X "range") (hm : X.mg "range" = none) (na : noStar a = true) (ha : PE X a (tB BR f)) : PI X tg (.Call (.Name "range" p) [a] [] pos) (tIV BR (itRange1 f)) :=
  PI.imp (pi_range1 hg hm (pa_cons ha pa_nil (starEach_ns na _ _)) (starEach_ns na _ _)) fun σ H R ⟨ρ, F, S, g, Rr, items, g', e, k⟩ => by
    obtain ⟨x, g1, e1, e⟩ := Rs.bind_eq e
    split at e
    · rename_i n
      split at e
      · rename_i hn
        cases e
        refine ⟨ρ, F, S, g, Rr, _, _, e1, fun v H1 F1 S1 E1 b1 r1 => ⟨n, by rw [r1.int], hn.1, by omega, ?_⟩⟩
        have ok := itok_range (H0 := H1) (S0 := S1) 0 n
        rw [Int.sub_zero] at ok
        exact k _ H1 F1 S1 [] E1 b1 (fun _ h => nomatch h) (fun _ h => nomatch h) (by rw [rangeL, List.length_map, List.length_range, sizeLine_eq]; omega) ok
      · cases e
    · cases e
theorem range2_read {σ : L2.St} {H : Hp} {R : It → Hp → Prop} {ρ : Env} {F : List Addr} {S : Addr → Prop} {g g' : G} {items : List D} (Rr : RelE BR σ H ρ F S g) (e : itRange2 f h ρ g = some (.ok items g'))
    (k : ∀ J H' F' S', Ext H F S H' F' S' → BR.R F' H' g' → items.length ≤ sizeLine → ItOk H' S' [] items J → R J H') : iRng2 (tCons (tB BR f) (tCons (tB BR h) tNil)) σ H R := by
  obtain ⟨x, g1, e1, e⟩ := Rs.bind_eq e
  obtain ⟨y, g2, e2, e⟩ := Rs.bind_eq e
  split at e
  · rename_i lo hi _
    split at e
    · rename_i hn
      cases e
      refine ⟨ρ, F, S, g, Rr, _, _, e1, fun v H1 F1 S1 E1 b1 r1 => ?_⟩
      refine ⟨ρ, F1, S1, g1, Rr.later E1 b1, _, _, e2, fun u H2 F2 S2 E2 b2 r2 => ?_⟩
      refine ⟨lo, hi, by rw [r1.int, r2.int], by omega, ?_⟩
      exact k _ H2 F2 S2 (E1.trans Rr.amb E2) b2 (by rw [rangeL, List.length_map, List.length_range, sizeLine_eq]; omega) (itok_range lo hi)
    · cases e
  · cases e
theorem ib_range2 (hg : Gl X "range") (hm : X.mg "range" = none) (na : noStar a = true) (nb : noStar b = true) (ha : PE X a (tB BR f)) (hb : PE X b (tB BR h)) : PI X tg (.Call (.Name "range" p) [a, b] [] pos) (tIB BR (itRange2 f h)) :=
  PI.imp (pi_range2 hg hm (pa_cons ha (pa_cons hb pa_nil (starEach_ns nb _ _)) (starEach_ns na _ _)) (by rw [starEach_ns na, starEach_ns nb]; rfl) (starEach_ns nb _ _)) fun σ H R ⟨ρ, F, S, g, Rr, items, g', e, k⟩ =>
    range2_read Rr e fun J H' F' S' E b l ok => k J H' F' S' [] E b (fun _ h => nomatch h) (fun _ h => nomatch h) l ok
theorem iv_range2 (hg : Gl X "range") (hm : X.mg "range" = none) (na : noStar a = true) (nb : noStar b = true) (ha : PE X a (tB BR f)) (hb : PE X b (tB BR h)) : PI X tg (.Call (.Name "range" p) [a, b] [] pos) (tIV BR (itRange2 f h)) :=
  PI.imp (pi_range2 hg hm (pa_cons ha (pa_cons hb pa_nil (starEach_ns nb _ _)) (starEach_ns na _ _)) (by rw [starEach_ns na, starEach_ns nb]; rfl) (starEach_ns nb _ _)) fun σ H R ⟨ρ, F, S, g, Rr, items, g', e, k⟩ =>
    range2_read Rr e fun J H' F' S' E b l ok => k J H' F' S' [] E b (fun _ h => nomatch h) (fun _ h => nomatch h) l ok
/-! zip -/
def zipL (xs ys : List D) : List D := List.zipWith (fun x y => PyData.tuple [x, y]) xs ys
def zipD : D → D → Option (List D)
  | .list xs, .list ys => some (zipL xs ys)
  | .tuple xs, .tuple ys => some (zipL xs ys)
  | _, _ => none
def itZip (f h : EM G) : Mn G (List D) := fun ρ g => Rs.bind (f ρ g) fun x g1 => Rs.bind (h ρ g1) fun y g2 => match zipD x y with
  | some xs => some (.ok xs g2)
  | none => none
theorem itok_zip {H0 : Hp} {S0 : Addr → Prop} {J : It} {a b : Addr} {u w : HO} {xs ys : List V} {ds es : List D} (r : RpL H0 S0 xs ds) (q : RpL H0 S0 ys es)
    (wk : Walk J (min xs.length ys.length) (fun H => H a = some u ∧ H b = some w) (YPair (fun i => xs[i]?) (fun i => ys[i]?))) : ItOk H0 S0 [(a, u), (b, w)] (zipL ds es) J := by
  constructor
  have hl : (zipL ds es).length = min xs.length ys.length := by rw [zipL, List.length_zipWith, r.length, q.length]
  rw [hl]
  refine wk.mono (fun H h => ⟨h (a, u) (by simp), h (b, w) (by simp)⟩) fun i H x H' hi _ y => ?_
  obtain ⟨T, x1, x2, rfl, hT, rfl, e1, e2⟩ := y
  obtain ⟨d, h1, h2⟩ := r.get e1
  obtain ⟨d', h3, h4⟩ := q.get e2
  refine ⟨.tuple [d, d'], ?_, .new hT (by show 2 ≤ sizeLine; decide) (.cons h2 (.cons h4 .nil))⟩
  unfold zipL
  rw [List.getElem?_zipWith, h1, h3]

theorem walk_zipT {K : PySem.W.Frag} {a b : Addr} {xs ys : List V} : Walk (RZ.ItzT K a b) (min xs.length ys.length) (fun H => SqT K H a xs ∧ SqT K H b ys) (YPair (fun i => xs[i]?) (fun i => ys[i]?)) := by
  refine ⟨fun i _ hi q => ?_, fun _ q => ⟨xs, ys, q.1, q.2, by omega⟩, fun i H v H' _ q y => ?_⟩
  · have h1 : i < xs.length := by omega
    have h2 : i < ys.length := by omega
    exact ⟨xs, ys, xs[i], ys[i], q.1, q.2, by simp [h1], by simp [h2]⟩
  · obtain ⟨T, x, z, h1, h2, h3, h4, h5⟩ := y
    exact ⟨T, x, z, h1, h2, h3, h4 xs q.1, h5 ys q.2⟩
theorem zip_read {σ : L2.St} {H : Hp} {R : It → Hp → Prop} {K : PySem.W.Frag} {ρ : Env} {F : List Addr} {S : Addr → Prop} {g g' : G} {items : List D} (Rr : RelE BR σ H ρ F S g) (e : itZip f h ρ g = some (.ok items g'))
    (k : ∀ J H' F' S' P, Ext H F S H' F' S' → BR.R F' H' g' → Pinned P H' → (∀ p ∈ P, p.1 ∉ F') → items.length ≤ sizeLine → ItOk H' S' P items J → R J H') : RZ.iZipA K (tCons (tB BR f) (tCons (tB BR h) tNil)) σ H R := by
  obtain ⟨x, g1, e1, e⟩ := Rs.bind_eq e
  obtain ⟨y, g2, e2, e⟩ := Rs.bind_eq e
  split at e
  · rename_i zs hz
    cases e
    refine ⟨ρ, F, S, g, Rr, _, _, e1, fun v H1 F1 S1 E1 b1 r1 => ?_⟩
    have R1 := Rr.later E1 b1
    refine ⟨ρ, F1, S1, g1, R1, _, _, e2, fun u H2 F2 S2 E2 b2 r2 => ?_⟩
    have r1' := E2.rpB R1.amb r1
    have A2 := E2.amb b2
    have E12 := E1.trans Rr.amb E2
    unfold zipD at hz
    split at hz
    · cases hz
      obtain ⟨a, xs, rfl, h1, l1, q1⟩ := r1'.lst
      obtain ⟨b, ys, rfl, h2, l2, q2⟩ := r2.lst
      refine ⟨a, b, xs, ys, rfl, .inl ⟨SqL.of h1, SqL.of h2, ?_⟩⟩
      refine k _ H2 F2 S2 [(a, _), (b, _)] E12 b2 (fun p hp => ?_) (fun p hp => ?_) ?_ (itok_zip q1 q2 ((walk_zip rfl).mono (fun H h => ⟨SqL.of h.1, SqL.of h.2⟩) fun _ _ _ _ _ _ y => y))
      · rcases List.mem_cons.mp hp with z | hp
        · rw [z]; exact h1
        · rw [List.mem_singleton.mp hp]; exact h2
      · rcases List.mem_cons.mp hp with z | hp
        · rw [z]; exact Src.notF A2 (.lst h1 l1 q1) r1'
        · rw [List.mem_singleton.mp hp]; exact Src.notF A2 (.lst h2 l2 q2) r2
      · rw [zipL, List.length_zipWith, ← q1.length]
        exact Nat.le_trans (Nat.min_le_left _ _) l1
    · cases hz
      obtain ⟨a, xs, rfl, h1, l1, q1⟩ := r1'.tup
      obtain ⟨b, ys, rfl, h2, l2, q2⟩ := r2.tup
      refine ⟨a, b, xs, ys, rfl, .inr ⟨SqT.of h1, SqT.of h2, ?_⟩⟩
      refine k _ H2 F2 S2 [(a, _), (b, _)] E12 b2 (fun p hp => ?_) (fun p hp => ?_) ?_ (itok_zip q1 q2 (walk_zipT.mono (fun H h => ⟨SqT.of h.1, SqT.of h.2⟩) fun _ _ _ _ _ _ y => y))
      · rcases List.mem_cons.mp hp with z | hp
        · rw [z]; exact h1
        · rw [List.mem_singleton.mp hp]; exact h2
      · rcases List.mem_cons.mp hp with z | hp
        · rw [z]; exact Src.notF A2 (.tup h1 l1 q1) r1'
        · rw [List.mem_singleton.mp hp]; exact Src.notF A2 (.tup h2 l2 q2) r2
      · rw [zipL, List.length_zipWith, ← q1.length]
        exact Nat.le_trans (Nat.min_le_left _ _) l1
    · cases hz
  · cases e
theorem ib_zip (hg : Gl X "zip") (hm : X.mg "zip" = none) (na : noStar a = true) (nb : noStar b = true) (ha : PE X a (tB BR f)) (hb : PE X b (tB BR h)) : PI X (.Tuple elts kk tpos) (.Call (.Name "zip" p) [a, b] [] pos) (tIB BR (itZip f h)) :=
  PI.imp (RZ.pi_zipA hg hm (pa_cons ha (pa_cons hb pa_nil (starEach_ns nb _ _)) (starEach_ns na _ _)) (starEach_ns na _ _) (star1 nb _ _)) fun σ H R ⟨ρ, F, S, g, Rr, items, g', e, k⟩ =>
    zip_read Rr e fun J H' F' S' P E b pn nf l ok => k J H' F' S' P E b pn nf l ok
end
end
end Kd

end part_KdG
section part_KdH
/-! Kd, part H: list comprehensions. -/
namespace Kd
open PySem PySem.Spec PyProof.Rows L2
def compGo {G : Type} (t : Tg) (c : Mn G Bool) (e : EM G) (ρ : Env) : List D → G → Option (Rs G (List D))
  | [], g => some (.ok [] g)
  | x :: xs, g => match bindT t x ρ with
    | some ρ1 => Rs.bind (c ρ1 g) fun b g1 => match b with
      | true => Rs.bind (e ρ1 g1) fun y g2 => Rs.bind (compGo t c e ρ xs g2) fun ys g3 => some (.ok (y :: ys) g3)
      | false => compGo t c e ρ xs g1
    | none => none
def compM {G : Type} (it : Mn G (List D)) (t : Tg) (c : Mn G Bool) (e : EM G) (vs : List Nat) : EM G := fun ρ g => Rs.bind (it ρ g) fun xs g1 => Rs.bind (compGo t c e (wipeE ρ vs) xs g1) fun ys g2 => some (.ok (.list ys) g2)
def yesM {G : Type} : Mn G Bool := fun _ g => some (.ok true g)
def noSet : Expr → Bool
  | .Set _ _ _ => false
  | _ => true
theorem noSet_ok {e : Expr} (h : noSet e = true) (env : PySem.Env) (x : Value) : foldedSetIterable e env x = pure x := by
  cases e <;> first | rfl | cases h
section
variable {G : Type} {BR : BagR G} {X : Cx} {H H' H2 : Hp} {F F' F2 : List Addr} {S S' S2 : Addr → Prop} {g g' : G} {σ : L2.St} {ρ : Env}
theorem iteMk {a b : Prop} (h : a) : if true = true then a else b := by rw [if_pos rfl]; exact h
theorem iteMkF {a b : Prop} (h : b) : if false = true then a else b := by rw [if_neg Bool.false_ne_true]; exact h
theorem Ext.back (E : Ext H F S H' F' S') {r : Addr} (h : H' r = none) (n : r ∉ F') : H r = none := by
  cases hr : H r with
  | none => rfl
  | some o =>
    by_cases m : r ∈ F
    · rcases E.bag with z | ⟨z, _⟩
      · exact absurd (by rw [z]; exact m) n
      · rw [z] at m; cases m
    · rw [E.keep r o hr m] at h; cases h
/-- an object that the earlier heap does not know is written -/
theorem Ext.own (E : Ext H F S H' F' S') {r : Addr} {o : HO} (h : H r = none) (n : ¬ S' r) : Ext H F S (upd H' r o) F' S' where
  keep := fun a u ha hn => by rw [upd_ne (ne_of_none ha h)]; exact E.keep a u ha hn
  sub := E.sub
  new := E.new
  live := fun a s => by
    obtain ⟨u, hu⟩ := E.live a s
    by_cases e : a = r
    · exact absurd (e ▸ s) n
    · exact ⟨u, by rw [upd_ne e]; exact hu⟩
  dis := E.dis
  bag := E.bag
theorem kpOwn {r : Addr} {o u : HO} (h : H r = some u) (m : MutO u) (n : ¬ S r) : Kp H S (upd H r o) S where
  sub := fun _ s => s
  fr := fun a w s ha => by
    have e : a ≠ r := fun z => n (z ▸ s)
    rw [upd_ne e]; exact ha
  tp := fun a ts ha => by
    rw [upd_ne (fun e => ?_)]; exact ha
    subst e
    rw [h] at ha; cases ha; exact m
theorem bagOwn {r : Addr} {o : HO} (b : BR.R F H g) (n : r ∉ F) : BR.R F (upd H r o) g := BR.frame b fun a ha => upd_ne fun e => n (e ▸ ha)
theorem YR.go {x : V} {d : D} (A : Amb BR H F S g) {H0 : Hp} {S0 : Addr → Prop} (k : Kp H0 S0 H S) (y : YR H0 S0 H x H' d) : Ext H F S H' F S ∧ BR.R F H' g ∧ Rp H' S x d := by
  cases y with
  | same r => exact ⟨Ext.refl A, A.bag, r.kp k⟩
  | new hT hl r =>
    obtain ⟨E, b⟩ := A.new (o := .tup _) hT
    exact ⟨E, b, .tup upd_same hl ((r.kp k).kp (E.kp A))⟩
theorem compGo_cons {t : Tg} {c : Mn G Bool} {e : EM G} {x : D} {xs : List D} {ys : List D} (h : compGo t c e ρ (x :: xs) g = some (.ok ys g')) : ∃ ρ1, bindT t x ρ = some ρ1 ∧ ∃ b g1, c ρ1 g = some (.ok b g1) ∧
    ((b = true ∧ ∃ y g2 zs, e ρ1 g1 = some (.ok y g2) ∧ compGo t c e ρ xs g2 = some (.ok zs g') ∧ ys = y :: zs) ∨ (b = false ∧ compGo t c e ρ xs g1 = some (.ok ys g'))) := by
  rw [compGo] at h
  split at h
  · rename_i ρ1 h1
    obtain ⟨b, g1, e1, h⟩ := Rs.bind_eq h
    refine ⟨ρ1, h1, b, g1, e1, ?_⟩
    cases b with
    | true =>
      obtain ⟨y, g2, e2, h⟩ := Rs.bind_eq h
      obtain ⟨zs, g3, e3, h⟩ := Rs.bind_eq h
      cases h
      exact .inl ⟨rfl, y, g2, zs, e2, e3, rfl⟩
    | false => exact .inr ⟨rfl, h⟩
  · cases h
theorem lc_read {it : Mn G (List D)} {t : Tg} {c : Mn G Bool} {e : EM G} {vs : List Nat} (hsl : ∀ j ∈ t.slots, j ∈ vs) (σ : L2.St) (H : Hp) (Q : VK) (q : tF BR (compM it t c e vs) σ H Q) : tLc (tIB BR it) (tG BR t) (tT BR c) (tV BR e) vs σ H Q := by
  obtain ⟨ρ, F, S, g, R, d, g', eq, k⟩ := q
  obtain ⟨items, g1, e1, eq⟩ := Rs.bind_eq eq
  obtain ⟨ys, g2, e2, eq⟩ := Rs.bind_eq eq
  cases eq
  refine ⟨ρ, F, S, g, R, items, g1, e1, fun J H1 F1 S1 P E1 b1 pn nf hl W => fun Dd hD => ?_⟩
  have A1 := E1.amb b1
  have R1 := R.later E1 b1
  -- the turns
  refine lc_it W.walk (fun i Hi => ∃ Fi Si gi acc ds rest, Ext H1 F1 S1 Hi Fi Si ∧ BR.R Fi Hi gi ∧ Dd ∉ Fi ∧ ¬ Si Dd ∧ Hi Dd = some (.lst acc) ∧ RpL Hi Si acc ds ∧ compGo t c e (wipeE ρ vs) (items.drop i) gi = some (.ok rest g') ∧ ds ++ rest = ys ∧ acc.length ≤ i)
    ?_ ?_ ?_ ?_
  · obtain ⟨E0, b0⟩ := A1.new (o := .lst []) hD
    exact ⟨F1, S1, g1, [], [], ys, E0, b0, A1.notF hD, A1.notS hD, upd_same, .nil, by rw [List.drop_zero]; exact e2, rfl, Nat.le_refl _⟩
  · rintro i Hi _ ⟨Fi, Si, gi, acc, ds, rest, Ei, _⟩ p hp
    exact Ei.keep p.1 p.2 (pn p hp) (nf p hp)
  · rintro i x Hi Hi' hlt ⟨Fi, Si, gi, acc, ds, rest, Ei, bi, dF, dS, hDi, hacc, hgo, hds, hle⟩ ⟨d, hd, y⟩
    have Ai := Ei.amb bi
    obtain ⟨Ey, by', ry⟩ := y.go Ai (Ei.kp A1)
    have hdrop : items.drop i = d :: items.drop (i + 1) := by
      obtain ⟨h1, h2⟩ := List.getElem?_eq_some_iff.mp hd
      rw [List.drop_eq_getElem_cons h1, h2]
    rw [hdrop] at hgo
    obtain ⟨ρ1, hb, b, g3, hcd, hrest⟩ := compGo_cons hgo
    have Ry := ((R1.later Ei bi).later Ey by').wipe vs
    refine ⟨wipeE ρ vs, Fi, Si, gi, d, ρ1, Ry, ry, hb, fun σ1 Rσ t1 => ⟨?_, ?_⟩⟩
    · refine wipe_eq (by rw [t1.ls, wipe_length]) fun j hj => ?_
      rw [(t1.off j fun hm => hj (hsl j hm)).1, wipe_off hj]
    · refine ⟨ρ1, Fi, Si, gi, Rσ, b, g3, hcd, fun H3 F3 S3 E3 b3 => ?_⟩
      have Ay := Ey.amb by'
      have E13 := (Ei.trans A1 Ey).trans A1 E3
      have hDy : Hi' Dd = some (.lst acc) := Ey.keep _ _ hDi dF
      have hD3 : H3 Dd = some (.lst acc) := E3.keep _ _ hDy dF
      have dF3 : Dd ∉ F3 := E3.notF hDy dF
      have dS3 : ¬ S3 Dd := E3.notS hDy dS
      have hacc3 : RpL H3 S3 acc ds := ((hacc.kp (Ey.kp Ai)).kp (E3.kp Ay))
      rcases hrest with ⟨rfl, y', g4, zs, he4, hgo4, hzs⟩ | ⟨rfl, hgo4⟩
      · refine (iteMk ?_)
        refine ⟨ρ1, F3, S3, g3, Rσ.later E3 b3, y', g4, he4, fun v H4 F4 S4 E4 b4 r4 => ?_⟩
        have A3 := E3.amb b3
        have hD4 : H4 Dd = some (.lst acc) := E4.keep _ _ hD3 dF3
        have dF4 : Dd ∉ F4 := E4.notF hD3 dF3
        have dS4 : ¬ S4 Dd := E4.notS hD3 dS3
        refine ⟨acc, hD4, by omega, F4, S4, g4, acc ++ [v], ds ++ [y'], zs, (E13.trans A1 E4).own hD dS4, bagOwn b4 dF4, dF4, dS4, upd_same, ?_, hgo4, ?_, ?_⟩
        · exact ((hacc3.kp (E4.kp A3)).append (.cons r4 .nil)).kp (kpOwn hD4 trivial dS4)
        · rw [← hds, hzs, List.append_assoc]; rfl
        · rw [List.length_append]; exact Nat.succ_le_succ hle
      · refine (iteMkF ?_)
        exact ⟨F3, S3, g3, acc, ds, rest, E13, b3, dF3, dS3, hD3, hacc3, hgo4, hds, Nat.le_succ_of_le hle⟩
  · rintro Hi ⟨Fi, Si, gi, acc, ds, rest, Ei, bi, dF, dS, hDi, hacc, hgo, hds, hle⟩
    rw [List.drop_length] at hgo
    cases hgo
    rw [List.append_nil] at hds
    subst hds
    exact k Dd Hi Fi Si (E1.trans R.amb Ei) bi (E1.back hD (A1.notF hD)) dS dF (.lst hDi (Nat.le_trans hle hl) hacc)
/-- what a comprehension's parts must be -/
structure LcOk (BR : BagR G) (X : Cx) (elt tg iter : Expr) (ifs : List Expr) (scope : Scope) (own : List (Str × Nat)) (it : Mn G (List D)) (t : Tg) (c : Mn G Bool) (e : EM G) : Prop where
  hc : X.calm = true
  hN : X.N.Nodup
  hi : PI X tg iter (tIB BR it)
  ok : BlkOk X.N X.env.scope scope own
  hsl : ∀ j ∈ t.slots, j ∈ own.map (·.2)
  hg : ∀ (s : Shared) (H : Hp) (C : Addr) (cl : List (Str × Addr)) (fp : List Addr), PG (X.blk s H scope (compEnvC scope cl C X.env) fp) tg (tG BR t)
  ht : ∀ (s : Shared) (H : Hp) (C : Addr) (cl : List (Str × Addr)) (fp : List Addr), PTs (X.blk s H scope (compEnvC scope cl C X.env) fp) ifs (tT BR c)
  he : ∀ (s : Shared) (H : Hp) (C : Addr) (cl : List (Str × Addr)) (fp : List Addr), PE (X.blk s H scope (compEnvC scope cl C X.env) fp) elt (tV BR e)
  hs : noSet iter = true
section
variable {elt tg iter : Expr} {ifs : List Expr} {scope : Scope} {own : List (Str × Nat)} {it : Mn G (List D)} {t : Tg} {c : Mn G Bool} {e : EM G} {pos spos py : Pos}
theorem ce_lc (L : LcOk BR X elt tg iter ifs scope own it t c e) : PE X (.ListComp elt [⟨tg, iter, ifs, 0⟩] scope pos) (tF BR (compM it t c e (own.map (·.2)))) :=
  PE.imp (pe_lc L.hc L.hN L.hi L.ok L.hg L.ht L.he (noSet_ok L.hs _)) (lc_read L.hsl)
theorem lc_set (L : LcOk BR X elt tg iter ifs scope own it t c e) {i : Nat} {y : Str} (hy : X.N[i]? = some y) (hyl : X.env.scope.names.lookup y = some .local)
    (hsw : swapsWith (.ListComp elt [⟨tg, iter, ifs, 0⟩] scope pos) (some (.Name y py)) spos.line X.env = pure true) :
    PS X (.Assign [.Name y py] (.ListComp elt [⟨tg, iter, ifs, 0⟩] scope pos) spos) (tAsg (tLc (tIB BR it) (tG BR t) (tT BR c) (tV BR e) (own.map (·.2))) (gName i)) :=
  ps_setLc L.hc L.hN hy hyl hsw L.hi L.ok L.hg L.ht L.he (noSet_ok L.hs _)
theorem pts_yes : PTs X [] (tT BR yesM) := ⟨fun pins s σ H Q I ⟨ρ, F, S, g, R, b, g', e, k⟩ => by
  cases e
  exact pts_nil.run pins s σ H Q I (k H F S (Ext.refl R.amb) R.amb.bag)⟩
end
end
end Kd

end part_KdH
section part_KdI
/-! Kd, part I: statements. -/
namespace Kd
open PySem PySem.Spec PyProof.Rows L2
inductive SR (G : Type) where
  | nx (ρ : Env) (g : G)
  | bk (ρ : Env) (g : G)
  | ct (ρ : Env) (g : G)
  | rt (d : D) (g : G)
  | er (x : Ex) (g : G)
abbrev SM (G : Type) := Env → G → Option (SR G)
/-- what a body began with -/
structure Bs where
  H0 : Hp
  F0 : List Addr
  S0 : Addr → Prop
  P : Pins
  Ks : List (Hp × (Addr → Prop))
theorem Kp.trans {H H1 H2 : Hp} {S S1 S2 : Addr → Prop} (a : Kp H S H1 S1) (b : Kp H1 S1 H2 S2) : Kp H S H2 S2 := ⟨fun x s => b.sub x (a.sub x s), fun x o s h => b.fr x o (a.sub x s) (a.fr x o s h), fun x ts h => b.tp x ts (a.tp x ts h)⟩
section
variable {G : Type} (BR : BagR G)
structure Rel (B : Bs) (σ : L2.St) (H : Hp) (ρ : Env) (F : List Addr) (S : Addr → Prop) (g : G) : Prop where
  e : RelE BR σ H ρ F S g
  amb0 : ∃ g0, Amb BR B.H0 B.F0 B.S0 g0
  x : Ext B.H0 B.F0 B.S0 H F S
  own : ∀ (i : Nat) (s : Sv) (r : Addr), ρ[i]? = some (some s) → s.isOwn = true → σ[i]? = some (some (.ref r)) → B.H0 r = none ∧ ∀ p ∈ B.P, p.1 ≠ r
  pin : Pinned B.P H
  pinF : ∀ p ∈ B.P, p.1 ∉ F
  snap : ∀ p ∈ B.Ks, Kp p.1 p.2 H S
/-- what is wanted of a statement's way out -/
def SPost (B : Bs) (r : SR G) (D : Ends) : Prop := match r with
  | .nx ρ g => ∀ σ H F S, Rel BR B σ H ρ F S g → D.nx σ H
  | .bk ρ g => ∀ σ H F S, Rel BR B σ H ρ F S g → D.bk σ H
  | .ct ρ g => ∀ σ H F S, Rel BR B σ H ρ F S g → D.ct σ H
  | .rt d g => ∀ v H F S, Ext B.H0 B.F0 B.S0 H F S → BR.R F H g → Rp H S v d → D.rt v H
  | .er _ _ => False
def tS (f : SM G) : TS := fun D σ H => ∃ B ρ F S g, Rel BR B σ H ρ F S g ∧ ∃ r, f ρ g = some r ∧ SPost BR B r D
end
theorem PS.imp {X : Cx} {st : Stmt} {t t' : TS} (h : PS X st t) (k : ∀ D σ H, t' D σ H → t D σ H) : PS X st t' := ⟨fun pins s σ H D I q => h.run pins s σ H D I (k D σ H q)⟩
theorem PSs.imp {X : Cx} {st : List Stmt} {t t' : TS} (h : PSs X st t) (k : ∀ D σ H, t' D σ H → t D σ H) : PSs X st t' := ⟨fun pins s σ H D I q => h.run pins s σ H D I (k D σ H q)⟩
section
variable {G : Type} {BR : BagR G} {X : Cx} {B : Bs} {H H' : Hp} {F F' : List Addr} {S S' : Addr → Prop} {g g' : G} {σ : L2.St} {ρ : Env}
theorem Rel.later (R : Rel BR B σ H ρ F S g) (E : Ext H F S H' F' S') (b : BR.R F' H' g') : Rel BR B σ H' ρ F' S' g' where
  e := R.e.later E b
  amb0 := R.amb0
  x := let ⟨g0, A0⟩ := R.amb0; R.x.trans A0 E
  own := R.own
  pin := fun p hp => E.keep p.1 p.2 (R.pin p hp) (R.pinF p hp)
  pinF := fun p hp => E.notF (R.pin p hp) (R.pinF p hp)
  snap := fun p hp => (R.snap p hp).trans (E.kp R.e.amb)

/-! ### blocks -/
def nilM : SM G := fun ρ g => some (.nx ρ g)
def seqM (f h : SM G) : SM G := fun ρ g => match f ρ g with
  | some (.nx ρ1 g1) => h ρ1 g1
  | r => r
theorem ss_nil : PSs X [] (tS BR nilM) := PSs.imp pss_nil fun D σ H ⟨B, ρ, F, S, g, R, r, e, k⟩ => by
  cases e
  exact k σ H F S R
theorem ss_cons {st : Stmt} {rest : List Stmt} {f h : SM G} (h1 : PS X st (tS BR f)) (h2 : PSs X rest (tS BR h)) : PSs X (st :: rest) (tS BR (seqM f h)) := PSs.imp (pss_cons h1 h2) fun D σ H ⟨B, ρ, F, S, g, R, r, e, k⟩ => by
  unfold seqM at e
  split at e
  · rename_i ρ1 g1 h1
    exact ⟨B, ρ, F, S, g, R, _, h1, fun σ' H' F' S' R' => ⟨B, ρ1, F', S', g1, R', r, e, k⟩⟩
  · rename_i hn
    refine ⟨B, ρ, F, S, g, R, r, e, ?_⟩
    cases r with
    | nx ρ1 g1 => exact absurd e (hn ρ1 g1)
    | bk _ _ => exact k
    | ct _ _ => exact k
    | rt _ _ => exact k
    | er _ _ => exact k
def bkM : SM G := fun ρ g => some (.bk ρ g)
def ctM : SM G := fun ρ g => some (.ct ρ g)
theorem cs_pass {p : Pos} : PS X (.Pass p) (tS BR nilM) := PS.imp ps_pass fun D σ H ⟨B, ρ, F, S, g, R, r, e, k⟩ => by
  cases e
  exact k σ H F S R
theorem cs_break {p : Pos} : PS X (.Break p) (tS BR bkM) := PS.imp ps_break fun D σ H ⟨B, ρ, F, S, g, R, r, e, k⟩ => by
  cases e
  exact k σ H F S R
theorem cs_cont {p : Pos} : PS X (.Continue p) (tS BR ctM) := PS.imp ps_continue fun D σ H ⟨B, ρ, F, S, g, R, r, e, k⟩ => by
  cases e
  exact k σ H F S R
/-! an expression for its effect -/
def exprM (f : EM G) : SM G := fun ρ g => match f ρ g with
  | some (.ok _ g1) => some (.nx ρ g1)
  | some (.er x g1) => some (.er x g1)
  | none => none
def noSwap : Expr → Bool
  | .ListComp _ _ _ _ => false
  | .SetComp _ _ _ _ => false
  | .DictComp _ _ _ _ _ => false
  | _ => true
theorem noSwap_ok {e : Expr} (h : noSwap e = true) (t : Option Expr) (l : Nat) (env : PySem.Env) : swapsWith e t l env = pure false := by
  cases e <;> first | rfl | cases h
theorem cs_expr {e : Expr} {p : Pos} {f : EM G} (h : noSwap e = true) (he : PE X e (tV BR f)) : PS X (.Expr e p) (tS BR (exprM f)) := PS.imp (ps_expr he (noSwap_ok h _ _ _)) fun D σ H ⟨B, ρ, F, S, g, R, r, e, k⟩ => by
  unfold exprM at e
  split at e
  · rename_i d g1 h1
    cases e
    exact ⟨ρ, F, S, g, R.e, d, g1, h1, fun v H1 F1 S1 E1 b1 r1 => k σ H1 F1 S1 (R.later E1 b1)⟩
  · cases e; exact k.elim
  · cases e
/-! ### return -/
def thaw : Option Sv → Option Sv
  | some (.own d) => some (.dat d)
  | some (.lk d) => some (.dat d)
  | s => s
theorem Rel.thaw (R : Rel BR B σ H ρ F S g) : ∃ S', RelE BR σ H (ρ.map thaw) F S' g ∧ Ext B.H0 B.F0 B.S0 H F S' := by
  let O : Addr → Prop := fun a => ∃ (i : Nat) (s : Sv), ρ[i]? = some (some s) ∧ s.isOwn = true ∧ σ[i]? = some (some (.ref a))
  have hO : ∀ a, O a → (∃ o, H a = some o) ∧ a ∉ F ∧ B.H0 a = none := fun a ⟨i, s, h1, h2, h3⟩ => by
    obtain ⟨v, e, q⟩ := R.e.slot i s h1
    rw [h3] at e; cases e
    refine ⟨?_, (R.e.ownS i s a h1 h2 h3).2, (R.own i s a h1 h2 h3).1⟩
    cases s with
    | own d => obtain ⟨r, er, q⟩ := q; cases er; obtain ⟨o, ho, _⟩ := q.some; exact ⟨o, ho⟩
    | lk d => obtain ⟨r, er, q⟩ := q; cases er; obtain ⟨o, ho, _⟩ := q.some; exact ⟨o, ho⟩
    | _ => cases h2
  have A' : Amb BR H F (fun a => S a ∨ O a) g := ⟨fun a s => s.elim (R.e.amb.live a) fun o => (hO a o).1, fun a ha s => s.elim (R.e.amb.dis a ha) fun o => (hO a o).2.1 ha, R.e.amb.bag⟩
  have kk : Kp H S H (fun a => S a ∨ O a) := kpSub fun _ s => .inl s
  refine ⟨fun a => S a ∨ O a, ⟨by rw [List.length_map]; exact R.e.len, fun i s e => ?_, A', fun i s r e hs _ => ?_, fun i j s t r e hs _ _ _ _ => ?_⟩, ⟨R.x.keep, fun a s => .inl (R.x.sub a s), fun a s => s.elim (R.x.new a) fun o => .inr (hO a o).2.2, A'.live, A'.dis, R.x.bag⟩⟩
  · rw [List.getElem?_map] at e
    obtain ⟨s0, h1, h2⟩ := Option.map_eq_some_iff.mp e
    cases s0 with
    | none => cases h2
    | some s0 =>
      obtain ⟨v, hv, q⟩ := R.e.slot i s0 h1
      refine ⟨v, hv, ?_⟩
      cases s0 with
      | dat d => cases h2; exact Rp.kp kk q
      | own d =>
        cases h2
        obtain ⟨r, er, q⟩ := q
        subst er
        exact (q.kp kk rfl).rp (.inr ⟨i, _, h1, rfl, hv⟩)
      | lk d =>
        cases h2
        obtain ⟨r, er, q⟩ := q
        subst er
        exact (q.kp kk rfl).rp (.inr ⟨i, _, h1, rfl, hv⟩)
      | bag => cases h2; exact q
      | scr => cases h2; exact q
  all_goals
    rw [List.getElem?_map] at e
    obtain ⟨s0, h1, h2⟩ := Option.map_eq_some_iff.mp e
    cases s0 with
    | none => cases h2
    | some s0 => cases s0 <;> cases h2 <;> cases hs
def retM (f : EM G) : SM G := fun ρ g => match f (ρ.map thaw) g with
  | some (.ok d g1) => some (.rt d g1)
  | some (.er x g1) => some (.er x g1)
  | none => none
theorem cs_ret {e : Expr} {p : Pos} {f : EM G} (he : PE X e (tV BR f)) : PS X (.Return (some e) p) (tS BR (retM f)) := PS.imp (ps_ret he) fun D σ H ⟨B, ρ, F, S, g, R, r, e, k⟩ => by
  unfold retM at e
  split at e
  · rename_i d g1 h1
    cases e
    obtain ⟨S', R', E'⟩ := R.thaw
    obtain ⟨g0, A0⟩ := R.amb0
    exact ⟨_, F, S', g, R', d, g1, h1, fun v H1 F1 S1 E1 b1 r1 => k v H1 F1 S1 (E'.trans A0 E1) b1 r1⟩
  · cases e; exact k.elim
  · cases e
def retNM : SM G := fun ρ g => some (.rt .none g)
theorem cs_retN {p : Pos} : PS X (.Return none p) (tS BR retNM) := PS.imp ps_retN fun D σ H ⟨B, ρ, F, S, g, R, r, e, k⟩ => by
  cases e
  exact k .non H F S R.x R.e.amb.bag .non
/-! ### if -/
def ifS (t : Mn G Bool) (f h : SM G) : SM G := fun ρ g => match t ρ g with
  | some (.ok b g1) => match b with
    | true => f ρ g1
    | false => h ρ g1
  | some (.er x g1) => some (.er x g1)
  | none => none
theorem cs_if {c : Expr} {a b : List Stmt} {p : Pos} {t : Mn G Bool} {f h : SM G} (hc : PT X c (tT BR t)) (ha : PSs X a (tS BR f)) (hb : PSs X b (tS BR h)) : PS X (.If c a b p) (tS BR (ifS t f h)) := PS.imp (ps_if hc ha hb) fun D σ H ⟨B, ρ, F, S, g, R, r, e, k⟩ => by
  unfold ifS at e
  split at e
  · rename_i b g1 h1
    refine ⟨ρ, F, S, g, R.e, b, g1, h1, fun H1 F1 S1 E1 b1 => ?_⟩
    have R1 := R.later E1 b1
    cases b with
    | true => exact iteMk ⟨B, ρ, F1, S1, g1, R1, r, e, k⟩
    | false => exact iteMkF ⟨B, ρ, F1, S1, g1, R1, r, e, k⟩
  · cases e; exact k.elim
  · cases e
/-! ### names stored -/
def setM (i : Nat) (f : EM G) : SM G := fun ρ g => match f ρ g with
  | some (.ok d g1) => some (.nx (ρ.set i (some (.dat d))) g1)
  | some (.er x g1) => some (.er x g1)
  | none => none
def setOM (i : Nat) (f : EM G) : SM G := fun ρ g => match f ρ g with
  | some (.ok d g1) => some (.nx (ρ.set i (some (.own d))) g1)
  | some (.er x g1) => some (.er x g1)
  | none => none
theorem Rel.sets {js : List Nat} {σ1 : L2.St} {ρ1 : Env} (R : Rel BR B σ H ρ F S g) (R1 : RelE BR σ1 H ρ1 F S g) (t : SetsTo js σ ρ σ1 ρ1) : Rel BR B σ1 H ρ1 F S g where
  e := R1
  amb0 := R.amb0
  x := R.x
  own := fun i s r e ho e2 => by
    by_cases hi : i ∈ js
    · rw [t.dat i s hi e] at ho; cases ho
    · rw [(t.off i hi).2] at e
      rw [(t.off i hi).1] at e2
      exact R.own i s r e ho e2
  pin := R.pin
  pinF := R.pinF
  snap := R.snap
theorem getSet {α : Type} {l : List α} {i j : Nat} {x y : α} (h : (l.set i x)[j]? = some y) : (j = i ∧ y = x ∧ i < l.length) ∨ (j ≠ i ∧ l[j]? = some y) := by
  by_cases e : i = j
  · subst e
    by_cases hl : i < l.length
    · rw [List.getElem?_set_self hl] at h
      cases h
      exact .inl ⟨rfl, rfl, hl⟩
    · rw [List.getElem?_eq_none (by simpa using hl)] at h; cases h
  · rw [List.getElem?_set_ne e] at h
    exact .inr ⟨fun z => e z.symm, h⟩
/-- an own root is in the heap -/
theorem RelE.ownH (R : RelE BR σ H ρ F S g) {i : Nat} {s : Sv} {r : Addr} (e : ρ[i]? = some (some s)) (hs : s.isOwn = true) (q : σ[i]? = some (some (.ref r))) : ∃ o, H r = some o ∧ MutO o := by
  obtain ⟨v, e1, z⟩ := R.slot i s e
  rw [q] at e1; cases e1
  cases s with
  | own d => obtain ⟨r', er, z⟩ := z; cases er; exact z.some
  | lk d => obtain ⟨r', er, z⟩ := z; cases er; exact z.some
  | _ => cases hs
/-- a slot takes an object that was not there -/
theorem Rel.setO (R0 : Rel BR B σ H ρ F S g) (E : Ext H F S H' F' S') (b : BR.R F' H' g') (i : Nat) {r : Addr} {d : D} (hr : H r = none) (n1 : ¬ S' r) (n2 : r ∉ F') (o : OwnAt H' S' r d) : Rel BR B (σ.set i (some (.ref r))) H' (ρ.set i (some (.own d))) F' S' g' := by
  have R := R0.later E b
  have ne : ∀ (j : Nat) (s : Sv) (q : Addr), ρ[j]? = some (some s) → s.isOwn = true → σ[j]? = some (some (.ref q)) → q ≠ r := fun j s q e hs hq z => by
    subst z
    obtain ⟨o', h, _⟩ := R0.e.ownH e hs hq
    rw [hr] at h; cases h
  obtain ⟨g0, A0⟩ := R0.amb0
  refine ⟨⟨by rw [List.length_set, List.length_set]; exact R.e.len, fun j s e => ?_, R.e.amb, fun j s q e hs hq => ?_, fun j k s t q e1 h1 q1 e2 h2 q2 => ?_⟩, R.amb0, R.x, fun j s q e hs hq => ?_, R.pin, R.pinF, R.snap⟩
  · rcases getSet e with ⟨rfl, es, hl⟩ | ⟨hne, e⟩
    · cases es
      exact ⟨.ref r, List.getElem?_set_self (by rw [← R.e.len]; exact hl), ⟨r, rfl, o⟩⟩
    · rw [List.getElem?_set_ne (Ne.symm hne)]
      exact R.e.slot j s e
  · rcases getSet e with ⟨rfl, es, hl⟩ | ⟨hne, e⟩
    · rw [List.getElem?_set_self (by rw [← R.e.len]; exact hl)] at hq
      cases hq
      exact ⟨n1, n2⟩
    · rw [List.getElem?_set_ne (Ne.symm hne)] at hq
      exact R.e.ownS j s q e hs hq
  · rcases getSet e1 with ⟨z1, es1, hl1⟩ | ⟨hne1, f1⟩
    · rcases getSet e2 with ⟨z2, es2, hl2⟩ | ⟨hne2, f2⟩
      · exact z1.trans z2.symm
      · exfalso
        subst z1
        rw [List.getElem?_set_self (by rw [← R.e.len]; exact hl1)] at q1
        rw [List.getElem?_set_ne (Ne.symm hne2)] at q2
        cases q1
        exact ne k t r f2 h2 q2 rfl
    · rcases getSet e2 with ⟨z2, es2, hl2⟩ | ⟨hne2, f2⟩
      · exfalso
        subst z2
        rw [List.getElem?_set_self (by rw [← R.e.len]; exact hl2)] at q2
        rw [List.getElem?_set_ne (Ne.symm hne1)] at q1
        cases q2
        exact ne j s r f1 h1 q1 rfl
      · rw [List.getElem?_set_ne (Ne.symm hne1)] at q1
        rw [List.getElem?_set_ne (Ne.symm hne2)] at q2
        exact R.e.inj j k s t q f1 h1 q1 f2 h2 q2
  · rcases getSet e with ⟨rfl, es, hl⟩ | ⟨hne, e⟩
    · rw [List.getElem?_set_self (by rw [← R.e.len]; exact hl)] at hq
      cases hq
      refine ⟨R0.x.back hr (R0.e.amb.notF hr), fun p hp z => ?_⟩
      have := R0.pin p hp
      rw [z, hr] at this; cases this
    · rw [List.getElem?_set_ne (Ne.symm hne)] at hq
      exact R.own j s q e hs hq
theorem cs_set {st : Stmt} {te : TE} {i : Nat} {f : EM G} (hp : PS X st (tAsg te (gName i))) (hte : ∀ σ H Q, tV BR f σ H Q → te σ H Q) : PS X st (tS BR (setM i f)) := PS.imp hp fun D σ H ⟨B, ρ, F, S, g, R, r, e, k⟩ => by
  unfold setM at e
  split at e
  · rename_i d g1 h1
    cases e
    refine hte σ H _ ⟨ρ, F, S, g, R.e, d, g1, h1, fun v H1 F1 S1 E1 b1 r1 => ?_⟩
    have R1 := R.later E1 b1
    exact k _ H1 F1 S1 (R1.sets (R1.e.setD i r1) (sets_set σ ρ))
  · cases e; exact k.elim
  · cases e
theorem cs_setO {st : Stmt} {te : TE} {i : Nat} {f : EM G} (hp : PS X st (tAsg te (gName i))) (hte : ∀ σ H Q, tF BR f σ H Q → te σ H Q) : PS X st (tS BR (setOM i f)) := PS.imp hp fun D σ H ⟨B, ρ, F, S, g, R, r, e, k⟩ => by
  unfold setOM at e
  split at e
  · rename_i d g1 h1
    cases e
    exact hte σ H _ ⟨ρ, F, S, g, R.e, d, g1, h1, fun r H1 F1 S1 E1 b1 n0 n1 n2 o => k _ H1 F1 S1 (R.setO E1 b1 i n0 n1 n2 o)⟩
  · cases e; exact k.elim
  · cases e
/-! ### an own list or dict is changed -/
/-- the own object of slot i is written -/
theorem Rel.put {i : Nat} {r : Addr} {d d' : D} {o : HO} (R : Rel BR B σ H ρ F S g) (e : ρ[i]? = some (some (.own d))) (q : σ[i]? = some (some (.ref r))) (hn : OwnAt (upd H r o) S r d') : Rel BR B σ (upd H r o) (ρ.set i (some (.own d'))) F S g := by
  obtain ⟨u, hu, mu⟩ := R.e.ownH e rfl q
  obtain ⟨n1, n2⟩ := R.e.ownS i _ r e rfl q
  obtain ⟨n3, n4⟩ := R.own i _ r e rfl q
  have hi : i < ρ.length := (List.getElem?_eq_some_iff.mp e).1
  have kk : Kp H S (upd H r o) S := kpOwn hu mu n1
  have X1 : Ext B.H0 B.F0 B.S0 (upd H r o) F S := R.x.own n3 n1
  refine ⟨⟨by rw [List.length_set]; exact R.e.len, fun j s ej => ?_, ⟨X1.live, X1.dis, bagOwn R.e.amb.bag n2⟩, fun j s q' ej hs hq => ?_, fun j k s t q' e1 h1 q1 e2 h2 q2 => ?_⟩, R.amb0, X1, fun j s q' ej hs hq => ?_, fun p hp => ?_, R.pinF, fun p hp => (R.snap p hp).trans kk⟩
  · rcases getSet ej with ⟨rfl, es, _⟩ | ⟨hne, ej⟩
    · cases es
      exact ⟨.ref r, q, r, rfl, hn⟩
    · obtain ⟨v, hv, z⟩ := R.e.slot j s ej
      refine ⟨v, hv, ?_⟩
      have go : ∀ {d : D}, s.isOwn = true → (∃ r', v = .ref r' ∧ OwnAt H S r' d) → ∃ r', v = .ref r' ∧ OwnAt (upd H r o) S r' d := fun {d} hs zz => by
        obtain ⟨r', er, zi⟩ := zz
        subst er
        have hne' : r' ≠ r := fun z => by
          subst z
          exact hne (R.e.inj j i s _ r' ej hs hv e rfl q)
        exact ⟨r', rfl, zi.kp kk (upd_ne hne')⟩
      cases s with
      | dat d => exact Rp.kp kk z
      | own d => exact go rfl z
      | lk d => exact go rfl z
      | bag => exact z
      | scr =>
        obtain ⟨b, eb, z⟩ := z
        refine ⟨b, eb, BR.scrK z fun c o' u' h => ?_⟩
        have : c ≠ r := fun z => by
          subst z
          rw [hu] at h; cases h
          exact mu
        rw [upd_ne this]; exact h
  · rcases getSet ej with ⟨rfl, es, _⟩ | ⟨hne, ej⟩
    · rw [q] at hq; cases hq; exact ⟨n1, n2⟩
    · exact R.e.ownS j s q' ej hs hq
  · rcases getSet e1 with ⟨z1, es1, _⟩ | ⟨hne1, f1⟩
    · rcases getSet e2 with ⟨z2, es2, _⟩ | ⟨hne2, f2⟩
      · exact z1.trans z2.symm
      · rw [z1] at q1 ⊢
        exact R.e.inj i k (.own d) t q' e rfl q1 f2 h2 q2
    · rcases getSet e2 with ⟨z2, es2, _⟩ | ⟨hne2, f2⟩
      · rw [z2] at q2 ⊢
        exact R.e.inj j i s (.own d) q' f1 h1 q1 e rfl q2
      · exact R.e.inj j k s t q' f1 h1 q1 f2 h2 q2
  · rcases getSet ej with ⟨rfl, es, _⟩ | ⟨hne, ej⟩
    · rw [q] at hq; cases hq; exact ⟨n3, n4⟩
    · exact R.own j s q' ej hs hq
  · rw [upd_ne (n4 p hp)]
    exact R.pin p hp
end
end Kd

end part_KdI
section part_KdJ
/-! Kd, part J: methods of lists, stores by index, loops, several targets. -/
namespace Kd
open PySem PySem.Spec PyProof.Rows L2
section
variable {G : Type} {BR : BagR G} {X : Cx} {B : Bs} {H H' : Hp} {F F' : List Addr} {S S' : Addr → Prop} {g g' : G} {σ : L2.St} {ρ : Env}
/-! ### an own object is given up: it will not change any more -/
def frzE (j : Nat) (ρ : Env) : Env := match ρ[j]? with
  | some (some (.own d)) => ρ.set j (some (.dat d))
  | _ => ρ
theorem Rel.frz (R : Rel BR B σ H ρ F S g) (j : Nat) : ∃ S', Rel BR B σ H (frzE j ρ) F S' g := by
  unfold frzE
  split
  · rename_i d e
    obtain ⟨v, hv, q⟩ := R.e.slot j _ e
    obtain ⟨r, er, q⟩ := q
    subst er
    obtain ⟨o, ho, mo⟩ := q.some
    obtain ⟨n1, n2⟩ := R.e.ownS j _ r e rfl hv
    obtain ⟨n3, n4⟩ := R.own j _ r e rfl hv
    have kk : Kp H S H (fun a => S a ∨ a = r) := kpSub fun _ s => .inl s
    have jl : j < ρ.length := (List.getElem?_eq_some_iff.mp e).1
    have live : ∀ a, (S a ∨ a = r) → ∃ o, H a = some o := fun a s => s.elim (R.e.amb.live a) fun z => ⟨o, z ▸ ho⟩
    have dis : ∀ a ∈ F, ¬ (S a ∨ a = r) := fun a ha s => s.elim (R.e.amb.dis a ha) fun z => n2 (z ▸ ha)
    refine ⟨fun a => S a ∨ a = r, ⟨⟨by rw [List.length_set]; exact R.e.len, fun i s ei => ?_, ⟨live, dis, R.e.amb.bag⟩, fun i s q' ei hs hq => ?_, fun i k s t q' e1 h1 q1 e2 h2 q2 => ?_⟩, R.amb0, ⟨R.x.keep, fun a s => .inl (R.x.sub a s), fun a s => s.elim (R.x.new a) fun z => .inr (z ▸ n3), live, dis, R.x.bag⟩, fun i s q' ei hs hq => ?_, R.pin, R.pinF, fun p hp => (R.snap p hp).trans kk⟩⟩
    · rcases getSet ei with ⟨z, es, _⟩ | ⟨hne, fi⟩
      · cases es
        rw [z]
        exact ⟨.ref r, hv, (q.kp kk rfl).rp (.inr rfl)⟩
      · obtain ⟨v, hv, z⟩ := R.e.slot i s fi
        refine ⟨v, hv, ?_⟩
        cases s with
        | dat d => exact Rp.kp kk z
        | own d => obtain ⟨r', er, z⟩ := z; exact ⟨r', er, z.kp kk rfl⟩
        | lk d => obtain ⟨r', er, z⟩ := z; exact ⟨r', er, z.kp kk rfl⟩
        | bag => exact z
        | scr => exact z
    · rcases getSet ei with ⟨z, es, _⟩ | ⟨hne, fi⟩
      · cases es; cases hs
      · obtain ⟨m1, m2⟩ := R.e.ownS i s q' fi hs hq
        refine ⟨fun z => z.elim m1 fun z => ?_, m2⟩
        subst z
        exact hne (R.e.inj i j s _ q' fi hs hq e rfl hv)
    · rcases getSet e1 with ⟨z, es, _⟩ | ⟨hne1, f1⟩
      · cases es; cases h1
      · rcases getSet e2 with ⟨z, es, _⟩ | ⟨hne2, f2⟩
        · cases es; cases h2
        · exact R.e.inj i k s t q' f1 h1 q1 f2 h2 q2
    · rcases getSet ei with ⟨z, es, _⟩ | ⟨hne, fi⟩
      · cases es; cases hs
      · exact R.own i s q' fi hs hq
  · exact ⟨S, R⟩
def frzM (j : Nat) (f : SM G) : SM G := fun ρ g => f (frzE j ρ) g
theorem cs_frz {st : Stmt} {f : SM G} (j : Nat) (h : PS X st (tS BR f)) : PS X st (tS BR (frzM j f)) := PS.imp h fun D σ H ⟨B, ρ, F, S, g, R, r, e, k⟩ => by
  obtain ⟨S', R'⟩ := R.frz j
  exact ⟨B, _, F, S', g, R', r, e, k⟩

/-! ### append, extend -/
theorem RelE.ownL (R : RelE BR σ H ρ F S g) {i : Nat} {ds : List D} (e : ρ[i]? = some (some (.own (.list ds)))) : ∃ r xs, σ[i]? = some (some (.ref r)) ∧ H r = some (.lst xs) ∧ xs.length ≤ sizeLine ∧ RpL H S xs ds := by
  obtain ⟨v, hv, r, er, q⟩ := R.slot i _ e
  subst er
  cases q with
  | lst h l q => exact ⟨r, _, hv, h, l, q⟩
theorem Rel.putL {i : Nat} {r : Addr} {d : D} {xs : List V} {ds : List D} (R : Rel BR B σ H ρ F S g) (e : ρ[i]? = some (some (.own d))) (q : σ[i]? = some (some (.ref r))) (hl : xs.length ≤ sizeLine) (rr : RpL H S xs ds) : Rel BR B σ (upd H r (.lst xs)) (ρ.set i (some (.own (.list ds)))) F S g := by
  obtain ⟨u, hu, mu⟩ := R.e.ownH e rfl q
  obtain ⟨n1, n2⟩ := R.e.ownS i _ r e rfl q
  exact R.put e q (.lst upd_same hl (rr.kp (kpOwn hu mu n1)))
def appM (i : Nat) (f : EM G) : SM G := fun ρ g => match ρ[i]? with
  | some (some (.own (.list ds))) => match f ρ g with
    | some (.ok d g1) => if ds.length < 16777216 then some (.nx (ρ.set i (some (.own (.list (ds ++ [d]))))) g1) else none
    | some (.er x g1) => some (.er x g1)
    | none => none
  | _ => none
variable {N : List Str} {sc : Scope} {x : Str} {p pos apos cpos spos : Pos} {a b e : Expr} {f h : EM G}
theorem cs_app {i : Nat} (hN : X.N[i]? = some x) (hv : Vis X.env.scope x) (hd : (x == ("__debug__" : Str)) = false) (hcd : (x == ("__classdict__" : Str)) = false) (hline : (apos.endLine == cpos.line) = true)
    (ns : noStar e = true) (he : PE X e (tV BR f)) : PS X (.Expr (.Call (.Attribute (.Name x p) "append" apos) [e] [] cpos) spos) (tS BR (appM i f)) :=
  PS.imp (ps_expr (pe_bm PySem.F.plainAttrs_list PySem.F.slot_list_append PySem.F.type_list_append mt_append (pe_var hN hv hd hcd) (pa_cons he pa_nil (starEach_ns ns _ _)) rfl (by rw [starEach_ns ns]; rfl) hline (starEach_ns ns _ _) rfl) rfl) fun D σ H ⟨B, ρ, F, S, g, R, r, e, k⟩ => by
    unfold appM at e
    split at e
    · rename_i ds e0
      split at e
      · rename_i d g1 e1
        split at e
        · rename_i hlt
          cases e
          obtain ⟨r, xs, hv, hH, hl, hq⟩ := R.e.ownL e0
          refine ⟨.ref r, hv, .inl ⟨rfl, xs, SqL.of hH⟩, ρ, F, S, g, R.e, d, g1, e1, fun v H1 F1 S1 E1 b1 r1 => ?_⟩
          have R1 := R.later E1 b1
          obtain ⟨r', xs', hv', hH', hl', hq'⟩ := R1.e.ownL e0
          rw [hv] at hv'; cases hv'
          have el := hq'.length
          refine ⟨r, xs', v, rfl, rfl, hH', by rw [sizeLine_eq]; omega, ?_⟩
          refine k σ _ F1 S1 (R1.putL e0 hv (by rw [List.length_append, List.length_singleton, sizeLine_eq]; omega) (hq'.append (.cons r1 .nil)))
        · cases e
      · cases e; exact k.elim
      · cases e
    · cases e
def extM (i : Nat) (f : EM G) : SM G := fun ρ g => match ρ[i]? with
  | some (some (.own (.list ds))) => match f ρ g with
    | some (.ok (.list es) g1) => if ds.length + es.length ≤ 16777216 then some (.nx (ρ.set i (some (.own (.list (ds ++ es))))) g1) else none
    | some (.er x g1) => some (.er x g1)
    | _ => none
  | _ => none
theorem cs_ext {i : Nat} (hN : X.N[i]? = some x) (hv : Vis X.env.scope x) (hd : (x == ("__debug__" : Str)) = false) (hcd : (x == ("__classdict__" : Str)) = false) (hline : (apos.endLine == cpos.line) = true)
    (ns : noStar e = true) (he : PE X e (tB BR f)) : PS X (.Expr (.Call (.Attribute (.Name x p) "extend" apos) [e] [] cpos) spos) (tS BR (extM i f)) :=
  PS.imp (ps_expr (pe_bm PySem.F.plainAttrs_list PySem.F.slot_list_extend PySem.F.type_list_extend mt_extend (pe_var hN hv hd hcd) (pa_cons he pa_nil (starEach_ns ns _ _)) rfl (by rw [starEach_ns ns]; rfl) hline (starEach_ns ns _ _) rfl) rfl) fun D σ H ⟨B, ρ, F, S, g, R, r, e, k⟩ => by
    unfold extM at e
    split at e
    · rename_i ds e0
      split at e
      · rename_i es g1 e1
        split at e
        · rename_i hlt
          cases e
          obtain ⟨r, xs, hv, hH, hl, hq⟩ := R.e.ownL e0
          refine ⟨.ref r, hv, .inl ⟨rfl, xs, SqL.of hH⟩, ρ, F, S, g, R.e, _, g1, e1, fun v H1 F1 S1 E1 b1 r1 => ?_⟩
          have R1 := R.later E1 b1
          obtain ⟨r', xs', hv', hH', hl', hq'⟩ := R1.e.ownL e0
          rw [hv] at hv'; cases hv'
          obtain ⟨b, zs, rfl, hb, lb, qb⟩ := r1.lst
          have el := hq'.length
          have eb := qb.length
          refine ⟨r, b, xs', zs, rfl, rfl, hH', hb, by rw [sizeLine_eq]; omega, ?_⟩
          refine k σ _ F1 S1 (R1.putL e0 hv (by rw [List.length_append, sizeLine_eq]; omega) (hq'.append qb))
        · cases e
      · cases e; exact k.elim
      · cases e
    · cases e
end
end Kd

end part_KdJ
section part_KdK
/-! Kd, part K: stores by index, loops. -/
namespace Kd
open PySem PySem.Spec PyProof.Rows L2
/-! ### dicts with keys int or str -/
def keyD : D → Option Key
  | .int i => some (.inl i)
  | .str x => some (.inr x)
  | _ => none
def kD : Key → D
  | .inl i => .int i
  | .inr x => .str x
def putP (ps : List (D × D)) (k : Key) (d : D) : List (D × D) :=
  if (ps.any fun p => decide (keyD p.1 = some k)) = true then ps.map (fun p => if keyD p.1 = some k then (p.1, d) else p) else ps ++ [(kD k, d)]
section
variable {H : Hp} {S : Addr → Prop}
theorem RpK.length : ∀ {kvs : List (Key × V)} {ps : List (D × D)}, RpK H S kvs ps → kvs.length = ps.length
  | _, _, .nil => rfl
  | _, _, .int _ r => congrArg Nat.succ (RpK.length r)
  | _, _, .str _ r => congrArg Nat.succ (RpK.length r)
theorem RpK.any (k : Key) : ∀ {kvs : List (Key × V)} {ps : List (D × D)}, RpK H S kvs ps → (kvs.any fun kv => decide (kv.1 = k)) = ps.any fun p => decide (keyD p.1 = some k)
  | _, _, .nil => rfl
  | _, _, .int _ r => by
    rw [List.any_cons, List.any_cons, RpK.any k r]
    congr 1
    simp [keyD]
  | _, _, .str _ r => by
    rw [List.any_cons, List.any_cons, RpK.any k r]
    congr 1
    simp [keyD]
theorem RpK.map {k : Key} {v : V} {d : D} (q : Rp H S v d) : ∀ {kvs : List (Key × V)} {ps : List (D × D)}, RpK H S kvs ps → RpK H S (kvs.map (fun kv => if kv.1 = k then (kv.1, v) else kv)) (ps.map (fun p => if keyD p.1 = some k then (p.1, d) else p))
  | _, _, .nil => .nil
  | _, _, .int (i := i) a r => by
    rw [List.map_cons, List.map_cons]
    by_cases e : (Sum.inl i : Key) = k
    · rw [if_pos e, if_pos (by show keyD (.int i) = _; rw [← e]; rfl)]
      exact .int q (RpK.map q r)
    · rw [if_neg e, if_neg (by show ¬ keyD (.int i) = some k; exact fun z => e (Option.some.inj z))]
      exact .int a (RpK.map q r)
  | _, _, .str (x := i) a r => by
    rw [List.map_cons, List.map_cons]
    by_cases e : (Sum.inr i : Key) = k
    · rw [if_pos e, if_pos (by show keyD (.str i) = _; rw [← e]; rfl)]
      exact .str q (RpK.map q r)
    · rw [if_neg e, if_neg (by show ¬ keyD (.str i) = some k; exact fun z => e (Option.some.inj z))]
      exact .str a (RpK.map q r)
theorem RpK.append : ∀ {vs ws : List (Key × V)} {ds es : List (D × D)}, RpK H S vs ds → RpK H S ws es → RpK H S (vs ++ ws) (ds ++ es)
  | _, _, _, _, .nil, s => s
  | _, _, _, _, .int r t, s => .int r (RpK.append t s)
  | _, _, _, _, .str r t, s => .str r (RpK.append t s)
theorem RpK.put {k : Key} {v : V} {d : D} (q : Rp H S v d) {kvs : List (Key × V)} {ps : List (D × D)} (r : RpK H S kvs ps) : RpK H S (putK kvs k v) (putP ps k d) := by
  unfold putK putP
  rw [← r.any k]
  split
  · exact r.map q
  · refine r.append ?_
    cases k with
    | inl i => exact .int q .nil
    | inr x => exact .str q .nil
end
theorem putP_len (ps : List (D × D)) (k : Key) (d : D) : (putP ps k d).length ≤ ps.length + 1 := by
  unfold putP
  split
  · rw [List.length_map]; omega
  · rw [List.length_append]; exact Nat.le_refl _
theorem keyV {H : Hp} {S : Addr → Prop} {F : List Addr} {v : V} {d : D} {k : Key} (r : RpB H S F v d) (e : keyD d = some k) : v = kV k := by
  cases d with
  | int i => cases e; exact r.int
  | str i => cases e; exact r.str
  | _ => cases e

section
variable {G : Type} {BR : BagR G} {X : Cx} {B : Bs} {H H' : Hp} {F F' : List Addr} {S S' : Addr → Prop} {g g' : G} {σ : L2.St} {ρ : Env}
variable {N : List Str} {sc : Scope} {x : Str} {p pos apos cpos spos : Pos} {a b e : Expr} {f h : EM G}
/-! ### x[i] = e for an own list or dict -/
def stoD (d : D) (i z : D) : Option D := match d with
  | .list ds => match i with
    | .int k => (ixN ds.length k).map fun j => .list (ds.set j z)
    | _ => none
  | .dict ps => match keyD i with
    | some k => if ps.length < 16777216 then some (.dict (putP ps k z)) else none
    | none => none
  | _ => none
def stoM (i : Nat) (ix : EM G) (f : EM G) : SM G := fun ρ g => match f ρ g with
  | some (.ok z g1) => match ix ρ g1 with
    | some (.ok k g2) => match ρ[i]? with
      | some (some (.own d)) => match stoD d k z with
        | some d' => some (.nx (ρ.set i (some (.own d'))) g2)
        | none => none
      | _ => none
    | some (.er x g2) => some (.er x g2)
    | none => none
  | some (.er x g1) => some (.er x g1)
  | none => none
def rSet : TSet := fun o i v H Q => rSetL o i v H Q ∨ rSetD o i v H Q
theorem set_any (hu : X.A.units + 1 < cLine) : PSet X rSet := fun pins s σ H o i v ov iv u Q I ro ri rv h => h.elim (set_list pins s σ H o i v ov iv u Q I ro ri rv) (set_dict hu pins s σ H o i v ov iv u Q I ro ri rv)
theorem Rel.putK {i : Nat} {r : Addr} {d : D} {xs : List (Key × V)} {ds : List (D × D)} (R : Rel BR B σ H ρ F S g) (e : ρ[i]? = some (some (.own d))) (q : σ[i]? = some (some (.ref r))) (rr : RpK H S xs ds) : Rel BR B σ (upd H r (.dK xs)) (ρ.set i (some (.own (.dict ds)))) F S g := by
  obtain ⟨u, hu, mu⟩ := R.e.ownH e rfl q
  obtain ⟨n1, n2⟩ := R.e.ownS i _ r e rfl q
  exact R.put e q (.dic upd_same (rr.kp (kpOwn hu mu n1)))
theorem cs_sto {i : Nat} {ix : Expr} {fi : EM G} (hu : X.A.units + 1 < cLine) (hN : X.N[i]? = some x) (hv : Vis X.env.scope x) (hd : (x == ("__debug__" : Str)) = false) (hcd : (x == ("__classdict__" : Str)) = false)
    (hix : PE X ix (tB BR fi)) (he : PE X e (tV BR f)) (hs : swapsWithSole [.Subscript (.Name x p) ix pos] e spos.line X.env = pure false)
    (ha : ∀ v, assign (.Subscript (.Name x p) ix pos) X.env v = (do
      let ov ← holding [v] (eval (.Name x p) X.env)
      let iv ← holding [v, ov] (eval ix X.env)
      standAt pos
      holding [v, ov, iv] (setItem ov iv v)
      release [v, ov, iv] [])) : PS X (.Assign [.Subscript (.Name x p) ix pos] e spos) (tS BR (stoM i fi f)) :=
  PS.imp (ps_asg he (pg_sub (pe_var hN hv hd hcd) hix (set_any hu) ha) hs rfl rfl) fun D σ H ⟨B, ρ, F, S, g, R, r, e, k⟩ => by
    unfold stoM at e
    split at e
    · rename_i z g1 e1
      split at e
      · rename_i kk g2 e2
        split at e
        · rename_i d e0
          split at e
          · rename_i d' e3
            cases e
            refine ⟨ρ, F, S, g, R.e, z, g1, e1, fun v H1 F1 S1 E1 b1 r1 => ?_⟩
            have R1 := R.later E1 b1
            obtain ⟨v0, hv0, q0⟩ := R1.e.slot i _ e0
            obtain ⟨r, er, _⟩ := q0
            subst er
            refine ⟨.ref r, hv0, ρ, F1, S1, g1, R1.e, kk, g2, e2, fun w H2 F2 S2 E2 b2 r2 => ?_⟩
            have R2 := R1.later E2 b2
            have r12 := r1.kp (E2.kp R1.e.amb)
            obtain ⟨v3, hv3, q3⟩ := R2.e.slot i _ e0
            obtain ⟨r', er, q3⟩ := q3
            rw [hv0] at hv3; cases hv3; cases er
            unfold stoD at e3
            split at e3
            · split at e3
              · rename_i ds k'
                obtain ⟨j, hj, ed⟩ := Option.map_eq_some_iff.mp e3
                subst ed
                cases q3 with
                | lst hH hl hq =>
                  refine .inl ⟨r, _, k', j, rfl, r2.int, hH, by rw [hq.length]; exact hj, ?_⟩
                  exact k σ _ F2 S2 (R2.putL e0 hv0 (by rw [List.length_set]; exact hl) (RpL.set r12 j hq))
              · cases e3
            · split at e3
              · rename_i ps k' hk
                split at e3
                · rename_i hlt
                  cases e3
                  cases q3 with
                  | dic hH hq =>
                    have el := hq.length
                    refine .inr ⟨r, _, rfl, ?_, k σ _ F2 S2 (R2.putK e0 hv0 (RpK.put (k := k') r12 hq))⟩
                    rw [keyV r2 hk]
                    exact DPut.k hH (by rw [sizeLine_eq, el]; exact hlt)
                · cases e3
              · cases e3
            · cases e3
          · cases e
        · cases e
      · cases e; exact k.elim
      · cases e
    · cases e; exact k.elim
    · cases e

/-! ### for -/
def forGo (t : Tg) (body : SM G) : List D → SM G
  | [] => fun ρ g => some (.nx ρ g)
  | x :: xs => fun ρ g => match bindT t x ρ with
    | some ρ1 => match body ρ1 g with
      | some (.nx ρ2 g2) => forGo t body xs ρ2 g2
      | some (.ct ρ2 g2) => forGo t body xs ρ2 g2
      | some (.bk ρ2 g2) => some (.nx ρ2 g2)
      | some (.rt d g2) => some (.rt d g2)
      | some (.er x g2) => some (.er x g2)
      | none => none
    | none => none
def forM (it : Mn G (List D)) (t : Tg) (body : SM G) : SM G := fun ρ g => match it ρ g with
  | some (.ok xs g1) => forGo t body xs ρ g1
  | some (.er x g1) => some (.er x g1)
  | none => none
theorem Rel.less {P : Pins} {Ks : List (Hp × (Addr → Prop))} (R : Rel BR { B with P := P ++ B.P, Ks := Ks ++ B.Ks } σ H ρ F S g) : Rel BR B σ H ρ F S g :=
  ⟨R.e, R.amb0, R.x, fun i s r e h q => ⟨(R.own i s r e h q).1, fun p hp => (R.own i s r e h q).2 p (List.mem_append_right _ hp)⟩, fun p hp => R.pin p (List.mem_append_right _ hp), fun p hp => R.pinF p (List.mem_append_right _ hp), fun p hp => R.snap p (List.mem_append_right _ hp)⟩
theorem Rel.more {P : Pins} (R : Rel BR B σ H ρ F S g) (pn : Pinned P H) (fz : ∀ p ∈ P, S p.1 ∨ ∃ ts, p.2 = .tup ts) : Rel BR { B with P := P ++ B.P, Ks := [(H, S)] ++ B.Ks } σ H ρ F S g := by
  refine ⟨R.e, R.amb0, R.x, fun i s r e h q => ⟨(R.own i s r e h q).1, fun p hp => ?_⟩, fun p hp => ?_, fun p hp => ?_, fun p hp => ?_⟩
  · rcases List.mem_append.mp hp with hp | hp
    · intro z
      obtain ⟨o, ho, mo⟩ := R.e.ownH e h q
      rcases fz p hp with s' | ⟨ts, et⟩
      · exact (R.e.ownS i s r e h q).1 (z ▸ s')
      · have := pn p hp
        rw [z, ho, et] at this
        cases this
        exact mo
    · exact (R.own i s r e h q).2 p hp
  · rcases List.mem_append.mp hp with hp | hp
    · exact pn p hp
    · exact R.pin p hp
  · rcases List.mem_append.mp hp with hp | hp
    · intro hm
      rcases fz p hp with s' | ⟨ts, et⟩
      · exact R.e.amb.dis _ hm s'
      · have := pn p hp
        rw [et] at this
        exact R.e.amb.tup this hm
    · exact R.pinF p hp
  · rcases List.mem_append.mp hp with hp | hp
    · rw [List.mem_singleton.mp hp]
      exact ⟨fun _ s => s, fun _ _ _ h => h, fun _ _ h => h⟩
    · exact R.snap p hp
theorem cs_for {tg iter : Expr} {body : List Stmt} {it : Mn G (List D)} {t : Tg} {m : SM G} (hp : PassesOwn (model X.prog X.w) X.A X.env X.xe) (hc : X.calm = true) (hi : PI X tg iter (tIV BR it)) (hg : PG X tg (tG BR t)) (hb : PSs X body (tS BR m)) (hs : noSet iter = true) :
    PS X (.For tg iter body [] pos) (tS BR (forM it t m)) :=
  PS.imp (ps_for hp hc hi hg hb (noSet_ok hs _)) fun D σ H ⟨B, ρ, F, S, g, R, r, e, k⟩ => by
    unfold forM at e
    split at e
    · rename_i items g1 e1
      refine ⟨ρ, F, S, g, R.e, items, g1, e1, fun J H1 F1 S1 P E1 b1 pn fz hl W => ?_⟩
      have R1 := (R.later E1 b1).more pn fz
      let B1 : Bs := { B with P := P ++ B.P, Ks := [(H1, S1)] ++ B.Ks }
      refine for_it W.walk (fun i σ' H' => ∃ ρ' F' S' g', Rel BR B1 σ' H' ρ' F' S' g' ∧ ∃ r', forGo t m (items.drop i) ρ' g' = some r' ∧ SPost BR B r' D) ⟨ρ, F1, S1, g1, R1, r, e, k⟩ ?_ ?_ ?_
      · rintro i σ' H' _ ⟨ρ', F', S', g', R', _⟩ p hp
        exact R'.pin p (List.mem_append_left _ hp)
      · rintro i x σ' H' H'' hlt ⟨ρ', F', S', g', R', r', er, kr⟩ ⟨d, hd, y⟩
        have hdrop : items.drop i = d :: items.drop (i + 1) := by
          obtain ⟨h1, h2⟩ := List.getElem?_eq_some_iff.mp hd
          rw [List.drop_eq_getElem_cons h1, h2]
        rw [hdrop] at er
        unfold forGo at er
        split at er
        · rename_i ρ1 hb1
          obtain ⟨Ey, by', ry⟩ := y.go R'.e.amb (R'.snap (H1, S1) (List.mem_append_left _ List.mem_cons_self))
          have Ry := R'.later Ey by'
          refine ⟨ρ', F', S', g', d, ρ1, Ry.e, ry, hb1, fun σ1 Rσ t1 => ?_⟩
          have Rs := Ry.sets Rσ t1
          split at er
          · rename_i ρ2 g2 hbody
            exact ⟨B1, ρ1, F', S', g', Rs, _, hbody, fun σ2 H2 F2 S2 R2 => ⟨ρ2, F2, S2, g2, R2, r', er, kr⟩⟩
          · rename_i ρ2 g2 hbody
            exact ⟨B1, ρ1, F', S', g', Rs, _, hbody, fun σ2 H2 F2 S2 R2 => ⟨ρ2, F2, S2, g2, R2, r', er, kr⟩⟩
          · rename_i ρ2 g2 hbody
            cases er
            exact ⟨B1, ρ1, F', S', g', Rs, _, hbody, fun σ2 H2 F2 S2 R2 => kr σ2 H2 F2 S2 R2.less⟩
          · rename_i d2 g2 hbody
            cases er
            exact ⟨B1, ρ1, F', S', g', Rs, _, hbody, fun v2 H2 F2 S2 E2 b2 r2 => kr v2 H2 F2 S2 E2 b2 r2⟩
          · cases er; exact kr.elim
          · cases er
        · cases er
      · rintro σ' H' ⟨ρ', F', S', g', R', r', er, kr⟩
        rw [List.drop_length] at er
        cases er
        exact kr σ' H' F' S' R'.less
    · cases e; exact k.elim
    · cases e

/-! ### while -/
def whileGo (c : Mn G Bool) (body : SM G) : Nat → SM G
  | 0 => fun _ _ => none
  | n + 1 => fun ρ g => match c ρ g with
    | some (.ok b g1) => match b with
      | true => match body ρ g1 with
        | some (.nx ρ2 g2) => whileGo c body n ρ2 g2
        | some (.ct ρ2 g2) => whileGo c body n ρ2 g2
        | some (.bk ρ2 g2) => some (.nx ρ2 g2)
        | some (.rt d g2) => some (.rt d g2)
        | some (.er x g2) => some (.er x g2)
        | none => none
      | false => some (.nx ρ g1)
    | some (.er x g1) => some (.er x g1)
    | none => none
theorem cs_while {c : Expr} {body : List Stmt} {t : Mn G Bool} {m : SM G} (n : Nat) (hp : PassesOwn (model X.prog X.w) X.A X.env X.xe) (hc : PT X c (tT BR t)) (hb : PSs X body (tS BR m)) : PS X (.While c body [] pos) (tS BR (whileGo t m n)) :=
  PS.imp (ps_while hp hc hb) fun D σ H ⟨B, ρ, F, S, g, R, r, e, k⟩ => by
    refine ⟨fun j σ H => ∃ ρ F S g, Rel BR B σ H ρ F S g ∧ ∃ r, whileGo t m j ρ g = some r ∧ SPost BR B r D, ⟨n, ρ, F, S, g, R, r, e, k⟩, ?_⟩
    rintro j σ' H' ⟨ρ', F', S', g', R', r', er, kr⟩
    cases j with
    | zero => cases er
    | succ j =>
      unfold whileGo at er
      split at er
      · rename_i b g1 hc1
        refine ⟨ρ', F', S', g', R'.e, b, g1, hc1, fun H1 F1 S1 E1 b1 => ?_⟩
        have R1 := R'.later E1 b1
        split at er
        · refine iteMk ⟨fun σ H => ∃ ρ F S g, Rel BR B σ H ρ F S g ∧ ∃ r, whileGo t m j ρ g = some r ∧ SPost BR B r D, fun σ2 H2 q => ⟨j, Nat.lt_succ_self _, q⟩, ?_⟩
          split at er
          · rename_i ρ2 g2 hbody
            exact ⟨B, ρ', F1, S1, g1, R1, _, hbody, fun σ2 H2 F2 S2 R2 => ⟨ρ2, F2, S2, g2, R2, r', er, kr⟩⟩
          · rename_i ρ2 g2 hbody
            exact ⟨B, ρ', F1, S1, g1, R1, _, hbody, fun σ2 H2 F2 S2 R2 => ⟨ρ2, F2, S2, g2, R2, r', er, kr⟩⟩
          · rename_i ρ2 g2 hbody
            cases er
            exact ⟨B, ρ', F1, S1, g1, R1, _, hbody, kr⟩
          · rename_i d2 g2 hbody
            cases er
            exact ⟨B, ρ', F1, S1, g1, R1, _, hbody, kr⟩
          · cases er; exact kr.elim
          · cases er
        · cases er
          exact iteMkF (kr σ' H1 F1 S1 R1)
      · cases er; exact kr.elim
      · cases er
end
end Kd

end part_KdK
section part_KdL
/-! Kd, part L: several targets at once; where one stands in a comprehension. -/
namespace Kd
open PySem PySem.Spec PyProof.Rows L2
/-- values, some of them new lists of their own; Nw: what is new -/
inductive AR (Nw : Addr → Prop) (H : Hp) (S : Addr → Prop) (F : List Addr) : List V → List Sv → Prop
  | nil : AR Nw H S F [] []
  | dat {v : V} {d : D} {vs : List V} {ss : List Sv} : Rp H S v d → AR Nw H S F vs ss → AR Nw H S F (v :: vs) (.dat d :: ss)
  | own {r : Addr} {d : D} {vs : List V} {ss : List Sv} : Nw r → ¬ S r → r ∉ F → OwnAt H S r d → (∀ (i : Nat) (e : D), ss[i]? = some (.own e) → vs[i]? ≠ some (.ref r)) → AR Nw H S F vs ss → AR Nw H S F (.ref r :: vs) (.own d :: ss)
theorem AR.length {Nw : Addr → Prop} {H : Hp} {S : Addr → Prop} {F : List Addr} : ∀ {vs : List V} {ss : List Sv}, AR Nw H S F vs ss → vs.length = ss.length
  | _, _, .nil => rfl
  | _, _, .dat _ r => congrArg Nat.succ r.length
  | _, _, .own _ _ _ _ _ r => congrArg Nat.succ r.length
theorem AR.weak {Nw Nw' : Addr → Prop} {H : Hp} {S : Addr → Prop} {F : List Addr} (h : ∀ r, r ∉ F → Nw r → Nw' r) : ∀ {vs : List V} {ss : List Sv}, AR Nw H S F vs ss → AR Nw' H S F vs ss
  | _, _, .nil => .nil
  | _, _, .dat a r => .dat a (r.weak h)
  | _, _, .own a b c d e r => .own (h _ c a) b c d e (r.weak h)
theorem AR.new {Nw : Addr → Prop} {H : Hp} {S : Addr → Prop} {F : List Addr} {p : Addr} {o : HO} (hp : H p = none) (k : Kp H S (upd H p o) S) : ∀ {vs : List V} {ss : List Sv}, AR Nw H S F vs ss → AR Nw (upd H p o) S F vs ss
  | _, _, .nil => .nil
  | _, _, .dat a r => .dat (a.kp k) (r.new hp k)
  | _, _, .own a b c d e r => .own a b c (d.kp k (by obtain ⟨u, hu, _⟩ := d.some; exact upd_ne (ne_of_none hu hp))) e (r.new hp k)
theorem AR.root {Nw : Addr → Prop} {H : Hp} {S : Addr → Prop} {F : List Addr} : ∀ {vs : List V} {ss : List Sv} {i : Nat} {d : D} {r : Addr}, AR Nw H S F vs ss → ss[i]? = some (.own d) → vs[i]? = some (.ref r) → Nw r
  | _, _, i, _, _, .nil, h, _ => by simp at h
  | _, _, 0, _, _, .dat _ _, h, _ => by simp at h
  | _, _, i + 1, _, _, .dat _ r, h, q => r.root (i := i) (by simpa using h) (by simpa using q)
  | _, _, 0, _, _, .own a _ _ _ _ _, h, q => by simp at q; subst q; exact a
  | _, _, i + 1, _, _, .own _ _ _ _ _ r, h, q => r.root (i := i) (by simpa using h) (by simpa using q)
def argsF {G : Type} : List (Bool × EM G) → Mn G (List Sv)
  | [] => fun _ g => some (.ok [] g)
  | (o, f) :: fs => fun ρ g => Rs.bind (f ρ g) fun x g1 => Rs.bind (argsF fs ρ g1) fun xs g2 => some (.ok ((if o = true then .own x else .dat x) :: xs) g2)
section
variable {G : Type} {BR : BagR G} {X : Cx} {B : Bs} {H H' : Hp} {F F' : List Addr} {S S' : Addr → Prop} {g g' : G} {σ : L2.St} {ρ : Env}
variable {N : List Str} {sc : Scope} {x y : Str} {p pos apos cpos spos : Pos} {a b e : Expr} {f h : EM G}
def tAF (BR : BagR G) (fs : List (Bool × EM G)) : TA := fun σ H Q => ∃ ρ F S g, RelE BR σ H ρ F S g ∧ ∃ ss g', argsF fs ρ g = some (.ok ss g') ∧ ∀ vs H' F' S', Ext H F S H' F' S' → BR.R F' H' g' → AR (fun r => H r = none) H' S' F' vs ss → Q vs H'
theorem cf_nil : PA X [] (tAF BR []) := PA.imp pa_nil fun σ H Q ⟨ρ, F, S, g, R, d, g', e, k⟩ => by
  cases e
  exact k [] H F S (Ext.refl R.amb) R.amb.bag .nil
theorem cf_dat {es : List Expr} {fs : List (Bool × EM G)} (na : noStar a = true) (ha : PE X a (tV BR f)) (hr : PA X es (tAF BR fs)) : PA X (a :: es) (tAF BR ((false, f) :: fs)) :=
  PA.imp (pa_cons ha hr (starEach_ns na _ _)) fun σ H Q ⟨ρ, F, S, g, R, d, g', e, k⟩ => by
    obtain ⟨x, g1, e1, e⟩ := Rs.bind_eq e
    obtain ⟨xs, g2, e2, e⟩ := Rs.bind_eq e
    cases e
    refine ⟨ρ, F, S, g, R, x, g1, e1, fun v H1 F1 S1 E1 b1 r1 => ?_⟩
    have R1 := R.later E1 b1
    refine ⟨ρ, F1, S1, g1, R1, xs, _, e2, fun vs H2 F2 S2 E2 b2 r2 => ?_⟩
    have A2 := E2.amb b2
    refine k _ H2 F2 S2 (E1.trans R.amb E2) b2 (.dat (r1.kp (E2.kp R1.amb)) (r2.weak fun r nf h0 => E1.back h0 (R1.amb.notF h0)))
theorem cf_own {es : List Expr} {fs : List (Bool × EM G)} (na : noStar a = true) (ha : PE X a (tF BR f)) (hr : PA X es (tAF BR fs)) : PA X (a :: es) (tAF BR ((true, f) :: fs)) :=
  PA.imp (pa_cons ha hr (starEach_ns na _ _)) fun σ H Q ⟨ρ, F, S, g, R, d, g', e, k⟩ => by
    obtain ⟨x, g1, e1, e⟩ := Rs.bind_eq e
    obtain ⟨xs, g2, e2, e⟩ := Rs.bind_eq e
    cases e
    refine ⟨ρ, F, S, g, R, x, g1, e1, fun r H1 F1 S1 E1 b1 n0 n1 n2 o1 => ?_⟩
    have R1 := R.later E1 b1
    obtain ⟨u, hu, mu⟩ := o1.some
    refine ⟨ρ, F1, S1, g1, R1, xs, _, e2, fun vs H2 F2 S2 E2 b2 r2 => ?_⟩
    refine k _ H2 F2 S2 (E1.trans R.amb E2) b2 (.own n0 (E2.notS hu n1) (E2.notF hu n2) (o1.kp (E2.kp R1.amb) ((E2.keep r u hu n2).trans hu.symm)) (fun i d h1 h2 => ?_) (r2.weak fun r nf h0 => E1.back h0 (R1.amb.notF h0)))
    have := r2.root h1 h2
    rw [hu] at this; cases this
/-! storing -/
def setVs : List Nat → List V → L2.St → L2.St
  | i :: is, v :: vs, σ => setVs is vs (σ.set i (some v))
  | _, _, σ => σ
def setSs : List Nat → List Sv → Env → Env
  | i :: is, s :: ss, ρ => setSs is ss (ρ.set i (some s))
  | _, _, ρ => ρ
/-- a slot takes an object that no slot has -/
theorem Rel.setOwn (R : Rel BR B σ H ρ F S g) (i : Nat) {r : Addr} {d : D} (h0 : B.H0 r = none) (hP : ∀ p ∈ B.P, p.1 ≠ r) (n1 : ¬ S r) (n2 : r ∉ F) (o : OwnAt H S r d) (ne : ∀ (j : Nat) (s : Sv), ρ[j]? = some (some s) → s.isOwn = true → σ[j]? ≠ some (some (.ref r))) : Rel BR B (σ.set i (some (.ref r))) H (ρ.set i (some (.own d))) F S g := by
  refine ⟨⟨by rw [List.length_set, List.length_set]; exact R.e.len, fun j s e => ?_, R.e.amb, fun j s q e hs hq => ?_, fun j k s t q e1 h1 q1 e2 h2 q2 => ?_⟩, R.amb0, R.x, fun j s q e hs hq => ?_, R.pin, R.pinF, R.snap⟩
  · rcases getSet e with ⟨z, es, hl⟩ | ⟨hne, e'⟩
    · cases es
      rw [z]
      exact ⟨.ref r, List.getElem?_set_self (by rw [← R.e.len]; exact hl), ⟨r, rfl, o⟩⟩
    · rw [List.getElem?_set_ne (Ne.symm hne)]
      exact R.e.slot j s e'
  · rcases getSet e with ⟨z, es, hl⟩ | ⟨hne, e'⟩
    · rw [z, List.getElem?_set_self (by rw [← R.e.len]; exact hl)] at hq
      cases hq
      exact ⟨n1, n2⟩
    · rw [List.getElem?_set_ne (Ne.symm hne)] at hq
      exact R.e.ownS j s q e' hs hq
  · rcases getSet e1 with ⟨z1, es1, hl1⟩ | ⟨hne1, f1⟩
    · rcases getSet e2 with ⟨z2, es2, hl2⟩ | ⟨hne2, f2⟩
      · exact z1.trans z2.symm
      · exfalso
        rw [z1, List.getElem?_set_self (by rw [← R.e.len]; exact hl1)] at q1
        rw [List.getElem?_set_ne (Ne.symm hne2)] at q2
        cases q1
        exact ne k t f2 h2 q2
    · rcases getSet e2 with ⟨z2, es2, hl2⟩ | ⟨hne2, f2⟩
      · exfalso
        rw [z2, List.getElem?_set_self (by rw [← R.e.len]; exact hl2)] at q2
        rw [List.getElem?_set_ne (Ne.symm hne1)] at q1
        cases q2
        exact ne j s f1 h1 q1
      · rw [List.getElem?_set_ne (Ne.symm hne1)] at q1
        rw [List.getElem?_set_ne (Ne.symm hne2)] at q2
        exact R.e.inj j k s t q f1 h1 q1 f2 h2 q2
  · rcases getSet e with ⟨z, es, hl⟩ | ⟨hne, e'⟩
    · rw [z, List.getElem?_set_self (by rw [← R.e.len]; exact hl)] at hq
      cases hq
      exact ⟨h0, hP⟩
    · rw [List.getElem?_set_ne (Ne.symm hne)] at hq
      exact R.own j s q e' hs hq
theorem Rel.setMany {Nw : Addr → Prop} : ∀ {is : List Nat} {vs : List V} {ss : List Sv} {σ : L2.St} {ρ : Env}, Rel BR B σ H ρ F S g → AR Nw H S F vs ss → (∀ r, Nw r → B.H0 r = none ∧ ∀ p ∈ B.P, p.1 ≠ r) →
    (∀ (i : Nat) (d : D) (r : Addr), ss[i]? = some (.own d) → vs[i]? = some (.ref r) → ∀ (j : Nat) (s : Sv), ρ[j]? = some (some s) → s.isOwn = true → σ[j]? ≠ some (some (.ref r))) → Rel BR B (setVs is vs σ) H (setSs is ss ρ) F S g
  | [], _, _, _, _, R, _, _, _ => R
  | i :: is, _, _, _, _, R, .nil, _, _ => R
  | i :: is, _, _, σ, ρ, R, .dat (v := v) (d := d) a r, hN, hf => by
    refine Rel.setMany (is := is) (σ := σ.set i (some v)) (ρ := ρ.set i (some (.dat d))) (R.sets (R.e.setD i a) (sets_set σ ρ)) r hN fun k d' q h1 h2 j s h3 h4 h5 => ?_
    rcases getSet h3 with ⟨z, es, _⟩ | ⟨hne, h3'⟩
    · cases es; cases h4
    · rw [List.getElem?_set_ne (Ne.symm hne)] at h5
      exact hf (k + 1) d' q (by simpa using h1) (by simpa using h2) j s h3' h4 h5
  | i :: is, _, _, σ, ρ, R, .own (r := r) (d := d) hn n1 n2 o hd rr, hN, hf => by
    refine Rel.setMany (is := is) (σ := σ.set i (some (.ref r))) (ρ := ρ.set i (some (.own d))) (R.setOwn i (hN r hn).1 (hN r hn).2 n1 n2 o (hf 0 d r rfl rfl)) rr hN fun k d' q h1 h2 j s h3 h4 h5 => ?_
    rcases getSet h3 with ⟨z, es, hl⟩ | ⟨hne, h3'⟩
    · rw [z, List.getElem?_set_self (by rw [← R.e.len]; exact hl)] at h5
      cases h5
      exact hd k d' h1 h2
    · rw [List.getElem?_set_ne (Ne.symm hne)] at h5
      exact hf (k + 1) d' q (by simpa using h1) (by simpa using h2) j s h3' h4 h5
theorem Rel.setArgs (R : Rel BR B σ H ρ F S g) (E : Ext H F S H' F' S') (b : BR.R F' H' g') {is : List Nat} {vs : List V} {ss : List Sv} (r : AR (fun r => H r = none) H' S' F' vs ss) : Rel BR B (setVs is vs σ) H' (setSs is ss ρ) F' S' g' := by
  refine Rel.setMany (R.later E b) r (fun q h0 => ⟨R.x.back h0 (R.e.amb.notF h0), fun p hp z => ?_⟩) fun i d q h1 h2 j s h3 h4 h5 => ?_
  · have := R.pin p hp
    rw [z, h0] at this; cases this
  · obtain ⟨o, ho, _⟩ := R.e.ownH h3 h4 h5
    have := r.root h1 h2
    rw [ho] at this; cases this
def multM (is : List Nat) (fs : List (Bool × EM G)) : SM G := fun ρ g => match argsF fs ρ g with
  | some (.ok ss g1) => if ss.length = is.length then some (.nx (setSs is ss ρ) g1) else none
  | some (.er x g1) => some (.er x g1)
  | none => none
theorem multM_eq {is : List Nat} {fs : List (Bool × EM G)} {r : SR G} (e : multM is fs ρ g = some r) : (∃ ss g1, argsF fs ρ g = some (.ok ss g1) ∧ ss.length = is.length ∧ r = .nx (setSs is ss ρ) g1) ∨ ∃ x g1, r = .er x g1 := by
  unfold multM at e
  split at e
  · split at e
    · cases e; exact .inl ⟨_, _, by assumption, by assumption, rfl⟩
    · cases e
  · cases e; exact .inr ⟨_, _, rfl⟩
  · cases e
theorem cs_par2 {i j : Nat} {px py pt : Pos} {kt k2 : Nat} {pt2 : Pos} {fs : List (Bool × EM G)} (hc : X.calm = true) (hN : X.N.Nodup) (hi : X.N[i]? = some x) (hj : X.N[j]? = some y) (hij : i ≠ j)
    (hx : X.env.scope.names.lookup x = some .local) (hy : X.env.scope.names.lookup y = some .local) (ha : PA X [a, b] (tAF BR fs))
    (hw : swappedStores [.Tuple [.Name x px, .Name y py] kt pt] (.Tuple [a, b] k2 pt2) X.env = pure (some [x, y])) : PS X (.Assign [.Tuple [.Name x px, .Name y py] kt pt] (.Tuple [a, b] k2 pt2) pos) (tS BR (multM [i, j] fs)) :=
  PS.imp (ps_par hc hN hi hj hij hx hy ha hw) fun D σ H ⟨B, ρ, F, S, g, R, r, e, k⟩ => by
    rcases multM_eq e with ⟨ss, g1, h1, h2, rfl⟩ | ⟨x, g1, rfl⟩
    · refine ⟨ρ, F, S, g, R.e, ss, g1, h1, fun vs H1 F1 S1 E1 b1 r1 => ?_⟩
      have hl := r1.length
      rw [h2] at hl
      match vs, hl with
      | [v, w], _ => exact ⟨v, w, rfl, k _ H1 F1 S1 (R.setArgs (is := [i, j]) E1 b1 r1)⟩
    · exact k.elim
theorem cs_par3 {i j l : Nat} {z : Str} {c : Expr} {px py pz pt : Pos} {kt k2 : Nat} {pt2 : Pos} {fs : List (Bool × EM G)} (hc : X.calm = true) (hN : X.N.Nodup) (hi : X.N[i]? = some x) (hj : X.N[j]? = some y) (hl : X.N[l]? = some z) (hij : i ≠ j) (hil : i ≠ l) (hjl : j ≠ l)
    (hx : X.env.scope.names.lookup x = some .local) (hy : X.env.scope.names.lookup y = some .local) (hz : X.env.scope.names.lookup z = some .local) (ha : PA X [a, b, c] (tAF BR fs))
    (hw : swappedStores [.Tuple [.Name x px, .Name y py, .Name z pz] kt pt] (.Tuple [a, b, c] k2 pt2) X.env = pure (some [x, y, z])) : PS X (.Assign [.Tuple [.Name x px, .Name y py, .Name z pz] kt pt] (.Tuple [a, b, c] k2 pt2) pos) (tS BR (multM [i, j, l] fs)) :=
  PS.imp (ps_par3 hc hN hi hj hl hij hil hjl hx hy hz ha hw) fun D σ H ⟨B, ρ, F, S, g, R, r, e, k⟩ => by
    rcases multM_eq e with ⟨ss, g1, h1, h2, rfl⟩ | ⟨x, g1, rfl⟩
    · refine ⟨ρ, F, S, g, R.e, ss, g1, h1, fun vs H1 F1 S1 E1 b1 r1 => ?_⟩
      have hl := r1.length
      rw [h2] at hl
      match vs, hl with
      | [u, v, w], _ => exact ⟨u, v, w, rfl, k _ H1 F1 S1 (R.setArgs (is := [i, j, l]) E1 b1 r1)⟩
    · exact k.elim
/-! through a tuple -/
def gNms : List Nat → TGs := fun is vs σ H Q => vs.length = is.length ∧ Q (setVs is vs σ) H
theorem cn_nil : PGs X [] (gNms []) := PGs.imp pgs_nil fun vs σ H Q ⟨h, q⟩ => by
  cases List.length_eq_zero_iff.mp h
  exact ⟨rfl, q⟩
theorem cn_cons {i : Nat} {is : List Nat} {es : List Expr} (hN : X.N.Nodup) (hi : X.N[i]? = some x) (hx : Loc X.env.scope x) (hf : X.fn x = true ∨ X.env.scope.names.lookup x = some .local) (h : PGs X es (gNms is)) : PGs X (.Name x p :: es) (gNms (i :: is)) :=
  PGs.imp (pgs_cons (pg_name hN hi hx hf) h (assign_ns rfl _ _)) fun vs σ H Q ⟨hl, q⟩ => by
    match vs, hl with
    | v :: vs, hl => exact ⟨v, vs, rfl, Nat.succ.inj hl, q⟩
theorem swWith {v : Expr} {tg : Expr} (h : noSwap v = true) (l : Nat) (env : PySem.Env) : swapsWithSole [tg] v l env = pure false := noSwap_ok h _ _ _
theorem cs_mult {tgs es : List Expr} {is : List Nat} {kt k2 : Nat} {pt pt2 : Pos} {fs : List (Bool × EM G)} (hc : X.calm = true) (hg : PGs X tgs (gNms is)) (ha : PA X es (tAF BR fs)) (ns : tgs.all noStar = true) (hl : tgs.length = is.length) (hz : is.length ≤ 100000)
    (hw : swappedStores [.Tuple tgs kt pt] (.Tuple es k2 pt2) X.env = pure none) : PS X (.Assign [.Tuple tgs kt pt] (.Tuple es k2 pt2) pos) (tS BR (multM is fs)) :=
  PS.imp (ps_asg (pe_tup ha) (pg_tup (n := tgs.length) hc hg (assignLen tgs _) (assignStar tgs _ ns)) (swWith rfl _ _) hw rfl) fun D σ H ⟨B, ρ, F, S, g, R, r, e, k⟩ => by
    rcases multM_eq e with ⟨ss, g1, h1, h2, rfl⟩ | ⟨x, g1, rfl⟩
    · refine ⟨ρ, F, S, g, R.e, ss, g1, h1, fun vs H1 F1 S1 E1 b1 r1 => ?_⟩
      have hlen := r1.length
      have A1 := E1.amb b1
      refine ⟨by rw [hlen, h2, sizeLine_eq]; omega, fun q hq => ?_⟩
      obtain ⟨E2, b2⟩ := A1.new (o := .tup vs) hq
      refine ⟨q, vs, rfl, SqT.of upd_same, by rw [hlen, h2, hl], by rw [hlen, h2], ?_⟩
      exact k _ _ F1 S1 (R.setArgs (E1.trans R.e.amb E2) b2 (r1.new hq (E2.kp A1)))
    · exact k.elim
/-! `a, b = f(..)` -/
def unpM (t : Tg) (f : EM G) : SM G := fun ρ g => match f ρ g with
  | some (.ok d g1) => match bindT t d ρ with
    | some ρ1 => some (.nx ρ1 g1)
    | none => none
  | some (.er x g1) => some (.er x g1)
  | none => none
theorem cs_unp {tg : Expr} {t : Tg} (hg : PG X tg (tG BR t)) (he : PE X e (tV BR f)) (h1 : swapsWithSole [tg] e pos.line X.env = pure false) (hw : swappedStores [tg] e X.env = pure none) (h2 : (assignEach [tg] X.env).map (·.2) = [assign tg X.env]) : PS X (.Assign [tg] e pos) (tS BR (unpM t f)) :=
  PS.imp (ps_asg he hg h1 hw h2) fun D σ H ⟨B, ρ, F, S, g, R, r, e, k⟩ => by
    unfold unpM at e
    split at e
    · rename_i d g1 e1
      split at e
      · rename_i ρ1 hb
        cases e
        refine ⟨ρ, F, S, g, R.e, d, g1, e1, fun v H1 F1 S1 E1 b1 r1 => ?_⟩
        have R1 := R.later E1 b1
        exact ⟨ρ, F1, S1, g1, d, ρ1, R1.e, r1, hb, fun σ1 Rσ t1 => k σ1 H1 F1 S1 (R1.sets Rσ t1)⟩
      · cases e
    · cases e; exact k.elim
    · cases e
end
theorem Xk.blk {X : Cx} {N : List Str} {sc : Scope} (k : Xk X N sc) (s : Shared) (H : Hp) (scope : Scope) (cl : List (Str × Addr)) (C : Addr) (fp : List Addr) : Xk (X.blk s H scope (compEnvC scope cl C X.env) fp) N (relS scope sc) where
  n := k.n
  sc := by show relS scope X.env.scope = _; rw [k.sc]
  calm := k.calm
  nd := k.nd
  un := k.un
  gd := k.gd
  sy := k.sy
end Kd

end part_KdL
section part_KdM
/-! Kd, part M: functions of the text, their calls. -/
namespace Kd
open PySem PySem.Spec PyProof.Rows L2
/-- a promise: the arguments, the heap, the wanted end -/
abbrev Pr := List V → Hp → VK → Prop
abbrev E0' : XK := fun _ _ _ => False
/-- a def keeps its promise; nothing is being shown while it is called -/
structure FnG (P : Program) (w : World) (K : PySem.W.Frag) (mg : Str → Option Value) (bs : Heap) (k : Nat) (f : Addr) (fd : FuncData) (ps : List Str) (sp : Pr) : Prop where
  len : ∀ xs H Q, sp xs H Q → xs.length = ps.length
  go : ∀ (Ar : Around) (out : List PySem.Env) (st : Shared) (H : Hp) (ag : Args) (us : List Value) (xs : List V) (Q : VK), Room k Ar → Ar.guards = some [] → Env0 P w K mg bs Ar out st H →
    BindsTo st fd ag (ps.zip us) → Vals xs us → sp xs H Q → codeAny (model P w) Ar (.call (.ref f) ag) (CR CX0 out P w H st Q E0') st
section
variable {P : Program} {w : World} {K : PySem.W.Frag} {mg : Str → Option Value} {bs : Heap} {f : Addr} {fd : FuncData} {ps : List Str} {sp : Pr}
theorem FnG.mono {j k : Nat} (F : FnG P w K mg bs j f fd ps sp) (h : j ≤ k) : FnG P w K mg bs k f fd ps sp :=
  ⟨F.len, fun Ar out st H ag us xs Q hr => F.go Ar out st H ag us xs Q (hr.mono h)⟩
theorem deepG {Ar : Around} {en : PySem.Env} (h : Ar.guards = some []) : (Ar.deeper en).guards = some [] := h
theorem FunD.okG {x qual : Str} {pr : Arguments} {bd : List Stmt} {sc : Scope} {dvs : List V} {kws : List (Str × V)} {N : List Str} {k : Nat} (Fd : FunD K x qual pr bd sc dvs kws f fd) (Sc : FnScope N ps sc) (len : ∀ xs H Q, sp xs H Q → xs.length = ps.length)
    (hb : ∀ (cdv : Value) (Ar : Around) (out : List PySem.Env) (st : Shared) (H : Hp) (xs : List V) (Q : VK), Room k (Ar.deeper (envOfC qual sc st.heap.objs.size f cdv)) → Ar.guards = some [] → sp xs H Q →
      ∃ t, PSs (cxOf CX0 P w K mg bs N qual sc f cdv Ar out st H E0') bd t ∧ t { nx := fun _ H' => Q .non H', rt := Q } (start N xs) H) : FnG P w K mg bs (k + 1) f fd ps sp := by
  obtain ⟨oc, od, dV, kV, doc, pm, an, cdv, ct, osl, rfl, lk, hcd, _, _⟩ := Fd.ex
  refine ⟨len, fun Ar out st H ag us xs Q hr hg e0 hbi rv hsp => ?_⟩
  have hln := len _ _ _ hsp
  have kin : K.In st.heap := e0.mod.kin.keeps fun b o e => (e0.bs b o e).1
  have nol : st.heap.NoLimit := e0.mod.nolimit.keeps fun b o e => (e0.bs b o e).1
  have hkd : ∀ y ∈ ps.zip us, sc.names.lookup y.1 = some .local ∨
      (sc.names.lookup y.1 = some .cell ∧ ((cellsFrom (st.heap.objs.size + 1) sc.names []).lookup y.1).isSome = true) := fun ⟨n, v⟩ hy =>
    (Sc.par n (List.of_mem_zip hy).1).elim .inl fun q => .inr ⟨q, PySem.W.cellsFrom_some _ _ _ (.inl q)⟩
  refine codeAny_call_function hr.depth (kin _ _ lk) rfl Sc.co Sc.gen rfl (PySem.W.codeRec_of kin hcd) (hbi _ _ _ _ ?_)
  refine wpAny_newFunctionEnv_cells Sc.kind hkd fun en hen st1 ic => ?_
  subst hen
  refine ⟨nol.keeps ic.toInCall.keep, codeAny_func ?_⟩
  obtain ⟨t, ht, hq⟩ := hb cdv Ar out st H xs Q (hr.deeper _) hg hsp
  have J0 : Inv (cxOf CX0 P w K mg bs N qual sc f cdv Ar out st H E0') [] (start N xs) H st1 := inv_start Sc hr.hd e0 hln rv ic
  have done : ∀ {σ' : L2.St} {H' : Hp} {v : V} {u : Value} {st' : Shared}, Inv (cxOf CX0 P w K mg bs N qual sc f cdv Ar out st H E0') [] σ' H' st' →
      RelV v u → Q v H' → CE out P w H st Q u st' := fun {_ H' v _ _} J a b => ⟨v, H', J.os, J.bare, J.base, J.hok, a, b⟩
  refine wpAny_mono (ht.run [] st1 (start N xs) H _ J0 hq) (fun fl st' hs => ?_) fun _ _ hs => hs
  match fl, hs with
  | .ret u, ⟨v, _, _, J, a, b⟩ => exact done J a b
  | .next, ⟨_, _, J, b⟩ => exact done (v := V.non) (u := Value.none) J rfl b
  | .brk, ⟨_, _, _, b⟩ => exact b.elim
  | .cont, ⟨_, _, _, b⟩ => exact b.elim
end
section
variable {X : Cx} {k : Nat} {f : Addr} {fd : FuncData} {ps ks : List Str} {sp : Pr} {x : Str} {p pos : Pos} {e : Expr} {es : List Expr} {kws : List Keyword} {t tk : TA}
/-- behind the callee -/
theorem go_fn {pins : List (Addr × Obj)} {σ : L2.St} {H : Hp} {st : Shared} {Q : VK} {ag : Args} {us : List Value} {xs : List V} (F : FnG X.prog X.w X.K X.mg X.base k f fd ps sp) (hr : Room k X.A) (hg : X.A.guards = some [])
    (I : Inv X pins σ H st) (hb : BindsTo st fd ag (ps.zip us)) (r : Vals xs us) (h : sp xs H Q) : codeAny (model X.prog X.w) X.A (.call (.ref f) ag) (fun rr st' => match rr with
      | .ok (.ret u) => EP X pins σ Q u st'
      | .ok _ => False
      | .error e => X.xe e st') st := by
  refine codeAny_mono (F.go X.A X.stack st H ag us xs Q hr hg I.env0 hb r h) fun rr st' hq => ?_
  match rr, hq with
  | .ok (.ret u), hq => exact I.after hq
def tPr (sp : Pr) (gV : List V → List V) (t : TA) : TE := fun σ H Q => t σ H fun vs H1 => sp (gV vs) H1 Q
theorem pg_call (F : FnG X.prog X.w X.K X.mg X.base k f fd ps sp) (hr : Room k X.A) (hgd : X.A.guards = some []) (hg : Gl X x) (hm : X.mg x = some (.ref f)) (hk : PySem.W.keepIn X.K (.ref f) = true) (hb : Binds X.K fd ps [])
    (ne : noStar e = true) (ha : PA X (e :: es) t) (hdb : (x == ("__debug__" : Str)) = false) (hpl : (backTo pos (starEach es X.env)).any (·.1) = false) : PE X (.Call (.Name x p) (e :: es) [] pos) (tPr sp id t) := by
  refine ⟨fun pins st σ H Q I h => wpAny_Call_Name_kw (ld_glob I hg hm ?_ hdb)⟩
  refine PySem.W.callWith_K (h₀ := X.base) I.ok.mod.kin hk (thn (ha.run pos pins st σ H _ I h) fun us s1 ⟨vs, H1, I1, r, q⟩ => ⟨I1.kIn, ?_⟩) (starEach_ns ne _ _) hpl
  have hl : (us ++ []).length = ps.length := by rw [List.append_nil, ← r.length]; exact F.len _ _ _ q
  have bb := hb s1 us I1.kIn hl
  rw [List.append_nil] at bb
  refine wpAny_call (codeAny_mono (go_fn F hr hgd I1 bb r q) fun rr st' hq => ?_)
  match rr, hq with
  | .ok (.ret u), hq => exact hq
  | .error e, hq => exact hq
theorem pg_call0 (F : FnG X.prog X.w X.K X.mg X.base k f fd ps sp) (hr : Room k X.A) (hgd : X.A.guards = some []) (hg : Gl X x) (hm : X.mg x = some (.ref f)) (hk : PySem.W.keepIn X.K (.ref f) = true) (hb : Binds X.K fd ps [])
    (hdb : (x == ("__debug__" : Str)) = false) : PE X (.Call (.Name x p) [] [] pos) (tPr sp id tNil) := by
  refine ⟨fun pins st σ H Q I h => wpAny_Call_Name_kw (ld_glob I hg hm ?_ hdb)⟩
  have hl : (([] : List Value) ++ []).length = ps.length := F.len _ _ _ h
  refine PySem.W.callWith_K0 I.kIn hk (wpAny_call (codeAny_mono (go_fn F hr hgd I (hb st [] I.kIn hl) .nil h) fun rr st' hq => ?_))
  match rr, hq with
  | .ok (.ret u), hq => exact hq
  | .error e, hq => exact hq
/-- every argument by its name -/
structure KBnd (fd : FuncData) (ps ks : List Str) (g : {α : Type} → List α → List α) : Prop where
  to : ∀ (st : Shared) (ws : List Value), ws.length = ks.length → BindsTo st fd ⟨[], ks.zip ws⟩ (ps.zip (g ws))
  rel : ∀ {zs : List V} {ws : List Value}, Vals zs ws → Vals (g zs) (g ws)
theorem pg_callK {g : {α : Type} → List α → List α} (F : FnG X.prog X.w X.K X.mg X.base k f fd ps sp) (hr : Room k X.A) (hgd : X.A.guards = some []) (hg : Gl X x) (hm : X.mg x = some (.ref f)) (hk : PySem.W.keepIn X.K (.ref f) = true) (hb : KBnd fd ps ks g)
    (hkw : PK X kws t) (hl : ∀ σ H Q, t σ H Q → t σ H fun vs H1 => vs.length = ks.length ∧ Q vs H1) (hall : (backToKw pos (keywordEach kws X.env)).all (·.1.isSome) = true) (hks : (backToKw pos (keywordEach kws X.env)).filterMap (·.1) = ks)
    (hdb : (x == ("__debug__" : Str)) = false) (hpl : ((backTo pos (starEach [] X.env)).any (·.1) || (backToKw pos (keywordEach kws X.env)).any (·.1.isNone)) = false) : PE X (.Call (.Name x p) [] kws pos) (tPr sp g t) := by
  refine ⟨fun pins st σ H Q I h => wpAny_Call_Name_kw (ld_glob I hg hm ?_ hdb)⟩
  refine PySem.W.callWith_KW0 (h₀ := X.base) I.ok.mod.kin hk hall (thn (hkw.run pos pins st σ H _ I (hl _ _ _ h)) fun ws s1 ⟨zs, H1, I1, rz, l1, q⟩ => ⟨I1.kIn, ?_⟩) hpl
  rw [hks]
  refine wpAny_call (codeAny_mono (go_fn F hr hgd I1 (hb.to s1 ws (by rw [← rz.length]; exact l1)) (hb.rel rz) q) fun rr st' hq => ?_)
  match rr, hq with
  | .ok (.ret u), hq => exact hq
  | .error e, hq => exact hq
end
/-! ### what a def computes -/
def hasOwn (ss : List Sv) : Bool := ss.any Sv.isOwn
/-- the body m with n parameters and nN names as a function -/
def fnSem {G : Type} (m : SM G) (n nN : Nat) : Sem1 G := fun ss g => if ss.length = n ∧ hasOwn ss = false then
    match m (ss.map some ++ List.replicate (nN - n) none) g with
    | some (.rt d g1) => some (.ok d g1)
    | some (.nx _ g1) => some (.ok .none g1)
    | some (.er x g1) => some (.er x g1)
    | _ => none
  else none
inductive SlotsR {G : Type} (BR : BagR G) (H : Hp) (S : Addr → Prop) (F : List Addr) : List Sv → List V → Prop
  | nil : SlotsR BR H S F [] []
  | cons {s : Sv} {v : V} {ss : List Sv} {vs : List V} : SlotR BR H S F s v → SlotsR BR H S F ss vs → SlotsR BR H S F (s :: ss) (v :: vs)
section
variable {G : Type} {BR : BagR G} {H H' : Hp} {F F' : List Addr} {S S' : Addr → Prop} {g g' : G}
theorem SlotsR.length : ∀ {ss : List Sv} {vs : List V}, SlotsR BR H S F ss vs → vs.length = ss.length
  | _, _, .nil => rfl
  | _, _, .cons _ r => congrArg Nat.succ r.length
theorem SlotsR.get : ∀ {ss : List Sv} {vs : List V} {i : Nat} {s : Sv}, SlotsR BR H S F ss vs → ss[i]? = some s → ∃ v, vs[i]? = some v ∧ SlotR BR H S F s v
  | _, _, i, _, .nil, h => by simp at h
  | _, _, 0, _, .cons a _, h => by simp at h; subst h; exact ⟨_, rfl, a⟩
  | _, _, i + 1, s, .cons _ r, h => by
    obtain ⟨v, h1, h2⟩ := r.get (i := i) (s := s) (by simpa using h)
    exact ⟨v, by simpa using h1, h2⟩
theorem SlotR.later (A : Amb BR H F S g) (E : Ext H F S H' F' S') {s : Sv} {v : V} (ho : s.isOwn = false) (h : SlotR BR H S F s v) : SlotR BR H' S' F' s v := by
  cases s with
  | dat d => exact Rp.kp (E.kp A) h
  | own d => cases ho
  | lk d => cases ho
  | bag =>
    obtain ⟨b, e2, hb⟩ := h
    refine ⟨b, e2, ?_⟩
    rcases E.bag with z | ⟨z, _⟩
    · rw [z]; exact hb
    · rw [z] at hb; cases hb
  | scr =>
    obtain ⟨b, e2, hb⟩ := h
    exact ⟨b, e2, BR.scrK hb fun c o u h => E.keep c _ h (A.frz h)⟩
variable (BR) in
def spOf (n : Nat) (sem : Sem1 G) : Pr := fun vs H Q => ∃ F S g ss d g', Amb BR H F S g ∧ SlotsR BR H S F ss vs ∧ ss.length = n ∧ hasOwn ss = false ∧ sem ss g = some (.ok d g') ∧
  ∀ v H' F' S', Ext H F S H' F' S' → BR.R F' H' g' → Rp H' S' v d → Q v H'
theorem spOf_len {n : Nat} {sem : Sem1 G} {vs : List V} {Q : VK} (h : spOf BR n sem vs H Q) : vs.length = n := by
  obtain ⟨F, S, g, ss, d, g', A, r, l, _⟩ := h
  rw [r.length, l]
theorem relStart {ss : List Sv} {vs : List V} {N : List Str} (A : Amb BR H F S g) (r : SlotsR BR H S F ss vs) (ho : hasOwn ss = false) (hN : N.length = nN) : RelE BR (start N vs) H (ss.map some ++ List.replicate (nN - ss.length) none) F S g := by
  have own : ∀ (i : Nat) (s : Sv), (ss.map some ++ List.replicate (nN - ss.length) none)[i]? = some (some s) → ss[i]? = some s := fun i s h => by
    by_cases hi : i < ss.length
    · rw [List.getElem?_append_left (by simpa using hi), List.getElem?_map] at h
      obtain ⟨a, h1, h2⟩ := Option.map_eq_some_iff.mp h
      cases h2; exact h1
    · rw [List.getElem?_append_right (by simpa using hi), List.getElem?_replicate] at h
      split at h <;> cases h
  have no : ∀ (i : Nat) (s : Sv), (ss.map some ++ List.replicate (nN - ss.length) none)[i]? = some (some s) → s.isOwn = false := fun i s h => by
    have := List.any_eq_false.mp ho s (List.mem_of_getElem? (own i s h))
    simpa using this
  refine ⟨?_, fun i s h => ?_, A, fun i s q h hs => ?_, fun i j s t q h hs => ?_⟩
  · unfold L2.start
    rw [List.length_append, List.length_append, List.length_map, List.length_map, List.length_replicate, List.length_replicate, r.length, hN]
  · obtain ⟨v, h1, h2⟩ := r.get (own i s h)
    refine ⟨v, ?_, h2⟩
    unfold L2.start
    have hi : i < vs.length := (List.getElem?_eq_some_iff.mp h1).1
    rw [List.getElem?_append_left (by simpa using hi), List.getElem?_map, h1]; rfl
  · rw [no i s h] at hs; cases hs
  · rw [no i s h] at hs; cases hs
/-- a body's reading keeps the promise -/
theorem fn_keeps {m : SM G} {n : Nat} {N : List Str} {vs : List V} {Q : VK} (h : spOf BR n (fnSem m n N.length) vs H Q) : tS BR m { nx := fun _ H' => Q .non H', rt := Q } (start N vs) H := by
  obtain ⟨F, S, g, ss, d, g', A, r, l, ho, e, k⟩ := h
  unfold fnSem at e
  rw [if_pos ⟨l, ho⟩] at e
  have R := relStart (N := N) A r ho rfl
  rw [l] at R
  have RR : Rel BR ⟨H, F, S, [], []⟩ (start N vs) H (ss.map some ++ List.replicate (N.length - n) none) F S g := by
    refine ⟨R, ⟨g, A⟩, Ext.refl A, fun i s q h hs => ?_, (fun _ h => nomatch h), (fun _ h => nomatch h), (fun _ h => nomatch h)⟩
    have h0 : ∃ x, some x = some s ∧ x ∈ ss := by
      have hm := List.mem_of_getElem? h
      rcases List.mem_append.mp hm with z | z
      · obtain ⟨x, h1, h2⟩ := List.mem_map.mp z
        exact ⟨x, h2, h1⟩
      · rw [List.mem_replicate] at z; cases z.2
    obtain ⟨x, h1, h2⟩ := h0
    cases h1
    have := List.any_eq_false.mp ho s h2
    simp [hs] at this
  refine ⟨_, _, F, S, g, RR, ?_⟩
  split at e
  · rename_i d2 g2 hm
    cases e
    exact ⟨_, hm, fun v H1 F1 S1 E1 b1 r1 => k v H1 F1 S1 E1 b1 r1⟩
  · rename_i ρ2 g2 hm
    cases e
    exact ⟨_, hm, fun σ1 H1 F1 S1 R1 => k .non H1 F1 S1 R1.x R1.e.amb.bag .non⟩
  · cases e
  · cases e
end
/-! ### arguments -/
def slM {G : Type} (i : Nat) : Mn G Sv := fun ρ g => match ρ[i]? with
  | some (some .bag) => some (.ok .bag g)
  | some (some .scr) => some (.ok .scr g)
  | _ => none
def daM {G : Type} (f : EM G) : Mn G Sv := fun ρ g => Rs.bind (f ρ g) fun d g1 => some (.ok (.dat d) g1)
def argsS {G : Type} : List (Mn G Sv) → Mn G (List Sv)
  | [] => fun _ g => some (.ok [] g)
  | f :: fs => fun ρ g => Rs.bind (f ρ g) fun x g1 => Rs.bind (argsS fs ρ g1) fun xs g2 => some (.ok (x :: xs) g2)
section
variable {G : Type} {BR : BagR G} {X : Cx} {x nm : Str} {p kpos pos : Pos} {a : Expr} {es : List Expr} {kws : List Keyword} {f : EM G} {fs : List (Mn G Sv)} {s : Mn G Sv}
variable (BR) in
def tSl (f : Mn G Sv) : TE := fun σ H Q => ∃ ρ F S g, RelE BR σ H ρ F S g ∧ ∃ d g', f ρ g = some (.ok d g') ∧ ∀ v H' F' S', Ext H F S H' F' S' → BR.R F' H' g' → d.isOwn = false → SlotR BR H' S' F' d v → Q v H'
variable (BR) in
def tAS (fs : List (Mn G Sv)) : TA := fun σ H Q => ∃ ρ F S g, RelE BR σ H ρ F S g ∧ ∃ ds g', argsS fs ρ g = some (.ok ds g') ∧ ∀ vs H' F' S', Ext H F S H' F' S' → BR.R F' H' g' → hasOwn ds = false → vs.length = fs.length → SlotsR BR H' S' F' ds vs → Q vs H'
theorem sa_dat (ha : PE X a (tV BR f)) : PE X a (tSl BR (daM f)) := PE.imp ha fun σ H Q ⟨ρ, F, S, g, R, d, g', e, k⟩ => by
  obtain ⟨x, g1, e1, e⟩ := Rs.bind_eq e
  cases e
  exact ⟨ρ, F, S, g, R, x, _, e1, fun v H1 F1 S1 E1 b1 r1 => k v H1 F1 S1 E1 b1 rfl r1⟩
theorem sa_sl {i : Nat} (hN : X.N[i]? = some x) (hv : Vis X.env.scope x) (hd : (x == ("__debug__" : Str)) = false) (hcd : (x == ("__classdict__" : Str)) = false) : PE X (.Name x p) (tSl BR (slM i)) :=
  PE.imp (pe_var hN hv hd hcd) fun σ H Q ⟨ρ, F, S, g, R, d, g', e, k⟩ => by
    unfold slM at e
    split at e
    · rename_i h
      cases e
      obtain ⟨v, hv, q⟩ := R.slot i _ h
      exact ⟨v, hv, k v H F S (Ext.refl R.amb) R.amb.bag rfl q⟩
    · rename_i h
      cases e
      obtain ⟨v, hv, q⟩ := R.slot i _ h
      exact ⟨v, hv, k v H F S (Ext.refl R.amb) R.amb.bag rfl q⟩
    · cases e
theorem sb_nil : tAS BR ([] : List (Mn G Sv)) σ H Q → tNil σ H Q := fun ⟨ρ, F, S, g, R, d, g', e, k⟩ => by
  cases e
  exact k [] H F S (Ext.refl R.amb) R.amb.bag rfl rfl .nil
theorem sb_cons {σ : L2.St} {H : Hp} {Q : List V → Hp → Prop} {t : TA} (ht : ∀ σ H Q, tAS BR fs σ H Q → t σ H Q) : tAS BR (s :: fs) σ H Q → tCons (tSl BR s) t σ H Q := fun ⟨ρ, F, S, g, R, d, g', e, k⟩ => by
  obtain ⟨x, g1, e1, e⟩ := Rs.bind_eq e
  obtain ⟨xs, g2, e2, e⟩ := Rs.bind_eq e
  cases e
  refine ⟨ρ, F, S, g, R, x, g1, e1, fun v H1 F1 S1 E1 b1 no1 r1 => ?_⟩
  have R1 := R.later E1 b1
  refine ht _ _ _ ⟨ρ, F1, S1, g1, R1, xs, _, e2, fun vs H2 F2 S2 E2 b2 no2 l2 r2 => ?_⟩
  exact k _ H2 F2 S2 (E1.trans R.amb E2) b2 (by unfold hasOwn at no2 ⊢; rw [List.any_cons, no1, no2]; rfl) (by rw [List.length_cons, List.length_cons, l2]) (.cons (SlotR.later R1.amb E2 no1 r1) r2)
theorem sa_nil : PA X [] (tAS BR []) := PA.imp pa_nil fun σ H Q q => sb_nil q
theorem sa_cons (na : noStar a = true) (ha : PE X a (tSl BR s)) (hr : PA X es (tAS BR fs)) : PA X (a :: es) (tAS BR (s :: fs)) := PA.imp (pa_cons ha hr (starEach_ns na _ _)) fun σ H Q q => sb_cons (fun _ _ _ q => q) q
theorem PK.imp {e : List Keyword} {t t' : TA} (h : PK X e t) (k : ∀ σ H Q, t' σ H Q → t σ H Q) : PK X e t' := ⟨fun pos pins s σ H Q I q => h.run pos pins s σ H Q I (k σ H Q q)⟩
theorem sk_nil : PK X [] (tAS BR []) := PK.imp pk_nil fun σ H Q q => sb_nil q
theorem sk_cons {n : Option Str} (ha : PE X a (tSl BR s)) (hr : PK X kws (tAS BR fs)) : PK X (⟨n, a, kpos⟩ :: kws) (tAS BR (s :: fs)) := PK.imp (pk_cons ha hr) fun σ H Q q => sb_cons (fun _ _ _ q => q) q
/-! ### the call -/
def callM (sem : Sem1 G) (gp : {α : Type} → List α → List α) (fs : List (Mn G Sv)) : EM G := fun ρ g => Rs.bind (argsS fs ρ g) fun ss g1 => sem (gp ss) g1
theorem hasOwn_of {ss ts : List Sv} (h : ∀ s ∈ ts, s ∈ ss) (e : hasOwn ss = false) : hasOwn ts = false := List.any_eq_false.mpr fun s hs => List.any_eq_false.mp e s (h s hs)
/-- a def that is known by its name -/
structure Cal (BR : BagR G) (P : Program) (w : World) (K : PySem.W.Frag) (mg : Str → Option Value) (bs : Heap) (k : Nat) (x : Str) (ps : List Str) (sem : Sem1 G) : Prop where
  ex : ∃ (f : Addr) (fd : FuncData), FnG P w K mg bs k f fd ps (spOf BR ps.length sem) ∧ mg x = some (.ref f) ∧ PySem.W.keepIn K (.ref f) = true ∧ Binds K fd ps []
/-- .. and called with every argument named, in the order ks -/
structure CalK (BR : BagR G) (P : Program) (w : World) (K : PySem.W.Frag) (mg : Str → Option Value) (bs : Heap) (k : Nat) (x : Str) (ps ks : List Str) (gp : {α : Type} → List α → List α) (sem : Sem1 G) : Prop where
  ex : ∃ (f : Addr) (fd : FuncData), FnG P w K mg bs k f fd ps (spOf BR ps.length sem) ∧ mg x = some (.ref f) ∧ PySem.W.keepIn K (.ref f) = true ∧ KBnd fd ps ks gp
  mem : ∀ {α : Type} (l : List α) (z : α), z ∈ gp l → z ∈ l
  len : ∀ {α : Type} (l : List α), l.length = ks.length → (gp l).length = ps.length
  rl : ∀ {H : Hp} {S : Addr → Prop} {F : List Addr} {ss : List Sv} {vs : List V}, ss.length = ks.length → SlotsR BR H S F ss vs → SlotsR BR H S F (gp ss) (gp vs)
theorem argsS_len : ∀ {fs : List (Mn G Sv)} {ρ : Env} {g g' : G} {ds : List Sv}, argsS fs ρ g = some (.ok ds g') → ds.length = fs.length
  | [], _, _, _, _, e => by cases e; rfl
  | f :: fs, _, _, _, _, e => by
    obtain ⟨x, g1, e1, e⟩ := Rs.bind_eq e
    obtain ⟨xs, g2, e2, e⟩ := Rs.bind_eq e
    cases e
    rw [List.length_cons, List.length_cons, argsS_len e2]
theorem call_read {n : Nat} {sem : Sem1 G} {gp : {α : Type} → List α → List α} {σ : L2.St} {H : Hp} {Q : VK} (hmem : ∀ {α : Type} (l : List α) (z : α), z ∈ gp l → z ∈ l) (hlen : ∀ {α : Type} (l : List α), l.length = fs.length → (gp l).length = n)
    (hrl : ∀ {H : Hp} {S : Addr → Prop} {F : List Addr} {ss : List Sv} {vs : List V}, ss.length = fs.length → SlotsR BR H S F ss vs → SlotsR BR H S F (gp ss) (gp vs)) (q : tV BR (callM sem gp fs) σ H Q) : tPr (spOf BR n sem) gp (tAS BR fs) σ H Q := by
  obtain ⟨ρ, F, S, g, R, d, g', e, k⟩ := q
  obtain ⟨ss, g1, e1, e⟩ := Rs.bind_eq e
  have hl := argsS_len e1
  refine ⟨ρ, F, S, g, R, ss, g1, e1, fun vs H1 F1 S1 E1 b1 no l r => ?_⟩
  refine ⟨F1, S1, g1, gp ss, d, g', E1.amb b1, hrl hl r, hlen ss hl, hasOwn_of (hmem ss) no, e, fun v H2 F2 S2 E2 b2 r2 => ?_⟩
  exact k v H2 F2 S2 (E1.trans R.amb E2) b2 r2
abbrev idL {α : Type} (l : List α) : List α := l
theorem ce_call {j k : Nat} {ps : List Str} {sem : Sem1 G} (C : Cal BR X.prog X.w X.K X.mg X.base j x ps sem) (hr : Room k X.A) (hj : j ≤ k) (hgd : X.A.guards = some []) (hg : Gl X x) (ne : noStar a = true) (hl : fs.length = ps.length) (ha : PA X (a :: es) (tAS BR fs))
    (hdb : (x == ("__debug__" : Str)) = false) (hpl : (backTo pos (starEach es X.env)).any (·.1) = false) : PE X (.Call (.Name x p) (a :: es) [] pos) (tV BR (callM sem idL fs)) := by
  obtain ⟨f, fd, F, hm, hk, hb⟩ := C.ex
  refine PE.imp (pg_call F (hr.mono hj) hgd hg hm hk hb ne ha hdb hpl) fun σ H Q q => ?_
  exact call_read (n := ps.length) (fun _ _ h => h) (fun l h => h.trans hl) (fun _ r => r) q
theorem ce_call0 {j k : Nat} {sem : Sem1 G} (C : Cal BR X.prog X.w X.K X.mg X.base j x [] sem) (hr : Room k X.A) (hj : j ≤ k) (hgd : X.A.guards = some []) (hg : Gl X x) (hdb : (x == ("__debug__" : Str)) = false) : PE X (.Call (.Name x p) [] [] pos) (tV BR (callM sem idL [])) := by
  obtain ⟨f, fd, F, hm, hk, hb⟩ := C.ex
  refine PE.imp (pg_call0 F (hr.mono hj) hgd hg hm hk hb hdb) fun σ H Q q => ?_
  have q' := call_read (BR := BR) (fs := []) (n := 0) (fun _ _ h => h) (fun l h => h) (fun _ r => r) q
  exact sb_nil q'
theorem ce_callK {j k : Nat} {ps ks : List Str} {gp : {α : Type} → List α → List α} {sem : Sem1 G} (C : CalK BR X.prog X.w X.K X.mg X.base j x ps ks gp sem) (hr : Room k X.A) (hj : j ≤ k) (hgd : X.A.guards = some []) (hg : Gl X x) (hl : fs.length = ks.length)
    (ha : PK X kws (tAS BR fs)) (hall : (backToKw pos (keywordEach kws X.env)).all (·.1.isSome) = true) (hks : (backToKw pos (keywordEach kws X.env)).filterMap (·.1) = ks)
    (hdb : (x == ("__debug__" : Str)) = false) (hpl : ((backTo pos (starEach [] X.env)).any (·.1) || (backToKw pos (keywordEach kws X.env)).any (·.1.isNone)) = false) : PE X (.Call (.Name x p) [] kws pos) (tV BR (callM sem gp fs)) := by
  obtain ⟨f, fd, F, hm, hk, hb⟩ := C.ex
  refine PE.imp (pg_callK F (hr.mono hj) hgd hg hm hk hb ha (fun σ H Q ⟨ρ, F, S, g, R, d, g', e, kk⟩ => ⟨ρ, F, S, g, R, d, g', e, fun vs H1 F1 S1 E1 b1 no l r => ⟨l.trans hl, kk vs H1 F1 S1 E1 b1 no l r⟩⟩) hall hks hdb hpl) fun σ H Q q => ?_
  exact call_read (n := ps.length) C.mem (fun l h => C.len l (h.trans hl)) (fun h r => C.rl (h.trans hl) r) q
end
end Kd

end part_KdM
section part_KdW
/-! Kd, part W: the rules as one uses them. -/
namespace Kd
open PySem PySem.Spec PyProof.Rows L2
def gimp (sc : Scope) (x : Str) : Bool := match sc.names.lookup x with
  | some .globalImplicit => !(x == ("__debug__" : Str)) && decide (x ≠ "__name__")
  | _ => false
def seeB (N : List Str) (sc : Scope) (i : Nat) (x : Str) : Bool := decide (N[i]? = some x) && ((match sc.names.lookup x with
  | some .local => true
  | some .cell => true
  | some .free => true
  | _ => false) && (!(x == ("__debug__" : Str)) && !(x == ("__classdict__" : Str))))
def locB (sc : Scope) (x : Str) : Bool := match sc.names.lookup x with
  | some .local => true
  | _ => false
def putB (N : List Str) (sc : Scope) (fb : Str → Bool) (i : Nat) (x : Str) : Bool := decide (N[i]? = some x) && ((match sc.names.lookup x with
  | some .local => true
  | some .cell => fb x
  | _ => false))
def FR : List Str := ["len", "tuple", "list", "sum", "all", "any", "abs", "int", "bool", "str", "dict", "max", "min", "isinstance", "repr", "enumerate", "range", "zip", "reversed"]
/-- the program behind the top -/
structure Wd where
  P : Program
  w : World
  K : PySem.W.Frag
  mg : Str → Option Value
  bs : Heap
structure Cq (W : Wd) (X : Cx) (N : List Str) (sc : Scope) (fb : Str → Bool) (lv : Nat) : Prop extends Xk X N sc where
  hr : Room lv X.A
  fr : ∀ x ∈ FR, X.mg x = none
  fne : X.fn = fb
  wd : X.prog = W.P ∧ X.w = W.w ∧ X.K = W.K ∧ X.mg = W.mg ∧ X.base = W.bs
theorem gimp_ok {sc : Scope} {x : Str} (h : gimp sc x = true) : sc.names.lookup x = some .globalImplicit ∧ (x == ("__debug__" : Str)) = false ∧ x ≠ "__name__" := by
  unfold gimp at h
  split at h
  · rename_i e
    simp only [Bool.and_eq_true, Bool.not_eq_true', decide_eq_true_eq] at h
    exact ⟨e, h.1, h.2⟩
  · cases h
theorem seeB_ok {N : List Str} {sc : Scope} {i : Nat} {x : Str} (h : seeB N sc i x = true) : N[i]? = some x ∧ Vis sc x ∧ (x == ("__debug__" : Str)) = false ∧ (x == ("__classdict__" : Str)) = false := by
  unfold seeB at h
  simp only [Bool.and_eq_true, Bool.not_eq_true', decide_eq_true_eq] at h
  obtain ⟨h1, h2, h3, h4⟩ := h
  refine ⟨h1, ?_, h3, h4⟩
  split at h2
  · exact .inl (by assumption)
  · exact .inr (.inl (by assumption))
  · exact .inr (.inr (by assumption))
  · cases h2
theorem putB_ok {N : List Str} {sc : Scope} {fb : Str → Bool} {i : Nat} {x : Str} (h : putB N sc fb i x = true) : N[i]? = some x ∧ Loc sc x ∧ (fb x = true ∨ sc.names.lookup x = some .local) := by
  unfold putB at h
  simp only [Bool.and_eq_true, decide_eq_true_eq] at h
  obtain ⟨h1, h2⟩ := h
  refine ⟨h1, ?_⟩
  split at h2
  · rename_i e; exact ⟨.inl e, .inr e⟩
  · rename_i e; exact ⟨.inr e, .inl h2⟩
  · cases h2
theorem locB_ok {sc : Scope} {x : Str} (h : locB sc x = true) : sc.names.lookup x = some .local := by
  unfold locB at h
  split at h
  · assumption
  · cases h
section
variable {G : Type} {BR : BagR G} {W : Wd} {X : Cx} {N : List Str} {sc : Scope} {fb : Str → Bool} {lv : Nat} {x y z : Str} {p p1 p2 p3 pos pos2 : Pos} {a b c e : Expr} {es : List Expr} {f h k : EM G} {t u : Mn G Bool}
theorem Cq.gl (q : Cq W X N sc fb lv) (h : gimp sc x = true) : Gl X x := q.toXk.gl (gimp_ok h).1
theorem Cq.bn (q : Cq W X N sc fb lv) {v : Value} (h : gimp sc x = true) (m : x ∈ FR) (hb : bootBuiltins x = some v) : Bn X x v := ⟨q.gl h, q.fr x m, hb, (gimp_ok h).2.2, (gimp_ok h).2.1⟩
theorem Cq.blk (q : Cq W X N sc fb lv) (s : Shared) (H : Hp) (scope : Scope) (cl : List (Str × Addr)) (C : Addr) (fp : List Addr) : Cq W (X.blk s H scope (compEnvC scope cl C X.env) fp) N (relS scope sc) (fun x => scope.names.lookup x == some .cell) lv :=
  { q.toXk.blk s H scope cl C fp with hr := q.hr, fr := q.fr, fne := rfl, wd := q.wd }
theorem Cq.nv (q : Cq W X N sc fb lv) (i : Nat) (h : seeB N sc i x = true) : PE X (.Name x p) (tV BR (varM i)) := by
  obtain ⟨h1, h2, h3, h4⟩ := seeB_ok h
  exact ce_var (by rw [q.n]; exact h1) (by rw [q.sc]; exact h2) h3 h4
theorem Cq.nb (q : Cq W X N sc fb lv) (i : Nat) (h : seeB N sc i x = true) : PE X (.Name x p) (tB BR (brwM i)) := by
  obtain ⟨h1, h2, h3, h4⟩ := seeB_ok h
  exact cb_var (by rw [q.n]; exact h1) (by rw [q.sc]; exact h2) h3 h4
theorem Cq.ns (q : Cq W X N sc fb lv) (i : Nat) (h : seeB N sc i x = true) : PE X (.Name x p) (tSl BR (slM i)) := by
  obtain ⟨h1, h2, h3, h4⟩ := seeB_ok h
  exact sa_sl (by rw [q.n]; exact h1) (by rw [q.sc]; exact h2) h3 h4
theorem Cq.tg (q : Cq W X N sc fb lv) (i : Nat) (h : putB N sc fb i x = true) : PG X (.Name x p) (tG BR (.nm i)) := by
  obtain ⟨h1, h2, h3⟩ := putB_ok h
  exact cg_nm (by rw [q.n]; exact q.nd) (by rw [q.n]; exact h1) (by rw [q.sc]; exact h2) (by rw [q.fne, q.sc]; exact h3)
theorem bV (h : PE X a (tV BR f)) : PE X a (tB BR f) := tB_of_V h
theorem vF (h : PE X a (tF BR f)) : PE X a (tV BR f) := tV_of_F h
theorem bF (h : PE X a (tF BR f)) : PE X a (tB BR f) := tB_of_V (tV_of_F h)
theorem kI {i : Int} {j : Nat} : PE X (.Constant (.int i) j p) (tV BR (cM (.int i))) := ce_c pe_int fun _ _ => .int i
theorem kB {i : Bool} {j : Nat} : PE X (.Constant (.bool i) j p) (tV BR (cM (.bool i))) := ce_c pe_bl fun _ _ => .bl i
theorem kS {i : Str} {j : Nat} : PE X (.Constant (.str i) j p) (tV BR (cM (.str i))) := ce_c pe_str fun _ _ => .str i
theorem kN {j : Nat} : PE X (.Constant .none j p) (tV BR (cM .none)) := ce_c pe_non fun _ _ => .non
theorem Cq.gI (q : Cq W X N sc fb lv) {i : Int} (hm : ∃ t, W.mg x = some (.int i t)) (h : gimp sc x = true) : PE X (.Name x p) (tV BR (cM (.int i))) := by
  obtain ⟨t, hm⟩ := hm
  rw [← q.wd.2.2.2.1] at hm
  exact ce_c (pe_glob (v := .int i) (q.gl h) hm ⟨t, rfl⟩ (gimp_ok h).2.1) fun _ _ => .int i
/-! operators -/
theorem oAdd (ha : PE X a (tB BR f)) (hb : PE X b (tB BR h)) : PE X (.BinOp a .Add b p) (tV BR (bin addD f h)) := ce_bin (((op_add.or op_add_str).or (op_catA.or op_cat))) (Ok2.or (Ok2.or ok_addI ok_addS) (Ok2.or ok_addT ok_addL)) ha hb
theorem oSub (ha : PE X a (tB BR f)) (hb : PE X b (tB BR h)) : PE X (.BinOp a .Sub b p) (tV BR (bin subD f h)) := ce_bin op_sub ok_subD ha hb
def mulD (x y : D) : Option D := (mulI x y).or ((mulT x y).or (mulL x y))
theorem oMul (ha : PE X a (tB BR f)) (hb : PE X b (tB BR h)) : PE X (.BinOp a .Mult b p) (tV BR (bin mulD f h)) := ce_bin (op_mul.or (op_repT.or op_rep)) (Ok2.or ok_mulI (Ok2.or ok_mulT ok_mulL)) ha hb
theorem oMulI (ha : PE X a (tB BR f)) (hb : PE X b (tB BR h)) : PE X (.BinOp a .Mult b p) (tV BR (bin mulI f h)) := ce_bin op_mul ok_mulI ha hb
theorem oDiv (ha : PE X a (tB BR f)) (hb : PE X b (tB BR h)) : PE X (.BinOp a .FloorDiv b p) (tV BR (bin fdivD f h)) := ce_bin op_fdiv ok_fdiv ha hb
theorem oMod (ha : PE X a (tB BR f)) (hb : PE X b (tB BR h)) : PE X (.BinOp a .Mod b p) (tV BR (bin modD f h)) := ce_bin op_mod ok_mod ha hb
theorem oPow (ha : PE X a (tB BR f)) (hb : PE X b (tB BR h)) : PE X (.BinOp a .Pow b p) (tV BR (bin powD f h)) := ce_bin op_powG ok_pow ha hb
theorem oNeg (ha : PE X a (tB BR f)) : PE X (.UnaryOp .USub a p) (tV BR (un negD f)) := ce_un un_neg ok_neg ha
theorem Cq.u64 (q : Cq W X N sc fb lv) : X.A.units + 64 < cLine := by have := q.un; omega
theorem Cq.u1 (q : Cq W X N sc fb lv) : X.A.units + 1 < cLine := by have := q.un; omega
def eqS : D → D → Option D
  | .str a, .str b => some (.bool (decide (a = b)))
  | _, _ => none
def neS : D → D → Option D
  | .str a, .str b => some (.bool (!decide (a = b)))
  | _, _ => none
def eqX (x y : D) : Option D := (eqS x y).or (eqD x y)
def neX (x y : D) : Option D := (neS x y).or (neD x y)
theorem decS (a b : Str) : decide (V.str a = V.str b) = decide (a = b) := by
  by_cases h : a = b
  · rw [decide_eq_true h, decide_eq_true (by rw [h])]
  · rw [decide_eq_false h, decide_eq_false (fun e => h (V.str.inj e))]
theorem ok_eqS : Ok2 BR rEq eqS := fun {H F S g x y d u v Q} A e r1 r2 k => by
  unfold eqS at e
  split at e
  · cases e
    cases r1.str
    cases r2.str
    refine ⟨rfl, ?_⟩
    rw [decS]
    exact Ret.here k A (.bl _)
  · cases e
theorem ok_neS : Ok2 BR rNe neS := fun {H F S g x y d u v Q} A e r1 r2 k => by
  unfold neS at e
  split at e
  · cases e
    cases r1.str
    cases r2.str
    refine ⟨rfl, ?_⟩
    rw [decS]
    exact Ret.here k A (.bl _)
  · cases e
theorem vLt (ha : PE X a (tB BR f)) (hb : PE X b (tB BR h)) (hm : behindInMarks .Lt b = false) : PE X (.Compare a [.Lt] [b] p) (tV BR (bin ltI f h)) := ce_cmp op_lt ok_lt hm ha hb
theorem vLe (ha : PE X a (tB BR f)) (hb : PE X b (tB BR h)) (hm : behindInMarks .LtE b = false) : PE X (.Compare a [.LtE] [b] p) (tV BR (bin leI f h)) := ce_cmp op_le ok_le hm ha hb
theorem vGt (ha : PE X a (tB BR f)) (hb : PE X b (tB BR h)) (hm : behindInMarks .Gt b = false) : PE X (.Compare a [.Gt] [b] p) (tV BR (bin gtI f h)) := ce_cmp op_gt ok_gt hm ha hb
theorem vGe (ha : PE X a (tB BR f)) (hb : PE X b (tB BR h)) (hm : behindInMarks .GtE b = false) : PE X (.Compare a [.GtE] [b] p) (tV BR (bin geI f h)) := ce_cmp op_ge ok_ge hm ha hb
theorem Cq.vEq (q : Cq W X N sc fb lv) (ha : PE X a (tB BR f)) (hb : PE X b (tB BR h)) (hm : behindInMarks .Eq b = false) : PE X (.Compare a [.Eq] [b] p) (tV BR (bin eqX f h)) := ce_cmp (op_eq.or (op_eqD q.u64)) (Ok2.or ok_eqS ok_eq) hm ha hb
theorem Cq.vNe (q : Cq W X N sc fb lv) (ha : PE X a (tB BR f)) (hb : PE X b (tB BR h)) (hm : behindInMarks .NotEq b = false) : PE X (.Compare a [.NotEq] [b] p) (tV BR (bin neX f h)) := ce_cmp (op_ne.or (op_neD q.u64)) (Ok2.or ok_neS ok_ne) hm ha hb
theorem vIs (ha : PE X a (tB BR f)) (hb : PE X b (tB BR h)) (hm : behindInMarks .Is b = false) : PE X (.Compare a [.Is] [b] p) (tV BR (bin isN f h)) := ce_cmp op_isN ok_isN hm ha hb
theorem vIsNot (ha : PE X a (tB BR f)) (hb : PE X b (tB BR h)) (hm : behindInMarks .IsNot b = false) : PE X (.Compare a [.IsNot] [b] p) (tV BR (bin notN f h)) := ce_cmp op_notN ok_notN hm ha hb
theorem tLt (ha : PE X a (tB BR f)) (hb : PE X b (tB BR h)) (hm : behindInMarks .Lt b = false) : PT X (.Compare a [.Lt] [b] p) (tT BR (blM (bin ltI f h))) := ct_cmp op_lt ok_lt hm ha hb
theorem tLe (ha : PE X a (tB BR f)) (hb : PE X b (tB BR h)) (hm : behindInMarks .LtE b = false) : PT X (.Compare a [.LtE] [b] p) (tT BR (blM (bin leI f h))) := ct_cmp op_le ok_le hm ha hb
theorem tGt (ha : PE X a (tB BR f)) (hb : PE X b (tB BR h)) (hm : behindInMarks .Gt b = false) : PT X (.Compare a [.Gt] [b] p) (tT BR (blM (bin gtI f h))) := ct_cmp op_gt ok_gt hm ha hb
theorem tGe (ha : PE X a (tB BR f)) (hb : PE X b (tB BR h)) (hm : behindInMarks .GtE b = false) : PT X (.Compare a [.GtE] [b] p) (tT BR (blM (bin geI f h))) := ct_cmp op_ge ok_ge hm ha hb
theorem Cq.tEq (q : Cq W X N sc fb lv) (ha : PE X a (tB BR f)) (hb : PE X b (tB BR h)) (hm : behindInMarks .Eq b = false) : PT X (.Compare a [.Eq] [b] p) (tT BR (blM (bin eqX f h))) := ct_cmp (op_eq.or (op_eqD q.u64)) (Ok2.or ok_eqS ok_eq) hm ha hb
theorem Cq.tNe (q : Cq W X N sc fb lv) (ha : PE X a (tB BR f)) (hb : PE X b (tB BR h)) (hm : behindInMarks .NotEq b = false) : PT X (.Compare a [.NotEq] [b] p) (tT BR (blM (bin neX f h))) := ct_cmp (op_ne.or (op_neD q.u64)) (Ok2.or ok_neS ok_ne) hm ha hb
theorem tIs (ha : PE X a (tB BR f)) (hb : PE X b (tB BR h)) (hm : behindInMarks .Is b = false) : PT X (.Compare a [.Is] [b] p) (tT BR (blM (bin isN f h))) := ct_cmp op_isN ok_isN hm ha hb
theorem tIsNot (ha : PE X a (tB BR f)) (hb : PE X b (tB BR h)) (hm : behindInMarks .IsNot b = false) : PT X (.Compare a [.IsNot] [b] p) (tT BR (blM (bin notN f h))) := ct_cmp op_notN ok_notN hm ha hb
/-! built-in functions -/
variable (q : Cq W X N sc fb lv)
include q
theorem Cq.len (g : gimp sc "len" = true) (na : noStar a = true) (ha : PE X a (tB BR f)) : PE X (.Call (.Name "len" p) [a] [] pos) (tV BR (un lenD f)) := ce_call1 call_len ok_len (q.bn g (by decide) boot_len) na ha
theorem Cq.tuple (g : gimp sc "tuple" = true) (na : noStar a = true) (ha : PE X a (tB BR f)) : PE X (.Call (.Name "tuple" p) [a] [] pos) (tV BR (un tupleD f)) := ce_call1T call_tuple_of ok_tuple (q.bn g (by decide) boot_tuple) na ha
theorem Cq.list (g : gimp sc "list" = true) (na : noStar a = true) (ha : PE X a (tB BR f)) : PE X (.Call (.Name "list" p) [a] [] pos) (tF BR (un listD f)) := ce_call1TF call_list_of ok_list (q.bn g (by decide) boot_list) na ha
theorem Cq.sum (g : gimp sc "sum" = true) (na : noStar a = true) (ha : PE X a (tB BR f)) : PE X (.Call (.Name "sum" p) [a] [] pos) (tV BR (un sumD f)) := ce_call1 (cr_sum q.calm) ok_sum (q.bn g (by decide) boot_sum) na ha
theorem Cq.all (g : gimp sc "all" = true) (na : noStar a = true) (ha : PE X a (tB BR f)) : PE X (.Call (.Name "all" p) [a] [] pos) (tV BR (un allD f)) := ce_call1 (cr_all q.calm) ok_all (q.bn g (by decide) boot_all) na ha
theorem Cq.any (g : gimp sc "any" = true) (na : noStar a = true) (ha : PE X a (tB BR f)) : PE X (.Call (.Name "any" p) [a] [] pos) (tV BR (un anyD f)) := ce_call1 (cr_any q.calm) ok_any (q.bn g (by decide) boot_any) na ha
theorem Cq.abs (g : gimp sc "abs" = true) (na : noStar a = true) (ha : PE X a (tB BR f)) : PE X (.Call (.Name "abs" p) [a] [] pos) (tV BR (un absD f)) := ce_call1 call_abs ok_abs (q.bn g (by decide) boot_abs) na ha
theorem Cq.int (g : gimp sc "int" = true) (na : noStar a = true) (ha : PE X a (tB BR f)) : PE X (.Call (.Name "int" p) [a] [] pos) (tV BR (un intD f)) := ce_call1T call_int1 ok_int (q.bn g (by decide) boot_int) na ha
theorem Cq.repr (g : gimp sc "repr" = true) (na : noStar a = true) (ha : PE X a (tB BR f)) : PE X (.Call (.Name "repr" p) [a] [] pos) (tV BR (un rpD f)) := ce_call1 (call_repr q.toXk) ok_repr (q.bn g (by decide) boot_repr) na ha
theorem Cq.max (g : gimp sc "max" = true) (na : noStar a = true) (nb : noStar b = true) (ha : PE X a (tB BR f)) (hb : PE X b (tB BR h)) : PE X (.Call (.Name "max" p) [a, b] [] pos) (tV BR (bin max2D f h)) := ce_call2 (call_max2 q.calm) ok_max2 (q.bn g (by decide) boot_max) na nb ha hb
theorem Cq.min (g : gimp sc "min" = true) (na : noStar a = true) (nb : noStar b = true) (ha : PE X a (tB BR f)) (hb : PE X b (tB BR h)) : PE X (.Call (.Name "min" p) [a, b] [] pos) (tV BR (bin min2D f h)) := ce_call2 (call_min2 q.calm) ok_min2 (q.bn g (by decide) boot_min) na nb ha hb
/-! defs -/
omit q in
theorem noStars (pos : Pos) (env : PySem.Env) : ∀ es : List Expr, es.all noStar = true → (backTo pos (starEach es env)).any (·.1) = false
  | [], _ => rfl
  | e :: es, h => by
    rw [List.all_cons, Bool.and_eq_true] at h
    rw [starEach_ns h.1]
    show (false || (backTo pos (starEach es env)).any (·.1)) = false
    rw [noStars pos env es h.2]; rfl
variable {fs : List (Mn G Sv)} {ps ks : List Str} {sem : Sem1 G} {kws : List Keyword} {gp : {α : Type} → List α → List α}
theorem Cq.call {j : Nat} (C : Cal BR W.P W.w W.K W.mg W.bs j x ps sem) (hj : Nat.ble j lv = true) (g : gimp sc x = true) (ne : (a :: es).all noStar = true) (hl : (fs.length == ps.length) = true) (ha : PA X (a :: es) (tAS BR fs)) : PE X (.Call (.Name x p) (a :: es) [] pos) (tV BR (callM sem idL fs)) := by
  obtain ⟨h1, h2, h3, h4, h5⟩ := q.wd
  rw [← h1, ← h2, ← h3, ← h4, ← h5] at C
  rw [List.all_cons, Bool.and_eq_true] at ne
  exact ce_call C q.hr (Nat.le_of_ble_eq_true hj) q.gd (q.gl g) ne.1 (eq_of_beq hl) ha (gimp_ok g).2.1 (noStars _ _ _ ne.2)
theorem Cq.call0 {j : Nat} (C : Cal BR W.P W.w W.K W.mg W.bs j x [] sem) (hj : Nat.ble j lv = true) (g : gimp sc x = true) : PE X (.Call (.Name x p) [] [] pos) (tV BR (callM sem idL [])) := by
  obtain ⟨h1, h2, h3, h4, h5⟩ := q.wd
  rw [← h1, ← h2, ← h3, ← h4, ← h5] at C
  exact ce_call0 C q.hr (Nat.le_of_ble_eq_true hj) q.gd (q.gl g) (gimp_ok g).2.1
theorem Cq.callK {j : Nat} (C : CalK BR W.P W.w W.K W.mg W.bs j x ps ks gp sem) (hj : Nat.ble j lv = true) (g : gimp sc x = true) (hl : (fs.length == ks.length) = true) (ha : PK X kws (tAS BR fs)) (hall : (backToKw pos (keywordEach kws X.env)).all (·.1.isSome) = true)
    (hks : (backToKw pos (keywordEach kws X.env)).filterMap (·.1) = ks) (hpl : ((backTo pos (starEach [] X.env)).any (·.1) || (backToKw pos (keywordEach kws X.env)).any (·.1.isNone)) = false) : PE X (.Call (.Name x p) [] kws pos) (tV BR (callM sem gp fs)) := by
  obtain ⟨h1, h2, h3, h4, h5⟩ := q.wd
  rw [← h1, ← h2, ← h3, ← h4, ← h5] at C
  exact ce_callK C q.hr (Nat.le_of_ble_eq_true hj) q.gd (q.gl g) (eq_of_beq hl) ha hall hks (gimp_ok g).2.1 hpl
/-! types -/
theorem Cq.isi (T : Ty) (g : gimp sc "isinstance" = true) (g2 : gimp sc y = true) (hy : y = (Str.ofString T.s)) (na : noStar a = true) (ha : PE X a (tB BR f)) : PE X (.Call (.Name "isinstance" p) [a, .Name y p2] [] pos) (tV BR (un (isiD T) f)) := by
  have h : y ∈ FR ∧ bootBuiltins y = some (.type T.s) := by
    subst hy
    cases T <;> exact ⟨by decide +kernel, by decide +kernel⟩
  exact ce_isi (q.bn g (by decide) boot_isinstance) (q.bn g2 h.1 h.2) na ha
theorem Cq.str (g : gimp sc "str" = true) (na : noStar a = true) (ha : PE X a (tB BR f)) : PE X (.Call (.Name "str" p) [a] [] pos) (tV BR (un strD f)) := ce_call1T (call_strG q.toXk) ok_str (q.bn g (by decide) boot_str) na ha
/-! iterators -/
variable {tg : Expr} {elts : List Expr} {kk : Nat} {tpos : Pos}
theorem Cq.ibEnum (g : gimp sc "enumerate" = true) (na : noStar a = true) (ha : PE X a (tB BR f)) : PI X (.Tuple elts kk tpos) (.Call (.Name "enumerate" p) [a] [] pos) (tIB BR (itEnum f)) := ib_enum (q.gl g) (q.fr _ (by decide)) na ha
theorem Cq.ivEnum (g : gimp sc "enumerate" = true) (na : noStar a = true) (ha : PE X a (tV BR f)) : PI X (.Tuple elts kk tpos) (.Call (.Name "enumerate" p) [a] [] pos) (tIV BR (itEnum f)) := iv_enum (q.gl g) (q.fr _ (by decide)) na ha
theorem Cq.ibRange (g : gimp sc "range" = true) (na : noStar a = true) (ha : PE X a (tB BR f)) : PI X tg (.Call (.Name "range" p) [a] [] pos) (tIB BR (itRange1 f)) := ib_range1 (q.gl g) (q.fr _ (by decide)) na ha
theorem Cq.ivRange (g : gimp sc "range" = true) (na : noStar a = true) (ha : PE X a (tB BR f)) : PI X tg (.Call (.Name "range" p) [a] [] pos) (tIV BR (itRange1 f)) := iv_range1 (q.gl g) (q.fr _ (by decide)) na ha
theorem Cq.ibRange2 (g : gimp sc "range" = true) (na : noStar a = true) (nb : noStar b = true) (ha : PE X a (tB BR f)) (hb : PE X b (tB BR h)) : PI X tg (.Call (.Name "range" p) [a, b] [] pos) (tIB BR (itRange2 f h)) := ib_range2 (q.gl g) (q.fr _ (by decide)) na nb ha hb
theorem Cq.ivRange2 (g : gimp sc "range" = true) (na : noStar a = true) (nb : noStar b = true) (ha : PE X a (tB BR f)) (hb : PE X b (tB BR h)) : PI X tg (.Call (.Name "range" p) [a, b] [] pos) (tIV BR (itRange2 f h)) := iv_range2 (q.gl g) (q.fr _ (by decide)) na nb ha hb
theorem Cq.ibZip (g : gimp sc "zip" = true) (na : noStar a = true) (nb : noStar b = true) (ha : PE X a (tB BR f)) (hb : PE X b (tB BR h)) : PI X (.Tuple elts kk tpos) (.Call (.Name "zip" p) [a, b] [] pos) (tIB BR (itZip f h)) := ib_zip (q.gl g) (q.fr _ (by decide)) na nb ha hb
/-! comprehensions -/
theorem Cq.lc {own : List (Str × Nat)} {scope : Scope} {it : Mn G (List D)} {t : Tg} {c : Mn G Bool} {elt iter : Expr} {ifs : List Expr} (ok : blkC N sc scope own = true) (hsl : (t.slots.all fun j => (own.map (·.2)).contains j) = true) (hs : noSet iter = true) (hi : PI X tg iter (tIB BR it))
    (hb : ∀ X', Cq W X' N (relS scope sc) (fun x => scope.names.lookup x == some .cell) lv → PG X' tg (tG BR t) ∧ PTs X' ifs (tT BR c) ∧ PE X' elt (tV BR k)) : LcOk BR X elt tg iter ifs scope own it t c k where
  hc := q.calm
  hN := by rw [q.n]; exact q.nd
  hi := hi
  ok := by rw [q.n, q.sc]; exact blkOk_by ok
  hsl := fun j hj => by
    have := List.all_eq_true.mp hsl j hj
    simpa using this
  hg := fun s H C cl fp => (hb _ (q.blk s H scope cl C fp)).1
  ht := fun s H C cl fp => (hb _ (q.blk s H scope cl C fp)).2.1
  he := fun s H C cl fp => (hb _ (q.blk s H scope cl C fp)).2.2
  hs := hs
end
end Kd

end part_KdW
section part_KdY
/-! Kd, part Y: the rules for statements as one uses them. -/
namespace Kd
open PySem PySem.Spec PyProof.Rows L2
def bkS (sc : Scope) : ScopeKind := if sc.kind.isAnnotationScope then .function else sc.kind
def swB (sc scope : Scope) (t : Str) (l1 l2 : Nat) : Bool := bkS sc == .function && sc.names.lookup t == some .local && l1 == l2 && !(scope.names.any fun (n, k) => n == t && (k == .local || k == .cell))
theorem sw_lc {elt : Expr} {gens : List Comprehension} {scope : Scope} {pos py : Pos} {t : Str} {l : Nat} {env : PySem.Env} : swapsWith (.ListComp elt gens scope pos) (some (.Name t py)) l env = pure (swB env.scope scope t py.line pos.line) := rfl
def nmsT (sc : Scope) (line : Nat) (ts : List Expr) : List Str := ts.filterMap fun
  | .Name id pos => if sc.names.lookup id == some .local && pos.line == line then some id else none
  | _ => none
def swpB (sc : Scope) (ts vs : List Expr) : Option (List Str) :=
  if (!(ts.length == 2 || ts.length == 3) || vs.length != ts.length || bkS sc != .function) = true then none
  else if (vs.any fun | .Starred .. => true | _ => false) = true then none
  else if ((nmsT sc ((ts.head?.map (·.pos.line)).getD 0) ts).length != ts.length || (nmsT sc ((ts.head?.map (·.pos.line)).getD 0) ts).eraseDups.length != (nmsT sc ((ts.head?.map (·.pos.line)).getD 0) ts).length) = true then none
  else if vs.all (foldedForSure 8) = true then none else some (nmsT sc ((ts.head?.map (·.pos.line)).getD 0) ts)
theorem sw_pair {ts vs : List Expr} {k k2 : Nat} {p p2 : Pos} {env : PySem.Env} (h : (vs.all (foldedForSure 8) || !vs.all (constantsAlone 8)) = true) : swappedStores [.Tuple ts k p] (.Tuple vs k2 p2) env = pure (swpB env.scope ts vs) := by
  unfold swappedStores swpB
  show (if (!(ts.length == 2 || ts.length == 3) || vs.length != ts.length || bkS env.scope != .function) = true then (pure none : Sem _) else _) = _
  by_cases h1 : (!(ts.length == 2 || ts.length == 3) || vs.length != ts.length || bkS env.scope != .function) = true
  · rw [if_pos h1, if_pos h1]
  · rw [if_neg h1, if_neg h1]
    show (if (vs.any fun | .Starred .. => true | _ => false) = true then (pure none : Sem _) else _) = _
    by_cases h2 : (vs.any fun | .Starred .. => true | _ => false) = true
    · rw [if_pos h2, if_pos h2]
    · rw [if_neg h2, if_neg h2]
      show (if ((nmsT env.scope ((ts.head?.map (·.pos.line)).getD 0) ts).length != ts.length || (nmsT env.scope ((ts.head?.map (·.pos.line)).getD 0) ts).eraseDups.length != (nmsT env.scope ((ts.head?.map (·.pos.line)).getD 0) ts).length) = true then (pure none : Sem _) else _) = _
      split
      · rfl
      · show (if vs.all (foldedForSure 8) = true then (pure none : Sem _) else if vs.all (constantsAlone 8) = true then _ else pure (some (nmsT env.scope ((ts.head?.map (·.pos.line)).getD 0) ts))) = _
        by_cases h4 : vs.all (foldedForSure 8) = true
        · rw [if_pos h4, if_pos h4]
        · rw [if_neg h4, if_neg h4]
          have h5 : ¬ vs.all (constantsAlone 8) = true := fun z => by
            rw [z, Bool.not_true, Bool.or_false] at h
            exact h4 h
          rw [if_neg h5]
def noTup : Expr → Bool
  | .Tuple _ _ _ => false
  | _ => true
theorem sw_noTup {tg e : Expr} {env : PySem.Env} (h : noTup e = true) : swappedStores [tg] e env = pure none := by
  cases e <;> first | (cases h; done) | (cases tg <;> rfl)
/-- where a statement stands -/
structure Cs (W : Wd) (X : Cx) (N : List Str) (sc : Scope) (fb : Str → Bool) (lv : Nat) : Prop extends Cq W X N sc fb lv where
  hp : PassesOwn (model X.prog X.w) X.A X.env X.xe
section
variable {G : Type} {BR : BagR G} {W : Wd} {X : Cx} {N : List Str} {sc : Scope} {fb : Str → Bool} {lv : Nat} {x y z : Str} {p p1 p2 p3 px py pz apos cpos pos spos : Pos} {a b c e : Expr} {es : List Expr} {f h k : EM G} {t u : Mn G Bool}
theorem tF_of_tV {σ : L2.St} {H : Hp} {Q : VK} (q : tV BR f σ H Q) : tF BR f σ H Q := by
  obtain ⟨ρ, F, S, g, R, d, g', e, k⟩ := q
  refine ⟨ρ, F, S, g, R, d, g', e, fun r H' F' S' E b n1 n2 n3 o => ?_⟩
  obtain ⟨u, hu, _⟩ := o.some
  exact k _ H' F' _ (E.freeze n1 hu n3) b ((o.kp (S' := fun a => S' a ∨ a = r) ⟨fun _ s => .inl s, fun _ _ _ h => h, fun _ _ h => h⟩ rfl).rp (.inr rfl))
variable (q : Cs W X N sc fb lv)
include q
theorem Cs.set (i : Nat) (g : putB N sc fb i x = true) (ns : noSwap e = true) (he : PE X e (tV BR f)) : PS X (.Assign [.Name x p] e pos) (tS BR (setM i f)) := by
  obtain ⟨h1, h2, h3⟩ := putB_ok g
  exact cs_set (ps_set (by rw [q.n]; exact q.nd) (by rw [q.n]; exact h1) (by rw [q.sc]; exact h2) he (noSwap_ok ns _ _ _) (by rw [q.fne, q.sc]; exact h3)) fun _ _ _ q => q
theorem Cs.setO (i : Nat) (g : putB N sc fb i x = true) (ns : noSwap e = true) (he : PE X e (tF BR f)) : PS X (.Assign [.Name x p] e pos) (tS BR (setOM i f)) := by
  obtain ⟨h1, h2, h3⟩ := putB_ok g
  exact cs_setO (ps_set (by rw [q.n]; exact q.nd) (by rw [q.n]; exact h1) (by rw [q.sc]; exact h2) he (noSwap_ok ns _ _ _) (by rw [q.fne, q.sc]; exact h3)) fun _ _ _ q => q
variable {elt tg iter : Expr} {ifs : List Expr} {scope : Scope} {own : List (Str × Nat)} {it : Mn G (List D)} {tt : Tg} {cc : Mn G Bool}
/-- x = [.. for ..], the store made inside the comprehension's frame -/
theorem Cs.setC (i : Nat) (g : putB N sc fb i x = true) (sw : swB sc scope x py.line pos.line = true) (L : LcOk BR X elt tg iter ifs scope own it tt cc k) : PS X (.Assign [.Name x py] (.ListComp elt [⟨tg, iter, ifs, 0⟩] scope pos) spos) (tS BR (setM i (compM it tt cc k (own.map (·.2))))) := by
  obtain ⟨h1, h2, h3⟩ := putB_ok g
  have hl : sc.names.lookup x = some .local := by
    unfold swB at sw
    simp only [Bool.and_eq_true, beq_iff_eq] at sw
    exact sw.1.1.2
  exact cs_set (lc_set L (by rw [q.n]; exact h1) (by rw [q.sc]; exact hl) (by rw [sw_lc, q.sc, sw])) fun σ H Q z => lc_read L.hsl σ H Q (tF_of_tV z)
theorem Cs.setCO (i : Nat) (g : putB N sc fb i x = true) (sw : swB sc scope x py.line pos.line = true) (L : LcOk BR X elt tg iter ifs scope own it tt cc k) : PS X (.Assign [.Name x py] (.ListComp elt [⟨tg, iter, ifs, 0⟩] scope pos) spos) (tS BR (setOM i (compM it tt cc k (own.map (·.2))))) := by
  obtain ⟨h1, h2, h3⟩ := putB_ok g
  have hl : sc.names.lookup x = some .local := by
    unfold swB at sw
    simp only [Bool.and_eq_true, beq_iff_eq] at sw
    exact sw.1.1.2
  exact cs_setO (lc_set L (by rw [q.n]; exact h1) (by rw [q.sc]; exact hl) (by rw [sw_lc, q.sc, sw])) fun σ H Q z => lc_read L.hsl σ H Q z
/-- .. and where it is not -/
theorem Cs.setN (i : Nat) (g : putB N sc fb i x = true) (sw : swB sc scope x py.line pos.line = false) (L : LcOk BR X elt tg iter ifs scope own it tt cc k) : PS X (.Assign [.Name x py] (.ListComp elt [⟨tg, iter, ifs, 0⟩] scope pos) spos) (tS BR (setM i (compM it tt cc k (own.map (·.2))))) := by
  obtain ⟨h1, h2, h3⟩ := putB_ok g
  exact cs_set (ps_set (by rw [q.n]; exact q.nd) (by rw [q.n]; exact h1) (by rw [q.sc]; exact h2) (vF (ce_lc L)) (by rw [sw_lc, q.sc, sw]) (by rw [q.fne, q.sc]; exact h3)) fun _ _ _ q => q
theorem Cs.setNO (i : Nat) (g : putB N sc fb i x = true) (sw : swB sc scope x py.line pos.line = false) (L : LcOk BR X elt tg iter ifs scope own it tt cc k) : PS X (.Assign [.Name x py] (.ListComp elt [⟨tg, iter, ifs, 0⟩] scope pos) spos) (tS BR (setOM i (compM it tt cc k (own.map (·.2))))) := by
  obtain ⟨h1, h2, h3⟩ := putB_ok g
  exact cs_setO (ps_set (by rw [q.n]; exact q.nd) (by rw [q.n]; exact h1) (by rw [q.sc]; exact h2) (ce_lc L) (by rw [sw_lc, q.sc, sw]) (by rw [q.fne, q.sc]; exact h3)) fun _ _ _ q => q
theorem Cs.app (i : Nat) (g : seeB N sc i x = true) (hl : (apos.endLine == cpos.line) = true) (ns : noStar e = true) (he : PE X e (tV BR f)) : PS X (.Expr (.Call (.Attribute (.Name x p) "append" apos) [e] [] cpos) spos) (tS BR (appM i f)) := by
  obtain ⟨h1, h2, h3, h4⟩ := seeB_ok g
  exact cs_app (by rw [q.n]; exact h1) (by rw [q.sc]; exact h2) h3 h4 hl ns he
theorem Cs.ext (i : Nat) (g : seeB N sc i x = true) (hl : (apos.endLine == cpos.line) = true) (ns : noStar e = true) (he : PE X e (tB BR f)) : PS X (.Expr (.Call (.Attribute (.Name x p) "extend" apos) [e] [] cpos) spos) (tS BR (extM i f)) := by
  obtain ⟨h1, h2, h3, h4⟩ := seeB_ok g
  exact cs_ext (by rw [q.n]; exact h1) (by rw [q.sc]; exact h2) h3 h4 hl ns he
def noSl : Expr → Bool
  | .Slice _ _ _ _ => false
  | _ => true
omit q in
theorem asg_sub {o i : Expr} {p : Pos} {env : PySem.Env} (h : noSl i = true) (v : Value) : assign (.Subscript o i p) env v = (do
      let ov ← holding [v] (eval o env)
      let iv ← holding [v, ov] (eval i env)
      standAt p
      holding [v, ov, iv] (setItem ov iv v)
      release [v, ov, iv] []) := by
  cases i <;> first | rfl | cases h
theorem Cs.sto {ix : Expr} {fi : EM G} (i : Nat) (g : seeB N sc i x = true) (n1 : noSl ix = true) (n2 : noSwap e = true) (hi : PE X ix (tB BR fi)) (he : PE X e (tV BR f)) : PS X (.Assign [.Subscript (.Name x p) ix p1] e spos) (tS BR (stoM i fi f)) := by
  obtain ⟨h1, h2, h3, h4⟩ := seeB_ok g
  exact cs_sto q.u1 (by rw [q.n]; exact h1) (by rw [q.sc]; exact h2) h3 h4 hi he (swWith n2 _ _) (asg_sub n1)
theorem Cs.for_ {body : List Stmt} {m : SM G} (hi : PI X tg iter (tIV BR it)) (hs : noSet iter = true) (hg : PG X tg (tG BR tt)) (hb : PSs X body (tS BR m)) : PS X (.For tg iter body [] pos) (tS BR (forM it tt m)) := cs_for q.hp q.calm hi hg hb hs
theorem Cs.while_ {body : List Stmt} {m : SM G} (n : Nat) (hc : PT X c (tT BR cc)) (hb : PSs X body (tS BR m)) : PS X (.While c body [] pos) (tS BR (whileGo cc m n)) := cs_while n q.hp hc hb
theorem Cs.par2 {fs : List (Bool × EM G)} {kt k2 : Nat} (i j : Nat) (g1 : putB N sc fb i x = true) (g2 : putB N sc fb j y = true) (hij : (i == j) = false) (l1 : locB sc x = true) (l2 : locB sc y = true) (hw : swpB sc [.Name x px, .Name y py] [a, b] = some [x, y])
    (hc : (([a, b] : List Expr).all (foldedForSure 8) || !([a, b] : List Expr).all (constantsAlone 8)) = true) (ha : PA X [a, b] (tAF BR fs)) : PS X (.Assign [.Tuple [.Name x px, .Name y py] kt p] (.Tuple [a, b] k2 p2) pos) (tS BR (multM [i, j] fs)) :=
  cs_par2 q.calm (by rw [q.n]; exact q.nd) (by rw [q.n]; exact (putB_ok g1).1) (by rw [q.n]; exact (putB_ok g2).1) (fun e => by rw [e, beq_self_eq_true] at hij; cases hij) (by rw [q.sc]; exact locB_ok l1) (by rw [q.sc]; exact locB_ok l2) ha (by rw [sw_pair hc, q.sc, hw])
theorem Cs.par3 {fs : List (Bool × EM G)} {kt k2 : Nat} (i j l : Nat) (g1 : putB N sc fb i x = true) (g2 : putB N sc fb j y = true) (g3 : putB N sc fb l z = true) (hij : (i == j) = false) (hil : (i == l) = false) (hjl : (j == l) = false) (l1 : locB sc x = true) (l2 : locB sc y = true) (l3 : locB sc z = true)
    (hw : swpB sc [.Name x px, .Name y py, .Name z pz] [a, b, c] = some [x, y, z]) (hc : (([a, b, c] : List Expr).all (foldedForSure 8) || !([a, b, c] : List Expr).all (constantsAlone 8)) = true) (ha : PA X [a, b, c] (tAF BR fs)) :
    PS X (.Assign [.Tuple [.Name x px, .Name y py, .Name z pz] kt p] (.Tuple [a, b, c] k2 p2) pos) (tS BR (multM [i, j, l] fs)) :=
  cs_par3 q.calm (by rw [q.n]; exact q.nd) (by rw [q.n]; exact (putB_ok g1).1) (by rw [q.n]; exact (putB_ok g2).1) (by rw [q.n]; exact (putB_ok g3).1) (fun e => by rw [e, beq_self_eq_true] at hij; cases hij) (fun e => by rw [e, beq_self_eq_true] at hil; cases hil) (fun e => by rw [e, beq_self_eq_true] at hjl; cases hjl)
    (by rw [q.sc]; exact locB_ok l1) (by rw [q.sc]; exact locB_ok l2) (by rw [q.sc]; exact locB_ok l3) ha (by rw [sw_pair hc, q.sc, hw])
theorem Cs.nn (i : Nat) {is : List Nat} (g : putB N sc fb i x = true) (h : PGs X es (gNms is)) : PGs X (.Name x p :: es) (gNms (i :: is)) := by
  obtain ⟨h1, h2, h3⟩ := putB_ok g
  exact cn_cons (by rw [q.n]; exact q.nd) (by rw [q.n]; exact h1) (by rw [q.sc]; exact h2) (by rw [q.fne, q.sc]; exact h3) h
theorem Cs.mult {tgs : List Expr} {is : List Nat} {kt k2 : Nat} {fs : List (Bool × EM G)} (hg : PGs X tgs (gNms is)) (ns : tgs.all noStar = true) (hl : (tgs.length == is.length) = true) (hz : Nat.ble is.length 100000 = true) (hw : swpB sc tgs es = none) (hc : (es.all (foldedForSure 8) || !es.all (constantsAlone 8)) = true)
    (ha : PA X es (tAF BR fs)) : PS X (.Assign [.Tuple tgs kt p] (.Tuple es k2 p2) pos) (tS BR (multM is fs)) :=
  cs_mult q.calm hg ha ns (eq_of_beq hl) (Nat.le_of_ble_eq_true hz) (by rw [sw_pair hc, q.sc, hw])
theorem Cs.unp {tgs : List Expr} {kt : Nat} {ts : Tgs} (hg : PG X (.Tuple tgs kt p) (tG BR (.tp ts))) (n1 : noSwap e = true) (n2 : noTup e = true) (he : PE X e (tV BR f)) : PS X (.Assign [.Tuple tgs kt p] e pos) (tS BR (unpM (.tp ts) f)) :=
  cs_unp hg he (swWith n1 _ _) (sw_noTup n2) rfl
omit q in
theorem Cq.tp (q : Cq W X N sc fb lv) {tgs : List Expr} {kt : Nat} {ts : Tgs} (ns : tgs.all noStar = true) (hl : (tgs.length == ts.len) = true) (h : PGs X tgs (tGs BR ts)) : PG X (.Tuple tgs kt p) (tG BR (.tp ts)) := cg_tp q.calm ns (eq_of_beq hl) h
end
end Kd

end part_KdY
section part_KdZ
/-! Kd, part Z: from a def's body to its call. -/
namespace Kd
open PySem PySem.Spec PyProof.Rows L2
/-- what is known of the program once its top has run -/
structure Wk (W : Wd) : Prop where
  fr : ∀ x ∈ FR, W.mg x = none
  sy : ∃ o, W.bs.get? sysModules = some o
section
variable {G : Type} {BR : BagR G} {W : Wd} {x qual : Str} {pr : Arguments} {bd : List Stmt} {sc : Scope} {N ps ks : List Str} {f : Addr} {fd : FuncData} {m : SM G} {k : Nat}
theorem fn_keep (F : FunD W.K x qual pr bd sc [] [] f fd) (Sc : FnScope N ps sc) (wk : Wk W) (hb : ∀ X, Cs W X N sc (fun _ => true) k → PSs X bd (tS BR m)) : FnG W.P W.w W.K W.mg W.bs (k + 1) f fd ps (spOf BR ps.length (fnSem m ps.length N.length)) := by
  refine FunD.okG F Sc (fun xs H Q h => spOf_len h) fun cdv Ar out st H xs Q hr hg hsp => ⟨tS BR m, PSs.nox (hb _ ?_), fn_keeps hsp⟩
  have un : (Ar.deeper (envOfC qual sc st.heap.objs.size f cdv)).units + 200 < cLine := by have := hr.un; omega
  exact { n := rfl, sc := rfl, calm := rfl, nd := Sc.nd, un := un, gd := deepG hg, sy := wk.sy, hr := hr, fr := wk.fr, fne := rfl, wd := ⟨rfl, rfl, rfl, rfl, rfl⟩, hp := PassesOwn.never }
theorem Cal.of (F : FunD W.K x qual pr bd sc [] [] f fd) (hm : W.mg x = some (.ref f)) (hbi : Binds W.K fd ps []) (Sc : FnScope N ps sc) (wk : Wk W) (hb : ∀ X, Cs W X N sc (fun _ => true) k → PSs X bd (tS BR m)) :
    Cal BR W.P W.w W.K W.mg W.bs (k + 1) x ps (fnSem m ps.length N.length) := ⟨⟨f, fd, fn_keep F Sc wk hb, hm, F.kp, hbi⟩⟩
theorem Cal.mono {j : Nat} {sem : Sem1 G} (C : Cal BR W.P W.w W.K W.mg W.bs k x ps sem) (h : k ≤ j) : Cal BR W.P W.w W.K W.mg W.bs j x ps sem := by
  obtain ⟨f, fd, F, r⟩ := C.ex
  exact ⟨⟨f, fd, F.mono h, r⟩⟩
/-- a def that calls itself, so deep -/
def recSem (m : Sem1 G → SM G) (n nN : Nat) : Nat → Sem1 G
  | 0 => fun _ _ => none
  | d + 1 => fnSem (m (recSem m n nN d)) n nN
theorem Cal.recur {m : Sem1 G → SM G} (F : FunD W.K x qual pr bd sc [] [] f fd) (hm : W.mg x = some (.ref f)) (hbi : Binds W.K fd ps []) (Sc : FnScope N ps sc) (wk : Wk W)
    (hb : ∀ (j : Nat) (self : Sem1 G) X, k ≤ j → Cal BR W.P W.w W.K W.mg W.bs j x ps self → Cs W X N sc (fun _ => true) j → PSs X bd (tS BR (m self))) : ∀ d : Nat, Cal BR W.P W.w W.K W.mg W.bs (k + d) x ps (recSem m ps.length N.length d)
  | 0 => ⟨⟨f, fd, ⟨fun xs H Q h => spOf_len h, fun Ar out st H ag us xs Q _ _ _ _ _ h => by
      obtain ⟨F, S, g, ss, d, g', A, r, l, ho, e, kk⟩ := h
      cases e⟩, hm, F.kp, hbi⟩⟩
  | d + 1 => Cal.of (k := k + d) F hm hbi Sc wk fun X q => hb (k + d) _ X (Nat.le_add_right _ _) (Cal.recur F hm hbi Sc wk hb d) q
/-- a function object as it stands behind the top, and its name -/
structure Dn (W : Wd) (x : Str) (st : Stmt) (f : Addr) (fd : FuncData) : Prop where
  F : FunD W.K x x (defArgs st) (defBody st) (defScope st) [] [] f fd
  hm : W.mg x = some (.ref f)
/-- the promise of one object -/
structure Pm (BR : BagR G) (W : Wd) (k : Nat) (x : Str) (st : Stmt) (N ps : List Str) (sem : Sem1 G) : Prop where
  ex : ∃ (f : Addr) (fd : FuncData), Dn W x st f fd ∧ FnG W.P W.w W.K W.mg W.bs k f fd ps (spOf BR ps.length sem)
theorem Pm.of {st : Stmt} (Dd : Dn W x st f fd) (Sc : FnScope N ps (defScope st)) (wk : Wk W) (hb : ∀ X, Cs W X N (defScope st) (fun _ => true) k → PSs X (defBody st) (tS BR m)) : Pm BR W (k + 1) x st N ps (fnSem m ps.length N.length) := ⟨⟨f, fd, Dd, fn_keep Dd.F Sc wk hb⟩⟩
theorem Pm.cal {st : Stmt} {sem : Sem1 G} (P : Pm BR W k x st N ps sem) (hbi : ∀ f fd, Dn W x st f fd → Binds W.K fd ps []) : Cal BR W.P W.w W.K W.mg W.bs k x ps sem := by
  obtain ⟨f, fd, Dd, F⟩ := P.ex
  exact ⟨⟨f, fd, F, Dd.hm, Dd.F.kp, hbi f fd Dd⟩⟩
theorem Pm.calK {st : Stmt} {sem : Sem1 G} {gp : {α : Type} → List α → List α} (P : Pm BR W k x st N ps sem) (hbi : ∀ f fd, Dn W x st f fd → KBnd fd ps ks gp) (mem : ∀ {α : Type} (l : List α) (z : α), z ∈ gp l → z ∈ l) (len : ∀ {α : Type} (l : List α), l.length = ks.length → (gp l).length = ps.length)
    (rl : ∀ {H : Hp} {S : Addr → Prop} {F : List Addr} {ss : List Sv} {vs : List V}, ss.length = ks.length → SlotsR BR H S F ss vs → SlotsR BR H S F (gp ss) (gp vs)) : CalK BR W.P W.w W.K W.mg W.bs k x ps ks gp sem := by
  obtain ⟨f, fd, Dd, F⟩ := P.ex
  exact ⟨⟨f, fd, F, Dd.hm, Dd.F.kp, hbi f fd Dd⟩, mem, len, rl⟩
/-- every keyword: how they are bound -/
theorem kbnd {st : Stmt} {gp : {α : Type} → List α → List α} (Dd : Dn W x st f fd) (rel : ∀ {zs : List V} {ws : List Value}, Vals zs ws → Vals (gp zs) (gp ws))
    (h : ∀ (kV doc pm : Value) (an : Option Addr) (cdv ct : Value) (ws : List Value), ws.length = ks.length → bindArgs (PySem.W.fnOf x x (defArgs st) (defBody st) (defScope st) .none kV doc pm an cdv ct) ⟨[], ks.zip ws⟩ = pure (ps.zip (gp ws))) : KBnd fd ps ks gp := by
  obtain ⟨oc, od, dV, kV, doc, pm, an, cdv, ct, osl, rfl, lk, hcd, hD, hK⟩ := Dd.F.ex
  rcases hD with ⟨_, rfl⟩ | ⟨e, _⟩
  · exact ⟨fun s ws hl => .of_eq (h kV doc pm an cdv ct ws hl), rel⟩
  · exact absurd rfl e
/-! lists by places -/
def gpAt (ix : List Nat) {α : Type} (l : List α) : List α := ix.filterMap (l[·]?)
theorem gpAt_mem (ix : List Nat) {α : Type} (l : List α) (z : α) (h : z ∈ gpAt ix l) : z ∈ l := by
  obtain ⟨i, _, e⟩ := List.mem_filterMap.mp h
  exact List.mem_of_getElem? e
theorem gpAt_len (ix : List Nat) {n : Nat} (hx : ix.all (fun i => decide (i < n)) = true) {α : Type} (l : List α) (hl : l.length = n) : (gpAt ix l).length = ix.length := by
  induction ix with
  | nil => rfl
  | cons i r ih =>
    rw [List.all_cons, Bool.and_eq_true, decide_eq_true_eq] at hx
    unfold gpAt at ih ⊢
    rw [List.filterMap_cons_some (List.getElem?_eq_getElem (by omega)), List.length_cons, ih hx.2, List.length_cons]
theorem gpAt_vals (ix : List Nat) {zs : List V} {ws : List Value} (h : Vals zs ws) : Vals (gpAt ix zs) (gpAt ix ws) := by
  have hl := h.length
  induction ix with
  | nil => exact .nil
  | cons i r ih =>
    unfold gpAt at ih ⊢
    by_cases hi : i < zs.length
    · obtain ⟨u, hu, ru⟩ := h.get (List.getElem?_eq_getElem hi)
      rw [List.filterMap_cons_some (List.getElem?_eq_getElem hi), List.filterMap_cons_some hu]
      exact .cons ru ih
    · rw [List.filterMap_cons_none (List.getElem?_eq_none (by omega)), List.filterMap_cons_none (List.getElem?_eq_none (by omega))]
      exact ih
theorem gpAt_slots (ix : List Nat) {H : Hp} {S : Addr → Prop} {F : List Addr} {ss : List Sv} {vs : List V} (h : SlotsR BR H S F ss vs) : SlotsR BR H S F (gpAt ix ss) (gpAt ix vs) := by
  have hl := h.length
  induction ix with
  | nil => exact .nil
  | cons i r ih =>
    unfold gpAt at ih ⊢
    by_cases hi : i < ss.length
    · obtain ⟨u, hu, ru⟩ := h.get (List.getElem?_eq_getElem hi)
      rw [List.filterMap_cons_some (List.getElem?_eq_getElem hi), List.filterMap_cons_some hu]
      exact .cons ru ih
    · rw [List.filterMap_cons_none (List.getElem?_eq_none (by omega)), List.filterMap_cons_none (List.getElem?_eq_none (by omega))]
      exact ih
end
end Kd

end part_KdZ
section part_KdX
/-! Kd, part X: more built-ins: tuple * small, list(reversed(x)), max of a tuple, dict displays. -/
namespace Kd
open PySem PySem.Spec PyProof.Rows L2
section
variable {prog : Program} {w : World} {A : Around} {E : Value → Shared → Prop} {s : Shared}
theorem tuple_mulSame (l : Addr) (items : Array Value) (n : Nat) (dd : Option Addr) (sl : Array (Option Value)) (x : Int) (u : Tok) (c0 : (decide (x < -(2 ^ 63)) || decide (x ≥ 2 ^ 63)) = false) (c1 : (items.isEmpty || x == 1) = true) :
    Meets (Builtin.«tuple.__mul__» ⟨[.ref l, .int x u], []⟩) (fun _ R s => s.heap.get? l = some { cls := .type "tuple", dict := dd, data := .seq items n, slots := sl } ∧ R (.ok (.ret (Value.ref l))) s) :=
  .of_wp fun prog w A R s h => by
    obtain ⟨hp, g, d, tk, os⟩ := s
    obtain ⟨hl, h⟩ := h
    have f1 := AutoSeq1.idx_int
    wp_walk using wpAny_loadPart' hl
    repeat (first
      | (refine wpAny_ite_false (decide_eq_false (by rw [c0]; exact Bool.false_ne_true)) ?_; wp_walk using wpAny_loadPart' hl)
      | (refine wpAny_ite_true (decide_eq_true c1) ?_; wp_walk using wpAny_loadPart' hl))
    all_goals first | exact ⟨_, rfl, h⟩ | skip
theorem tuple_mulZero (l : Addr) (items : Array Value) (n : Nat) (dd : Option Addr) (sl : Array (Option Value)) (x : Int) (u : Tok) (c0 : (decide (x < -(2 ^ 63)) || decide (x ≥ 2 ^ 63)) = false) (c1 : (items.isEmpty || x == 1) = false) (c2 : (decide (x ≤ 0) || items.isEmpty) = true) :
    Meets (Builtin.«tuple.__mul__» ⟨[.ref l, .int x u], []⟩) (fun _ R s => s.heap.get? l = some { cls := .type "tuple", dict := dd, data := .seq items n, slots := sl } ∧
      R (.ok (.ret (Value.ref s.heap.objs.size))) { s with heap := s.heap.push { cls := Value.type "tuple", data := Data.seq #[] }, toks := s.toks }) :=
  .of_wp fun prog w A R s h => by
    obtain ⟨hp, g, d, tk, os⟩ := s
    obtain ⟨hl, h⟩ := h
    have f1 := AutoSeq1.idx_int
    wp_walk using wpAny_loadPart' hl
    repeat (first
      | (refine wpAny_ite_false (decide_eq_false (by rw [c0]; exact Bool.false_ne_true)) ?_; wp_walk using wpAny_loadPart' hl)
      | (refine wpAny_ite_false (decide_eq_false (by rw [c1]; exact Bool.false_ne_true)) ?_; wp_walk using wpAny_loadPart' hl)
      | (refine wpAny_ite_true (decide_eq_true c2) ?_; wp_walk using wpAny_loadPart' hl))
    all_goals first | exact ⟨_, rfl, h⟩ | skip
end
/-- t * k: t itself, or () -/
def rRepS (K : PySem.W.Frag) : R2 := fun x y H Q => ∃ l k xs, x = .ref l ∧ y = .int k ∧ SqT K H l xs ∧ -(2 ^ 63) ≤ k ∧ k < 2 ^ 63 ∧ (((xs = [] ∨ k = 1) ∧ Q (.ref l) H) ∨ (xs ≠ [] ∧ k ≤ 0 ∧ ∀ p, H p = none → Q (.ref p) (upd H p (.tup []))))
section
variable {X : Cx}
theorem op_repS : OpR X (binaryOp .Mult) (rRepS X.K) := by
  intro pins s σ H x y v u Q I rx ry h
  obtain ⟨l, k, xs, rfl, rfl, hT, h1, h2, q⟩ := h
  cases rx
  obtain ⟨t, rfl⟩ := ry
  obtain ⟨its, r, ⟨⟨cls, dd, data, sl⟩, ho, hc, n, hd⟩, hs⟩ := I.tuple hT
  simp only at hc hd
  subst hc hd
  have hle := r.length
  have hemp : its.toArray.isEmpty = xs.isEmpty := by
    cases r <;> rfl
  have c0 : (decide (k < -(2 ^ 63)) || decide (k ≥ 2 ^ 63)) = false := by
    rw [decide_eq_false (by omega), decide_eq_false (by omega)] <;> rfl
  have go : ∀ {Q' : Value → Shared → Prop}, wpAny (model X.prog X.w) X.A (call (.builtin "tuple.__mul__") [.ref l, .int k t]) Q' X.xe s → wpAny (model X.prog X.w) X.A (binaryOp .Mult (.ref l) (.int k t)) Q' X.xe s := fun {Q'} hh =>
    wpAny_binaryOp_repeat_ref (T := "tuple") (U := "int") (by decide) ⟨_, ho, rfl⟩ (fun s' => typeIs_int s' k t) noFill_tuple_mul F.fills_int_mul F.slot_int_rmul repeat_tuple F.slot_int_index.lookup
      (call_meets F.slot_int_rmul (typeIs_int s k t) F.entry_int_rmul (F.args_int_rmul_2 _ _) (int_rmul_tuple k t l its.toArray n dd sl) ⟨ho, rfl, ⟨_, ho, rfl⟩, hh⟩)
  rcases q with ⟨hk, q⟩ | ⟨hne, hk, q⟩
  · have c1 : (its.toArray.isEmpty || k == 1) = true := by
      rw [hemp]
      rcases hk with rfl | rfl
      · rfl
      · rw [Bool.or_eq_true]; exact .inr (beq_self_eq_true _)
    exact go (call_meets F.slot_tuple_mul ⟨_, ho, rfl⟩ F.entry_tuple_mul (F.args_tuple_mul_2 _ _) (tuple_mulSame l its.toArray n dd sl k t c0 c1) ⟨ho, ⟨.ref l, H, I.tok _, rfl, q⟩⟩)
  · have hi : its.toArray.isEmpty = false := by
      rw [hemp]
      cases xs with
      | nil => exact absurd rfl hne
      | cons a b => rfl
    have c1 : (its.toArray.isEmpty || k == 1) = false := by
      rw [hi, Bool.false_or]
      exact beq_eq_false_iff_ne.mpr (by omega)
    have c2 : (decide (k ≤ 0) || its.toArray.isEmpty) = true := by
      rw [decide_eq_true hk]; rfl
    refine go (call_meets F.slot_tuple_mul ⟨_, ho, rfl⟩ F.entry_tuple_mul (F.args_tuple_mul_2 _ _) (tuple_mulZero l its.toArray n dd sl k t c0 c1 c2) ⟨ho, ?_⟩)
    refine ⟨.ref s.heap.objs.size, _, I.laid (t' := s.toks) (o := .tup []) (fun b ob q => Heap.get?_push_of_some _ q) (Nat.le_refl _) ?_, rfl, q _ (I.hok.fresh (Nat.le_refl _))⟩
    exact ⟨Nat.zero_le _, [], .nil, IsTup.new _ _⟩
end
def mulS : D → D → Option D
  | .tuple xs, .int k => if -(2 ^ 63) ≤ k ∧ k < 2 ^ 63 then (if xs.isEmpty = true ∨ k = 1 then some (.tuple xs) else if k ≤ 0 then some (.tuple []) else none) else none
  | _, _ => none
section
variable {G : Type} {BR : BagR G} {W : Wd} {X : Cx} {N : List Str} {sc : Scope} {fb : Str → Bool} {lv : Nat} {p pos : Pos} {a b : Expr} {f h : EM G}
theorem ok_mulS : Ok2 BR (rRepS X.K) mulS := fun {H F S g x y d u v Q} A e r1 r2 k => by
  unfold mulS at e
  split at e
  · rename_i ds kk
    split at e
    · rename_i hb
      obtain ⟨a, vs, rfl, ha, l1, q1⟩ := r1.tup
      refine ⟨a, kk, vs, rfl, r2.int, SqT.of ha, hb.1, hb.2, ?_⟩
      split at e
      · rename_i hk
        cases e
        refine .inl ⟨?_, Ret.here k A (.tup ha l1 q1)⟩
        rcases hk with hk | hk
        · cases q1 with
          | nil => exact .inl rfl
          | cons _ _ => cases hk
        · exact .inr hk
      · rename_i hk
        split at e
        · rename_i hz
          cases e
          refine .inr ⟨fun z => ?_, hz, Ret.tup k A (Nat.zero_le _) .nil⟩
          subst z
          cases q1
          exact hk (.inl rfl)
        · cases e
    · cases e
  · cases e
def mulX (x y : D) : Option D := (mulD x y).or (mulS x y)
theorem oMulX (ha : PE X a (tB BR f)) (hb : PE X b (tB BR h)) : PE X (.BinOp a .Mult b p) (tV BR (bin mulX f h)) := ce_bin ((op_mul.or (op_repT.or op_rep)).or op_repS) (Ok2.or (Ok2.or ok_mulI (Ok2.or ok_mulT ok_mulL)) ok_mulS) ha hb

/-! ### max of a tuple of ints -/
end
theorem readsI (h : Heap) : ∀ {ns : List Int} {us : List Value}, Vals (ns.map V.int) us → ReadsAll h us (ns.map PyData.int) []
  | [], _, .nil => .nil
  | n :: ns, _, .cons r t => by
    obtain ⟨k, rfl⟩ := r
    exact .cons (as := []) (.int n k) (readsI h t)
theorem depthI : ∀ ns : List Int, PyData.depthAll (ns.map PyData.int) ≤ 1
  | [] => by simp [PyData.depthAll]
  | n :: ns => by
    have := depthI ns
    rw [List.map_cons]
    simp only [PyData.depthAll, PyData.depth]
    omega
theorem alikeI (ns : List Int) : PySem.W.AlikeAll (ns.map PyData.int) := by
  refine ⟨fun x hx y hy => ?_, fun x hx e => ?_⟩
  · obtain ⟨a, _, rfl⟩ := List.mem_map.mp hx
    obtain ⟨b, _, rfl⟩ := List.mem_map.mp hy
    rfl
  · obtain ⟨a, _, rfl⟩ := List.mem_map.mp hx
    cases e
section
variable {X : Cx}
def rMaxT (K : PySem.W.Frag) : List V → Hp → VK → Prop := fun vs H Q => ∃ (a : Addr) (n : Int) (ns : List Int), vs = [V.ref a] ∧ SqT K H a ((n :: ns).map V.int) ∧ Q (.int (ns.foldl max n)) H
theorem cr_maxT (hc : X.calm = true) (hu : X.A.units + 64 < cLine) : CallR X (.builtin "max") (rMaxT X.K) := by
  intro pins s σ H vs us Q I r h
  obtain ⟨a, n, ns, rfl, hs, q⟩ := h
  obtain ⟨its, rv, hl, _⟩ := I.tuple hs
  rw [Vals.ref1 r]
  have hr : ReadsAll s.heap its.toArray.toList (PyData.int n :: ns.map PyData.int) [] := by
    have := readsI s.heap rv
    simpa using this
  have hd := depthI (n :: ns)
  rw [List.map_cons] at hd
  refine PySem.W.max_tuple_data (I.ok.hd hc) (show s.heap.IsTuple a its.toArray from hl) hr (alikeI (n :: ns)) (by omega) fun i v h' tk bs hv hrd hk => ?_
  rw [PySem.W.maxD_ints] at hrd
  cases hrd with
  | int i t => exact ⟨.int _, H, I.kept (t' := tk) hk, ⟨_, rfl⟩, q⟩
end
def max1D : D → Option D
  | .tuple (.int n :: r) => (ints? r).map fun ns => .int (ns.foldl max n)
  | _ => none
section
variable {G : Type} {BR : BagR G} {W : Wd} {X : Cx} {N : List Str} {sc : Scope} {fb : Str → Bool} {lv : Nat} {p pos p2 pos2 : Pos} {a b : Expr} {f h : EM G}
theorem ok_max1 : Ok1 BR (fun u H Q => rMaxT X.K [u] H Q) max1D := fun {H F S g x d u Q} A e r k => by
  unfold max1D at e
  split at e
  · rename_i n rr
    obtain ⟨ns, h1, rfl⟩ := Option.map_eq_some_iff.mp e
    obtain ⟨a, vs, rfl, h, l, q⟩ := r.tup
    have he := ints?_eq h1
    subst he
    have hv : vs = (n :: ns).map V.int := by
      have : RpL H S vs ((n :: ns).map PyData.int) := q
      exact this.ints
    subst hv
    exact ⟨a, n, ns, rfl, SqT.of h, Ret.here k A (.int _)⟩
  · cases e
theorem Cq.max1 (q : Cq W X N sc fb lv) (g : gimp sc "max" = true) (na : noStar a = true) (ha : PE X a (tB BR f)) : PE X (.Call (.Name "max" p) [a] [] pos) (tV BR (un max1D f)) := ce_call1 (cr_maxT q.calm q.u64) ok_max1 (q.bn g (by decide) boot_max) na ha
end
/-! ### list(reversed(x)), x a list -/
section
variable {prog : Program} {w : World} {A : Around} {E : Value → Shared → Prop} {s : Shared}
theorem init_rev {R : Result → Shared → Prop} {it l : Addr} {items : Array Value} (hh : A.handled = none) (hit : s.heap.IsRevIter it l ((items.size : Int) - 1)) (hl : s.heap.IsList l items) (hne : l ≠ it) (hn : items.size ≤ sizeLine) (S : Addr) (hS : s.heap.get? S = some { cls := .type "list", data := .seq #[] }) (hSl : S ≠ l)
    (hR : ∀ h' tk acc' c', (∀ b o, b ≠ S → b ≠ it → s.heap.get? b = some o → h'.get? b = some o) → h'.get? S = some { cls := .type "list", dict := none, data := .seq acc' c', slots := #[] } → ItemsOf (fun i v => items[items.size - 1 - i]? = some v) acc' items.size → R (.ok (.ret .none)) { s with heap := h', toks := tk }) :
    wpAny (model prog w) A.in1 (Builtin.«list.__init__» ⟨[.ref S, .ref it], []⟩)
      (fun fin s' => match fin with | .done f => R (.ok f) s' | .again c' => c'.quiet = true ∧ codeAny (model prog w) A c' R s') (fun e s' => R (.error e) s') s := by
  have Wk := (Walks.listRev (prog := prog) (w := w) (A := A.in1) hh it l hne items).toS
  obtain ⟨oi, hoi, hci, hdi⟩ := id hit
  have hSi : S ≠ it := fun e => by
    rw [← e, hS] at hoi
    cases hoi
    cases hdi
  have hSf : S ∉ [it, l] := by
    simp only [List.mem_cons, List.not_mem_nil, or_false, not_or]
    exact ⟨hSi, hSl⟩
  show wpAny _ _ (do let old ← Builtin.List.listItems (.ref S); Builtin.List.listUpdate (.ref S) (fun _ => #[]); letGo old.toList.reverse; Builtin.List.listExtendWith (.ref S) (.ref it) .none) _ _ s
  refine wpAny_bind ?_
  unfold Builtin.List.listItems
  refine wpAny_bind (wpAny_seqItems hS rfl (wpAny_pure ?_))
  show wpAny _ _ (updateSeq S (fun _ => #[]) >>= fun _ => letGo (#[] : Array Value).toList.reverse >>= fun _ => Builtin.List.listExtendWith (.ref S) (.ref it) .none) _ _ s
  refine wpAny_bind (wpAny_updateSeq hS rfl ?_)
  have hS2 := Heap.get?_update_self (Obj.mapSeq (fun _ => (#[] : Array Value))) hS rfl
  have oth : ∀ b o, b ≠ S → s.heap.get? b = some o → (s.heap.update S (Obj.mapSeq (fun _ => (#[] : Array Value)))).get? b = some o := fun b o hb e => (Heap.get?_update_other _ _ (Ne.symm hb)).trans e
  refine wpAny_bind (wpAny_letGo ?_)
  have hit1 : (s.heap.update S (Obj.mapSeq (fun _ => (#[] : Array Value)))).IsRevIter it l ((items.size : Int) - 1) := hit.at fun o e => oth _ _ (Ne.symm hSi) e
  have hl1 : (s.heap.update S (Obj.mapSeq (fun _ => (#[] : Array Value)))).IsList l items := by
    obtain ⟨o, ho, r⟩ := hl
    exact ⟨o, oth _ _ (Ne.symm hSl) ho, r⟩
  have hT : ({ s with heap := s.heap.update S (Obj.mapSeq (fun _ => (#[] : Array Value))) } : Shared).TypeIs (.ref it) "list_reverseiterator" := Heap.IsRevIter.typeIs (s := { s with heap := s.heap.update S (Obj.mapSeq (fun _ => (#[] : Array Value))) }) hit1
  have h1 : Builtin.List.listSameRef (.ref S) (.ref it) = false := by simp [Builtin.List.listSameRef, hSi]
  unfold Builtin.List.listExtendWith
  refine wpAny_bind (wpAny_typeOf hT ?_)
  rw [if_neg (by rw [h1]; decide)]
  refine wpAny_bind (wpAny_pyIter_revIter (s := { s with heap := s.heap.update S (Obj.mapSeq (fun _ => (#[] : Array Value))) }) hit1 ?_)
  refine wpAny_bind (wpAny_holding ?_)
  unfold Builtin.List.listLengthHint
  refine wpAny_bind (wpAny_specialOf hT RT.nolen_lri ?_)
  show wpAny _ A.in1 (specialOf (Value.ref it) (Str.ofString "__length_hint__") >>= _) _ _ _
  refine wpAny_bind (wpAny_specialOf hT RT.hint_lri ?_)
  generalize hid : ("list_reverseiterator.__length_hint__" : String) = id0
  wp_delta
  rw [show splitId id0 = some ("list_reverseiterator", "__length_hint__") from by subst hid; decide +kernel]
  subst hid
  refine wpAny_bind (wpAny_isInstance (b := true) hT (by rw [isSubtype_type]; kernel_rfl) ?_)
  refine wpAny_pure ?_
  rw [if_neg (by decide)]
  have e0 : ((items.size : Nat) : Int) - 1 - ((0 : Nat) : Int) = (items.size : Int) - 1 := by omega
  refine wpAny_pure ⟨plainId_quiet F.plain_extend_loop _, codeAny_extend_loopS Wk hn _ hSf _ items.size 0 _ _ _ rfl (Nat.zero_le _) ⟨Nat.zero_le _, by rw [e0]; exact hit1, hl1⟩ hS2 (ItemsOf.nil _) fun s' acc' c' hm hS' hacc => ?_⟩
  rw [Moved.eq_with hm]
  refine hR s'.heap s'.toks acc' c' (fun b o hb hb2 e => hm.heap b o (fun hmem => ?_) (oth b o hb e)) hS' hacc
  rcases List.mem_cons.mp hmem with e' | hmem
  · exact hb e'
  · exact hb2 (List.mem_singleton.mp hmem)
theorem call_list_rev {Q : Value → Shared → Prop} {it l : Addr} {items : Array Value} (hh : A.handled = none) (hit : s.heap.IsRevIter it l ((items.size : Int) - 1)) (hl : s.heap.IsList l items) (hne : l ≠ it) (hn : items.size ≤ sizeLine)
    (hQ : ∀ h' tk acc' c', (∀ b o, b ≠ it → s.heap.get? b = some o → h'.get? b = some o) → h'.get? s.heap.objs.size = some { cls := .type "list", dict := none, data := .seq acc' c', slots := #[] } → ItemsOf (fun i v => items[items.size - 1 - i]? = some v) acc' items.size →
      Q (.ref s.heap.objs.size) { s with heap := h', toks := tk }) : wpAny (model prog w) A (call (.type "list") [.ref it]) Q E s := by
  refine callType_codes (Q₁ := fun obj s₁ => obj = .ref s.heap.objs.size ∧ s₁ = { s with heap := s.heap.push { cls := .type "list", data := .seq #[] } }) F.called_list (F.typeCall_list_1 _) F.entry_list_init (code_list_new _ ⟨rfl, rfl⟩) fun obj s₁ h₁ => ?_
  obtain ⟨rfl, rfl⟩ := h₁
  have hS : (s.heap.push { cls := .type "list", data := .seq #[] }).get? s.heap.objs.size = some { cls := .type "list", data := .seq #[] } := Heap.get?_push_size _ rfl
  obtain ⟨ol, hol, _⟩ := id hl
  refine ⟨⟨_, hS, rfl⟩, F.args_list_init_2 _ _, init_rev (A := A.in1) hh (hit.at fun o e => Heap.get?_push_of_some _ e) (hl.push _) hne hn _ hS (Nat.ne_of_gt (Heap.lt_size hol)) fun h' tk acc' c' hk hS' hacc => ?_⟩
  exact ⟨rfl, hQ h' tk acc' c' (fun b o hb e => hk b o (Nat.ne_of_lt (Heap.lt_size e)) hb (Heap.get?_push_of_some _ e)) hS' hacc⟩
end
section
variable {X : Cx} {p p2 pos pos2 : Pos} {e : Expr} {te : TE}
def tListRev (K : PySem.W.Frag) (te : TE) : TE := fun σ H Q => te σ H fun v H1 => ∃ (a : Addr) (xs : List V), v = .ref a ∧ SqL K H1 a xs ∧ ∀ q, H1 q = none → Q (.ref q) (upd H1 q (.lst xs.reverse))
theorem pe_listRev (hc : X.calm = true) (hg : Gl X "list") (hm : X.mg "list" = none) (hg2 : Gl X "reversed") (hm2 : X.mg "reversed" = none) (ne : noStar e = true) (he : PE X e te) :
    PE X (.Call (.Name "list" p) [.Call (.Name "reversed" p2) [e] [] pos2] [] pos) (tListRev X.K te) := by
  refine ⟨fun pins s σ H Q I h => ?_⟩
  have hs := starEach_ns ne [] X.env
  have hs2 : starEach [Expr.Call (.Name "reversed" p2) [e] [] pos2] X.env = (false, eval (.Call (.Name "reversed" p2) [e] [] pos2) X.env) :: starEach [] X.env := rfl
  refine Call_ (ld_blt I hg hm boot_list (PyProof.Rows.callWith_type1 (args_cons (Call_ (ld_blt I hg2 hm2 PyProof.Rows.boot_reversed (PyProof.Rows.callWith_type1 (args_cons (thn (he.run pins s σ H _ I h) fun u s1 ⟨v, H1, I1, r1, q1⟩ => args_nil ?_) hs) hs rfl))) hs2) hs2 rfl))
  obtain ⟨a, xs, ev, hq, q⟩ := q1
  subst ev
  obtain rfl : u = Value.ref a := r1
  obtain ⟨its, rv, p', hz⟩ := I1.list hq
  refine call_reversed_list p'.isList (args_nil ?_)
  have k0 : ∀ b o, s1.heap.get? b = some o → (s1.heap.push (revObj a ((its.toArray.size : Int) - 1))).get? b = some o := fun b o e => Heap.get?_push_of_some _ e
  have I2 : Inv X pins σ H1 { s1 with heap := s1.heap.push (revObj a ((its.toArray.size : Int) - 1)) } := I1.kept (t' := s1.toks) k0
  obtain ⟨f0, f1, f2, f3, f4, f5⟩ := I1.fpOk (H' := H1) (b := s1.heap.objs.size) (Nat.le_refl _) (I1.hok.fresh (Nat.le_refl _))
  have hl := p'.isList
  obtain ⟨ol, hol, _⟩ := id hl
  have hne : a ≠ s1.heap.objs.size := Nat.ne_of_lt (Heap.lt_size hol)
  have hn : its.toArray.size ≤ sizeLine := by rw [List.size_toArray, ← rv.length]; exact hz
  have sz2 : (s1.heap.push (revObj a ((its.toArray.size : Int) - 1))).objs.size = s1.heap.objs.size + 1 := Heap.size_push _ _
  refine call_list_rev (s := { s1 with heap := s1.heap.push (revObj a ((its.toArray.size : Int) - 1)) }) (I1.ok.hd hc) ⟨_, Heap.get?_push_size _ rfl, rfl, rfl⟩ (hl.push _) hne hn fun h' tk acc c' hk hS hi => ?_
  have fr : H1 (s1.heap.push (revObj a ((its.toArray.size : Int) - 1))).objs.size = none := I2.hok.fresh (Nat.le_refl _)
  have lenA : acc.size = xs.length := by rw [hi.1, List.size_toArray, ← rv.length]
  refine ⟨.ref _, upd H1 (s1.heap.push (revObj a ((its.toArray.size : Int) - 1))).objs.size (.lst xs.reverse), I2.turnedNew (t' := tk) (ch := [s1.heap.objs.size]) (fun b o hb e => hk b o (fun z => hb (by simp [z])) e) (fun c hcm => ?_) (Nat.le_refl _) ?_, rfl, q _ fr⟩
  · rw [List.mem_singleton.mp hcm]
    exact ⟨f0, f1, f2, f3, f4, f5⟩
  · refine ⟨by rw [List.length_reverse]; exact hz, acc.toList, c', RT.vals_rev rv hi, ?_⟩
    rw [Array.toArray_toList]
    exact hS
end
end Kd

end part_KdX
section part_KdV
/-! Kd, part V: dict displays, list(reversed(x)), zip of three tuples. -/
namespace Kd
open PySem PySem.Spec PyProof.Rows L2
def revD : D → Option D
  | .list xs => some (.list xs.reverse)
  | _ => none
section
variable {G : Type} {BR : BagR G} {W : Wd} {X : Cx} {N : List Str} {sc : Scope} {fb : Str → Bool} {lv : Nat} {p pos p2 pos2 : Pos} {a b k v : Expr} {f h fk fv : EM G}
theorem Cq.listRev (q : Cq W X N sc fb lv) (g : gimp sc "list" = true) (g2 : gimp sc "reversed" = true) (na : noStar a = true) (ha : PE X a (tB BR f)) : PE X (.Call (.Name "list" p) [.Call (.Name "reversed" p2) [a] [] pos2] [] pos) (tF BR (un revD f)) :=
  PE.imp (pe_listRev q.calm (q.gl g) (q.fr _ (by decide)) (q.gl g2) (q.fr _ (by decide)) na ha) fun σ H Q ⟨ρ, F, S, g, R, d, g', e, kk⟩ => by
    obtain ⟨x, e1, hz⟩ := un_eq e
    refine ⟨ρ, F, S, g, R, x, g', e1, fun v H1 F1 S1 E1 b1 r1 => ?_⟩
    unfold revD at hz
    split at hz
    · cases hz
      obtain ⟨a, vs, rfl, h, l, q⟩ := r1.lst
      refine ⟨a, vs, rfl, SqL.of h, fun r hr => ?_⟩
      have A1 := E1.amb b1
      obtain ⟨E2, b2⟩ := A1.new (o := .lst vs.reverse) hr
      exact kk r _ F1 S1 (E1.trans R.amb E2) b2 (E1.back hr (A1.notF hr)) (A1.notS hr) (A1.notF hr) (.lst upd_same (by rw [List.length_reverse]; exact l) (q.reverse.kp (E2.kp A1)))
    · cases hz
/-! ### dict displays -/
def dnewM : EM G := fun _ g => some (.ok (.dict []) g)
theorem ce_dnew : PE X (.Dict [] [] pos) (tF BR dnewM) := PE.imp pe_dnewK fun σ H Q ⟨ρ, F, S, g, R, d, g', e, k⟩ => by
  cases e
  intro p hp
  obtain ⟨E2, b2⟩ := R.amb.new (o := .dK []) hp
  exact k p _ F S E2 b2 hp (R.amb.notS hp) (R.amb.notF hp) (.dic upd_same .nil)
def pairsM : List (EM G × EM G) → Mn G (List (Key × D))
  | [] => fun _ g => some (.ok [] g)
  | (a, b) :: r => fun ρ g => Rs.bind (a ρ g) fun x g1 => Rs.bind (b ρ g1) fun y g2 => Rs.bind (pairsM r ρ g2) fun ps g3 => match keyD x with
    | some k => some (.ok ((k, y) :: ps) g3)
    | none => none
def mergeP (acc : List (D × D)) (more : List (Key × D)) : List (D × D) := more.foldl (fun acc p => putP acc p.1 p.2) acc
def dispM (kvs : List (EM G × EM G)) : EM G := fun ρ g => Rs.bind (pairsM kvs ρ g) fun ps g1 => some (.ok (.dict (mergeP [] ps)) g1)
theorem RpK.cons {H : Hp} {S : Addr → Prop} {k : Key} {v : V} {d : D} {r : List (Key × V)} {ps : List (D × D)} (a : Rp H S v d) (b : RpK H S r ps) : RpK H S ((k, v) :: r) ((kD k, d) :: ps) := by
  cases k with
  | inl i => exact .int a b
  | inr x => exact .str a b
theorem RpK.merge {H : Hp} {S : Addr → Prop} : ∀ {kvs : List (Key × V)} {ps : List (Key × D)} {acc : List (Key × V)} {pacc : List (D × D)}, RpK H S kvs (ps.map fun p => (kD p.1, p.2)) → RpK H S acc pacc → kvs.map (·.1) = ps.map (·.1) → RpK H S (mergeK acc kvs) (mergeP pacc ps)
  | [], [], _, _, _, r, _ => r
  | [], _ :: _, _, _, h, _, _ => by cases h
  | _ :: _, [], _, _, h, _, _ => by cases h
  | (k, v) :: kvs, (k', d) :: ps, acc, pacc, h, r, e => by
    have e1 : k = k' := by
      have := congrArg List.head? e
      simpa using this
    have e2 : kvs.map (·.1) = ps.map (·.1) := by
      have := congrArg List.tail e
      simpa using this
    subst e1
    have hv : Rp H S v d ∧ RpK H S kvs (ps.map fun p => (kD p.1, p.2)) := by
      rw [List.map_cons] at h
      cases k with
      | inl i => cases h with | int a b => exact ⟨a, b⟩
      | inr i => cases h with | str a b => exact ⟨a, b⟩
    show RpK H S (mergeK (L2.putK acc k v) kvs) (mergeP (putP pacc k d) ps)
    exact RpK.merge hv.2 (r.put hv.1) e2
def tPM (BR : BagR G) (kvs : List (EM G × EM G)) (trs : List (TE × TE)) : Prop := ∀ (σ : L2.St) (H : Hp) (Q : List (V × V) → Hp → Prop), (∃ ρ F S g, RelE BR σ H ρ F S g ∧ ∃ ps g', pairsM kvs ρ g = some (.ok ps g') ∧
  ∀ (vs : List (Key × V)) H' F' S', Ext H F S H' F' S' → BR.R F' H' g' → RpK H' S' vs (ps.map fun p => (kD p.1, p.2)) → vs.map (·.1) = ps.map (·.1) → vs.length = kvs.length → Q (vs.map fun kv => (kV kv.1, kv.2)) H') → tPairs trs σ H Q
structure CD (BR : BagR G) (X : Cx) (pos : Pos) (keys : List (Option Expr)) (values : List Expr) (kvs : List (EM G × EM G)) : Prop where
  ex : ∃ trs, PPs X pos keys values trs ∧ tPM BR kvs trs
theorem cd_nil : CD BR X pos [] [] ([] : List (EM G × EM G)) := ⟨[], pps_nil, fun σ H Q ⟨ρ, F, S, g, R, ps, g', e, k⟩ => by
  cases e
  exact k [] H F S (Ext.refl R.amb) R.amb.bag .nil rfl rfl⟩
theorem cd_cons {ks : List (Option Expr)} {vs : List Expr} {kvs : List (EM G × EM G)} (hk : PE X k (tV BR fk)) (hv : PE X v (tV BR fv)) (hr : CD BR X pos ks vs kvs) : CD BR X pos (some k :: ks) (v :: vs) ((fk, fv) :: kvs) := by
  obtain ⟨trs, h1, h2⟩ := hr.ex
  refine ⟨_, pps_cons hk hv h1, fun σ H Q ⟨ρ, F, S, g, R, ps, g', e, kk⟩ => ?_⟩
  obtain ⟨x, g1, e1, e⟩ := Rs.bind_eq e
  obtain ⟨y, g2, e2, e⟩ := Rs.bind_eq e
  obtain ⟨qs, g3, e3, e⟩ := Rs.bind_eq e
  split at e
  · rename_i key hkey
    cases e
    refine ⟨ρ, F, S, g, R, x, g1, e1, fun v1 H1 F1 S1 E1 b1 r1 => ?_⟩
    have R1 := R.later E1 b1
    refine ⟨ρ, F1, S1, g1, R1, y, g2, e2, fun v2 H2 F2 S2 E2 b2 r2 => ?_⟩
    have R2 := R1.later E2 b2
    refine h2 σ H2 _ ⟨ρ, F2, S2, g2, R2, qs, _, e3, fun us H3 F3 S3 E3 b3 r3 m3 l3 => ?_⟩
    have ek := keyV (F := F1) r1.b hkey
    subst ek
    exact kk ((key, v2) :: us) H3 F3 S3 ((E1.trans R.amb E2).trans R.amb E3) b3 (RpK.cons (r2.kp (E3.kp R2.amb)) r3) (by rw [List.map_cons, List.map_cons, m3]) (by rw [List.length_cons, List.length_cons, l3])
  · cases e
theorem ce_disp {keys : List (Option Expr)} {values : List Expr} {kvs : List (EM G × EM G)} (h : CD BR X pos keys values kvs) (hall : keys.all (·.isSome) = true) (hl : keys.length = values.length) (h0 : keys ≠ []) (h15 : keys.length ≤ 15 ∧ kvs.length ≤ 15) : PE X (.Dict keys values pos) (tF BR (dispM kvs)) := by
  obtain ⟨trs, h1, h2⟩ := h.ex
  refine PE.imp (pe_disp h1 hall hl h0 h15.1) fun σ H Q ⟨ρ, F, S, g, R, d, g', e, k⟩ => fun p hp => ?_
  obtain ⟨ps, g1, e1, e⟩ := Rs.bind_eq e
  cases e
  obtain ⟨E1, b1⟩ := R.amb.new (o := .dK []) hp
  have R1 := R.later E1 b1
  have nS := R.amb.notS hp
  have nF := R.amb.notF hp
  refine h2 σ _ _ ⟨ρ, F, S, g, R1, ps, _, e1, fun vs H2 F2 S2 E2 b2 r2 m2 l2 => ?_⟩
  have hp2 : H2 p = some (.dK []) := E2.keep p _ upd_same nF
  have nF2 : p ∉ F2 := E2.notF upd_same nF
  have nS2 : ¬ S2 p := E2.notS upd_same nS
  refine ⟨hp2, vs, rfl, by rw [l2]; exact h15.2, ?_⟩
  have kk := kpOwn (o := .dK (mergeK [] vs)) hp2 trivial nS2
  exact k p _ F2 S2 ((E1.trans R.amb E2).own hp nS2) (bagOwn b2 nF2) hp nS2 nF2 (.dic upd_same ((RpK.merge r2 .nil m2).kp kk))
end
end Kd
namespace Kd
open PySem PySem.Spec PyProof.Rows L2
/-! ### zip of three tuples -/
def Itz3 (K : PySem.W.Frag) (a b c : Addr) : It where
  go := fun i H => ∃ (xs ys zs : List V) (x y z : V), SqT K H a xs ∧ SqT K H b ys ∧ SqT K H c zs ∧ xs[i]? = some x ∧ ys[i]? = some y ∧ zs[i]? = some z
  yld := fun i H v H' => ∃ T x y z, v = .ref T ∧ H T = none ∧ H' = upd H T (.tup [x, y, z]) ∧ (∀ l, SqT K H a l → l[i]? = some x) ∧ (∀ l, SqT K H b l → l[i]? = some y) ∧ ∀ l, SqT K H c l → l[i]? = some z
  stop := fun i H => ∃ xs ys zs : List V, SqT K H a xs ∧ SqT K H b ys ∧ SqT K H c zs ∧ i = min (min xs.length ys.length) zs.length
theorem turnZ3 {Pp : Program} {wo : World} {K : PySem.W.Frag} {elts : List Expr} {kk : Nat} {tpos : Pos} {a b c z TI TO i1 i2 i3 : Addr} (D : ZipSep3 z TI TO i1 i2 i3 [i1, a] [i2, b] [i3, c]) :
    Turn Pp wo K (.Tuple elts kk tpos) (Itz3 K a b c) [z, TI, TO, i1, i2, i3] z
      (fun i h => IsZip h z TI TO .none ∧ IsTupOf3 h TI (.ref i1) (.ref i2) (.ref i3) ∧ (∃ x y u, IsTupOf3 h TO x y u) ∧ h.IsTupleIter i1 a i ∧ h.IsTupleIter i2 b i ∧ h.IsTupleIter i3 c i ∧ a ≠ i1 ∧ b ≠ i2 ∧ c ≠ i3) where
  mem := by simp
  obj := fun i h st q hq => by
    obtain ⟨hz, hTI, ⟨x, y, u, hTO⟩, ⟨o1, e1, _, d1⟩, ⟨o2, e2, _, d2⟩, ⟨o3, e3, _, d3⟩, _⟩ := st
    have e' : q = z ∨ q = TI ∨ q = TO ∨ q = i1 ∨ q = i2 ∨ q = i3 := by simpa using hq
    rcases e' with r | r | r | r | r | r
    · rw [r]; exact ⟨_, hz, fun v q => nomatch q⟩
    · rw [r]; exact ⟨_, hTI, fun v q => nomatch q⟩
    · rw [r]; exact ⟨_, hTO, fun v q => nomatch q⟩
    · rw [r]; exact ⟨o1, e1, fun v q => by rw [d1] at q; cases q⟩
    · rw [r]; exact ⟨o2, e2, fun v q => by rw [d2] at q; cases q⟩
    · rw [r]; exact ⟨o3, e3, fun v q => by rw [d3] at q; cases q⟩
  keep := fun i h h' st k => by
    obtain ⟨hz, hTI, ⟨x, y, u, hTO⟩, h1, h2, h3, na, nb, nc⟩ := st
    exact ⟨k z (by simp) _ hz, k TI (by simp) _ hTI, ⟨x, y, u, k TO (by simp) _ hTO⟩, h1.at fun o q => k i1 (by simp) o q, h2.at fun o q => k i2 (by simp) o q, h3.at fun o q => k i3 (by simp) o q, na, nb, nc⟩
  item := by
    intro X hP hw hK hc i pins s σ H E I hf st hg
    subst hP hw hK
    obtain ⟨hz, hTI, ⟨x0, y0, u0, hTO⟩, h1, h2, h3, na, nb, nc⟩ := st
    obtain ⟨xs, ys, zs, x, y, u, hqx, hqy, hqu, hx, hy, hu⟩ := hg
    obtain ⟨its, rv, p1, _⟩ := I.tuple hqx
    obtain ⟨its2, rv2, p2, _⟩ := I.tuple hqy
    obtain ⟨its3, rv3, p3, _⟩ := I.tuple hqu
    obtain ⟨v1, hv1, rv1⟩ := rv.get hx
    obtain ⟨v2, hv2, rvv2⟩ := rv2.get hy
    obtain ⟨v3, hv3, rvv3⟩ := rv3.get hu
    have hzl : z < s.heap.objs.size := Heap.lt_size hz
    have D1 := Draws.tuple (prog := X.prog) (w := X.w) (A := X.A.in1) (I.ok.hd hc) i1 a na its.toArray
    have D2 := Draws.tuple (prog := X.prog) (w := X.w) (A := X.A.in1) (I.ok.hd hc) i2 b nb its2.toArray
    have D3 := Draws.tuple (prog := X.prog) (w := X.w) (A := X.A.in1) (I.ok.hd hc) i3 c nc its3.toArray
    have l1 : i < its.toArray.size := by have := (List.getElem?_eq_some_iff.mp hv1).1; simpa using this
    have l2 : i < its2.toArray.size := by have := (List.getElem?_eq_some_iff.mp hv2).1; simpa using this
    have l3 : i < its3.toArray.size := by have := (List.getElem?_eq_some_iff.mp hv3).1; simpa using this
    refine wpAny_pyNext_zipD3_item D D1 D2 D3 hz hTI hTO ⟨h1, show s.heap.IsTuple a its.toArray from p1⟩ ⟨h2, show s.heap.IsTuple b its2.toArray from p2⟩ ⟨h3, show s.heap.IsTuple c its3.toArray from p3⟩ l1 l2 l3 fun w1 w2 w3 h' tk e1 e2 e3 z' TO' s1' s2' s3' hT hsz hk => ?_
    have q1 : w1 = v1 := by
      have e1' : its[i]? = some w1 := by simpa using e1
      rw [hv1] at e1'; exact (Option.some.inj e1').symm
    have q2 : w2 = v2 := by
      have e2' : its2[i]? = some w2 := by simpa using e2
      rw [hv2] at e2'; exact (Option.some.inj e2').symm
    have q3 : w3 = v3 := by
      have e3' : its3[i]? = some w3 := by simpa using e3
      rw [hv3] at e3'; exact (Option.some.inj e3').symm
    subst q1 q2 q3
    refine ⟨_, rfl, wpAny_letOwnedTupleGo_zip (s := { s with heap := h', toks := tk }) z' fun h'' z'' sb => ?_⟩
    have hT2 : h''.get? s.heap.objs.size = some { cls := .type "tuple", data := .seq #[w1, w2, w3] } := (sb.2 _ (Nat.ne_of_gt hzl)).trans hT
    have new : ObjOk X.prog X.w (upd H s.heap.objs.size (.tup [x, y, u])) h'' s.heap.objs.size (.tup [x, y, u]) :=
      ⟨by show 3 ≤ sizeLine; decide, [w1, w2, w3], .cons rv1 (.cons rvv2 (.cons rvv3 .nil)), ⟨_, hT2, rfl, _, rfl⟩⟩
    have I1 : Inv X pins σ (upd H s.heap.objs.size (.tup [x, y, u])) { s with heap := h'', toks := tk } :=
      I.turnedNew (t' := tk) (ch := [z, TI, TO, i1, i2, i3]) (fun b o hb q => (sb.2 b (fun q' => hb (by simp [q']))).trans (hk b o (fun q' => hb (by simp [q'])) (fun q' => hb (by simp [q'])) (fun q' => hb (by simp [q'])) (fun q' => hb (by simp [q'])) (fun q' => hb (by simp [q'])) q)) hf (Nat.le_refl _) new
    refine ⟨.ref s.heap.objs.size, _, I1, rfl, ⟨_, x, y, u, rfl, I.hok.fresh (Nat.le_refl _), rfl, fun l hl => by rw [I.tuple_inj hl hqx]; exact hx, fun l hl => by rw [I.tuple_inj hl hqy]; exact hy, fun l hl => by rw [I.tuple_inj hl hqu]; exact hu⟩, ⟨z'', ?_, ⟨w1, w2, w3, ?_⟩, ?_, ?_, ?_, na, nb, nc⟩, fun b hb => ?_⟩
    · exact (sb.2 _ D.TIz).trans (hk _ _ D.TIz D.TITO D.TIi1 D.TIi2 D.TIi3 hTI)
    · exact (sb.2 _ D.TOz).trans TO'
    · exact s1'.1.at fun o q => (sb.2 _ (Ne.symm D.zi1)).trans q
    · exact s2'.1.at fun o q => (sb.2 _ (Ne.symm D.zi2)).trans q
    · exact s3'.1.at fun o q => (sb.2 _ (Ne.symm D.zi3)).trans q
    · have hlt : b < s.heap.objs.size := by
        have e' : b = z ∨ b = TI ∨ b = TO ∨ b = i1 ∨ b = i2 ∨ b = i3 := by simpa using hb
        rcases e' with q | q | q | q | q | q
        · rw [q]; exact hzl
        · rw [q]; exact Heap.lt_size hTI
        · rw [q]; exact Heap.lt_size hTO
        · rw [q]; obtain ⟨_, e1, _⟩ := h1; exact Heap.lt_size e1
        · rw [q]; obtain ⟨_, e1, _⟩ := h2; exact Heap.lt_size e1
        · rw [q]; obtain ⟨_, e1, _⟩ := h3; exact Heap.lt_size e1
      rw [upd_ne (Nat.ne_of_lt hlt)]
      exact (hf b hb).1
  done := by
    intro X hP hw hK hc i pins s σ H E I hf st hg
    subst hP hw hK
    obtain ⟨hz, hTI, ⟨x0, y0, u0, hTO⟩, h1, h2, h3, na, nb, nc⟩ := st
    obtain ⟨xs, ys, zs, hqx, hqy, hqu, hend⟩ := hg
    obtain ⟨its, rv, p1, _⟩ := I.tuple hqx
    obtain ⟨its2, rv2, p2, _⟩ := I.tuple hqy
    obtain ⟨its3, rv3, p3, _⟩ := I.tuple hqu
    have l1 := rv.length
    have l2 := rv2.length
    have l3 := rv3.length
    have D1 := Draws.tuple (prog := X.prog) (w := X.w) (A := X.A.in1) (I.ok.hd hc) i1 a na its.toArray
    have D2 := Draws.tuple (prog := X.prog) (w := X.w) (A := X.A.in1) (I.ok.hd hc) i2 b nb its2.toArray
    have D3 := Draws.tuple (prog := X.prog) (w := X.w) (A := X.A.in1) (I.ok.hd hc) i3 c nc its3.toArray
    refine wpAny_pyNext_zipD3_end D D1 D2 D3 hz hTI hTO ⟨h1, show s.heap.IsTuple a its.toArray from p1⟩ ⟨h2, show s.heap.IsTuple b its2.toArray from p2⟩ ⟨h3, show s.heap.IsTuple c its3.toArray from p3⟩ (by simp; omega) (by simp; omega) (by simp; omega) (by simp; omega) fun h' tk hk => ⟨rfl, ?_⟩
    exact I.turnedL (t' := tk) (ch := [z, TI, TO, i1, i2, i3]) (fun b o hb q =>
      hk b o (fun q' => hb (by simp [q'])) (fun q' => hb (by simp [q'])) (fun q' => hb (by simp [q'])) (fun q' => hb (by simp [q'])) (fun q' => hb (by simp [q'])) q) hf
  self := fun A i s Q E st h => wpAny_pyIter_zip st.1 h
end Kd
namespace Kd
open PySem PySem.Spec PyProof.Rows L2
def iZip3 (K : PySem.W.Frag) (ta : TA) : TI := fun σ H R => ta σ H fun vs H1 => ∃ a b c xs ys zs, vs = [.ref a, .ref b, .ref c] ∧ SqT K H1 a xs ∧ SqT K H1 b ys ∧ SqT K H1 c zs ∧ R (Itz3 K a b c) H1
theorem pi_zip3 {X : Cx} {e e2 e3 : Expr} {ta : TA} {p pos tpos : Pos} {elts : List Expr} {kk : Nat} (hg : Gl X "zip") (hm : X.mg "zip" = none) (ha : PA X [e, e2, e3] ta)
    (hs : starEach [e, e2, e3] X.env = (false, eval e X.env) :: starEach [e2, e3] X.env) (hpl : (backTo pos (starEach [e2, e3] X.env)).any (·.1) = false) : PI X (.Tuple elts kk tpos) (.Call (.Name "zip" p) [e, e2, e3] [] pos) (iZip3 X.K ta) := by
  refine ⟨fun pins s σ H R I h => ?_⟩
  refine Call_ (ld_blt I hg hm PyProof.Rows.boot_zip (PyProof.Rows.callWith_type1 (thn (ha.run pos pins s σ H _ I h) fun us s1 ⟨vs, H1, I1, r1, q1⟩ => ?_) hs hpl))
  obtain ⟨a, b, c, xs, ys, zs, ex, hqx, hqy, hqz, q⟩ := q1
  subst ex
  cases r1 with
  | cons r rr =>
    cases rr with
    | cons r' rr =>
      cases rr with
      | cons r'' rr =>
        cases rr
        cases r
        cases r'
        cases r''
        have fresh6 : ∀ d, d ∈ [s1.heap.objs.size + 5, s1.heap.objs.size + 3, s1.heap.objs.size + 4, s1.heap.objs.size, s1.heap.objs.size + 1, s1.heap.objs.size + 2] → FpOk X pins H1 d := fun d hd => by
          have e' : d = s1.heap.objs.size + 5 ∨ d = s1.heap.objs.size + 3 ∨ d = s1.heap.objs.size + 4 ∨ d = s1.heap.objs.size ∨ d = s1.heap.objs.size + 1 ∨ d = s1.heap.objs.size + 2 := by simpa using hd
          have hle : s1.heap.objs.size ≤ d := by
            rcases e' with z | z | z | z | z | z
            · rw [z]; exact Nat.le_add_right _ _
            · rw [z]; exact Nat.le_add_right _ _
            · rw [z]; exact Nat.le_add_right _ _
            · rw [z]; exact Nat.le_refl _
            · rw [z]; exact Nat.le_add_right _ _
            · rw [z]; exact Nat.le_add_right _ _
          exact I1.fpOk hle (I1.hok.fresh hle)
        obtain ⟨its, rv, p1, _⟩ := I1.tuple hqx
        obtain ⟨its2, rv2, p2, _⟩ := I1.tuple hqy
        obtain ⟨its3, rv3, p3, _⟩ := I1.tuple hqz
        obtain ⟨o1, ho1, _⟩ := id p1
        obtain ⟨o2, ho2, _⟩ := id p2
        obtain ⟨o3, ho3, _⟩ := id p3
        have la := Heap.lt_size ho1
        have lb := Heap.lt_size ho2
        have lc := Heap.lt_size ho3
        refine zip_begins3 (begins_tuple a its.toArray) (begins_tuple b its2.toArray) (begins_tuple c its3.toArray) (show s1.heap.IsTuple a its.toArray from p1) (show s1.heap.IsTuple b its2.toArray from p2) (show s1.heap.IsTuple c its3.toArray from p3) fun h' hz hTI hTO g1 g2 g3 hsz hk => wpAny_pyIter_zip hz ?_
        have I2 : Inv X pins σ H1 { s1 with heap := h' } := I1.kept (t' := s1.toks) hk
        have D := zip_sep3 (N := s1.heap.objs.size) (fp1 := [a]) (fp2 := [b]) (fp3 := [c]) (fun x hx => by rw [List.mem_singleton.mp hx]; exact la) (fun x hx => by rw [List.mem_singleton.mp hx]; exact lb) (fun x hx => by rw [List.mem_singleton.mp hx]; exact lc)
        exact ⟨s1.heap.objs.size + 5, [s1.heap.objs.size + 5, s1.heap.objs.size + 3, s1.heap.objs.size + 4, s1.heap.objs.size, s1.heap.objs.size + 1, s1.heap.objs.size + 2], _, _, H1, rfl, I2, turnZ3 D,
          ⟨hz, hTI, ⟨_, _, _, hTO⟩, ⟨_, g1, rfl, rfl⟩, ⟨_, g2, rfl, rfl⟩, ⟨_, g3, rfl, rfl⟩, Nat.ne_of_lt la, Nat.ne_of_lt (Nat.lt_succ_of_lt lb), Nat.ne_of_lt (Nat.lt_succ_of_lt (Nat.lt_succ_of_lt lc))⟩, fresh6, q⟩
def zip3L : List D → List D → List D → List D
  | x :: xs, y :: ys, z :: zs => .tuple [x, y, z] :: zip3L xs ys zs
  | _, _, _ => []
theorem zip3L_len : ∀ xs ys zs : List D, (zip3L xs ys zs).length = min (min xs.length ys.length) zs.length
  | [], _, _ => by simp [zip3L]
  | _ :: _, [], _ => by simp [zip3L]
  | _ :: _, _ :: _, [] => by simp [zip3L]
  | x :: xs, y :: ys, z :: zs => by
    rw [zip3L, List.length_cons, zip3L_len]
    simp only [List.length_cons]
    omega
theorem zip3L_get : ∀ (xs ys zs : List D) (i : Nat) (x y z : D), xs[i]? = some x → ys[i]? = some y → zs[i]? = some z → (zip3L xs ys zs)[i]? = some (.tuple [x, y, z])
  | [], _, _, i, _, _, _, h, _, _ => by simp at h
  | _ :: _, [], _, i, _, _, _, _, h, _ => by simp at h
  | _ :: _, _ :: _, [], i, _, _, _, _, _, h => by simp at h
  | a :: xs, b :: ys, c :: zs, 0, x, y, z, h1, h2, h3 => by
    simp at h1 h2 h3
    subst h1 h2 h3
    simp [zip3L]
  | a :: xs, b :: ys, c :: zs, i + 1, x, y, z, h1, h2, h3 => by
    rw [zip3L, List.getElem?_cons_succ]
    exact zip3L_get xs ys zs i x y z (by simpa using h1) (by simpa using h2) (by simpa using h3)
def itZip3 {G : Type} (f h k : EM G) : Mn G (List D) := fun ρ g => Rs.bind (f ρ g) fun x g1 => Rs.bind (h ρ g1) fun y g2 => Rs.bind (k ρ g2) fun z g3 => match x, y, z with
  | .tuple xs, .tuple ys, .tuple zs => some (.ok (zip3L xs ys zs) g3)
  | _, _, _ => none
section
variable {G : Type} {BR : BagR G} {W : Wd} {X : Cx} {N : List Str} {sc : Scope} {fb : Str → Bool} {lv : Nat} {p pos tpos : Pos} {a b c : Expr} {elts : List Expr} {kk : Nat} {f h k : EM G}
theorem walk_z3 {K : PySem.W.Frag} {a b c : Addr} {xs ys zs : List V} : Walk (Itz3 K a b c) (min (min xs.length ys.length) zs.length) (fun H => SqT K H a xs ∧ SqT K H b ys ∧ SqT K H c zs)
    (fun i H v H' => ∃ T x y z, v = .ref T ∧ H T = none ∧ H' = upd H T (.tup [x, y, z]) ∧ xs[i]? = some x ∧ ys[i]? = some y ∧ zs[i]? = some z) := by
  refine ⟨fun i _ hi q => ?_, fun _ q => ⟨xs, ys, zs, q.1, q.2.1, q.2.2, rfl⟩, fun i H v H' _ q y => ?_⟩
  · have h1 : i < xs.length := by omega
    have h2 : i < ys.length := by omega
    have h3 : i < zs.length := by omega
    exact ⟨xs, ys, zs, xs[i], ys[i], zs[i], q.1, q.2.1, q.2.2, by simp [h1], by simp [h2], by simp [h3]⟩
  · obtain ⟨T, x, y, z, h1, h2, h3, h4, h5, h6⟩ := y
    exact ⟨T, x, y, z, h1, h2, h3, h4 xs q.1, h5 ys q.2.1, h6 zs q.2.2⟩
theorem Cq.ibZip3 (q : Cq W X N sc fb lv) (g : gimp sc "zip" = true) (na : noStar a = true) (nb : noStar b = true) (nc : noStar c = true) (ha : PE X a (tB BR f)) (hb : PE X b (tB BR h)) (hc : PE X c (tB BR k)) : PI X (.Tuple elts kk tpos) (.Call (.Name "zip" p) [a, b, c] [] pos) (tIB BR (itZip3 f h k)) :=
  PI.imp (pi_zip3 (q.gl g) (q.fr _ (by decide)) (pa_cons ha (pa_cons hb (pa_cons hc pa_nil (starEach_ns nc _ _)) (starEach_ns nb _ _)) (starEach_ns na _ _)) (starEach_ns na _ _) (noStars _ _ _ (by rw [List.all_cons, List.all_cons, nb, nc]; rfl))) fun σ H R ⟨ρ, F, S, g, Rr, items, g', e, k⟩ => by
    obtain ⟨x, g1, e1, e⟩ := Rs.bind_eq e
    obtain ⟨y, g2, e2, e⟩ := Rs.bind_eq e
    obtain ⟨z, g3, e3, e⟩ := Rs.bind_eq e
    split at e
    · rename_i ds es fs
      cases e
      refine ⟨ρ, F, S, g, Rr, _, _, e1, fun v H1 F1 S1 E1 b1 r1 => ?_⟩
      have R1 := Rr.later E1 b1
      refine ⟨ρ, F1, S1, g1, R1, _, _, e2, fun u H2 F2 S2 E2 b2 r2 => ?_⟩
      have R2 := R1.later E2 b2
      refine ⟨ρ, F2, S2, g2, R2, _, _, e3, fun w H3 F3 S3 E3 b3 r3 => ?_⟩
      have r13 := E3.rpB R2.amb (E2.rpB R1.amb r1)
      have r23 := E3.rpB R2.amb r2
      have A3 := E3.amb b3
      obtain ⟨a, xs, rfl, h1, l1, q1⟩ := r13.tup
      obtain ⟨b, ys, rfl, h2, l2, q2⟩ := r23.tup
      obtain ⟨c, zs, rfl, h3, l3, q3⟩ := r3.tup
      refine ⟨a, b, c, xs, ys, zs, rfl, SqT.of h1, SqT.of h2, SqT.of h3, ?_⟩
      refine k _ H3 F3 S3 [(a, .tup xs), (b, .tup ys), (c, .tup zs)] ((E1.trans Rr.amb E2).trans Rr.amb E3) b3 (fun p hp => ?_) (fun p hp => ?_) ?_ ⟨?_⟩
      · simp only [List.mem_cons, List.not_mem_nil, or_false] at hp
        rcases hp with z | z | z <;> (rw [z]; assumption)
      · simp only [List.mem_cons, List.not_mem_nil, or_false] at hp
        rcases hp with z | z | z <;> rw [z]
        · exact A3.tup h1
        · exact A3.tup h2
        · exact A3.tup h3
      · rw [zip3L_len, ← q1.length]
        omega
      · rw [zip3L_len, ← q1.length, ← q2.length, ← q3.length]
        refine (walk_z3 (K := X.K)).mono (fun H h => ⟨SqT.of (h (a, .tup xs) (by simp)), SqT.of (h (b, .tup ys) (by simp)), SqT.of (h (c, .tup zs) (by simp))⟩) fun i H x H' hi _ y => ?_
        obtain ⟨T, x1, x2, x3, rfl, hT, rfl, e1, e2, e3⟩ := y
        obtain ⟨d1, m1, n1⟩ := q1.get e1
        obtain ⟨d2, m2, n2⟩ := q2.get e2
        obtain ⟨d3, m3, n3⟩ := q3.get e3
        exact ⟨_, zip3L_get _ _ _ _ _ _ _ m1 m2 m3, .new hT (by show 3 ≤ sizeLine; decide) (.cons n1 (.cons n2 (.cons n3 .nil)))⟩
    · cases e
end
end Kd

end part_KdV
section part_KdP
/-! Kd, part P: the pot of draws. -/
namespace Kd
open PySem PySem.Spec PyProof.Rows L2
/-- what the pot holds: cells to come, the rest of the cell at hand, the mixer -/
structure Pot where
  cells : List Int
  cur : Int
  mixed : Int
  ok : (∀ c ∈ cells, 0 ≤ c) ∧ 0 ≤ cur ∧ 0 ≤ mixed ∧ mixed < 2147483647
abbrev GG := Option Pot
def Pot.at (p : Pot) (H : Hp) (b c : Addr) : Prop := b ≠ c ∧ H b = some (.lst [.ref c, .int p.cur, .int p.mixed]) ∧ H c = some (.lst (p.cells.map V.int))
/-- ns: the script -/
def BB (W : Wd) (ns : List Int) : BagR GG where
  R := fun F H g => match g with
    | none => F = []
    | some p => ∃ b c, F = [b, c] ∧ p.at H b c
  Scr := fun H a => (∃ o, H a = some (.frz o (.lst (ns.map V.int)))) ∨ SqL W.K (fun _ => none) a (ns.map V.int)
  scrK := fun {H H' a} h k => by
    rcases h with ⟨o, h⟩ | h
    · exact .inl ⟨o, k a o _ h⟩
    · exact .inr h
  mu := fun {F H g} h a ha => by
    cases g with
    | none => rw [show F = [] from h] at ha; cases ha
    | some p =>
      obtain ⟨b, c, rfl, h1, h2, h3⟩ := h
      simp only [List.mem_cons, List.not_mem_nil, or_false] at ha
      rcases ha with z | z
      · rw [z]; exact ⟨_, h2, trivial⟩
      · rw [z]; exact ⟨_, h3, trivial⟩
  frame := fun {F H g H'} h k => by
    cases g with
    | none => exact h
    | some p =>
      obtain ⟨b, c, rfl, h1, h2, h3⟩ := h
      exact ⟨b, c, rfl, h1, (k b (by simp)).trans h2, (k c (by simp)).trans h3⟩
section
variable {W : Wd} {ns : List Int} {X : Cx} {N : List Str} {sc : Scope} {fb : Str → Bool} {lv : Nat} {x y : Str} {p pos pos2 spos apos cpos : Pos} {e : Expr} {f : EM GG} {B : Bs} {H H' : Hp} {F : List Addr} {S : Addr → Prop} {g g' : GG} {σ : L2.St} {ρ : Env}
/-- the pot under a name -/
theorem RelE.pot (R : RelE (BB W ns) σ H ρ F S (some q)) {i : Nat} (e : ρ[i]? = some (some .bag)) : ∃ b c, F = [b, c] ∧ σ[i]? = some (some (.ref b)) ∧ q.at H b c := by
  obtain ⟨v, hv, b, rfl, hb⟩ := R.slot i _ e
  obtain ⟨b2, c, hF, hq⟩ := R.amb.bag
  rw [hF] at hb
  cases hb
  exact ⟨_, c, hF, hv, hq⟩
theorem extPot (A : Amb (BB W ns) H F S g) {a : Addr} (ha : a ∈ F) (o : HO) : Ext H F S (upd H a o) F S where
  keep := fun b u hb n => by
    have hne : b ≠ a := fun z => n (by rw [z]; exact ha)
    rw [upd_ne hne]; exact hb
  sub := fun _ s => s
  new := fun _ s => .inl s
  live := fun b s => by
    obtain ⟨u, hu⟩ := A.live b s
    by_cases hz : b = a
    · exact ⟨o, by rw [hz]; exact upd_same⟩
    · exact ⟨u, by rw [upd_ne hz]; exact hu⟩
  dis := A.dis
  bag := .inl rfl
/-! ### bag[1], bag[2] -/
def potI (i k : Nat) : EM GG := fun ρ g => match ρ[i]?, g with
  | some (some .bag), some p => match k with
    | 1 => some (.ok (.int p.cur) g)
    | 2 => some (.ok (.int p.mixed) g)
    | _ => none
  | _, _ => none
theorem Cq.pot {kk j : Nat} (q : Cq W X N sc fb lv) (i : Nat) (g : seeB N sc i x = true) : PE X (.Subscript (.Name x p) (.Constant (.int (kk : Nat)) j pos) pos2) (tV (BB W ns) (potI i kk)) := by
  obtain ⟨h1, h2, h3, h4⟩ := seeB_ok g
  refine PE.imp (pe_ix ix_seq (pe_var (by rw [q.n]; exact h1) (by rw [q.sc]; exact h2) h3 h4) pe_int (plainIx_ok rfl)) fun σ H Q ⟨ρ, F, S, g, R, d, g', e, k⟩ => ?_
  unfold potI at e
  split at e
  · rename_i P e0
    obtain ⟨b, c, hF, hv, hn, hb, hc⟩ := R.pot e0
    split at e
    · cases e
      exact ⟨.ref b, hv, .inl ⟨b, _, _, .int P.cur, rfl, rfl, SqL.of hb, rfl, k _ H F S (Ext.refl R.amb) R.amb.bag (.int _)⟩⟩
    · cases e
      exact ⟨.ref b, hv, .inl ⟨b, _, _, .int P.mixed, rfl, rfl, SqL.of hb, rfl, k _ H F S (Ext.refl R.amb) R.amb.bag (.int _)⟩⟩
    · cases e
  · cases e
/-! ### bag[0] != [] -/
def potNE (i : Nat) : Mn GG Bool := fun ρ g => match ρ[i]?, g with
  | some (some .bag), some p => match neD (.list (p.cells.map PyData.int)) (.list []) with
    | some (.bool b) => some (.ok b g)
    | _ => none
  | _, _ => none
theorem dpI (K : PySem.W.Frag) (H : Hp) : ∀ ns : List Int, DpAll K H (ns.map V.int) (ns.map PyData.int)
  | [] => .nil
  | n :: ns => .cons (.int n) (dpI K H ns)
theorem Cq.potNE {j : Nat} {p1 p2 : Pos} (q : Cq W X N sc fb lv) (i : Nat) (g : seeB N sc i x = true) : PT X (.Compare (.Subscript (.Name x p) (.Constant (.int 0) j pos) pos2) [.NotEq] [.List [] p1] p2) (tT (BB W ns) (potNE i)) := by
  obtain ⟨h1, h2, h3, h4⟩ := seeB_ok g
  refine PT.imp (pt_cmpR (op_neD q.u64) (pe_ix ix_seq (pe_var (by rw [q.n]; exact h1) (by rw [q.sc]; exact h2) h3 h4) pe_int (plainIx_ok rfl)) (pe_lst pa_nil) rfl) fun σ H Q ⟨ρ, F, S, g, R, d, g', e, k⟩ => ?_
  unfold Kd.potNE at e
  split at e
  · rename_i P e0
    obtain ⟨b, c, hF, hv, hn, hb, hc⟩ := R.pot e0
    split at e
    · rename_i bb hbb
      cases e
      refine ⟨.ref b, hv, .inl ⟨b, _, _, .ref c, rfl, rfl, SqL.of hb, rfl, ?_⟩⟩
      refine ⟨Nat.zero_le _, fun r hr => ?_⟩
      obtain ⟨E2, b2⟩ := R.amb.new (o := .lst []) hr
      unfold neD at hbb
      split at hbb
      · rename_i hs
        rw [Bool.and_eq_true] at hs
        have hbb' : (!PyData.eqv (.list (P.cells.map PyData.int)) (.list [])) = d := by
          have := Option.some.inj hbb
          exact PyData.bool.inj this
        refine ⟨.list (P.cells.map PyData.int), .list [], .lst (SqL.of (by rw [upd_ne (ne_of_none hc hr)]; exact hc)) (dpI _ _ _), .lst (SqL.of upd_same) .nil, hs.1, hs.2, ?_⟩
        exact ⟨_, rfl, by rw [hbb']; exact k _ F S E2 b2⟩
      · cases hbb
    · cases e
  · cases e
/-! ### bag[1] = e, bag[2] = e -/
def Pot.setI (p : Pot) (k : Nat) (n : Int) : Option Pot := match k with
  | 1 => if h : 0 ≤ n then some ⟨p.cells, n, p.mixed, p.ok.1, h, p.ok.2.2⟩ else none
  | 2 => if h : 0 ≤ n ∧ n < 2147483647 then some ⟨p.cells, p.cur, n, p.ok.1, p.ok.2.1, h⟩ else none
  | _ => none
def potSet (i k : Nat) (f : EM GG) : SM GG := fun ρ g => match f ρ g with
  | some (.ok (.int n) (some p)) => match ρ[i]? with
    | some (some .bag) => match p.setI k n with
      | some p' => some (.nx ρ (some p'))
      | none => none
    | _ => none
  | some (.er x g) => some (.er x g)
  | _ => none
theorem Cs.potSet {kk j : Nat} (q : Cs W X N sc fb lv) (i : Nat) (g : seeB N sc i x = true) (n2 : noSwap e = true) (n3 : noTup e = true) (he : PE X e (tV (BB W ns) f)) : PS X (.Assign [.Subscript (.Name x p) (.Constant (.int (kk : Nat)) j pos) pos2] e spos) (tS (BB W ns) (potSet i kk f)) := by
  obtain ⟨h1, h2, h3, h4⟩ := seeB_ok g
  refine PS.imp (ps_asg he (pg_sub (pe_var (by rw [q.n]; exact h1) (by rw [q.sc]; exact h2) h3 h4) pe_int set_list (asg_sub rfl)) (swWith n2 _ _) (sw_noTup n3) rfl) fun D σ H ⟨B, ρ, F, S, g, R, r, e, k⟩ => ?_
  unfold Kd.potSet at e
  split at e
  · rename_i n P e1
    split at e
    · rename_i e0
      split at e
      · rename_i P' hP
        cases e
        refine ⟨ρ, F, S, g, R.e, _, _, e1, fun v H1 F1 S1 E1 b1 r1 => ?_⟩
        have R1 := R.later E1 b1
        have ev := (r1.b (F := F1)).int
        subst ev
        obtain ⟨b, c, hF, hv, hn, hb, hc⟩ := R1.e.pot e0
        have hbF : b ∈ F1 := by rw [hF]; simp
        have go : ∀ (j : Nat) (P' : Pot), ixN 3 (kk : Nat) = some j → P'.at (upd H1 b (.lst ([V.ref c, V.int P.cur, V.int P.mixed].set j (.int n)))) b c → SPost (BB W ns) B (.nx ρ (some P')) D → rSetL (.ref b) (.int (kk : Nat)) (.int n) H1 fun H3 => D.nx σ H3 := fun j P' hj hat kk2 => by
          refine ⟨b, _, _, j, rfl, rfl, hb, hj, ?_⟩
          exact kk2 σ _ F1 S1 (R1.later (extPot R1.e.amb hbF _) ⟨b, c, hF, hat⟩)
        refine ⟨.ref b, hv, ?_⟩
        unfold Pot.setI at hP
        split at hP
        · split at hP
          · cases hP
            exact go 1 _ rfl ⟨hn, upd_same, by rw [upd_ne (Ne.symm hn)]; exact hc⟩ k
          · cases hP
        · split at hP
          · cases hP
            exact go 2 _ rfl ⟨hn, upd_same, by rw [upd_ne (Ne.symm hn)]; exact hc⟩ k
          · cases hP
        · cases hP
      · cases e
    · cases e
  · cases e; exact k.elim
  · cases e
end
end Kd
namespace Kd
open PySem PySem.Spec PyProof.Rows L2
section
variable {W : Wd} {ns : List Int} {X : Cx} {N : List Str} {sc : Scope} {fb : Str → Bool} {lv : Nat} {x y z : Str} {p p2 p3 pos pos2 spos apos cpos : Pos} {e : Expr} {f : EM GG} {B : Bs} {H H' : Hp} {F : List Addr} {S : Addr → Prop} {g g' : GG} {σ : L2.St} {ρ : Env}
/-! ### cell = bag[0].pop() -/
def Pot.pop (p : Pot) : Pot := ⟨p.cells.dropLast, p.cur, p.mixed, fun c h => p.ok.1 c ((List.dropLast_sublist _).subset h), p.ok.2⟩
def potPop (i j : Nat) : SM GG := fun ρ g => match ρ[i]?, g with
  | some (some .bag), some p => match p.cells[p.cells.length - 1]? with
    | some n => some (.nx (ρ.set j (some (.dat (.int n)))) (some p.pop))
    | none => none
  | _, _ => none
theorem Cs.potPop {jj : Nat} (q : Cs W X N sc fb lv) (i j : Nat) (g : seeB N sc i x = true) (g2 : putB N sc fb j y = true) (hl : (apos.endLine == cpos.line) = true) :
    PS X (.Assign [.Name y p3] (.Call (.Attribute (.Subscript (.Name x p) (.Constant (.int 0) jj pos) pos2) "pop" apos) [] [] cpos) spos) (tS (BB W ns) (potPop i j)) := by
  obtain ⟨h1, h2, h3, h4⟩ := seeB_ok g
  obtain ⟨m1, m2, m3⟩ := putB_ok g2
  refine PS.imp (ps_set (by rw [q.n]; exact q.nd) (by rw [q.n]; exact m1) (by rw [q.sc]; exact m2) (pe_bm0 PySem.F.plainAttrs_list PySem.F.slot_list_pop PySem.F.type_list_pop mt_pop (pe_ix ix_seq (pe_var (by rw [q.n]; exact h1) (by rw [q.sc]; exact h2) h3 h4) pe_int (plainIx_ok rfl)) rfl hl) rfl (by rw [q.fne, q.sc]; exact m3)) fun D σ H ⟨B, ρ, F, S, g, R, r, e, k⟩ => ?_
  unfold Kd.potPop at e
  split at e
  · rename_i P e0
    obtain ⟨b, c, hF, hv, hn, hb, hc⟩ := R.e.pot e0
    split at e
    · rename_i n hlast
      cases e
      refine ⟨.ref b, hv, .inl ⟨b, _, _, .ref c, rfl, rfl, SqL.of hb, rfl, .inl ⟨rfl, _, SqL.of hc⟩, c, _, .int n, rfl, rfl, hc, ?_, ?_⟩⟩
      · rw [List.length_map, List.getElem?_map, hlast]; rfl
      · have cF : c ∈ F := by rw [hF]; simp
        have R1 : Rel (BB W ns) B σ (upd H c (.lst (P.cells.map V.int).dropLast)) ρ F S (some P.pop) := R.later (extPot R.e.amb cF _) ⟨b, c, hF, hn, by rw [upd_ne hn]; exact hb, by rw [upd_same]; show _ = some (HO.lst (P.cells.dropLast.map V.int)); rw [List.map_dropLast]⟩
        exact k _ _ F S (R1.sets (R1.e.setD j (.int n)) (sets_set σ ρ))
    · cases e
  · cases e
/-! ### script[:k] -/
def scrM (ns : List Int) (i : Nat) (k : Int) : EM GG := fun ρ g => match ρ[i]? with
  | some (some .scr) => if ns.length ≤ 16777216 then some (.ok (.list (cutG (ns.map PyData.int) none (some k))) g) else none
  | _ => none
theorem Cq.scr {k : Int} {j : Nat} (q : Cq W X N sc fb lv) (i : Nat) (g : seeB N sc i x = true) : PE X (.Subscript (.Name x p) (.Slice none (some (.Constant (.int k) j p2)) none p3) pos) (tV (BB W ns) (scrM ns i k)) := by
  obtain ⟨h1, h2, h3, h4⟩ := seeB_ok g
  refine PE.imp (pe_slice sl_list (pe_var (by rw [q.n]; exact h1) (by rw [q.sc]; exact h2) h3 h4) po_none (po_some pe_int)) fun σ H Q ⟨ρ, F, S, g, R, d, g', e, kk⟩ => ?_
  unfold scrM at e
  split at e
  · rename_i e0
    split at e
    · rename_i hlen
      cases e
      obtain ⟨v, hv, a, rfl, ha⟩ := R.slot i _ e0
      have hs : SqL X.K H a (ns.map V.int) := by
        rw [q.wd.2.2.1]
        rcases ha with ⟨o, ha⟩ | ha
        · exact .inl (.inr ⟨o, ha⟩)
        · rcases ha with ha | ha
          · rcases ha with ha | ⟨o, ha⟩
            · cases ha
            · cases ha
          · exact .inr ha
      refine ⟨.ref a, hv, k, rfl, a, _, rfl, hs, ?_⟩
      exact Ret.lst (fun w H' S' E b r => kk w H' F S' E b r) R.amb (Nat.le_trans (cutV_length _ _ _) (by rw [List.length_map, sizeLine_eq]; omega)) (RpL.cut (RpL.ofInts ns) none (some k))
    · cases e
  · cases e
/-! ### the pot is made -/
def spBag (W : Wd) (ns : List Int) (po : Option Pot) : Pr := fun vs H Q => ∃ a F S pot, vs = [.ref a] ∧ Amb (BB W ns) H F S none ∧ (BB W ns).Scr H a ∧ po = some pot ∧
  ∀ b H' F' S', Ext H F S H' F' S' → (BB W ns).R F' H' (some pot) → F'.head? = some b → Q (.ref b) H'
structure CalBag (W : Wd) (ns : List Int) (po : Option Pot) (k : Nat) : Prop where
  ex : ∃ (f : Addr) (fd : FuncData), FnG W.P W.w W.K W.mg W.bs k f fd ["script"] (spBag W ns po) ∧ W.mg ("_law_bag" : Str) = some (.ref f) ∧ PySem.W.keepIn W.K (.ref f) = true ∧ Binds W.K fd ["script"] []
def bagM (po : Option Pot) (i k : Nat) : SM GG := fun ρ g => match ρ[k]?, g, po with
  | some (some .scr), none, some pot => some (.nx (ρ.set i (some .bag)) (some pot))
  | _, _, _ => none
theorem bagM_eq {po : Option Pot} {i k : Nat} {r : SR GG} (e : bagM po i k ρ g = some r) : ∃ pot, ρ[k]? = some (some .scr) ∧ g = none ∧ po = some pot ∧ r = .nx (ρ.set i (some .bag)) (some pot) := by
  unfold bagM at e
  split at e
  · cases e; exact ⟨_, by assumption, rfl, rfl, rfl⟩
  · cases e
theorem setsBag {i : Nat} {v : V} (σ : L2.St) (ρ : Env) : SetsTo [i] σ ρ (σ.set i (some v)) (ρ.set i (some .bag)) where
  ls := List.length_set
  lr := List.length_set
  off := fun j h => by
    have h' : i ≠ j := fun e => h (by simp [e])
    exact ⟨List.getElem?_set_ne h', List.getElem?_set_ne h'⟩
  dat := fun j s h e => by
    have hj : j = i := List.mem_singleton.mp h
    subst hj
    by_cases hl : j < ρ.length
    · rw [List.getElem?_set_self hl] at e
      cases e; rfl
    · rw [List.getElem?_eq_none (by simpa using hl)] at e; cases e
theorem Cs.bag {po : Option Pot} {j : Nat} (q : Cs W X N sc fb lv) (C : CalBag W ns po j) (hj : Nat.ble j lv = true) (i k : Nat) (g : putB N sc fb i x = true) (g2 : seeB N sc k y = true) (g3 : gimp sc "_law_bag" = true) :
    PS X (.Assign [.Name x p] (.Call (.Name "_law_bag" p2) [.Name y p3] [] pos) spos) (tS (BB W ns) (bagM po i k)) := by
  obtain ⟨h1, h2, h3, h4⟩ := seeB_ok g2
  obtain ⟨m1, m2, m3⟩ := putB_ok g
  obtain ⟨f, fd, Fg, hm, hk, hb⟩ := C.ex
  obtain ⟨w1, w2, w3, w4, w5⟩ := q.wd
  rw [← w1, ← w2, ← w3, ← w4, ← w5] at Fg
  rw [← w3] at hk hb
  rw [← w4] at hm
  refine PS.imp (ps_set (by rw [q.n]; exact q.nd) (by rw [q.n]; exact m1) (by rw [q.sc]; exact m2) (pg_call Fg (q.hr.mono (Nat.le_of_ble_eq_true hj)) q.gd (q.gl g3) hm hk hb rfl (pa_cons (pe_var (by rw [q.n]; exact h1) (by rw [q.sc]; exact h2) h3 h4) pa_nil rfl) (gimp_ok g3).2.1 rfl) rfl (by rw [q.fne, q.sc]; exact m3)) fun D σ H ⟨B, ρ, F, S, g, R, r, e, kk⟩ => ?_
  obtain ⟨pot, e0, rfl, rfl, rfl⟩ := bagM_eq e
  obtain ⟨v, hv, a, rfl, ha⟩ := R.e.slot k _ e0
  refine ⟨.ref a, hv, a, F, S, pot, rfl, R.e.amb, ha, rfl, fun b H1 F1 S1 E1 b1 hd => ?_⟩
  have R1 := R.later E1 b1
  refine kk _ H1 F1 S1 (R1.sets (R1.e.sets (setsBag σ ρ) fun j s hj e => ?_) (setsBag σ ρ))
  have hj := List.mem_singleton.mp hj
  subst hj
  by_cases hl : j < ρ.length
  · rw [List.getElem?_set_self hl] at e
    cases e
    exact ⟨.ref b, List.getElem?_set_self (by rw [← R1.e.len]; exact hl), b, rfl, hd⟩
  · rw [List.getElem?_eq_none (by simpa using hl)] at e; cases e
/-! its last statement -/
def mkPot (cs : List Int) (m : Int) : Option Pot := if h : (∀ c ∈ cs, 0 ≤ c) ∧ (0 : Int) ≤ 0 ∧ 0 ≤ m ∧ m < 2147483647 then some ⟨cs, 0, m, h⟩ else none
def finPot (ic im : Nat) (ρ : Env) : Option Pot := match ρ[ic]?, ρ[im]? with
  | some (some (.dat (.list ds))), some (some (.dat (.int m))) => match ints? ds with
    | some cs => mkPot cs.reverse m
    | none => none
  | _, _ => none
theorem mkPot_eq {cs : List Int} {m : Int} {P : Pot} (h : mkPot cs m = some P) : P.cells = cs ∧ P.cur = 0 ∧ P.mixed = m := by
  unfold mkPot at h
  split at h
  · cases h; exact ⟨rfl, rfl, rfl⟩
  · cases h
def tFin (W : Wd) (ns : List Int) (ic im : Nat) : TS := fun D σ H => ∃ B ρ F S pot, Rel (BB W ns) B σ H ρ F S none ∧ finPot ic im ρ = some pot ∧ ∀ b H' F' S', Ext B.H0 B.F0 B.S0 H' F' S' → (BB W ns).R F' H' (some pot) → F'.head? = some b → D.rt (.ref b) H'
theorem Cs.fin {j : Nat} {p4 p5 p6 p7 p8 p9 : Pos} (q : Cs W X N sc fb lv) (ic im : Nat) (g1 : seeB N sc ic x = true) (g2 : seeB N sc im y = true) (gl : gimp sc "list" = true) (gr : gimp sc "reversed" = true) :
    PS X (.Return (some (.List [.Call (.Name "list" p) [.Call (.Name "reversed" p2) [.Call (.Name "list" p3) [.Name x p4] [] p5] [] p6] [] p7, .Constant (.int 0) j p8, .Name y p9] pos)) spos) (tFin W ns ic im) := by
  obtain ⟨h1, h2, h3, h4⟩ := seeB_ok g2
  refine PS.imp (ps_ret (pe_lst (pa_cons (q.toCq.listRev (BR := BB W ns) gl gr rfl (bF (q.toCq.list gl rfl (q.toCq.nb ic g1)))) (pa_cons (pe_int (i := 0)) (pa_cons (pe_var (i := im) (by rw [q.n]; exact h1) (by rw [q.sc]; exact h2) h3 h4) pa_nil rfl) rfl) rfl))) fun D σ H ⟨B, ρ, F, S, pot, R, hf, k⟩ => ?_
  unfold finPot at hf
  split at hf
  · rename_i ds m e1 e2
    split at hf
    · rename_i cs hcs
      have hds := ints?_eq hcs
      subst hds
      obtain ⟨pc, pu, pm⟩ := mkPot_eq hf
      obtain ⟨vm, hvm, qm⟩ := R.e.slot im _ e2
      cases qm with
      | int _ =>
        refine ⟨ρ, F, S, none, R.e, .list ((cs.map PyData.int).reverse), none, ?_, fun r H1 F1 S1 E1 b1 n0 n1 n2 o => ⟨.int m, hvm, by show 3 ≤ sizeLine; decide, fun b hb => ?_⟩⟩
        · unfold un brwM
          rw [e1]; rfl
        · have A1 := E1.amb b1
          have hF1 : F1 = [] := b1
          have hF : F = [] := R.e.amb.bag
          obtain ⟨E2, b2⟩ := A1.new (o := .lst [.ref r, .int 0, .int m]) hb
          obtain ⟨g0, A0⟩ := R.amb0
          have Ex := (R.x.trans A0 E1).trans A0 E2
          cases o with
          | lst hr hl hq =>
            rename_i xs
            have hxs : xs = cs.reverse.map V.int := by
              have : RpL H1 S1 xs (cs.reverse.map PyData.int) := by rw [List.map_reverse]; exact hq
              exact this.ints
            subst hxs
            have hne : b ≠ r := fun z => by rw [z, hr] at hb; cases hb
            have hF0 : B.F0 = [] := by
              rcases R.x.bag with z | ⟨z, _⟩
              · rw [← z, hF]
              · exact z
            have B0r : B.H0 r = none := R.x.back n0 (R.e.amb.notF n0)
            have B0b : B.H0 b = none := (R.x.trans A0 E1).back hb (A1.notF hb)
            refine k b _ [b, r] S1 ⟨Ex.keep, Ex.sub, Ex.new, Ex.live, fun a ha => ?_, .inr ⟨hF0, fun a ha => ?_⟩⟩ ⟨b, r, rfl, hne, ?_, ?_⟩ rfl
            · simp only [List.mem_cons, List.not_mem_nil, or_false] at ha
              rcases ha with z | z
              · rw [z]; exact A1.notS hb
              · rw [z]; exact n1
            · simp only [List.mem_cons, List.not_mem_nil, or_false] at ha
              rcases ha with z | z
              · rw [z]; exact B0b
              · rw [z]; exact B0r
            · rw [upd_same, pu, pm]
            · rw [upd_ne (Ne.symm hne), hr, pc]
    · cases hf
  · cases hf
/-- the def that makes the pot, from its body -/
theorem CalBag.of {f : Addr} {fd : FuncData} {st : Stmt} {k : Nat} {m : SM GG} {ic im : Nat} {pot : Pot} (Fd : FunD W.K "_law_bag" "_law_bag" (defArgs st) (defBody st) sc [] [] f fd) (hm : W.mg ("_law_bag" : Str) = some (.ref f)) (hbi : Binds W.K fd ["script"] []) (Sc : FnScope N ["script"] sc) (wk : Wk W)
    (hb : ∀ X, Cs W X N sc (fun _ => true) k → ∃ t, PSs X (defBody st) t ∧ ∀ D σ H, tS (BB W ns) m { D with nx := tFin W ns ic im D } σ H → t D σ H)
    (hpot : ∃ ρ, m (some .scr :: List.replicate (N.length - 1) none) none = some (.nx ρ none) ∧ finPot ic im ρ = some pot) : CalBag W ns (some pot) (k + 1) := by
  refine ⟨⟨f, fd, FunD.okG Fd Sc (fun xs H Q h => ?_) fun cdv Ar out stt H xs Q hr hg hsp => ?_, hm, Fd.kp, hbi⟩⟩
  · obtain ⟨a, F, S, pot, rfl, _⟩ := h; rfl
  · have un : (Ar.deeper (envOfC "_law_bag" sc stt.heap.objs.size f cdv)).units + 200 < cLine := by have := hr.un; omega
    obtain ⟨t, h1, h2⟩ := hb (cxOf CX0 W.P W.w W.K W.mg W.bs N "_law_bag" sc f cdv Ar out stt H E0').nox { n := rfl, sc := rfl, calm := rfl, nd := Sc.nd, un := un, gd := deepG hg, sy := wk.sy, hr := hr, fr := wk.fr, fne := rfl, wd := ⟨rfl, rfl, rfl, rfl, rfl⟩, hp := PassesOwn.never }
    refine ⟨t, PSs.nox h1, h2 _ _ _ ?_⟩
    obtain ⟨a, F, S, pt, rfl, A, hs, ep, kk⟩ := hsp
    obtain ⟨ρ, hρ, hfin⟩ := hpot
    have R := relStart (N := N) (ss := [.scr]) (vs := [.ref a]) A (.cons ⟨a, rfl, hs⟩ .nil) rfl rfl
    refine ⟨⟨H, F, S, [], []⟩, _, F, S, none, ⟨R, ⟨none, A⟩, Ext.refl A, fun i s q' h hs' => ?_, (fun _ h => nomatch h), (fun _ h => nomatch h), (fun _ h => nomatch h)⟩, _, hρ, fun σ1 H1 F1 S1 R1 => ⟨_, ρ, F1, S1, pot, R1, hfin, fun b H2 F2 S2 E2 b2 hd => ?_⟩⟩
    · have hm := List.mem_of_getElem? h
      rcases List.mem_append.mp hm with z | z
      · simp only [List.map_cons, List.map_nil, List.mem_cons, List.not_mem_nil, or_false] at z
        cases z
        cases hs'
      · rw [List.mem_replicate] at z; cases z.2
    · cases ep
      exact kk b H2 F2 S2 E2 b2 hd
end
end Kd
namespace Kd
open PySem PySem.Spec PyProof.Rows L2
section
variable {G : Type} {BR : BagR G} {X : Cx} {t : TS} {f h : SM G} {st : Stmt} {rest : List Stmt}
def Fin (BR : BagR G) (X : Cx) (sts : List Stmt) (f : SM G) (t : TS) : Prop := ∃ t', PSs X sts t' ∧ ∀ D σ H, tS BR f { D with nx := t D } σ H → t' D σ H
theorem fin_nil (h : PS X st t) : Fin BR X [st] nilM t := ⟨t, pss_one h, fun D σ H ⟨B, ρ, F, S, g, R, r, e, k⟩ => by
  cases e
  exact k σ H F S R⟩
theorem fin_cons (h1 : PS X st (tS BR f)) (h2 : Fin BR X rest h t) : Fin BR X (st :: rest) (seqM f h) t := by
  obtain ⟨t2, p2, k2⟩ := h2
  refine ⟨_, pss_cons h1 p2, fun D σ H ⟨B, ρ, F, S, g, R, r, e, k⟩ => ?_⟩
  unfold seqM at e
  split at e
  · rename_i ρ1 g1 hf
    exact ⟨B, ρ, F, S, g, R, _, hf, fun σ' H' F' S' R' => k2 D σ' H' ⟨B, ρ1, F', S', g1, R', r, e, k⟩⟩
  · rename_i hn
    refine ⟨B, ρ, F, S, g, R, r, e, ?_⟩
    cases r with
    | nx ρ1 g1 => exact absurd e (hn ρ1 g1)
    | bk _ _ => exact k
    | ct _ _ => exact k
    | rt _ _ => exact k
    | er _ _ => exact k
end
end Kd

end part_KdP
section part_KdQ
/-! Kd, part Q: the law's def, called at the end of the top. -/
namespace Kd
open PySem PySem.Spec PyProof.Rows L2
/-! ### what the head looks at -/
def isDct (g : Addr → Option Obj) : Bool := match g sysModules with
  | some o => (match o.data with
    | .dict _ _ => true
    | _ => false)
  | none => false
theorem isDct_ok {g : Addr → Option Obj} (h : isDct g = true) : ∃ o es ep, g sysModules = some o ∧ o.data = .dict es ep := by
  unfold isDct at h
  split at h
  · rename_i o e
    split at h
    · rename_i es ep ed
      exact ⟨o, es, ep, e, ed⟩
    · cases h
  · cases h
def obs2 (n : Nat) (fa : List He.Fa) (fn : List He.DefD) (g : Addr → Option Obj) : He.AlD × Bool := (He.obsDG n fa fn g, isDct g)
def hook2 (n : Nat) (fa : List He.Fa) (fn : List He.DefD) : PySem.W.Hook where
  α := He.AlD × Bool
  obs := fun s => obs2 n fa fn s.heap.get?
  val := fun _ => (He.valD fn, true)
  says := fun _ h => ∃ K : PySem.W.Frag, K.In h ∧ He.SaysD fa fn K ∧ ∃ o es ep, h.get? sysModules = some o ∧ o.data = .dict es ep
  of := fun w s e => by
    have e1 := congrArg Prod.fst e
    have e2 := congrArg Prod.snd e
    exact ⟨_, He.frG_in, e1, isDct_ok e2⟩
  keeps := fun _ _ _ ⟨K, hK, c, o, es, ep, h1, h2⟩ k => ⟨K, PySem.W.Frag.In.keeps hK k, c, o, es, ep, k _ _ h1, h2⟩
theorem obs2_eq {n : Nat} {fa : List He.Fa} {fn : List He.DefD} {g : Addr → Option Obj} {s : Shared} (h : ∀ a, g a = s.heap.get? a) : obs2 n fa fn g = (hook2 n fa fn).obs s := by
  have e : g = s.heap.get? := funext h
  rw [e] <;> rfl
/-! ### the call -/
theorem callG {P : Program} {w : World} {K : PySem.W.Frag} {mg mb : Str → Option Value} {k : Nat} {fa a : Addr} {fd : FuncData} {x : Str} {sp : Pr} {st : Shared} {vs : List Value} {ns : List Int}
    (kin : K.In st.heap) (gns : st.heap.Ns mainGlobals mg) (bns : st.heap.Ns builtinsNs mb) (bbt : ∀ x : Str, x ≠ "__name__" → mb x = bootBuiltins x) (nol : st.heap.NoLimit) (nog : st.gens = #[])
    (hsys : ∃ o es ep, st.heap.get? sysModules = some o ∧ o.data = .dict es ep) (ha : st.heap.get? a = some { cls := .type "list", data := .seq vs.toArray }) (hi : IntsAre vs ns) (hl : ns.length ≤ sizeLine) (hr : Room k callerA)
    (F : ∀ bs : Heap, K.In bs → bs.Ns mainGlobals mg → (∃ o, bs.get? sysModules = some o) → FnG P w K mg bs k fa fd [x] sp) (hbind : ∀ (s : Shared) (u : Value), BindsTo s fd ⟨[u], []⟩ [(x, u)])
    (hsp : ∀ H : Hp, Only H → SqL K H a (ns.map V.int) → sp [.ref a] H (fun v _ => v = .bl true)) :
    codeAny (model P w) callerA (.call (.ref fa) ⟨[.ref a], []⟩) (fun r s' => r = .ok (.ret (.bool true)) ∧ OldK st.heap s'.heap ∧ s'.os = st.os ∧ AllBare s'.gens) st := by
  have rv := vals_ints hi
  have lenV := hi.length
  have main : ∀ H : Hp, Only H → SqL K H a (ns.map V.int) → HOk P w H st.heap → (∀ b, H b ≠ none → b = a) → (H a ≠ none → K.lookup a = none) →
      codeAny (model P w) callerA (.call (.ref fa) ⟨[.ref a], []⟩) (fun r s' => r = .ok (.ret (.bool true)) ∧ OldK st.heap s'.heap ∧ s'.os = st.os ∧ AllBare s'.gens) st := by
    intro H only hS hok one hK
    have look : ∀ {b : Addr} {o : Obj}, st.heap.get? b = some o → H b = none → (hidT st.heap H).get? b = some o := fun e n => hidT_get e n
    have isNone : ∀ {b : Addr}, b ≠ a → H b = none := fun {b} hb => by
      cases q : H b with
      | none => rfl
      | some u => exact absurd (one b (by rw [q]; simp)) hb
    have dictNone : ∀ {b : Addr} {o : Obj} {es : Array DictEntry} {ep : Nat}, st.heap.get? b = some o → o.data = .dict es ep → H b = none := fun {b o es ep} e d => isNone fun z => by
      rw [z, ha] at e
      cases e
      cases d
    have nsB : ∀ {b : Addr} {m : Str → Option Value}, st.heap.Ns b m → (hidT st.heap H).Ns b m := fun {b m} ⟨o, es, ep, e, d, r⟩ => ⟨o, es, ep, look e (dictNone e d), d, r⟩
    have hKb : K.In (hidT st.heap H) := fun b o e => look (kin b o e) (by
      cases q : H b with
      | none => rfl
      | some u =>
        have z : b = a := one b (by rw [q]; simp)
        rw [z] at q e
        rw [hK (by rw [q]; simp)] at e
        cases e)
    have sys : ∃ o, (hidT st.heap H).get? sysModules = some o := by
      obtain ⟨o, es, ep, e, d⟩ := hsys
      exact ⟨o, look e (dictNone e d)⟩
    have md : Mod K mg (hidT st.heap H) := ⟨hKb, nsB gns, ⟨mb, nsB bns, bbt⟩, let ⟨mc, h1, h2⟩ := nol; ⟨mc, nsB h1, h2⟩⟩
    have e0 : Env0 P w K mg (hidT st.heap H) callerA [] st H :=
      ⟨rfl, md, fun b o e => of_hidT e, Nat.le_of_eq (hidT_size _ _), trivial, (fun b hb => nomatch (show b ∈ ([] : List Addr) from hb)), hok, .of_eq nog⟩
    refine codeAny_mono ((F _ hKb (nsB gns) sys).go callerA [] st H ⟨[.ref a], []⟩ [.ref a] [.ref a] _ hr rfl e0 (hbind st (.ref a)) (.cons rfl .nil) (hsp H only hS)) fun r s' h => ?_
    match r, h with
    | .ok (.ret u), ⟨v, H', os, bare, un, hok', r', q⟩ =>
      obtain rfl : v = .bl true := q
      obtain rfl : u = Value.bool true := r'
      refine ⟨rfl, OldK.of_keep fun b o e => ?_, os, bare⟩
      rcases only b with z | ⟨ob, xs, z⟩
      · exact un.keep b o e z (by simp [frs]) (by simp)
      · have z2 := un.frzs b ob _ z
        obtain ⟨e1, _⟩ := hok b _ z
        obtain ⟨e2, _⟩ := hok' b _ z2
        rw [e] at e1; cases e1
        exact e2
  cases hk : K.lookup a with
  | some o =>
    have e := kin a o hk
    rw [ha] at e
    cases e
    have hsz : vs.toArray.size ≤ sizeLine := by rw [List.size_toArray, lenV]; exact hl
    exact main (fun _ => none) (fun _ => .inl rfl) (.inr ⟨_, vs.toArray, _, hk, rfl, rfl, rfl, hsz, by simpa using rv⟩) (fun b u z => nomatch (show (none : Option HO) = some u from z)) (fun b z => absurd rfl z) fun z => absurd rfl z
  | none =>
    let H0 : Hp := fun b => if b = a then some (.frz { cls := .type "list", data := .seq vs.toArray } (.lst (ns.map V.int))) else none
    have here : H0 a = some (.frz { cls := .type "list", data := .seq vs.toArray } (.lst (ns.map V.int))) := if_pos rfl
    have away : ∀ {b : Addr}, b ≠ a → H0 b = none := fun hb => if_neg hb
    refine main H0 (fun b => ?_) (.inl (.inr ⟨_, here⟩)) (fun b u z => ?_) (fun b z => ?_) fun _ => hk
    · by_cases hb : b = a
      · rw [hb]; exact .inr ⟨_, _, here⟩
      · exact .inl (away hb)
    · by_cases hb : b = a
      · rw [hb, here] at z
        cases z
        rw [hb]
        exact ⟨ha, by rw [List.length_map]; exact hl, vs, _, rv, ha⟩
      · rw [away hb] at z; cases z
    · by_cases hb : b = a
      · exact hb
      · exact absurd (away hb) z
/-- the end of a row: F gives the written part, the function object, its promise over every base -/
theorem walkG {l : PySem.W.OpenLaw} {n k : Nat} {q : Program} {loose : List Str} {XP : (Str → Option Value) → Heap → Prop} {YP : World → Heap → Prop} {d : DefRec} {x : Str} (hn : l.most = some n) (hn2 : n ≤ sizeLine) (hdf : d.params.defaults = []) (hr : Room k callerA)
    (hsys : ∀ w h, YP w h → ∃ o es ep, h.get? sysModules = some o ∧ o.data = .dict es ep)
    (F : ∀ (w : World) (mg : Str → Option Value) (fa : Addr) (h : Heap) (ns : List Int), ns.length ≤ n → YP w h → h.Ns mainGlobals mg → mg d.name = some (.ref fa) → ∃ (K : PySem.W.Frag) (fd : FuncData) (sp : Pr), K.In h ∧ (∀ (s : Shared) (u : Value), BindsTo s fd ⟨[u], []⟩ [(x, u)]) ∧
      (∀ (H : Hp) (a : Addr), Only H → SqL K H a (ns.map V.int) → sp [.ref a] H (fun v _ => v = .bl true)) ∧ ∀ bs : Heap, K.In bs → bs.Ns mainGlobals mg → (∃ o, bs.get? sysModules = some o) → FnG l.prog w K mg bs k fa fd [x] sp) :
    PySem.W.WalkO q loose XP YP l.row.toRowW d [] (fun f vs => PySem.call f vs) := by
  refine Att.attach_call hn hdf fun w s0 s1 mg mb fa o pm cd doc a vs ns G Y ho hd hcd hmg hobj hints hlen hg => ?_
  obtain ⟨K, fd, sp, KX, hb, hsp, hF⟩ := F w mg fa _ ns hlen Y G.T.g hmg
  exact callG KX G.T.g G.T.b G.T.builtins G.T.nolimit hg (hsys w _ Y) hobj hints (Nat.le_trans hlen hn2) hr hF hb fun H hO hS => hsp H a hO hS
end Kd
namespace Kd
open PySem PySem.Spec PyProof.Rows L2
theorem spScr {W : Wd} {ns : List Int} {sem : Sem1 GG} {H : Hp} {a : Addr} {g' : GG} (hO : Only H) (hS : SqL W.K H a (ns.map V.int)) (h : sem [.scr] none = some (.ok (.bool true) g')) : spOf (BB W ns) 1 sem [.ref a] H (fun v _ => v = .bl true) := by
  refine ⟨[], fun _ => False, none, [.scr], .bool true, g', ⟨fun _ h => h.elim, fun _ _ h => h, rfl⟩, .cons ⟨a, rfl, ?_⟩ .nil, rfl, rfl, h, fun v H' F' S' _ _ r => ?_⟩
  · rcases hS with h | h
    · rcases h with h | ⟨o, h⟩
      · rcases hO a with z | ⟨o, xs, z⟩
        · rw [z] at h; cases h
        · rw [z] at h; cases h
      · exact .inl ⟨o, h⟩
    · exact .inr (.inr h)
  · cases r; rfl
end Kd

end part_KdQ
section part_KdN
/-! Kd, part N: plain laws of the mirrors. -/
namespace Kd
open PySem PySem.Spec PyProof.Rows L2
/-! ### data of ints -/
theorem canLay_ints : ∀ ns : List Int, PyData.canLayAll0 (ns.map PyData.int) = true
  | [] => rfl
  | n :: ns => by
    rw [List.map_cons]
    simp only [PyData.canLayAll0, PyData.canLay0, canLay_ints ns, Bool.and_self]
theorem shaped_int (i : Int) : SeqAt.shaped (.int i) = true := by simp [SeqAt.shaped, PyData.canLay0, PyData.depth]
theorem shaped_bool (i : Bool) : SeqAt.shaped (.bool i) = true := by simp [SeqAt.shaped, PyData.canLay0, PyData.depth]
theorem shaped_none : SeqAt.shaped .none = true := by simp [SeqAt.shaped, PyData.canLay0, PyData.depth]
theorem shaped_list {xs : List D} (h : PyData.canLayAll0 xs = true) (h2 : PyData.depthAll xs ≤ 60) : SeqAt.shaped (.list xs) = true := by
  unfold SeqAt.shaped
  rw [Bool.and_eq_true]
  exact ⟨by simpa only [PyData.canLay0] using h, decide_eq_true (by simp only [PyData.depth]; omega)⟩
theorem shaped_tuple {xs : List D} (h : PyData.canLayAll0 xs = true) (h2 : PyData.depthAll xs ≤ 60) : SeqAt.shaped (.tuple xs) = true := by
  unfold SeqAt.shaped
  rw [Bool.and_eq_true]
  exact ⟨by simpa only [PyData.canLay0] using h, decide_eq_true (by simp only [PyData.depth]; omega)⟩
theorem shaped_ints (ns : List Int) : SeqAt.shaped (.list (ns.map PyData.int)) = true := shaped_list (canLay_ints ns) (by have := depthI ns; omega)
theorem shaped_tints (ns : List Int) : SeqAt.shaped (.tuple (ns.map PyData.int)) = true := shaped_tuple (canLay_ints ns) (by have := depthI ns; omega)
theorem shaped_nil : SeqAt.shaped (.list []) = true := rfl
theorem shaped_tnil : SeqAt.shaped (.tuple []) = true := rfl
theorem eqD_of {x y : D} (h1 : SeqAt.shaped x = true) (h2 : SeqAt.shaped y = true) : eqD x y = some (.bool (PyData.eqv x y)) := by
  unfold eqD
  rw [h1, h2]; rfl
theorem neD_of {x y : D} (h1 : SeqAt.shaped x = true) (h2 : SeqAt.shaped y = true) : neD x y = some (.bool (!PyData.eqv x y)) := by
  unfold neD
  rw [h1, h2]; rfl
@[simp] theorem eqX_int (a b : Int) : eqX (.int a) (.int b) = some (.bool (a == b)) := by
  unfold eqX
  rw [eqD_of (shaped_int a) (shaped_int b)]
  rfl
@[simp] theorem neX_int (a b : Int) : neX (.int a) (.int b) = some (.bool (!(a == b))) := by
  unfold neX
  rw [neD_of (shaped_int a) (shaped_int b)]
  rfl
@[simp] theorem eqX_str (a b : Str) : eqX (.str a) (.str b) = some (.bool (decide (a = b))) := rfl
@[simp] theorem neX_str (a b : Str) : neX (.str a) (.str b) = some (.bool (!decide (a = b))) := rfl
theorem eqv_nil (x : List D) : PyData.eqvAll x [] = x.isEmpty := by cases x <;> simp [PyData.eqvAll]
theorem neX_lnil {xs : List D} (h : SeqAt.shaped (.list xs) = true) : neX (.list xs) (.list []) = some (.bool (!xs.isEmpty)) := by
  unfold neX
  rw [neD_of h shaped_nil]
  simp only [neS, Option.none_or, PyData.eqv, eqv_nil]
theorem neX_tnil {xs : List D} (h : SeqAt.shaped (.tuple xs) = true) : neX (.tuple xs) (.tuple []) = some (.bool (!xs.isEmpty)) := by
  unfold neX
  rw [neD_of h shaped_tnil]
  simp only [neS, Option.none_or, PyData.eqv, eqv_nil]
@[simp] theorem addD_int (a b : Int) : addD (.int a) (.int b) = some (.int (a + b)) := rfl
@[simp] theorem subD_int (a b : Int) : subD (.int a) (.int b) = some (.int (a - b)) := rfl
@[simp] theorem ltI_int (a b : Int) : ltI (.int a) (.int b) = some (.bool (decide (a < b))) := rfl
@[simp] theorem leI_int (a b : Int) : leI (.int a) (.int b) = some (.bool (decide (a ≤ b))) := rfl
@[simp] theorem gtI_int (a b : Int) : gtI (.int a) (.int b) = some (.bool (decide (b < a))) := rfl
@[simp] theorem geI_int (a b : Int) : geI (.int a) (.int b) = some (.bool (decide (b ≤ a))) := rfl
@[simp] theorem intD_int (a : Int) : intD (.int a) = some (.int a) := rfl
@[simp] theorem negD_int (a : Int) : negD (.int a) = some (.int (-a)) := rfl
theorem modD_int {a b : Int} (h : 0 < b) : modD (.int a) (.int b) = some (.int (a % b)) := by unfold modD; simp [h]
theorem fdivD_int {a b : Int} (h : 0 < b) (h2 : b < 1073741824) : fdivD (.int a) (.int b) = some (.int (a / b)) := by unfold fdivD; simp [h, h2]
theorem mulX_int {a b : Int} (h : mulOk a b = true) : mulX (.int a) (.int b) = some (.int (a * b)) := by
  unfold mulX mulD mulI
  simp [h]
theorem mulOkL {a b : Int} (h1 : -(2 ^ 64) < a) (h2 : a < 2 ^ 64) : mulOk a b = true := by
  unfold mulOk
  rw [decide_eq_true h1, decide_eq_true h2]; rfl
theorem mulOkR {a b : Int} (h1 : -(2 ^ 64) < b) (h2 : b < 2 ^ 64) : mulOk a b = true := by
  unfold mulOk
  rw [decide_eq_true h1, decide_eq_true h2, Bool.or_eq_true]; exact .inr rfl
@[simp] theorem pow109 : powD (.int 10) (.int 9) = some (.int 1000000000) := by
  have h : (0 : Int) ≤ 9 ∧ ((Builtin.Int.intBits 10 : Nat) : Int) * 9 ≤ 2 ^ 27 := by decide +kernel
  show (if (0 : Int) ≤ 9 ∧ ((Builtin.Int.intBits 10 : Nat) : Int) * 9 ≤ 2 ^ 27 then some (PyData.int (10 ^ (9 : Int).toNat)) else none) = _
  rw [if_pos h]
  rfl
theorem allD_map {α : Type} (P : α → Bool) (xs : List α) : allD (.list (xs.map fun x => .bool (P x))) = some (.bool (xs.all P)) := by
  have h : xs.map (fun x => PyData.bool (P x)) = (xs.map P).map PyData.bool := by rw [List.map_map]; rfl
  unfold allD
  dsimp only
  rw [h, bools?_map]
  simp [List.all_map]
theorem sumD_map {α : Type} (P : α → Int) (xs : List α) : sumD (.list (xs.map fun x => .int (P x))) = some (.int (xs.map P).sum) := by
  have h : xs.map (fun x => PyData.int (P x)) = (xs.map P).map PyData.int := by rw [List.map_map]; rfl
  unfold sumD
  dsimp only
  rw [h, ints?_map]; rfl
theorem zipL_ints (a b : List Int) : zipL (a.map PyData.int) (b.map PyData.int) = (a.zip b).map fun p => .tuple [.int p.1, .int p.2] := by
  unfold zipL
  induction a generalizing b with
  | nil => rfl
  | cons x a ih =>
    cases b with
    | nil => rfl
    | cons y b => simp only [List.map_cons, List.zipWith_cons_cons, List.zip_cons_cons, ih]
theorem enumL_eq : ∀ (i : Nat) (ds : List D), enumL i ds = (ds.zipIdx i).map fun p => .tuple [.int (p.2 : Nat), p.1]
  | _, [] => rfl
  | i, d :: ds => by rw [enumL, enumL_eq, List.zipIdx_cons, List.map_cons]
theorem rangeL_eq (n : Nat) : rangeL 0 (n : Nat) = (List.range n).map fun (i : Nat) => PyData.int (i : Nat) := by
  unfold rangeL
  simp
theorem range1_ok {n : Nat} (h : n ≤ 16777216) : (-(2 ^ 62) ≤ ((n : Nat) : Int) ∧ ((n : Nat) : Int) ≤ 16777216) := by omega
theorem atI_nat {α : Type} (xs : List α) (i : Nat) : L2.atI xs (i : Nat) = xs[i]? := by
  unfold L2.atI L2.ixN
  by_cases h : i < xs.length
  · simp [h]
  · simp [h]
    try omega
/-! ### the combinators -/
section
variable {G : Type}
@[simp] theorem seqM_nx {f h : SM G} {ρ ρ1 : Env} {g g1 : G} (e : f ρ g = some (.nx ρ1 g1)) : seqM f h ρ g = h ρ1 g1 := by unfold seqM; rw [e]
theorem seqM_rt {f h : SM G} {ρ : Env} {g g1 : G} {d : D} (e : f ρ g = some (.rt d g1)) : seqM f h ρ g = some (.rt d g1) := by unfold seqM; rw [e]
theorem ifS_t {t : Mn G Bool} {f h : SM G} {ρ : Env} {g g1 : G} (e : t ρ g = some (.ok true g1)) : ifS t f h ρ g = f ρ g1 := by unfold ifS; rw [e]
theorem ifS_f {t : Mn G Bool} {f h : SM G} {ρ : Env} {g g1 : G} (e : t ρ g = some (.ok false g1)) : ifS t f h ρ g = h ρ g1 := by unfold ifS; rw [e]
theorem fnSem_rt {m : SM G} {n nN : Nat} {ss : List Sv} {g g1 : G} {d : D} (h1 : ss.length = n) (h2 : hasOwn ss = false) (e : m (ss.map some ++ List.replicate (nN - n) none) g = some (.rt d g1)) : fnSem m n nN ss g = some (.ok d g1) := by
  unfold fnSem
  rw [if_pos ⟨h1, h2⟩, e]
/-- a comprehension whose parts leave the pot alone -/
theorem compGo_pure {t : Tg} {c : Mn G Bool} {e : EM G} {ρ : Env} {g : G} (P : D → Bool) (F : D → D) : ∀ xs : List D, (∀ x ∈ xs, ∃ ρ1, bindT t x ρ = some ρ1 ∧ c ρ1 g = some (.ok (P x) g) ∧ (P x = true → e ρ1 g = some (.ok (F x) g))) →
    compGo t c e ρ xs g = some (.ok ((xs.filter P).map F) g)
  | [], _ => rfl
  | x :: xs, h => by
    obtain ⟨ρ1, h1, h2, h3⟩ := h x (by simp)
    have ih := compGo_pure P F xs fun y hy => h y (List.mem_cons_of_mem _ hy)
    rw [compGo, h1]
    simp only [h2, Rs.bind_ok]
    cases hp : P x with
    | true =>
      simp only [h3 hp, Rs.bind_ok, ih, List.filter_cons, hp, if_true, List.map_cons]
    | false =>
      simp only [ih, List.filter_cons, hp]
      rfl
theorem compGo_mapA {α : Type} {t : Tg} {c : Mn G Bool} {e : EM G} {ρ : Env} {g : G} (f : α → D) (P : α → Bool) (F : α → D) : ∀ zs : List α, (∀ z ∈ zs, ∃ ρ1, bindT t (f z) ρ = some ρ1 ∧ c ρ1 g = some (.ok (P z) g) ∧ (P z = true → e ρ1 g = some (.ok (F z) g))) →
    compGo t c e ρ (zs.map f) g = some (.ok ((zs.filter P).map F) g)
  | [], _ => rfl
  | x :: xs, h => by
    obtain ⟨ρ1, h1, h2, h3⟩ := h x (by simp)
    have ih := compGo_mapA f P F xs fun y hy => h y (List.mem_cons_of_mem _ hy)
    rw [List.map_cons, compGo, h1]
    simp only [h2, Rs.bind_ok]
    cases hp : P x with
    | true =>
      simp only [h3 hp, Rs.bind_ok, ih, List.filter_cons, hp, if_true, List.map_cons]
    | false =>
      simp only [ih, List.filter_cons, hp]
      rfl
theorem compGo_all {α : Type} {t : Tg} {e : EM G} {ρ : Env} {g : G} (f : α → D) (F : α → D) (zs : List α) (h : ∀ z ∈ zs, ∃ ρ1, bindT t (f z) ρ = some ρ1 ∧ e ρ1 g = some (.ok (F z) g)) :
    compGo t yesM e ρ (zs.map f) g = some (.ok (zs.map F) g) := by
  have := compGo_mapA (c := yesM) f (fun _ => true) F zs fun z hz => let ⟨ρ1, h1, h2⟩ := h z hz; ⟨ρ1, h1, rfl, fun _ => h2⟩
  rwa [List.filter_eq_self.mpr fun _ _ => rfl] at this
/-- a comprehension that draws -/
theorem compGo_inv {t : Tg} {e : EM G} {ρ : Env} (I : G → Prop) (Good : D → Prop) : ∀ (xs : List D) (g : G), I g → (∀ x ∈ xs, ∀ g, I g → ∃ ρ1 y g1, bindT t x ρ = some ρ1 ∧ e ρ1 g = some (.ok y g1) ∧ I g1 ∧ Good y) →
    ∃ ys g1, compGo t yesM e ρ xs g = some (.ok ys g1) ∧ I g1 ∧ ys.length = xs.length ∧ ∀ y ∈ ys, Good y
  | [], g, hI, _ => ⟨[], g, rfl, hI, rfl, fun _ h => nomatch h⟩
  | x :: xs, g, hI, h => by
    obtain ⟨ρ1, y, g1, h1, h2, h3, h4⟩ := h x (by simp) g hI
    obtain ⟨ys, g2, i1, i2, i3, i4⟩ := compGo_inv I Good xs g1 h3 fun z hz => h z (List.mem_cons_of_mem _ hz)
    refine ⟨y :: ys, g2, ?_, i2, by rw [List.length_cons, i3, List.length_cons], fun z hz => ?_⟩
    · rw [compGo, h1]
      simp only [yesM, Rs.bind_ok, h2, i1]
    · rcases List.mem_cons.mp hz with e | hz
      · rw [e]; exact h4
      · exact i4 z hz
/-- the places of what fails -/
def badL (P : D → Bool) : Nat → List D → List Nat
  | _, [] => []
  | i, x :: xs => match P x with
    | true => badL P (i + 1) xs
    | false => i :: badL P (i + 1) xs
theorem badL_comp (P : D → Bool) : ∀ (i : Nat) (xs : List D), ((xs.zipIdx i).filter fun p => !P p.1).map (fun p => PyData.int (p.2 : Nat)) = (badL P i xs).map fun (k : Nat) => PyData.int (k : Nat)
  | _, [] => rfl
  | i, x :: xs => by
    rw [List.zipIdx_cons, List.filter_cons, badL]
    cases hp : P x with
    | true => simpa using badL_comp P (i + 1) xs
    | false => simpa using badL_comp P (i + 1) xs
theorem forGo_find {t : Tg} {m : SM G} {g : G} (Q : Env → Prop) (P : D → Bool) (out : Nat → D) : ∀ (xs : List D) (i : Nat) (ρ : Env), Q ρ →
    (∀ x ∈ xs, ∀ (i : Nat) (ρ : Env), Q ρ → ∃ ρ1, bindT t (.tuple [.int (i : Nat), x]) ρ = some ρ1 ∧ (P x = true → ∃ ρ2, m ρ1 g = some (.nx ρ2 g) ∧ Q ρ2) ∧ (P x = false → m ρ1 g = some (.rt (out i) g))) →
    ((badL P i xs).head? = none ∧ ∃ ρ', forGo t m (enumL i xs) ρ g = some (.nx ρ' g) ∧ Q ρ') ∨ ∃ k, (badL P i xs).head? = some k ∧ forGo t m (enumL i xs) ρ g = some (.rt (out k) g)
  | [], i, ρ, hq, _ => .inl ⟨rfl, ρ, rfl, hq⟩
  | x :: xs, i, ρ, hq, h => by
    obtain ⟨ρ1, h1, h2, h3⟩ := h x (by simp) i ρ hq
    unfold enumL forGo
    rw [h1]
    cases hp : P x with
    | true =>
      obtain ⟨ρ2, e, q2⟩ := h2 hp
      simp only [e]
      have ih := forGo_find Q P out xs (i + 1) ρ2 q2 fun y hy => h y (List.mem_cons_of_mem _ hy)
      unfold badL
      simp only [hp]
      exact ih
    | false =>
      refine .inr ⟨i, ?_, ?_⟩
      · unfold badL
        simp only [hp]; rfl
      · simp only [h3 hp]
/-- a loop that runs to its end -/
theorem forGo_nx {t : Tg} {m : SM G} (P : Nat → Env → G → Prop) : ∀ (xs : List D) (k : Nat) (ρ : Env) (g : G), P k ρ g →
    (∀ (i : Nat) (x : D) (ρ : Env) (g : G), xs[i]? = some x → P (k + i) ρ g → ∃ ρ1 ρ2 g2, bindT t x ρ = some ρ1 ∧ (m ρ1 g = some (.nx ρ2 g2) ∨ m ρ1 g = some (.ct ρ2 g2)) ∧ P (k + i + 1) ρ2 g2) →
    ∃ ρ1 g1, forGo t m xs ρ g = some (.nx ρ1 g1) ∧ P (k + xs.length) ρ1 g1
  | [], k, ρ, g, h, _ => ⟨ρ, g, rfl, h⟩
  | x :: xs, k, ρ, g, h, hs => by
    obtain ⟨ρ1, ρ2, g2, h1, h2, h3⟩ := hs 0 x ρ g rfl h
    have ih := forGo_nx P xs (k + 1) ρ2 g2 h3 fun i y ρ g hy hp => by
      have := hs (i + 1) y ρ g (by simpa using hy) (by rw [Nat.add_succ, ← Nat.succ_add]; exact hp)
      rw [Nat.add_succ, ← Nat.succ_add] at this
      exact this
    obtain ⟨ρ3, g3, i1, i2⟩ := ih
    refine ⟨ρ3, g3, ?_, ?_⟩
    · unfold forGo
      rw [h1]
      rcases h2 with h2 | h2
      · simp only [h2]; exact i1
      · simp only [h2]; exact i1
    · rw [List.length_cons, Nat.add_succ, ← Nat.succ_add]
      exact i2
end
end Kd
namespace Kd
open PySem
/-! ### slices, sums of tuples -/
theorem cut_take {α : Type} (xs : List α) (k : Nat) : cutG xs none (some (k : Nat)) = xs.take k := by
  unfold cutG
  have h1 : HT.sIx xs.length 0 none = 0 := rfl
  have h2 : HT.sIx xs.length xs.length (some ((k : Nat) : Int)) = min k xs.length := HT.sIx_nat _ _ _
  rw [h1, h2, List.drop_zero, Nat.sub_zero]
  by_cases h : k ≤ xs.length
  · rw [Nat.min_eq_left h]
  · rw [Nat.min_eq_right (by omega), List.take_length, List.take_of_length_le (by omega)]
theorem cut_drop {α : Type} (xs : List α) (k : Nat) : cutG xs (some (k : Nat)) none = xs.drop k := by
  unfold cutG
  have h1 : HT.sIx xs.length xs.length none = xs.length := rfl
  have h2 : HT.sIx xs.length 0 (some ((k : Nat) : Int)) = min k xs.length := HT.sIx_nat _ _ _
  rw [h1, h2]
  by_cases h : k ≤ xs.length
  · rw [Nat.min_eq_left h]
    exact List.take_of_length_le (by rw [List.length_drop]; omega)
  · rw [Nat.min_eq_right (by omega), Nat.sub_self, List.take_zero]
    exact (List.drop_eq_nil_of_le (by omega)).symm
theorem cut_drop1 {α : Type} (xs : List α) (k : Nat) : cutG xs (some (((k : Nat) : Int) + 1)) none = xs.drop (k + 1) := cut_drop xs (k + 1)
theorem cut_len {α : Type} (xs : List α) (lo hi : Option Int) : (cutG xs lo hi).length ≤ xs.length := by
  unfold cutG
  rw [List.length_take, List.length_drop]
  omega
theorem cut_mem {α : Type} {xs : List α} {lo hi : Option Int} {x : α} (h : x ∈ cutG xs lo hi) : x ∈ xs := by
  unfold cutG at h
  exact List.mem_of_mem_drop (List.mem_of_mem_take h)
theorem cut_map {α β : Type} (f : α → β) (xs : List α) (lo hi : Option Int) : cutG (xs.map f) lo hi = (cutG xs lo hi).map f := by
  unfold cutG
  simp [List.map_take, List.map_drop]
theorem addD_tup {a b : List D} (h : a.length + b.length ≤ 16777216) : addD (.tuple a) (.tuple b) = some (.tuple (a ++ b)) := by
  have e : addT (.tuple a) (.tuple b) = some (.tuple (a ++ b)) := if_pos (by rw [sizeLine_eq]; exact h)
  unfold addD
  rw [e]
  rfl
theorem addD_lst {a b : List D} (h : a.length + b.length ≤ 16777216) : addD (.list a) (.list b) = some (.list (a ++ b)) := by
  have e : addL (.list a) (.list b) = some (.list (a ++ b)) := if_pos (by rw [sizeLine_eq]; exact h)
  unfold addD
  rw [e]
  rfl
end Kd
namespace Kd
open PySem
/-! ### data that repr shows -/
structure Nice (h n : Nat) (d : D) : Prop where
  ns : d.showable = true
  nd : d.depth ≤ h
  nl : d.leavesShort 700 = true
  nb : d.bulk ≤ n
theorem Nice.mono {h h' n n' : Nat} {d : D} (N : Nice h n d) (a : h ≤ h') (b : n ≤ n') : Nice h' n' d := ⟨N.ns, Nat.le_trans N.nd a, N.nl, Nat.le_trans N.nb b⟩
theorem Nice.rp {h n : Nat} {d : D} (N : Nice h n d) (a : h ≤ 64) (b : n ≤ 20000) : rpD d = some (.str d.shown) := by
  have h1 := PyData.shown_le_bulk 700 (by decide) d N.nl
  have h2 : (700 + 2) * d.bulk ≤ 702 * 20000 := Nat.mul_le_mul_left _ (Nat.le_trans N.nb b)
  have h3 : d.shown.length ≤ sizeLine := by rw [sizeLine_eq]; omega
  have h4 := Nat.le_trans N.nd a
  unfold rpD
  simp [N.ns, h3, h4]
theorem Nice.non {h n : Nat} : Nice h n .none := ⟨by simp [PyData.showable], by simp [PyData.depth], by simp [PyData.leavesShort], by simp [PyData.bulk]⟩
theorem Nice.bool {h n : Nat} (b : Bool) : Nice h n (.bool b) := ⟨by simp [PyData.showable], by simp [PyData.depth], by simp [PyData.leavesShort], by simp [PyData.bulk]⟩
theorem Nice.int {h n : Nat} {i : Int} (hi : i.natAbs < 10 ^ 400) : Nice h n (.int i) := by
  refine ⟨?_, by simp [PyData.depth], ?_, by simp [PyData.bulk]⟩
  · simp only [PyData.showable, decide_eq_true_eq]
    have h2 : i.natAbs < 2 ^ 1920 := Nat.lt_trans hi (by decide +kernel)
    by_cases h0 : i.natAbs = 0
    · rw [h0]; decide
    · exact (Nat.log2_lt h0).mpr h2
  · have := int_text_length_le10 (a := i) (k := 400) (by decide) hi
    have h2 : (Str.ofString (toString i)).length ≤ 700 := by rw [ofString_length]; omega
    have h3 : (PyData.int i).shown = Str.ofString (toString i) := by simp only [PyData.shown]
    simp only [PyData.leavesShort, decide_eq_true_eq, h3]
    exact h2
theorem niceAll {h n : Nat} : ∀ {xs : List D}, (∀ x ∈ xs, Nice h n x) → PyData.showableAll xs = true ∧ PyData.depthAll xs ≤ h ∧ PyData.leavesShortAll 700 xs = true ∧ PyData.bulkAll xs ≤ xs.length * (n + 1)
  | [], _ => by simp [PyData.showableAll, PyData.depthAll, PyData.leavesShortAll, PyData.bulkAll]
  | x :: xs, hx => by
    have h1 := hx x (by simp)
    obtain ⟨a, b, c, d⟩ := niceAll (xs := xs) fun y hy => hx y (List.mem_cons_of_mem _ hy)
    have e1 := h1.nd
    have e2 := h1.nb
    refine ⟨by simp [PyData.showableAll, h1.ns, a], by simp only [PyData.depthAll]; omega, by simp [PyData.leavesShortAll, h1.nl, c], ?_⟩
    simp only [PyData.bulkAll, List.length_cons, Nat.succ_mul]
    omega
theorem Nice.list {h n k : Nat} {xs : List D} (hx : ∀ x ∈ xs, Nice h n x) (hk : xs.length ≤ k) : Nice (h + 1) (k * (n + 1)) (.list xs) := by
  obtain ⟨a, b, c, d⟩ := niceAll hx
  have := Nat.mul_le_mul_right (n + 1) hk
  exact ⟨by simpa only [PyData.showable] using a, by simp only [PyData.depth]; omega, by simpa only [PyData.leavesShort] using c, by simp only [PyData.bulk]; omega⟩
theorem Nice.tuple {h n k : Nat} {xs : List D} (hx : ∀ x ∈ xs, Nice h n x) (hk : xs.length ≤ k) : Nice (h + 1) (k * (n + 1)) (.tuple xs) := by
  obtain ⟨a, b, c, d⟩ := niceAll hx
  have := Nat.mul_le_mul_right (n + 1) hk
  exact ⟨by simpa only [PyData.showable] using a, by simp only [PyData.depth]; omega, by simpa only [PyData.leavesShort] using c, by simp only [PyData.bulk]; omega⟩
theorem Nice.str {h n : Nat} {x : Str} (hx : x.cps.toList.all (fun c => decide (c < 16 ^ 8)) = true) (hn : x.cps.size ≤ n) : Nice h n (.str x) := ⟨by simp [PyData.showable], by simp [PyData.depth], by simpa only [PyData.leavesShort] using hx, by simpa only [PyData.bulk] using hn⟩
end Kd

end part_KdN
section part_K77A
namespace K77
open PySem PySem.Spec PyProof.Rows L2 Kd
def top (i : Nat) : Stmt := PySem.Challenge.pw_tokensteps_k77_whole_watched_sums.main.body.getD i (.Pass ⟨0, 0, 0, 0⟩)
abbrev gp_breaking_steps__state_caps_net {α : Type} (l : List α) : List α := gpAt [2, 1, 0] l
abbrev gp_cap_slack__state_caps {α : Type} (l : List α) : List α := gpAt [1, 0] l
abbrev gp_does_keep__state_caps {α : Type} (l : List α) : List α := gpAt [1, 0] l
abbrev gp_cap_changes__k_caps_net {α : Type} (l : List α) : List α := gpAt [2, 1, 0] l
abbrev gp_caps_error__value_m {α : Type} (l : List α) : List α := gpAt [1, 0] l
abbrev st__law_bag : Stmt := top 20
def N__law_bag : List Str := ["script", "cells", "mixed", "cell"]
def m__law_bag (ns : List Int) : SM GG := seqM (setM 1 (compM (itSeq (scrM ns 0 63)) (.nm 3) (yesM) (un absD (brwM 3)) [3])) <|
  seqM (setM 2 (bin addD (cM (.int 5177)) (un lenD (brwM 1)))) <|
  seqM (forM (itSeq (varM 1)) (.nm 3) (seqM (setM 2 (bin modD (un intD (bin addD (bin addD (bin mulX (brwM 2) (cM (.int 48271))) (bin modD (un intD (brwM 3)) (cM (.int 2147483629)))) (cM (.int 7)))) (cM (.int 2147483647)))) <|
  nilM)) <|
  nilM
def potOf (ns : List Int) : Option Pot := match m__law_bag ns (some .scr :: List.replicate 3 none) none with
  | some (.nx ρ none) => finPot 1 2 ρ
  | _ => none
theorem b__law_bag {W : Wd} {X : Cx} {ns : List Int} (q : Cs W X N__law_bag (defScope st__law_bag) (fun _ => true) 0) : Fin (BB W ns) X (defBody st__law_bag) (m__law_bag ns) (tFin W ns 1 2) :=
  (fin_cons (q.setC 1 (by kernel_rfl) (by kernel_rfl) (q.toCq.lc (own := [("cell", 3)]) (t := .nm 3) (by kernel_rfl) (by kernel_rfl) rfl (ib_seq (bV (q.toCq.scr 0 (by kernel_rfl)))) fun _ q33 => ⟨(q33.tg 3 (by kernel_rfl)), pts_yes, (q33.abs (by kernel_rfl) rfl (q33.nb 3 (by kernel_rfl)))⟩))
  (fin_cons (q.set 2 (by kernel_rfl) rfl (oAdd (bV kI) (bV (q.toCq.len (by kernel_rfl) rfl (q.toCq.nb 1 (by kernel_rfl))))))
  (fin_cons (q.for_ (iv_seq (q.toCq.nv 1 (by kernel_rfl))) rfl (q.toCq.tg 3 (by kernel_rfl))
  (ss_cons (q.set 2 (by kernel_rfl) rfl (oMod (bV (q.toCq.int (by kernel_rfl) rfl (bV (oAdd (bV (oAdd (bV (oMulX (q.toCq.nb 2 (by kernel_rfl)) (bV kI))) (bV (oMod (bV (q.toCq.int (by kernel_rfl) rfl (q.toCq.nb 3 (by kernel_rfl)))) (bV kI))))) (bV kI))))) (bV kI)))
  ss_nil))
  (fin_nil (q.fin 1 2 (by kernel_rfl) (by kernel_rfl) (by kernel_rfl) (by kernel_rfl))))))
/-! is_number -/
abbrev st_is_number : Stmt := top 4
def N_is_number : List Str := ["value"]
def m_is_number : SM GG := seqM (retM (vAndM (un (isiD .int) (brwM 0)) (vNotM (un (isiD .bool) (brwM 0))))) <|
  nilM
def s_is_number : Sem1 GG := fnSem m_is_number 1 1
theorem b_is_number {W : Wd} {X : Cx} {ns : List Int} (q : Cs W X N_is_number (defScope st_is_number) (fun _ => true) 0)  : PSs X (defBody st_is_number) (tS (BB W ns) m_is_number) :=
  (ss_cons (cs_ret (ce_and (q.toCq.isi .int (by kernel_rfl) (by kernel_rfl) (by kernel_rfl) rfl (q.toCq.nb 0 (by kernel_rfl))) (ce_one (ce_not (q.toCq.isi .bool (by kernel_rfl) (by kernel_rfl) (by kernel_rfl) rfl (q.toCq.nb 0 (by kernel_rfl)))))))
  ss_nil)
/-! is_within -/
abbrev st_is_within : Stmt := top 5
def N_is_within : List Str := ["value", "low", "high"]
def m_is_within : SM GG := seqM (retM (vAndM (callM s_is_number idL [daM (varM 0)]) (chainM leI leI (brwM 1) (brwM 0) (brwM 2)))) <|
  nilM
def s_is_within : Sem1 GG := fnSem m_is_within 3 3
theorem b_is_within {W : Wd} {X : Cx} {ns : List Int} (q : Cs W X N_is_within (defScope st_is_within) (fun _ => true) 1) (cl_is_number : Cal (BB W ns) W.P W.w W.K W.mg W.bs 1 "is_number" ["value"] s_is_number) : PSs X (defBody st_is_within) (tS (BB W ns) m_is_within) :=
  (ss_cons (cs_ret (ce_and (q.toCq.call cl_is_number (by kernel_rfl) (by kernel_rfl) rfl rfl (sa_cons rfl (sa_dat (q.toCq.nv 0 (by kernel_rfl))) sa_nil)) (ce_one (ce_chain op_le op_le ok_le ok_le rfl (q.toCq.nb 1 (by kernel_rfl)) (q.toCq.nb 0 (by kernel_rfl)) (q.toCq.nb 2 (by kernel_rfl))))))
  ss_nil)
/-! are_numbers -/
abbrev st_are_numbers : Stmt := top 6
def N_are_numbers : List Str := ["value", "many", "low", "high", "item"]
def m_are_numbers : SM GG := seqM (retM (vAndM (un (isiD .tuple) (brwM 0)) (vAndM (bin eqX (un lenD (brwM 0)) (brwM 1)) (un allD (compM (itSeq (brwM 0)) (.nm 4) (yesM) (callM s_is_within idL [daM (varM 4), daM (varM 2), daM (varM 3)]) [4]))))) <|
  nilM
def s_are_numbers : Sem1 GG := fnSem m_are_numbers 4 5
theorem b_are_numbers {W : Wd} {X : Cx} {ns : List Int} (q : Cs W X N_are_numbers (defScope st_are_numbers) (fun _ => true) 2) (cl_is_within : Cal (BB W ns) W.P W.w W.K W.mg W.bs 2 "is_within" ["value", "low", "high"] s_is_within) : PSs X (defBody st_are_numbers) (tS (BB W ns) m_are_numbers) :=
  (ss_cons (cs_ret (ce_and (q.toCq.isi .tuple (by kernel_rfl) (by kernel_rfl) (by kernel_rfl) rfl (q.toCq.nb 0 (by kernel_rfl))) (ce_and (q.toCq.vEq (bV (q.toCq.len (by kernel_rfl) rfl (q.toCq.nb 0 (by kernel_rfl)))) (q.toCq.nb 1 (by kernel_rfl)) rfl) (ce_one (q.toCq.all (by kernel_rfl) rfl (bF (ce_lc (q.toCq.lc (own := [("item", 4)]) (t := .nm 4) (by kernel_rfl) (by kernel_rfl) rfl (ib_seq (q.toCq.nb 0 (by kernel_rfl))) fun _ q1 => ⟨(q1.tg 4 (by kernel_rfl)), pts_yes, (q1.call cl_is_within (by kernel_rfl) (by kernel_rfl) rfl rfl (sa_cons rfl (sa_dat (q1.nv 4 (by kernel_rfl))) (sa_cons rfl (sa_dat (q1.nv 2 (by kernel_rfl))) (sa_cons rfl (sa_dat (q1.nv 3 (by kernel_rfl))) sa_nil))))⟩))))))))
  ss_nil)
/-! is_let -/
abbrev st_is_let : Stmt := top 7
def N_is_let : List Str := ["net", "state", "k", "own", "taken"]
def m_is_let : SM GG := seqM (retM (un allD (compM (itZip (brwM 1) (bin idxD (bin idxD (brwM 0) (brwM 2)) (cM (.int 0)))) (.tp (.cons (.nm 3) (.cons (.nm 4) (.nil)))) (yesM) (bin geI (brwM 3) (brwM 4)) [3, 4]))) <|
  nilM
def s_is_let : Sem1 GG := fnSem m_is_let 3 5
theorem b_is_let {W : Wd} {X : Cx} {ns : List Int} (q : Cs W X N_is_let (defScope st_is_let) (fun _ => true) 0)  : PSs X (defBody st_is_let) (tS (BB W ns) m_is_let) :=
  (ss_cons (cs_ret (q.toCq.all (by kernel_rfl) rfl (bF (ce_lc (q.toCq.lc (own := [("own", 3), ("taken", 4)]) (t := .tp (.cons (.nm 3) (.cons (.nm 4) (.nil)))) (by kernel_rfl) (by kernel_rfl) rfl (q.toCq.ibZip (by kernel_rfl) rfl rfl (q.toCq.nb 1 (by kernel_rfl)) (bV (ce_idx rfl (bV (ce_idx rfl (q.toCq.nb 0 (by kernel_rfl)) (q.toCq.nb 2 (by kernel_rfl)))) (bV kI)))) fun _ q2 => ⟨(q2.tp rfl rfl (cg_cons rfl (q2.tg 3 (by kernel_rfl)) (cg_cons rfl (q2.tg 4 (by kernel_rfl)) cg_nil))), pts_yes, (vGe (q2.nb 3 (by kernel_rfl)) (q2.nb 4 (by kernel_rfl)) rfl)⟩)))))
  ss_nil)
/-! let_steps -/
abbrev st_let_steps : Stmt := top 8
def N_let_steps : List Str := ["net", "state", "k"]
def m_let_steps : SM GG := seqM (retM (un tupleD (compM (itRange1 (un lenD (brwM 0))) (.nm 2) (tstM (callM s_is_let idL [daM (varM 0), daM (varM 1), daM (varM 2)])) (varM 2) [2]))) <|
  nilM
def s_let_steps : Sem1 GG := fnSem m_let_steps 2 3
theorem b_let_steps {W : Wd} {X : Cx} {ns : List Int} (q : Cs W X N_let_steps (defScope st_let_steps) (fun _ => true) 1) (cl_is_let : Cal (BB W ns) W.P W.w W.K W.mg W.bs 1 "is_let" ["net", "state", "k"] s_is_let) : PSs X (defBody st_let_steps) (tS (BB W ns) m_let_steps) :=
  (ss_cons (cs_ret (q.toCq.tuple (by kernel_rfl) rfl (bF (ce_lc (q.toCq.lc (own := [("k", 2)]) (t := .nm 2) (by kernel_rfl) (by kernel_rfl) rfl (q.toCq.ibRange (by kernel_rfl) rfl (bV (q.toCq.len (by kernel_rfl) rfl (q.toCq.nb 0 (by kernel_rfl))))) fun _ q3 => ⟨(q3.tg 2 (by kernel_rfl)), (pts_one (ct_val rfl (bV (q3.call cl_is_let (by kernel_rfl) (by kernel_rfl) rfl rfl (sa_cons rfl (sa_dat (q3.nv 0 (by kernel_rfl))) (sa_cons rfl (sa_dat (q3.nv 1 (by kernel_rfl))) (sa_cons rfl (sa_dat (q3.nv 2 (by kernel_rfl))) sa_nil))))))), (q3.nv 2 (by kernel_rfl))⟩)))))
  ss_nil)
/-! change_of -/
abbrev st_change_of : Stmt := top 9
def N_change_of : List Str := ["net", "k", "taken", "put"]
def m_change_of : SM GG := seqM (retM (un tupleD (compM (itZip (bin idxD (bin idxD (brwM 0) (brwM 1)) (cM (.int 0))) (bin idxD (bin idxD (brwM 0) (brwM 1)) (cM (.int 1)))) (.tp (.cons (.nm 2) (.cons (.nm 3) (.nil)))) (yesM) (bin subD (brwM 3) (brwM 2)) [2, 3]))) <|
  nilM
def s_change_of : Sem1 GG := fnSem m_change_of 2 4
theorem b_change_of {W : Wd} {X : Cx} {ns : List Int} (q : Cs W X N_change_of (defScope st_change_of) (fun _ => true) 0)  : PSs X (defBody st_change_of) (tS (BB W ns) m_change_of) :=
  (ss_cons (cs_ret (q.toCq.tuple (by kernel_rfl) rfl (bF (ce_lc (q.toCq.lc (own := [("taken", 2), ("put", 3)]) (t := .tp (.cons (.nm 2) (.cons (.nm 3) (.nil)))) (by kernel_rfl) (by kernel_rfl) rfl (q.toCq.ibZip (by kernel_rfl) rfl rfl (bV (ce_idx rfl (bV (ce_idx rfl (q.toCq.nb 0 (by kernel_rfl)) (q.toCq.nb 1 (by kernel_rfl)))) (bV kI))) (bV (ce_idx rfl (bV (ce_idx rfl (q.toCq.nb 0 (by kernel_rfl)) (q.toCq.nb 1 (by kernel_rfl)))) (bV kI)))) fun _ q4 => ⟨(q4.tp rfl rfl (cg_cons rfl (q4.tg 2 (by kernel_rfl)) (cg_cons rfl (q4.tg 3 (by kernel_rfl)) cg_nil))), pts_yes, (oSub (q4.nb 3 (by kernel_rfl)) (q4.nb 2 (by kernel_rfl)))⟩)))))
  ss_nil)
/-! moved_state -/
abbrev st_moved_state : Stmt := top 10
def N_moved_state : List Str := ["state", "change", "own", "more"]
def m_moved_state : SM GG := seqM (retM (un tupleD (compM (itZip (brwM 0) (brwM 1)) (.tp (.cons (.nm 2) (.cons (.nm 3) (.nil)))) (yesM) (bin addD (brwM 2) (brwM 3)) [2, 3]))) <|
  nilM
def s_moved_state : Sem1 GG := fnSem m_moved_state 2 4
theorem b_moved_state {W : Wd} {X : Cx} {ns : List Int} (q : Cs W X N_moved_state (defScope st_moved_state) (fun _ => true) 0)  : PSs X (defBody st_moved_state) (tS (BB W ns) m_moved_state) :=
  (ss_cons (cs_ret (q.toCq.tuple (by kernel_rfl) rfl (bF (ce_lc (q.toCq.lc (own := [("own", 2), ("more", 3)]) (t := .tp (.cons (.nm 2) (.cons (.nm 3) (.nil)))) (by kernel_rfl) (by kernel_rfl) rfl (q.toCq.ibZip (by kernel_rfl) rfl rfl (q.toCq.nb 0 (by kernel_rfl)) (q.toCq.nb 1 (by kernel_rfl))) fun _ q5 => ⟨(q5.tp rfl rfl (cg_cons rfl (q5.tg 2 (by kernel_rfl)) (cg_cons rfl (q5.tg 3 (by kernel_rfl)) cg_nil))), pts_yes, (oAdd (q5.nb 2 (by kernel_rfl)) (q5.nb 3 (by kernel_rfl)))⟩)))))
  ss_nil)
/-! is_weights_item -/
abbrev st_is_weights_item : Stmt := top 12
def N_is_weights_item : List Str := ["m", "value"]
def m_is_weights_item : SM GG := seqM (retM (vAndM (un (isiD .tuple) (brwM 1)) (vAndM (bin eqX (un lenD (brwM 1)) (cM (.int 2))) (callM s_are_numbers idL [daM (bin idxD (brwM 1) (cM (.int 0))), daM (varM 0), daM (cM (.int 0)), daM (cM (.int 9))])))) <|
  nilM
def s_is_weights_item : Sem1 GG := fnSem m_is_weights_item 2 2
theorem b_is_weights_item {W : Wd} {X : Cx} {ns : List Int} (q : Cs W X N_is_weights_item (defScope st_is_weights_item) (fun _ => true) 3) (gc_MAX_WEIGHT : ∃ t, W.mg "MAX_WEIGHT" = some (.int 9 t)) (cl_are_numbers : Cal (BB W ns) W.P W.w W.K W.mg W.bs 3 "are_numbers" ["value", "many", "low", "high"] s_are_numbers) : PSs X (defBody st_is_weights_item) (tS (BB W ns) m_is_weights_item) :=
  (ss_cons (cs_ret (ce_and (q.toCq.isi .tuple (by kernel_rfl) (by kernel_rfl) (by kernel_rfl) rfl (q.toCq.nb 1 (by kernel_rfl))) (ce_and (q.toCq.vEq (bV (q.toCq.len (by kernel_rfl) rfl (q.toCq.nb 1 (by kernel_rfl)))) (bV kI) rfl) (ce_one (q.toCq.call cl_are_numbers (by kernel_rfl) (by kernel_rfl) rfl rfl (sa_cons rfl (sa_dat (ce_idx rfl (q.toCq.nb 1 (by kernel_rfl)) (bV kI))) (sa_cons rfl (sa_dat (q.toCq.nv 0 (by kernel_rfl))) (sa_cons rfl (sa_dat kI) (sa_cons rfl (sa_dat (q.toCq.gI gc_MAX_WEIGHT (by kernel_rfl))) sa_nil)))))))))
  ss_nil)
/-! caps_error -/
abbrev st_caps_error : Stmt := top 13
def N_caps_error : List Str := ["m", "value", "odd", "high", "c", "item"]
def m_caps_error : SM GG := seqM (ifS (orM (notM (tstM (un (isiD .tuple) (brwM 1)))) (blM (bin gtI (un lenD (brwM 1)) (cM (.int 3))))) (seqM (retM (cM (.str "form"))) <|
  nilM) (nilM)) <|
  seqM (setM 2 (compM (itEnum (brwM 1)) (.tp (.cons (.nm 4) (.cons (.nm 5) (.nil)))) (notM (tstM (callM s_is_weights_item idL [daM (varM 0), daM (varM 5)]))) (varM 4) [4, 5])) <|
  seqM (ifS (blM (bin neX (brwM 2) (lstM []))) (seqM (retM (tupM [cM (.str "weights"), bin idxD (brwM 2) (cM (.int 0))])) <|
  nilM) (nilM)) <|
  seqM (setM 3 (compM (itEnum (brwM 1)) (.tp (.cons (.nm 4) (.cons (.nm 5) (.nil)))) (notM (tstM (callM s_is_within idL [daM (bin idxD (brwM 5) (cM (.int 1))), daM (cM (.int 0)), daM (cM (.int 1000000000))]))) (varM 4) [4, 5])) <|
  seqM (retM (ifM (blM (bin neX (brwM 3) (lstM []))) (tupM [cM (.str "most"), bin idxD (brwM 3) (cM (.int 0))]) (cM .none))) <|
  nilM
def s_caps_error : Sem1 GG := fnSem m_caps_error 2 6
theorem b_caps_error {W : Wd} {X : Cx} {ns : List Int} (q : Cs W X N_caps_error (defScope st_caps_error) (fun _ => true) 4) (gc_MAX_TOKENS : ∃ t, W.mg "MAX_TOKENS" = some (.int 1000000000 t)) (gc_MAX_CAPS : ∃ t, W.mg "MAX_CAPS" = some (.int 3 t)) (cl_is_within : Cal (BB W ns) W.P W.w W.K W.mg W.bs 2 "is_within" ["value", "low", "high"] s_is_within) (cl_is_weights_item : Cal (BB W ns) W.P W.w W.K W.mg W.bs 4 "is_weights_item" ["m", "value"] s_is_weights_item) : PSs X (defBody st_caps_error) (tS (BB W ns) m_caps_error) :=
  (ss_cons (cs_if (PW.pt (cw_or (ct_not (ct_val rfl (bV (q.toCq.isi .tuple (by kernel_rfl) (by kernel_rfl) (by kernel_rfl) rfl (q.toCq.nb 1 (by kernel_rfl)))))) (cw_or1 (tGt (bV (q.toCq.len (by kernel_rfl) rfl (q.toCq.nb 1 (by kernel_rfl)))) (bV (q.toCq.gI gc_MAX_CAPS (by kernel_rfl))) rfl))))
  (ss_cons (cs_ret kS)
  ss_nil)
  ss_nil)
  (ss_cons (q.setC 2 (by kernel_rfl) (by kernel_rfl) (q.toCq.lc (own := [("c", 4), ("item", 5)]) (t := .tp (.cons (.nm 4) (.cons (.nm 5) (.nil)))) (by kernel_rfl) (by kernel_rfl) rfl (q.toCq.ibEnum (by kernel_rfl) rfl (q.toCq.nb 1 (by kernel_rfl))) fun _ q7 => ⟨(q7.tp rfl rfl (cg_cons rfl (q7.tg 4 (by kernel_rfl)) (cg_cons rfl (q7.tg 5 (by kernel_rfl)) cg_nil))), (pts_one (ct_not (ct_val rfl (bV (q7.call cl_is_weights_item (by kernel_rfl) (by kernel_rfl) rfl rfl (sa_cons rfl (sa_dat (q7.nv 0 (by kernel_rfl))) (sa_cons rfl (sa_dat (q7.nv 5 (by kernel_rfl))) sa_nil))))))), (q7.nv 4 (by kernel_rfl))⟩))
  (ss_cons (cs_if (q.toCq.tNe (q.toCq.nb 2 (by kernel_rfl)) (bF (ce_lst (by decide) ca_nil)) rfl)
  (ss_cons (cs_ret (ce_tup (by decide) (ca_cons rfl kS (ca_cons rfl (ce_idx rfl (q.toCq.nb 2 (by kernel_rfl)) (bV kI)) ca_nil))))
  ss_nil)
  ss_nil)
  (ss_cons (q.setC 3 (by kernel_rfl) (by kernel_rfl) (q.toCq.lc (own := [("c", 4), ("item", 5)]) (t := .tp (.cons (.nm 4) (.cons (.nm 5) (.nil)))) (by kernel_rfl) (by kernel_rfl) rfl (q.toCq.ibEnum (by kernel_rfl) rfl (q.toCq.nb 1 (by kernel_rfl))) fun _ q6 => ⟨(q6.tp rfl rfl (cg_cons rfl (q6.tg 4 (by kernel_rfl)) (cg_cons rfl (q6.tg 5 (by kernel_rfl)) cg_nil))), (pts_one (ct_not (ct_val rfl (bV (q6.call cl_is_within (by kernel_rfl) (by kernel_rfl) rfl rfl (sa_cons rfl (sa_dat (ce_idx rfl (q6.nb 5 (by kernel_rfl)) (bV kI))) (sa_cons rfl (sa_dat kI) (sa_cons rfl (sa_dat (q6.gI gc_MAX_TOKENS (by kernel_rfl))) sa_nil)))))))), (q6.nv 4 (by kernel_rfl))⟩))
  (ss_cons (cs_ret (ce_if (q.toCq.tNe (q.toCq.nb 3 (by kernel_rfl)) (bF (ce_lst (by decide) ca_nil)) rfl) (ce_tup (by decide) (ca_cons rfl kS (ca_cons rfl (ce_idx rfl (q.toCq.nb 3 (by kernel_rfl)) (bV kI)) ca_nil))) kN))
  ss_nil)))))
/-! watched_sum -/
abbrev st_watched_sum : Stmt := top 14
def N_watched_sum : List Str := ["weights", "row", "weight", "item"]
def m_watched_sum : SM GG := seqM (retM (un sumD (compM (itZip (brwM 0) (brwM 1)) (.tp (.cons (.nm 2) (.cons (.nm 3) (.nil)))) (yesM) (bin mulX (brwM 2) (brwM 3)) [2, 3]))) <|
  nilM
def s_watched_sum : Sem1 GG := fnSem m_watched_sum 2 4
theorem b_watched_sum {W : Wd} {X : Cx} {ns : List Int} (q : Cs W X N_watched_sum (defScope st_watched_sum) (fun _ => true) 0)  : PSs X (defBody st_watched_sum) (tS (BB W ns) m_watched_sum) :=
  (ss_cons (cs_ret (q.toCq.sum (by kernel_rfl) rfl (bF (ce_lc (q.toCq.lc (own := [("weight", 2), ("item", 3)]) (t := .tp (.cons (.nm 2) (.cons (.nm 3) (.nil)))) (by kernel_rfl) (by kernel_rfl) rfl (q.toCq.ibZip (by kernel_rfl) rfl rfl (q.toCq.nb 0 (by kernel_rfl)) (q.toCq.nb 1 (by kernel_rfl))) fun _ q8 => ⟨(q8.tp rfl rfl (cg_cons rfl (q8.tg 2 (by kernel_rfl)) (cg_cons rfl (q8.tg 3 (by kernel_rfl)) cg_nil))), pts_yes, (oMulX (q8.nb 2 (by kernel_rfl)) (q8.nb 3 (by kernel_rfl)))⟩)))))
  ss_nil)
/-! cap_slack -/
abbrev st_cap_slack : Stmt := top 15
def N_cap_slack : List Str := ["caps", "state", "weights", "most"]
def m_cap_slack : SM GG := seqM (retM (un tupleD (compM (itSeq (brwM 0)) (.tp (.cons (.nm 2) (.cons (.nm 3) (.nil)))) (yesM) (bin subD (brwM 3) (callM s_watched_sum idL [daM (varM 2), daM (varM 1)])) [2, 3]))) <|
  nilM
def s_cap_slack : Sem1 GG := fnSem m_cap_slack 2 4
theorem b_cap_slack {W : Wd} {X : Cx} {ns : List Int} (q : Cs W X N_cap_slack (defScope st_cap_slack) (fun _ => true) 1) (cl_watched_sum : Cal (BB W ns) W.P W.w W.K W.mg W.bs 1 "watched_sum" ["weights", "row"] s_watched_sum) : PSs X (defBody st_cap_slack) (tS (BB W ns) m_cap_slack) :=
  (ss_cons (cs_ret (q.toCq.tuple (by kernel_rfl) rfl (bF (ce_lc (q.toCq.lc (own := [("weights", 2), ("most", 3)]) (t := .tp (.cons (.nm 2) (.cons (.nm 3) (.nil)))) (by kernel_rfl) (by kernel_rfl) rfl (ib_seq (q.toCq.nb 0 (by kernel_rfl))) fun _ q9 => ⟨(q9.tp rfl rfl (cg_cons rfl (q9.tg 2 (by kernel_rfl)) (cg_cons rfl (q9.tg 3 (by kernel_rfl)) cg_nil))), pts_yes, (oSub (q9.nb 3 (by kernel_rfl)) (bV (q9.call cl_watched_sum (by kernel_rfl) (by kernel_rfl) rfl rfl (sa_cons rfl (sa_dat (q9.nv 2 (by kernel_rfl))) (sa_cons rfl (sa_dat (q9.nv 1 (by kernel_rfl))) sa_nil)))))⟩)))))
  ss_nil)
/-! does_keep -/
abbrev st_does_keep : Stmt := top 16
def N_does_keep : List Str := ["caps", "state", "left"]
def m_does_keep : SM GG := seqM (retM (un allD (compM (itSeq (callM s_cap_slack idL [daM (varM 0), daM (varM 1)])) (.nm 2) (yesM) (bin geI (brwM 2) (cM (.int 0))) [2]))) <|
  nilM
def s_does_keep : Sem1 GG := fnSem m_does_keep 2 3
theorem b_does_keep {W : Wd} {X : Cx} {ns : List Int} (q : Cs W X N_does_keep (defScope st_does_keep) (fun _ => true) 2) (cl_cap_slack : Cal (BB W ns) W.P W.w W.K W.mg W.bs 2 "cap_slack" ["caps", "state"] s_cap_slack) : PSs X (defBody st_does_keep) (tS (BB W ns) m_does_keep) :=
  (ss_cons (cs_ret (q.toCq.all (by kernel_rfl) rfl (bF (ce_lc (q.toCq.lc (own := [("left", 2)]) (t := .nm 2) (by kernel_rfl) (by kernel_rfl) rfl (ib_seq (bV (q.toCq.call cl_cap_slack (by kernel_rfl) (by kernel_rfl) rfl rfl (sa_cons rfl (sa_dat (q.toCq.nv 0 (by kernel_rfl))) (sa_cons rfl (sa_dat (q.toCq.nv 1 (by kernel_rfl))) sa_nil))))) fun _ q10 => ⟨(q10.tg 2 (by kernel_rfl)), pts_yes, (vGe (q10.nb 2 (by kernel_rfl)) (bV kI) rfl)⟩)))))
  ss_nil)
/-! cap_changes -/
abbrev st_cap_changes : Stmt := top 17
def N_cap_changes : List Str := ["net", "caps", "k", "change", "weights", "most"]
def m_cap_changes : SM GG := seqM (setM 3 (callM s_change_of idL [daM (varM 0), daM (varM 2)])) <|
  seqM (retM (un tupleD (compM (itSeq (brwM 1)) (.tp (.cons (.nm 4) (.cons (.nm 5) (.nil)))) (yesM) (callM s_watched_sum idL [daM (varM 4), daM (varM 3)]) [4, 5]))) <|
  nilM
def s_cap_changes : Sem1 GG := fnSem m_cap_changes 3 6
theorem b_cap_changes {W : Wd} {X : Cx} {ns : List Int} (q : Cs W X N_cap_changes (defScope st_cap_changes) (fun _ => true) 1) (cl_watched_sum : Cal (BB W ns) W.P W.w W.K W.mg W.bs 1 "watched_sum" ["weights", "row"] s_watched_sum) (cl_change_of : Cal (BB W ns) W.P W.w W.K W.mg W.bs 1 "change_of" ["net", "k"] s_change_of) : PSs X (defBody st_cap_changes) (tS (BB W ns) m_cap_changes) :=
  (ss_cons (q.set 3 (by kernel_rfl) rfl (q.toCq.call cl_change_of (by kernel_rfl) (by kernel_rfl) rfl rfl (sa_cons rfl (sa_dat (q.toCq.nv 0 (by kernel_rfl))) (sa_cons rfl (sa_dat (q.toCq.nv 2 (by kernel_rfl))) sa_nil))))
  (ss_cons (cs_ret (q.toCq.tuple (by kernel_rfl) rfl (bF (ce_lc (q.toCq.lc (own := [("weights", 4), ("most", 5)]) (t := .tp (.cons (.nm 4) (.cons (.nm 5) (.nil)))) (by kernel_rfl) (by kernel_rfl) rfl (ib_seq (q.toCq.nb 1 (by kernel_rfl))) fun _ q11 => ⟨(q11.tp rfl rfl (cg_cons rfl (q11.tg 4 (by kernel_rfl)) (cg_cons rfl (q11.tg 5 (by kernel_rfl)) cg_nil))), pts_yes, (q11.call cl_watched_sum (by kernel_rfl) (by kernel_rfl) rfl rfl (sa_cons rfl (sa_dat (q11.nv 4 (by kernel_rfl))) (sa_cons rfl (sa_dat (q11.nv 3 (by kernel_rfl))) sa_nil)))⟩)))))
  ss_nil))
/-! breaking_steps -/
abbrev st_breaking_steps : Stmt := top 18
def N_breaking_steps : List Str := ["net", "caps", "state", "free", "k"]
def m_breaking_steps : SM GG := seqM (setM 3 (callM s_let_steps idL [daM (varM 0), daM (varM 2)])) <|
  seqM (retM (un tupleD (compM (itSeq (brwM 3)) (.nm 4) (notM (tstM (callM s_does_keep idL [daM (varM 1), daM (callM s_moved_state idL [daM (varM 2), daM (callM s_change_of idL [daM (varM 0), daM (varM 4)])])]))) (varM 4) [4]))) <|
  nilM
def s_breaking_steps : Sem1 GG := fnSem m_breaking_steps 3 5
theorem b_breaking_steps {W : Wd} {X : Cx} {ns : List Int} (q : Cs W X N_breaking_steps (defScope st_breaking_steps) (fun _ => true) 3) (cl_does_keep : Cal (BB W ns) W.P W.w W.K W.mg W.bs 3 "does_keep" ["caps", "state"] s_does_keep) (cl_moved_state : Cal (BB W ns) W.P W.w W.K W.mg W.bs 1 "moved_state" ["state", "change"] s_moved_state) (cl_change_of : Cal (BB W ns) W.P W.w W.K W.mg W.bs 1 "change_of" ["net", "k"] s_change_of) (cl_let_steps : Cal (BB W ns) W.P W.w W.K W.mg W.bs 2 "let_steps" ["net", "state"] s_let_steps) : PSs X (defBody st_breaking_steps) (tS (BB W ns) m_breaking_steps) :=
  (ss_cons (q.set 3 (by kernel_rfl) rfl (q.toCq.call cl_let_steps (by kernel_rfl) (by kernel_rfl) rfl rfl (sa_cons rfl (sa_dat (q.toCq.nv 0 (by kernel_rfl))) (sa_cons rfl (sa_dat (q.toCq.nv 2 (by kernel_rfl))) sa_nil))))
  (ss_cons (cs_ret (q.toCq.tuple (by kernel_rfl) rfl (bF (ce_lc (q.toCq.lc (own := [("k", 4)]) (t := .nm 4) (by kernel_rfl) (by kernel_rfl) rfl (ib_seq (q.toCq.nb 3 (by kernel_rfl))) fun _ q12 => ⟨(q12.tg 4 (by kernel_rfl)), (pts_one (ct_not (ct_val rfl (bV (q12.call cl_does_keep (by kernel_rfl) (by kernel_rfl) rfl rfl (sa_cons rfl (sa_dat (q12.nv 1 (by kernel_rfl))) (sa_cons rfl (sa_dat (q12.call cl_moved_state (by kernel_rfl) (by kernel_rfl) rfl rfl (sa_cons rfl (sa_dat (q12.nv 2 (by kernel_rfl))) (sa_cons rfl (sa_dat (q12.call cl_change_of (by kernel_rfl) (by kernel_rfl) rfl rfl (sa_cons rfl (sa_dat (q12.nv 0 (by kernel_rfl))) (sa_cons rfl (sa_dat (q12.nv 4 (by kernel_rfl))) sa_nil)))) sa_nil)))) sa_nil))))))), (q12.nv 4 (by kernel_rfl))⟩)))))
  ss_nil))
/-! _law_draw -/
abbrev st__law_draw : Stmt := top 21
def N__law_draw : List Str := ["bag", "below", "cell", "found"]
def m__law_draw : SM GG := seqM (whileGo (andM (blM (bin eqX (potI 0 1) (cM (.int 0)))) (potNE 0)) (seqM (potPop 0 2) <|
  seqM (potSet 0 1 (ifM (blM (bin gtI (brwM 2) (bin powD (cM (.int 10)) (cM (.int 9))))) (varM 2) (cM (.int 0)))) <|
  nilM) 100000) <|
  seqM (ifS (blM (bin gtI (potI 0 1) (cM (.int 0)))) (seqM (setM 3 (bin modD (un intD (potI 0 1)) (brwM 1))) <|
  seqM (potSet 0 1 (bin fdivD (potI 0 1) (brwM 1))) <|
  seqM (retM (varM 3)) <|
  nilM) (nilM)) <|
  seqM (potSet 0 2 (bin modD (un intD (bin addD (bin mulX (potI 0 2) (cM (.int 48271))) (cM (.int 11)))) (cM (.int 2147483647)))) <|
  seqM (retM (bin modD (un intD (bin fdivD (bin modD (un intD (bin mulX (potI 0 2) (potI 0 2))) (cM (.int 2147483629))) (cM (.int 7)))) (brwM 1))) <|
  nilM
def s__law_draw : Sem1 GG := fnSem m__law_draw 2 4
theorem b__law_draw {W : Wd} {X : Cx} {ns : List Int} (q : Cs W X N__law_draw (defScope st__law_draw) (fun _ => true) 0)  : PSs X (defBody st__law_draw) (tS (BB W ns) m__law_draw) :=
  (ss_cons (q.while_ 100000 (PW.pt (cw_and (q.toCq.tEq (bV (q.toCq.pot (kk := 1) 0 (by kernel_rfl))) (bV kI) rfl) (cw_and1 (q.toCq.potNE 0 (by kernel_rfl))))) (ss_cons (q.potPop 0 2 (by kernel_rfl) (by kernel_rfl) rfl)
  (ss_cons (q.potSet (kk := 1) 0 (by kernel_rfl) rfl rfl (ce_if (tGt (q.toCq.nb 2 (by kernel_rfl)) (bV (oPow (bV kI) (bV kI))) rfl) (q.toCq.nv 2 (by kernel_rfl)) kI))
  ss_nil)))
  (ss_cons (cs_if (tGt (bV (q.toCq.pot (kk := 1) 0 (by kernel_rfl))) (bV kI) rfl)
  (ss_cons (q.set 3 (by kernel_rfl) rfl (oMod (bV (q.toCq.int (by kernel_rfl) rfl (bV (q.toCq.pot (kk := 1) 0 (by kernel_rfl))))) (q.toCq.nb 1 (by kernel_rfl))))
  (ss_cons (q.potSet (kk := 1) 0 (by kernel_rfl) rfl rfl (oDiv (bV (q.toCq.pot (kk := 1) 0 (by kernel_rfl))) (q.toCq.nb 1 (by kernel_rfl))))
  (ss_cons (cs_ret (q.toCq.nv 3 (by kernel_rfl)))
  ss_nil)))
  ss_nil)
  (ss_cons (q.potSet (kk := 2) 0 (by kernel_rfl) rfl rfl (oMod (bV (q.toCq.int (by kernel_rfl) rfl (bV (oAdd (bV (oMulX (bV (q.toCq.pot (kk := 2) 0 (by kernel_rfl))) (bV kI))) (bV kI))))) (bV kI)))
  (ss_cons (cs_ret (oMod (bV (q.toCq.int (by kernel_rfl) rfl (bV (oDiv (bV (oMod (bV (q.toCq.int (by kernel_rfl) rfl (bV (oMulX (bV (q.toCq.pot (kk := 2) 0 (by kernel_rfl))) (bV (q.toCq.pot (kk := 2) 0 (by kernel_rfl))))))) (bV kI))) (bV kI))))) (q.toCq.nb 1 (by kernel_rfl))))
  ss_nil))))
/-! _law_pick -/
abbrev st__law_pick : Stmt := top 22
def N__law_pick : List Str := ["bag", "some"]
def m__law_pick : SM GG := seqM (retM (bin idxD (brwM 1) (callM s__law_draw idL [slM 0, daM (un lenD (brwM 1))]))) <|
  nilM
def s__law_pick : Sem1 GG := fnSem m__law_pick 2 2
theorem b__law_pick {W : Wd} {X : Cx} {ns : List Int} (q : Cs W X N__law_pick (defScope st__law_pick) (fun _ => true) 1) (cl__law_draw : Cal (BB W ns) W.P W.w W.K W.mg W.bs 1 "_law_draw" ["bag", "below"] s__law_draw) : PSs X (defBody st__law_pick) (tS (BB W ns) m__law_pick) :=
  (ss_cons (cs_ret (ce_idx rfl (q.toCq.nb 1 (by kernel_rfl)) (bV (q.toCq.call cl__law_draw (by kernel_rfl) (by kernel_rfl) rfl rfl (sa_cons rfl (q.toCq.ns 0 (by kernel_rfl)) (sa_cons rfl (sa_dat (q.toCq.len (by kernel_rfl) rfl (q.toCq.nb 1 (by kernel_rfl)))) sa_nil))))))
  ss_nil)
/-! _law_sum -/
abbrev st__law_sum : Stmt := top 23
def N__law_sum : List Str := ["weights", "row", "one", "many"]
def m__law_sum : SM GG := seqM (retM (un sumD (compM (itZip (brwM 0) (brwM 1)) (.tp (.cons (.nm 2) (.cons (.nm 3) (.nil)))) (yesM) (bin mulX (brwM 2) (brwM 3)) [2, 3]))) <|
  nilM
def s__law_sum : Sem1 GG := fnSem m__law_sum 2 4
theorem b__law_sum {W : Wd} {X : Cx} {ns : List Int} (q : Cs W X N__law_sum (defScope st__law_sum) (fun _ => true) 0)  : PSs X (defBody st__law_sum) (tS (BB W ns) m__law_sum) :=
  (ss_cons (cs_ret (q.toCq.sum (by kernel_rfl) rfl (bF (ce_lc (q.toCq.lc (own := [("one", 2), ("many", 3)]) (t := .tp (.cons (.nm 2) (.cons (.nm 3) (.nil)))) (by kernel_rfl) (by kernel_rfl) rfl (q.toCq.ibZip (by kernel_rfl) rfl rfl (q.toCq.nb 0 (by kernel_rfl)) (q.toCq.nb 1 (by kernel_rfl))) fun _ q13 => ⟨(q13.tp rfl rfl (cg_cons rfl (q13.tg 2 (by kernel_rfl)) (cg_cons rfl (q13.tg 3 (by kernel_rfl)) cg_nil))), pts_yes, (oMulX (q13.nb 2 (by kernel_rfl)) (q13.nb 3 (by kernel_rfl)))⟩)))))
  ss_nil)
/-! _law_change -/
abbrev st__law_change : Stmt := top 24
def N__law_change : List Str := ["step", "weights"]
def m__law_change : SM GG := seqM (retM (bin subD (callM s__law_sum idL [daM (varM 1), daM (bin idxD (brwM 0) (cM (.int 1)))]) (callM s__law_sum idL [daM (varM 1), daM (bin idxD (brwM 0) (cM (.int 0)))]))) <|
  nilM
def s__law_change : Sem1 GG := fnSem m__law_change 2 2
theorem b__law_change {W : Wd} {X : Cx} {ns : List Int} (q : Cs W X N__law_change (defScope st__law_change) (fun _ => true) 1) (cl__law_sum : Cal (BB W ns) W.P W.w W.K W.mg W.bs 1 "_law_sum" ["weights", "row"] s__law_sum) : PSs X (defBody st__law_change) (tS (BB W ns) m__law_change) :=
  (ss_cons (cs_ret (oSub (bV (q.toCq.call cl__law_sum (by kernel_rfl) (by kernel_rfl) rfl rfl (sa_cons rfl (sa_dat (q.toCq.nv 1 (by kernel_rfl))) (sa_cons rfl (sa_dat (ce_idx rfl (q.toCq.nb 0 (by kernel_rfl)) (bV kI))) sa_nil)))) (bV (q.toCq.call cl__law_sum (by kernel_rfl) (by kernel_rfl) rfl rfl (sa_cons rfl (sa_dat (q.toCq.nv 1 (by kernel_rfl))) (sa_cons rfl (sa_dat (ce_idx rfl (q.toCq.nb 0 (by kernel_rfl)) (bV kI))) sa_nil))))))
  ss_nil)
/-! _law_is_let -/
abbrev st__law_is_let : Stmt := top 25
def N__law_is_let : List Str := ["step", "state", "has", "takes"]
def m__law_is_let : SM GG := seqM (retM (un allD (compM (itZip (brwM 1) (bin idxD (brwM 0) (cM (.int 0)))) (.tp (.cons (.nm 2) (.cons (.nm 3) (.nil)))) (yesM) (bin geI (brwM 2) (brwM 3)) [2, 3]))) <|
  nilM
def s__law_is_let : Sem1 GG := fnSem m__law_is_let 2 4
theorem b__law_is_let {W : Wd} {X : Cx} {ns : List Int} (q : Cs W X N__law_is_let (defScope st__law_is_let) (fun _ => true) 0)  : PSs X (defBody st__law_is_let) (tS (BB W ns) m__law_is_let) :=
  (ss_cons (cs_ret (q.toCq.all (by kernel_rfl) rfl (bF (ce_lc (q.toCq.lc (own := [("has", 2), ("takes", 3)]) (t := .tp (.cons (.nm 2) (.cons (.nm 3) (.nil)))) (by kernel_rfl) (by kernel_rfl) rfl (q.toCq.ibZip (by kernel_rfl) rfl rfl (q.toCq.nb 1 (by kernel_rfl)) (bV (ce_idx rfl (q.toCq.nb 0 (by kernel_rfl)) (bV kI)))) fun _ q14 => ⟨(q14.tp rfl rfl (cg_cons rfl (q14.tg 2 (by kernel_rfl)) (cg_cons rfl (q14.tg 3 (by kernel_rfl)) cg_nil))), pts_yes, (vGe (q14.nb 2 (by kernel_rfl)) (q14.nb 3 (by kernel_rfl)) rfl)⟩)))))
  ss_nil)
/-! _law_done -/
abbrev st__law_done : Stmt := top 26
def N__law_done : List Str := ["step", "state", "has", "takes", "puts"]
def m__law_done : SM GG := seqM (retM (un tupleD (compM (itZip3 (brwM 1) (bin idxD (brwM 0) (cM (.int 0))) (bin idxD (brwM 0) (cM (.int 1)))) (.tp (.cons (.nm 2) (.cons (.nm 3) (.cons (.nm 4) (.nil))))) (yesM) (bin addD (bin subD (brwM 2) (brwM 3)) (brwM 4)) [2, 3, 4]))) <|
  nilM
def s__law_done : Sem1 GG := fnSem m__law_done 2 5
theorem b__law_done {W : Wd} {X : Cx} {ns : List Int} (q : Cs W X N__law_done (defScope st__law_done) (fun _ => true) 0)  : PSs X (defBody st__law_done) (tS (BB W ns) m__law_done) :=
  (ss_cons (cs_ret (q.toCq.tuple (by kernel_rfl) rfl (bF (ce_lc (q.toCq.lc (own := [("has", 2), ("takes", 3), ("puts", 4)]) (t := .tp (.cons (.nm 2) (.cons (.nm 3) (.cons (.nm 4) (.nil))))) (by kernel_rfl) (by kernel_rfl) rfl (q.toCq.ibZip3 (by kernel_rfl) rfl rfl rfl (q.toCq.nb 1 (by kernel_rfl)) (bV (ce_idx rfl (q.toCq.nb 0 (by kernel_rfl)) (bV kI))) (bV (ce_idx rfl (q.toCq.nb 0 (by kernel_rfl)) (bV kI)))) fun _ q15 => ⟨(q15.tp rfl rfl (cg_cons rfl (q15.tg 2 (by kernel_rfl)) (cg_cons rfl (q15.tg 3 (by kernel_rfl)) (cg_cons rfl (q15.tg 4 (by kernel_rfl)) cg_nil)))), pts_yes, (oAdd (bV (oSub (q15.nb 2 (by kernel_rfl)) (q15.nb 3 (by kernel_rfl)))) (q15.nb 4 (by kernel_rfl)))⟩)))))
  ss_nil)
/-! _law_keeps -/
abbrev st__law_keeps : Stmt := top 27
def N__law_keeps : List Str := ["caps", "state", "cap"]
def m__law_keeps : SM GG := seqM (retM (un allD (compM (itSeq (brwM 0)) (.nm 2) (yesM) (bin leI (callM s__law_sum idL [daM (bin idxD (brwM 2) (cM (.int 0))), daM (varM 1)]) (bin idxD (brwM 2) (cM (.int 1)))) [2]))) <|
  nilM
def s__law_keeps : Sem1 GG := fnSem m__law_keeps 2 3
theorem b__law_keeps {W : Wd} {X : Cx} {ns : List Int} (q : Cs W X N__law_keeps (defScope st__law_keeps) (fun _ => true) 1) (cl__law_sum : Cal (BB W ns) W.P W.w W.K W.mg W.bs 1 "_law_sum" ["weights", "row"] s__law_sum) : PSs X (defBody st__law_keeps) (tS (BB W ns) m__law_keeps) :=
  (ss_cons (cs_ret (q.toCq.all (by kernel_rfl) rfl (bF (ce_lc (q.toCq.lc (own := [("cap", 2)]) (t := .nm 2) (by kernel_rfl) (by kernel_rfl) rfl (ib_seq (q.toCq.nb 0 (by kernel_rfl))) fun _ q16 => ⟨(q16.tg 2 (by kernel_rfl)), pts_yes, (vLe (bV (q16.call cl__law_sum (by kernel_rfl) (by kernel_rfl) rfl rfl (sa_cons rfl (sa_dat (ce_idx rfl (q16.nb 2 (by kernel_rfl)) (bV kI))) (sa_cons rfl (sa_dat (q16.nv 1 (by kernel_rfl))) sa_nil)))) (bV (ce_idx rfl (q16.nb 2 (by kernel_rfl)) (bV kI))) rfl)⟩)))))
  ss_nil)
/-! _law_tokens -/
abbrev st__law_tokens : Stmt := top 28
def N__law_tokens : List Str := ["bag", "kind"]
def m__law_tokens : SM GG := seqM (ifS (blM (bin eqX (brwM 1) (cM (.int 0)))) (seqM (retM (callM s__law_draw idL [slM 0, daM (cM (.int 4))])) <|
  nilM) (nilM)) <|
  seqM (ifS (blM (bin eqX (brwM 1) (cM (.int 1)))) (seqM (retM (callM s__law_draw idL [slM 0, daM (cM (.int 61))])) <|
  nilM) (nilM)) <|
  seqM (ifS (blM (bin eqX (brwM 1) (cM (.int 2)))) (seqM (retM (bin subD (bin powD (cM (.int 10)) (cM (.int 9))) (callM s__law_draw idL [slM 0, daM (cM (.int 12))]))) <|
  nilM) (nilM)) <|
  seqM (retM (bin addD (bin mulX (callM s__law_draw idL [slM 0, daM (cM (.int 100000))]) (cM (.int 10000))) (callM s__law_draw idL [slM 0, daM (cM (.int 10001))]))) <|
  nilM
def s__law_tokens : Sem1 GG := fnSem m__law_tokens 2 2
theorem b__law_tokens {W : Wd} {X : Cx} {ns : List Int} (q : Cs W X N__law_tokens (defScope st__law_tokens) (fun _ => true) 1) (cl__law_draw : Cal (BB W ns) W.P W.w W.K W.mg W.bs 1 "_law_draw" ["bag", "below"] s__law_draw) : PSs X (defBody st__law_tokens) (tS (BB W ns) m__law_tokens) :=
  (ss_cons (cs_if (q.toCq.tEq (q.toCq.nb 1 (by kernel_rfl)) (bV kI) rfl)
  (ss_cons (cs_ret (q.toCq.call cl__law_draw (by kernel_rfl) (by kernel_rfl) rfl rfl (sa_cons rfl (q.toCq.ns 0 (by kernel_rfl)) (sa_cons rfl (sa_dat kI) sa_nil))))
  ss_nil)
  ss_nil)
  (ss_cons (cs_if (q.toCq.tEq (q.toCq.nb 1 (by kernel_rfl)) (bV kI) rfl)
  (ss_cons (cs_ret (q.toCq.call cl__law_draw (by kernel_rfl) (by kernel_rfl) rfl rfl (sa_cons rfl (q.toCq.ns 0 (by kernel_rfl)) (sa_cons rfl (sa_dat kI) sa_nil))))
  ss_nil)
  ss_nil)
  (ss_cons (cs_if (q.toCq.tEq (q.toCq.nb 1 (by kernel_rfl)) (bV kI) rfl)
  (ss_cons (cs_ret (oSub (bV (oPow (bV kI) (bV kI))) (bV (q.toCq.call cl__law_draw (by kernel_rfl) (by kernel_rfl) rfl rfl (sa_cons rfl (q.toCq.ns 0 (by kernel_rfl)) (sa_cons rfl (sa_dat kI) sa_nil))))))
  ss_nil)
  ss_nil)
  (ss_cons (cs_ret (oAdd (bV (oMulX (bV (q.toCq.call cl__law_draw (by kernel_rfl) (by kernel_rfl) rfl rfl (sa_cons rfl (q.toCq.ns 0 (by kernel_rfl)) (sa_cons rfl (sa_dat kI) sa_nil)))) (bV kI))) (bV (q.toCq.call cl__law_draw (by kernel_rfl) (by kernel_rfl) rfl rfl (sa_cons rfl (q.toCq.ns 0 (by kernel_rfl)) (sa_cons rfl (sa_dat kI) sa_nil))))))
  ss_nil))))
/-! _law_state -/
abbrev st__law_state : Stmt := top 29
def N__law_state : List Str := ["bag", "m", "kind", "i"]
def m__law_state : SM GG := seqM (setM 2 (callM s__law_draw idL [slM 0, daM (cM (.int 5))])) <|
  seqM (retM (un tupleD (compM (itRange1 (brwM 1)) (.nm 3) (yesM) (callM s__law_tokens idL [slM 0, daM (ifM (blM (bin ltI (brwM 2) (cM (.int 4)))) (varM 2) (callM s__law_draw idL [slM 0, daM (cM (.int 4))]))]) [3]))) <|
  nilM
def s__law_state : Sem1 GG := fnSem m__law_state 2 4
theorem b__law_state {W : Wd} {X : Cx} {ns : List Int} (q : Cs W X N__law_state (defScope st__law_state) (fun _ => true) 2) (cl__law_tokens : Cal (BB W ns) W.P W.w W.K W.mg W.bs 2 "_law_tokens" ["bag", "kind"] s__law_tokens) (cl__law_draw : Cal (BB W ns) W.P W.w W.K W.mg W.bs 1 "_law_draw" ["bag", "below"] s__law_draw) : PSs X (defBody st__law_state) (tS (BB W ns) m__law_state) :=
  (ss_cons (q.set 2 (by kernel_rfl) rfl (q.toCq.call cl__law_draw (by kernel_rfl) (by kernel_rfl) rfl rfl (sa_cons rfl (q.toCq.ns 0 (by kernel_rfl)) (sa_cons rfl (sa_dat kI) sa_nil))))
  (ss_cons (cs_ret (q.toCq.tuple (by kernel_rfl) rfl (bF (ce_lc (q.toCq.lc (own := [("i", 3)]) (t := .nm 3) (by kernel_rfl) (by kernel_rfl) rfl (q.toCq.ibRange (by kernel_rfl) rfl (q.toCq.nb 1 (by kernel_rfl))) fun _ q17 => ⟨(q17.tg 3 (by kernel_rfl)), pts_yes, (q17.call cl__law_tokens (by kernel_rfl) (by kernel_rfl) rfl rfl (sa_cons rfl (q17.ns 0 (by kernel_rfl)) (sa_cons rfl (sa_dat (ce_if (tLt (q17.nb 2 (by kernel_rfl)) (bV kI) rfl) (q17.nv 2 (by kernel_rfl)) (q17.call cl__law_draw (by kernel_rfl) (by kernel_rfl) rfl rfl (sa_cons rfl (q17.ns 0 (by kernel_rfl)) (sa_cons rfl (sa_dat kI) sa_nil))))) sa_nil)))⟩)))))
  ss_nil))
/-! _law_row -/
abbrev st__law_row : Stmt := top 30
def N__law_row : List Str := ["bag", "m", "thin", "top", "i"]
def m__law_row : SM GG := seqM (multM [2, 3] [(false, bin addD (cM (.int 1)) (callM s__law_draw idL [slM 0, daM (cM (.int 4))])), (false, callM s__law_pick idL [slM 0, daM (lstM [cM (.int 1), cM (.int 2), cM (.int 9), cM (.int 9)])])]) <|
  seqM (retM (un tupleD (compM (itRange1 (brwM 1)) (.nm 4) (yesM) (ifM (blM (bin eqX (callM s__law_draw idL [slM 0, daM (varM 2)]) (cM (.int 0)))) (bin addD (cM (.int 1)) (callM s__law_draw idL [slM 0, daM (varM 3)])) (cM (.int 0))) [4]))) <|
  nilM
def s__law_row : Sem1 GG := fnSem m__law_row 2 5
theorem b__law_row {W : Wd} {X : Cx} {ns : List Int} (q : Cs W X N__law_row (defScope st__law_row) (fun _ => true) 2) (cl__law_draw : Cal (BB W ns) W.P W.w W.K W.mg W.bs 1 "_law_draw" ["bag", "below"] s__law_draw) (cl__law_pick : Cal (BB W ns) W.P W.w W.K W.mg W.bs 2 "_law_pick" ["bag", "some"] s__law_pick) : PSs X (defBody st__law_row) (tS (BB W ns) m__law_row) :=
  (ss_cons (q.mult (is := [2, 3]) (q.nn 2 (by kernel_rfl) (q.nn 3 (by kernel_rfl) cn_nil)) rfl rfl (by kernel_rfl) (by kernel_rfl) (by kernel_rfl) (cf_dat rfl (oAdd (bV kI) (bV (q.toCq.call cl__law_draw (by kernel_rfl) (by kernel_rfl) rfl rfl (sa_cons rfl (q.toCq.ns 0 (by kernel_rfl)) (sa_cons rfl (sa_dat kI) sa_nil))))) (cf_dat rfl (q.toCq.call cl__law_pick (by kernel_rfl) (by kernel_rfl) rfl rfl (sa_cons rfl (q.toCq.ns 0 (by kernel_rfl)) (sa_cons rfl (sa_dat (vF (ce_lst (by decide) (ca_cons rfl kI (ca_cons rfl kI (ca_cons rfl kI (ca_cons rfl kI ca_nil))))))) sa_nil))) cf_nil)))
  (ss_cons (cs_ret (q.toCq.tuple (by kernel_rfl) rfl (bF (ce_lc (q.toCq.lc (own := [("i", 4)]) (t := .nm 4) (by kernel_rfl) (by kernel_rfl) rfl (q.toCq.ibRange (by kernel_rfl) rfl (q.toCq.nb 1 (by kernel_rfl))) fun _ q18 => ⟨(q18.tg 4 (by kernel_rfl)), pts_yes, (ce_if (q18.tEq (bV (q18.call cl__law_draw (by kernel_rfl) (by kernel_rfl) rfl rfl (sa_cons rfl (q18.ns 0 (by kernel_rfl)) (sa_cons rfl (sa_dat (q18.nv 2 (by kernel_rfl))) sa_nil)))) (bV kI) rfl) (oAdd (bV kI) (bV (q18.call cl__law_draw (by kernel_rfl) (by kernel_rfl) rfl rfl (sa_cons rfl (q18.ns 0 (by kernel_rfl)) (sa_cons rfl (sa_dat (q18.nv 3 (by kernel_rfl))) sa_nil))))) kI)⟩)))))
  ss_nil))
/-! _law_net -/
abbrev st__law_net : Stmt := top 31
def N__law_net : List Str := ["bag", "m", "state", "many", "found", "k", "takes", "puts", "one", "has"]
def m__law_net : SM GG := seqM (setOM 4 (lstM [])) <|
  seqM (forM (itRange1 (brwM 3)) (.nm 5) (seqM (multM [6, 7] [(false, callM s__law_row idL [slM 0, daM (varM 1)]), (false, callM s__law_row idL [slM 0, daM (varM 1)])]) <|
  seqM (ifS (blM (bin gtI (callM s__law_draw idL [slM 0, daM (cM (.int 3))]) (cM (.int 0)))) (seqM (setM 6 (un tupleD (compM (itZip (brwM 6) (brwM 2)) (.tp (.cons (.nm 8) (.cons (.nm 9) (.nil)))) (yesM) (bin min2D (brwM 8) (brwM 9)) [8, 9]))) <|
  nilM) (nilM)) <|
  seqM (appM 4 (tupM [varM 6, varM 7])) <|
  nilM)) <|
  seqM (retM (un tupleD (brwM 4))) <|
  nilM
def s__law_net : Sem1 GG := fnSem m__law_net 4 10
theorem b__law_net {W : Wd} {X : Cx} {ns : List Int} (q : Cs W X N__law_net (defScope st__law_net) (fun _ => true) 3) (cl__law_draw : Cal (BB W ns) W.P W.w W.K W.mg W.bs 1 "_law_draw" ["bag", "below"] s__law_draw) (cl__law_row : Cal (BB W ns) W.P W.w W.K W.mg W.bs 3 "_law_row" ["bag", "m"] s__law_row) : PSs X (defBody st__law_net) (tS (BB W ns) m__law_net) :=
  (ss_cons (q.setO 4 (by kernel_rfl) rfl (ce_lst (by decide) ca_nil))
  (ss_cons (q.for_ (q.toCq.ivRange (by kernel_rfl) rfl (q.toCq.nb 3 (by kernel_rfl))) rfl (q.toCq.tg 5 (by kernel_rfl))
  (ss_cons (q.par2 6 7 (by kernel_rfl) (by kernel_rfl) rfl (by kernel_rfl) (by kernel_rfl) (by kernel_rfl) (by kernel_rfl) (cf_dat rfl (q.toCq.call cl__law_row (by kernel_rfl) (by kernel_rfl) rfl rfl (sa_cons rfl (q.toCq.ns 0 (by kernel_rfl)) (sa_cons rfl (sa_dat (q.toCq.nv 1 (by kernel_rfl))) sa_nil))) (cf_dat rfl (q.toCq.call cl__law_row (by kernel_rfl) (by kernel_rfl) rfl rfl (sa_cons rfl (q.toCq.ns 0 (by kernel_rfl)) (sa_cons rfl (sa_dat (q.toCq.nv 1 (by kernel_rfl))) sa_nil))) cf_nil)))
  (ss_cons (cs_if (tGt (bV (q.toCq.call cl__law_draw (by kernel_rfl) (by kernel_rfl) rfl rfl (sa_cons rfl (q.toCq.ns 0 (by kernel_rfl)) (sa_cons rfl (sa_dat kI) sa_nil)))) (bV kI) rfl)
  (ss_cons (q.set 6 (by kernel_rfl) rfl (q.toCq.tuple (by kernel_rfl) rfl (bF (ce_lc (q.toCq.lc (own := [("one", 8), ("has", 9)]) (t := .tp (.cons (.nm 8) (.cons (.nm 9) (.nil)))) (by kernel_rfl) (by kernel_rfl) rfl (q.toCq.ibZip (by kernel_rfl) rfl rfl (q.toCq.nb 6 (by kernel_rfl)) (q.toCq.nb 2 (by kernel_rfl))) fun _ q19 => ⟨(q19.tp rfl rfl (cg_cons rfl (q19.tg 8 (by kernel_rfl)) (cg_cons rfl (q19.tg 9 (by kernel_rfl)) cg_nil))), pts_yes, (q19.min (by kernel_rfl) rfl rfl (q19.nb 8 (by kernel_rfl)) (q19.nb 9 (by kernel_rfl)))⟩)))))
  ss_nil)
  ss_nil)
  (ss_cons (q.app 4 (by kernel_rfl) rfl rfl (ce_tup (by decide) (ca_cons rfl (q.toCq.nv 6 (by kernel_rfl)) (ca_cons rfl (q.toCq.nv 7 (by kernel_rfl)) ca_nil))))
  ss_nil))))
  (ss_cons (cs_ret (q.toCq.tuple (by kernel_rfl) rfl (q.toCq.nb 4 (by kernel_rfl))))
  ss_nil)))
/-! _law_caps -/
abbrev st__law_caps : Stmt := top 32
def N__law_caps : List Str := ["bag", "m", "net", "state", "many", "found", "c", "near", "weights", "way"]
def m__law_caps : SM GG := seqM (setOM 5 (lstM [])) <|
  seqM (forM (itRange1 (brwM 4)) (.nm 6) (seqM (multM [8, 9] [(false, callM s__law_row idL [slM 0, daM (varM 1)]), (false, callM s__law_draw idL [slM 0, daM (cM (.int 5))])]) <|
  seqM (setM 7 (callM s__law_sum idL [daM (varM 8), daM (varM 3)])) <|
  seqM (ifS (andM (blM (bin ltI (brwM 9) (cM (.int 3)))) (blM (bin neX (brwM 2) (tupM [])))) (seqM (setM 7 (bin subD (bin addD (brwM 7) (bin max2D (cM (.int 0)) (callM s__law_change idL [daM (callM s__law_pick idL [slM 0, daM (varM 2)]), daM (varM 8)]))) (callM s__law_draw idL [slM 0, daM (cM (.int 2))]))) <|
  nilM) (seqM (ifS (blM (bin eqX (brwM 9) (cM (.int 3)))) (seqM (setM 7 (bin subD (bin addD (brwM 7) (callM s__law_draw idL [slM 0, daM (cM (.int 24))])) (cM (.int 4)))) <|
  nilM) (seqM (setM 7 (callM s__law_tokens idL [slM 0, daM (callM s__law_draw idL [slM 0, daM (cM (.int 4))])])) <|
  nilM)) <|
  nilM)) <|
  seqM (appM 5 (tupM [varM 8, bin max2D (cM (.int 0)) (bin min2D (bin powD (cM (.int 10)) (cM (.int 9))) (brwM 7))])) <|
  nilM)) <|
  seqM (retM (un tupleD (brwM 5))) <|
  nilM
def s__law_caps : Sem1 GG := fnSem m__law_caps 5 10
theorem b__law_caps {W : Wd} {X : Cx} {ns : List Int} (q : Cs W X N__law_caps (defScope st__law_caps) (fun _ => true) 3) (cl__law_change : Cal (BB W ns) W.P W.w W.K W.mg W.bs 2 "_law_change" ["step", "weights"] s__law_change) (cl__law_pick : Cal (BB W ns) W.P W.w W.K W.mg W.bs 2 "_law_pick" ["bag", "some"] s__law_pick) (cl__law_draw : Cal (BB W ns) W.P W.w W.K W.mg W.bs 1 "_law_draw" ["bag", "below"] s__law_draw) (cl__law_tokens : Cal (BB W ns) W.P W.w W.K W.mg W.bs 2 "_law_tokens" ["bag", "kind"] s__law_tokens) (cl__law_sum : Cal (BB W ns) W.P W.w W.K W.mg W.bs 1 "_law_sum" ["weights", "row"] s__law_sum) (cl__law_row : Cal (BB W ns) W.P W.w W.K W.mg W.bs 3 "_law_row" ["bag", "m"] s__law_row) : PSs X (defBody st__law_caps) (tS (BB W ns) m__law_caps) :=
  (ss_cons (q.setO 5 (by kernel_rfl) rfl (ce_lst (by decide) ca_nil))
  (ss_cons (q.for_ (q.toCq.ivRange (by kernel_rfl) rfl (q.toCq.nb 4 (by kernel_rfl))) rfl (q.toCq.tg 6 (by kernel_rfl))
  (ss_cons (q.par2 8 9 (by kernel_rfl) (by kernel_rfl) rfl (by kernel_rfl) (by kernel_rfl) (by kernel_rfl) (by kernel_rfl) (cf_dat rfl (q.toCq.call cl__law_row (by kernel_rfl) (by kernel_rfl) rfl rfl (sa_cons rfl (q.toCq.ns 0 (by kernel_rfl)) (sa_cons rfl (sa_dat (q.toCq.nv 1 (by kernel_rfl))) sa_nil))) (cf_dat rfl (q.toCq.call cl__law_draw (by kernel_rfl) (by kernel_rfl) rfl rfl (sa_cons rfl (q.toCq.ns 0 (by kernel_rfl)) (sa_cons rfl (sa_dat kI) sa_nil))) cf_nil)))
  (ss_cons (q.set 7 (by kernel_rfl) rfl (q.toCq.call cl__law_sum (by kernel_rfl) (by kernel_rfl) rfl rfl (sa_cons rfl (sa_dat (q.toCq.nv 8 (by kernel_rfl))) (sa_cons rfl (sa_dat (q.toCq.nv 3 (by kernel_rfl))) sa_nil))))
  (ss_cons (cs_if (PW.pt (cw_and (tLt (q.toCq.nb 9 (by kernel_rfl)) (bV kI) rfl) (cw_and1 (q.toCq.tNe (q.toCq.nb 2 (by kernel_rfl)) (bV (ce_tup (by decide) ca_nil)) rfl))))
  (ss_cons (q.set 7 (by kernel_rfl) rfl (oSub (bV (oAdd (q.toCq.nb 7 (by kernel_rfl)) (bV (q.toCq.max (by kernel_rfl) rfl rfl (bV kI) (bV (q.toCq.call cl__law_change (by kernel_rfl) (by kernel_rfl) rfl rfl (sa_cons rfl (sa_dat (q.toCq.call cl__law_pick (by kernel_rfl) (by kernel_rfl) rfl rfl (sa_cons rfl (q.toCq.ns 0 (by kernel_rfl)) (sa_cons rfl (sa_dat (q.toCq.nv 2 (by kernel_rfl))) sa_nil)))) (sa_cons rfl (sa_dat (q.toCq.nv 8 (by kernel_rfl))) sa_nil)))))))) (bV (q.toCq.call cl__law_draw (by kernel_rfl) (by kernel_rfl) rfl rfl (sa_cons rfl (q.toCq.ns 0 (by kernel_rfl)) (sa_cons rfl (sa_dat kI) sa_nil))))))
  ss_nil)
  (ss_cons (cs_if (q.toCq.tEq (q.toCq.nb 9 (by kernel_rfl)) (bV kI) rfl)
  (ss_cons (q.set 7 (by kernel_rfl) rfl (oSub (bV (oAdd (q.toCq.nb 7 (by kernel_rfl)) (bV (q.toCq.call cl__law_draw (by kernel_rfl) (by kernel_rfl) rfl rfl (sa_cons rfl (q.toCq.ns 0 (by kernel_rfl)) (sa_cons rfl (sa_dat kI) sa_nil)))))) (bV kI)))
  ss_nil)
  (ss_cons (q.set 7 (by kernel_rfl) rfl (q.toCq.call cl__law_tokens (by kernel_rfl) (by kernel_rfl) rfl rfl (sa_cons rfl (q.toCq.ns 0 (by kernel_rfl)) (sa_cons rfl (sa_dat (q.toCq.call cl__law_draw (by kernel_rfl) (by kernel_rfl) rfl rfl (sa_cons rfl (q.toCq.ns 0 (by kernel_rfl)) (sa_cons rfl (sa_dat kI) sa_nil)))) sa_nil))))
  ss_nil))
  ss_nil))
  (ss_cons (q.app 5 (by kernel_rfl) rfl rfl (ce_tup (by decide) (ca_cons rfl (q.toCq.nv 8 (by kernel_rfl)) (ca_cons rfl (q.toCq.max (by kernel_rfl) rfl rfl (bV kI) (bV (q.toCq.min (by kernel_rfl) rfl rfl (bV (oPow (bV kI) (bV kI))) (q.toCq.nb 7 (by kernel_rfl))))) ca_nil))))
  ss_nil)))))
  (ss_cons (cs_ret (q.toCq.tuple (by kernel_rfl) rfl (q.toCq.nb 5 (by kernel_rfl))))
  ss_nil)))
/-! _law_breaking -/
abbrev st__law_breaking : Stmt := top 33
def N__law_breaking : List Str := ["net", "caps", "state", "found", "k", "step"]
def m__law_breaking : SM GG := seqM (setOM 3 (lstM [])) <|
  seqM (forM (itEnum (varM 0)) (.tp (.cons (.nm 4) (.cons (.nm 5) (.nil)))) (seqM (ifS (andM (tstM (callM s__law_is_let idL [daM (varM 5), daM (varM 2)])) (notM (tstM (callM s__law_keeps idL [daM (varM 1), daM (callM s__law_done idL [daM (varM 5), daM (varM 2)])])))) (seqM (appM 3 (varM 4)) <|
  nilM) (nilM)) <|
  nilM)) <|
  seqM (retM (un tupleD (brwM 3))) <|
  nilM
def s__law_breaking : Sem1 GG := fnSem m__law_breaking 3 6
theorem b__law_breaking {W : Wd} {X : Cx} {ns : List Int} (q : Cs W X N__law_breaking (defScope st__law_breaking) (fun _ => true) 2) (cl__law_keeps : Cal (BB W ns) W.P W.w W.K W.mg W.bs 2 "_law_keeps" ["caps", "state"] s__law_keeps) (cl__law_done : Cal (BB W ns) W.P W.w W.K W.mg W.bs 1 "_law_done" ["step", "state"] s__law_done) (cl__law_is_let : Cal (BB W ns) W.P W.w W.K W.mg W.bs 1 "_law_is_let" ["step", "state"] s__law_is_let) : PSs X (defBody st__law_breaking) (tS (BB W ns) m__law_breaking) :=
  (ss_cons (q.setO 3 (by kernel_rfl) rfl (ce_lst (by decide) ca_nil))
  (ss_cons (q.for_ (q.toCq.ivEnum (by kernel_rfl) rfl (q.toCq.nv 0 (by kernel_rfl))) rfl (q.toCq.tp rfl rfl (cg_cons rfl (q.toCq.tg 4 (by kernel_rfl)) (cg_cons rfl (q.toCq.tg 5 (by kernel_rfl)) cg_nil)))
  (ss_cons (cs_if (PW.pt (cw_and (ct_val rfl (bV (q.toCq.call cl__law_is_let (by kernel_rfl) (by kernel_rfl) rfl rfl (sa_cons rfl (sa_dat (q.toCq.nv 5 (by kernel_rfl))) (sa_cons rfl (sa_dat (q.toCq.nv 2 (by kernel_rfl))) sa_nil))))) (cw_and1 (ct_not (ct_val rfl (bV (q.toCq.call cl__law_keeps (by kernel_rfl) (by kernel_rfl) rfl rfl (sa_cons rfl (sa_dat (q.toCq.nv 1 (by kernel_rfl))) (sa_cons rfl (sa_dat (q.toCq.call cl__law_done (by kernel_rfl) (by kernel_rfl) rfl rfl (sa_cons rfl (sa_dat (q.toCq.nv 5 (by kernel_rfl))) (sa_cons rfl (sa_dat (q.toCq.nv 2 (by kernel_rfl))) sa_nil)))) sa_nil)))))))))
  (ss_cons (q.app 3 (by kernel_rfl) rfl rfl (q.toCq.nv 4 (by kernel_rfl)))
  ss_nil)
  ss_nil)
  ss_nil))
  (ss_cons (cs_ret (q.toCq.tuple (by kernel_rfl) rfl (q.toCq.nb 3 (by kernel_rfl))))
  ss_nil)))
/-! _law_are_sums_right -/
abbrev st__law_are_sums_right : Stmt := top 34
def N__law_are_sums_right : List Str := ["net", "caps", "state", "slack", "due", "told", "named", "cap"]
def m__law_are_sums_right : SM GG := seqM (setM 3 (un tupleD (compM (itSeq (brwM 1)) (.nm 7) (yesM) (bin subD (bin idxD (brwM 7) (cM (.int 1))) (callM s__law_sum idL [daM (bin idxD (brwM 7) (cM (.int 0))), daM (varM 2)])) [7]))) <|
  seqM (setM 4 (un rpD (lstM [callM s__law_keeps idL [daM (varM 1), daM (varM 2)], varM 3, callM s__law_breaking idL [daM (varM 0), daM (varM 1), daM (varM 2)]]))) <|
  seqM (setM 5 (lstM [callM s_does_keep idL [daM (varM 1), daM (varM 2)], callM s_cap_slack idL [daM (varM 1), daM (varM 2)], callM s_breaking_steps idL [daM (varM 0), daM (varM 1), daM (varM 2)]])) <|
  seqM (setOM 6 (lstM [callM s_does_keep gp_does_keep__state_caps [daM (varM 2), daM (varM 1)], callM s_cap_slack gp_cap_slack__state_caps [daM (varM 2), daM (varM 1)]])) <|
  seqM (appM 6 (callM s_breaking_steps gp_breaking_steps__state_caps_net [daM (varM 2), daM (varM 1), daM (varM 0)])) <|
  seqM (retM (vAndM (bin eqX (un rpD (brwM 5)) (brwM 4)) (bin eqX (un rpD (brwM 6)) (brwM 4)))) <|
  nilM
def s__law_are_sums_right : Sem1 GG := fnSem m__law_are_sums_right 3 8
theorem b__law_are_sums_right {W : Wd} {X : Cx} {ns : List Int} (q : Cs W X N__law_are_sums_right (defScope st__law_are_sums_right) (fun _ => true) 4) (cl_breaking_steps : Cal (BB W ns) W.P W.w W.K W.mg W.bs 4 "breaking_steps" ["net", "caps", "state"] s_breaking_steps) (cl_cap_slack : Cal (BB W ns) W.P W.w W.K W.mg W.bs 2 "cap_slack" ["caps", "state"] s_cap_slack) (cl_does_keep : Cal (BB W ns) W.P W.w W.K W.mg W.bs 3 "does_keep" ["caps", "state"] s_does_keep) (cl__law_breaking : Cal (BB W ns) W.P W.w W.K W.mg W.bs 3 "_law_breaking" ["net", "caps", "state"] s__law_breaking) (cl__law_keeps : Cal (BB W ns) W.P W.w W.K W.mg W.bs 2 "_law_keeps" ["caps", "state"] s__law_keeps) (cl__law_sum : Cal (BB W ns) W.P W.w W.K W.mg W.bs 1 "_law_sum" ["weights", "row"] s__law_sum) (ck_breaking_steps__state_caps_net : CalK (BB W ns) W.P W.w W.K W.mg W.bs 4 "breaking_steps" ["net", "caps", "state"] ["state", "caps", "net"] gp_breaking_steps__state_caps_net s_breaking_steps) (ck_cap_slack__state_caps : CalK (BB W ns) W.P W.w W.K W.mg W.bs 2 "cap_slack" ["caps", "state"] ["state", "caps"] gp_cap_slack__state_caps s_cap_slack) (ck_does_keep__state_caps : CalK (BB W ns) W.P W.w W.K W.mg W.bs 3 "does_keep" ["caps", "state"] ["state", "caps"] gp_does_keep__state_caps s_does_keep) : PSs X (defBody st__law_are_sums_right) (tS (BB W ns) m__law_are_sums_right) :=
  (ss_cons (q.set 3 (by kernel_rfl) rfl (q.toCq.tuple (by kernel_rfl) rfl (bF (ce_lc (q.toCq.lc (own := [("cap", 7)]) (t := .nm 7) (by kernel_rfl) (by kernel_rfl) rfl (ib_seq (q.toCq.nb 1 (by kernel_rfl))) fun _ q20 => ⟨(q20.tg 7 (by kernel_rfl)), pts_yes, (oSub (bV (ce_idx rfl (q20.nb 7 (by kernel_rfl)) (bV kI))) (bV (q20.call cl__law_sum (by kernel_rfl) (by kernel_rfl) rfl rfl (sa_cons rfl (sa_dat (ce_idx rfl (q20.nb 7 (by kernel_rfl)) (bV kI))) (sa_cons rfl (sa_dat (q20.nv 2 (by kernel_rfl))) sa_nil)))))⟩)))))
  (ss_cons (q.set 4 (by kernel_rfl) rfl (q.toCq.repr (by kernel_rfl) rfl (bF (ce_lst (by decide) (ca_cons rfl (q.toCq.call cl__law_keeps (by kernel_rfl) (by kernel_rfl) rfl rfl (sa_cons rfl (sa_dat (q.toCq.nv 1 (by kernel_rfl))) (sa_cons rfl (sa_dat (q.toCq.nv 2 (by kernel_rfl))) sa_nil))) (ca_cons rfl (q.toCq.nv 3 (by kernel_rfl)) (ca_cons rfl (q.toCq.call cl__law_breaking (by kernel_rfl) (by kernel_rfl) rfl rfl (sa_cons rfl (sa_dat (q.toCq.nv 0 (by kernel_rfl))) (sa_cons rfl (sa_dat (q.toCq.nv 1 (by kernel_rfl))) (sa_cons rfl (sa_dat (q.toCq.nv 2 (by kernel_rfl))) sa_nil)))) ca_nil)))))))
  (ss_cons (q.set 5 (by kernel_rfl) rfl (vF (ce_lst (by decide) (ca_cons rfl (q.toCq.call cl_does_keep (by kernel_rfl) (by kernel_rfl) rfl rfl (sa_cons rfl (sa_dat (q.toCq.nv 1 (by kernel_rfl))) (sa_cons rfl (sa_dat (q.toCq.nv 2 (by kernel_rfl))) sa_nil))) (ca_cons rfl (q.toCq.call cl_cap_slack (by kernel_rfl) (by kernel_rfl) rfl rfl (sa_cons rfl (sa_dat (q.toCq.nv 1 (by kernel_rfl))) (sa_cons rfl (sa_dat (q.toCq.nv 2 (by kernel_rfl))) sa_nil))) (ca_cons rfl (q.toCq.call cl_breaking_steps (by kernel_rfl) (by kernel_rfl) rfl rfl (sa_cons rfl (sa_dat (q.toCq.nv 0 (by kernel_rfl))) (sa_cons rfl (sa_dat (q.toCq.nv 1 (by kernel_rfl))) (sa_cons rfl (sa_dat (q.toCq.nv 2 (by kernel_rfl))) sa_nil)))) ca_nil))))))
  (ss_cons (q.setO 6 (by kernel_rfl) rfl (ce_lst (by decide) (ca_cons rfl (q.toCq.callK ck_does_keep__state_caps (by kernel_rfl) (by kernel_rfl) rfl (sk_cons (sa_dat (q.toCq.nv 2 (by kernel_rfl))) (sk_cons (sa_dat (q.toCq.nv 1 (by kernel_rfl))) sk_nil)) rfl rfl rfl) (ca_cons rfl (q.toCq.callK ck_cap_slack__state_caps (by kernel_rfl) (by kernel_rfl) rfl (sk_cons (sa_dat (q.toCq.nv 2 (by kernel_rfl))) (sk_cons (sa_dat (q.toCq.nv 1 (by kernel_rfl))) sk_nil)) rfl rfl rfl) ca_nil))))
  (ss_cons (q.app 6 (by kernel_rfl) rfl rfl (q.toCq.callK ck_breaking_steps__state_caps_net (by kernel_rfl) (by kernel_rfl) rfl (sk_cons (sa_dat (q.toCq.nv 2 (by kernel_rfl))) (sk_cons (sa_dat (q.toCq.nv 1 (by kernel_rfl))) (sk_cons (sa_dat (q.toCq.nv 0 (by kernel_rfl))) sk_nil))) rfl rfl rfl))
  (ss_cons (cs_ret (ce_and (q.toCq.vEq (bV (q.toCq.repr (by kernel_rfl) rfl (q.toCq.nb 5 (by kernel_rfl)))) (q.toCq.nb 4 (by kernel_rfl)) rfl) (ce_one (q.toCq.vEq (bV (q.toCq.repr (by kernel_rfl) rfl (q.toCq.nb 6 (by kernel_rfl)))) (q.toCq.nb 4 (by kernel_rfl)) rfl))))
  ss_nil))))))
/-! _law_are_changes_right -/
abbrev st__law_are_changes_right : Stmt := top 35
def N__law_are_changes_right : List Str := ["net", "caps", "k", "step", "due", "cap"]
def m__law_are_changes_right : SM GG := seqM (forM (itEnum (varM 0)) (.tp (.cons (.nm 2) (.cons (.nm 3) (.nil)))) (seqM (setM 4 (un rpD (un tupleD (compM (itSeq (brwM 1)) (.nm 5) (yesM) (callM s__law_change idL [daM (varM 3), daM (bin idxD (brwM 5) (cM (.int 0)))]) [5])))) <|
  seqM (ifS (orM (blM (bin neX (un rpD (callM s_cap_changes idL [daM (varM 0), daM (varM 1), daM (varM 2)])) (brwM 4))) (blM (bin neX (un rpD (callM s_cap_changes gp_cap_changes__k_caps_net [daM (varM 2), daM (varM 1), daM (varM 0)])) (brwM 4)))) (seqM (retM (cM (.bool false))) <|
  nilM) (nilM)) <|
  nilM)) <|
  seqM (retM (cM (.bool true))) <|
  nilM
def s__law_are_changes_right : Sem1 GG := fnSem m__law_are_changes_right 2 6
theorem b__law_are_changes_right {W : Wd} {X : Cx} {ns : List Int} (q : Cs W X N__law_are_changes_right (defScope st__law_are_changes_right) (fun _ => true) 2) (cl_cap_changes : Cal (BB W ns) W.P W.w W.K W.mg W.bs 2 "cap_changes" ["net", "caps", "k"] s_cap_changes) (cl__law_change : Cal (BB W ns) W.P W.w W.K W.mg W.bs 2 "_law_change" ["step", "weights"] s__law_change) (ck_cap_changes__k_caps_net : CalK (BB W ns) W.P W.w W.K W.mg W.bs 2 "cap_changes" ["net", "caps", "k"] ["k", "caps", "net"] gp_cap_changes__k_caps_net s_cap_changes) : PSs X (defBody st__law_are_changes_right) (tS (BB W ns) m__law_are_changes_right) :=
  (ss_cons (q.for_ (q.toCq.ivEnum (by kernel_rfl) rfl (q.toCq.nv 0 (by kernel_rfl))) rfl (q.toCq.tp rfl rfl (cg_cons rfl (q.toCq.tg 2 (by kernel_rfl)) (cg_cons rfl (q.toCq.tg 3 (by kernel_rfl)) cg_nil)))
  (ss_cons (q.set 4 (by kernel_rfl) rfl (q.toCq.repr (by kernel_rfl) rfl (bV (q.toCq.tuple (by kernel_rfl) rfl (bF (ce_lc (q.toCq.lc (own := [("cap", 5)]) (t := .nm 5) (by kernel_rfl) (by kernel_rfl) rfl (ib_seq (q.toCq.nb 1 (by kernel_rfl))) fun _ q21 => ⟨(q21.tg 5 (by kernel_rfl)), pts_yes, (q21.call cl__law_change (by kernel_rfl) (by kernel_rfl) rfl rfl (sa_cons rfl (sa_dat (q21.nv 3 (by kernel_rfl))) (sa_cons rfl (sa_dat (ce_idx rfl (q21.nb 5 (by kernel_rfl)) (bV kI))) sa_nil)))⟩)))))))
  (ss_cons (cs_if (PW.pt (cw_or (q.toCq.tNe (bV (q.toCq.repr (by kernel_rfl) rfl (bV (q.toCq.call cl_cap_changes (by kernel_rfl) (by kernel_rfl) rfl rfl (sa_cons rfl (sa_dat (q.toCq.nv 0 (by kernel_rfl))) (sa_cons rfl (sa_dat (q.toCq.nv 1 (by kernel_rfl))) (sa_cons rfl (sa_dat (q.toCq.nv 2 (by kernel_rfl))) sa_nil))))))) (q.toCq.nb 4 (by kernel_rfl)) rfl) (cw_or1 (q.toCq.tNe (bV (q.toCq.repr (by kernel_rfl) rfl (bV (q.toCq.callK ck_cap_changes__k_caps_net (by kernel_rfl) (by kernel_rfl) rfl (sk_cons (sa_dat (q.toCq.nv 2 (by kernel_rfl))) (sk_cons (sa_dat (q.toCq.nv 1 (by kernel_rfl))) (sk_cons (sa_dat (q.toCq.nv 0 (by kernel_rfl))) sk_nil))) rfl rfl rfl)))) (q.toCq.nb 4 (by kernel_rfl)) rfl))))
  (ss_cons (cs_ret kB)
  ss_nil)
  ss_nil)
  ss_nil)))
  (ss_cons (cs_ret kB)
  ss_nil))
/-! _law_some_states -/
abbrev st__law_some_states : Stmt := top 36
def N__law_some_states : List Str := ["bag", "m", "net", "state", "found", "may", "i", "step", "own"]
def m__law_some_states : SM GG := seqM (setOM 4 (lstM [varM 3])) <|
  seqM (setM 5 (compM (itSeq (brwM 2)) (.nm 7) (tstM (callM s__law_is_let idL [daM (varM 7), daM (varM 3)])) (callM s__law_done idL [daM (varM 7), daM (varM 3)]) [7])) <|
  seqM (setM 5 (compM (itSeq (brwM 5)) (.nm 8) (blM (bin leI (un max1D (bin addD (tupM [cM (.int 0)]) (brwM 8))) (bin powD (cM (.int 10)) (cM (.int 9))))) (varM 8) [8])) <|
  seqM (ifS (blM (bin neX (brwM 5) (lstM []))) (seqM (appM 4 (callM s__law_pick idL [slM 0, daM (varM 5)])) <|
  nilM) (nilM)) <|
  seqM (ifS (blM (bin gtI (brwM 1) (cM (.int 0)))) (seqM (setM 6 (callM s__law_draw idL [slM 0, daM (varM 1)])) <|
  seqM (appM 4 (bin addD (bin addD (sliceM (brwM 3) none (some (brwM 6))) (tupM [bin min2D (bin powD (cM (.int 10)) (cM (.int 9))) (bin addD (bin idxD (brwM 3) (brwM 6)) (cM (.int 1)))])) (sliceM (brwM 3) (some (bin addD (brwM 6) (cM (.int 1)))) none))) <|
  nilM) (nilM)) <|
  seqM (appM 4 (callM s__law_state idL [slM 0, daM (varM 1)])) <|
  seqM (retM (varM 4)) <|
  nilM
def s__law_some_states : Sem1 GG := fnSem m__law_some_states 4 9
theorem b__law_some_states {W : Wd} {X : Cx} {ns : List Int} (q : Cs W X N__law_some_states (defScope st__law_some_states) (fun _ => true) 3) (cl__law_state : Cal (BB W ns) W.P W.w W.K W.mg W.bs 3 "_law_state" ["bag", "m"] s__law_state) (cl__law_draw : Cal (BB W ns) W.P W.w W.K W.mg W.bs 1 "_law_draw" ["bag", "below"] s__law_draw) (cl__law_pick : Cal (BB W ns) W.P W.w W.K W.mg W.bs 2 "_law_pick" ["bag", "some"] s__law_pick) (cl__law_done : Cal (BB W ns) W.P W.w W.K W.mg W.bs 1 "_law_done" ["step", "state"] s__law_done) (cl__law_is_let : Cal (BB W ns) W.P W.w W.K W.mg W.bs 1 "_law_is_let" ["step", "state"] s__law_is_let) : PSs X (defBody st__law_some_states) (tS (BB W ns) m__law_some_states) :=
  (ss_cons (q.setO 4 (by kernel_rfl) rfl (ce_lst (by decide) (ca_cons rfl (q.toCq.nv 3 (by kernel_rfl)) ca_nil)))
  (ss_cons (q.setC 5 (by kernel_rfl) (by kernel_rfl) (q.toCq.lc (own := [("step", 7)]) (t := .nm 7) (by kernel_rfl) (by kernel_rfl) rfl (ib_seq (q.toCq.nb 2 (by kernel_rfl))) fun _ q23 => ⟨(q23.tg 7 (by kernel_rfl)), (pts_one (ct_val rfl (bV (q23.call cl__law_is_let (by kernel_rfl) (by kernel_rfl) rfl rfl (sa_cons rfl (sa_dat (q23.nv 7 (by kernel_rfl))) (sa_cons rfl (sa_dat (q23.nv 3 (by kernel_rfl))) sa_nil)))))), (q23.call cl__law_done (by kernel_rfl) (by kernel_rfl) rfl rfl (sa_cons rfl (sa_dat (q23.nv 7 (by kernel_rfl))) (sa_cons rfl (sa_dat (q23.nv 3 (by kernel_rfl))) sa_nil)))⟩))
  (ss_cons (q.setC 5 (by kernel_rfl) (by kernel_rfl) (q.toCq.lc (own := [("own", 8)]) (t := .nm 8) (by kernel_rfl) (by kernel_rfl) rfl (ib_seq (q.toCq.nb 5 (by kernel_rfl))) fun _ q22 => ⟨(q22.tg 8 (by kernel_rfl)), (pts_one (tLe (bV (q22.max1 (by kernel_rfl) rfl (bV (oAdd (bV (ce_tup (by decide) (ca_cons rfl kI ca_nil))) (q22.nb 8 (by kernel_rfl)))))) (bV (oPow (bV kI) (bV kI))) rfl)), (q22.nv 8 (by kernel_rfl))⟩))
  (ss_cons (cs_if (q.toCq.tNe (q.toCq.nb 5 (by kernel_rfl)) (bF (ce_lst (by decide) ca_nil)) rfl)
  (ss_cons (q.app 4 (by kernel_rfl) rfl rfl (q.toCq.call cl__law_pick (by kernel_rfl) (by kernel_rfl) rfl rfl (sa_cons rfl (q.toCq.ns 0 (by kernel_rfl)) (sa_cons rfl (sa_dat (q.toCq.nv 5 (by kernel_rfl))) sa_nil))))
  ss_nil)
  ss_nil)
  (ss_cons (cs_if (tGt (q.toCq.nb 1 (by kernel_rfl)) (bV kI) rfl)
  (ss_cons (q.set 6 (by kernel_rfl) rfl (q.toCq.call cl__law_draw (by kernel_rfl) (by kernel_rfl) rfl rfl (sa_cons rfl (q.toCq.ns 0 (by kernel_rfl)) (sa_cons rfl (sa_dat (q.toCq.nv 1 (by kernel_rfl))) sa_nil))))
  (ss_cons (q.app 4 (by kernel_rfl) rfl rfl (oAdd (bV (oAdd (bV (ce_slice (q.toCq.nb 3 (by kernel_rfl)) co_none (co_some (q.toCq.nb 6 (by kernel_rfl))))) (bV (ce_tup (by decide) (ca_cons rfl (q.toCq.min (by kernel_rfl) rfl rfl (bV (oPow (bV kI) (bV kI))) (bV (oAdd (bV (ce_idx rfl (q.toCq.nb 3 (by kernel_rfl)) (q.toCq.nb 6 (by kernel_rfl)))) (bV kI)))) ca_nil))))) (bV (ce_slice (q.toCq.nb 3 (by kernel_rfl)) (co_some (bV (oAdd (q.toCq.nb 6 (by kernel_rfl)) (bV kI)))) co_none))))
  ss_nil))
  ss_nil)
  (ss_cons (q.app 4 (by kernel_rfl) rfl rfl (q.toCq.call cl__law_state (by kernel_rfl) (by kernel_rfl) rfl rfl (sa_cons rfl (q.toCq.ns 0 (by kernel_rfl)) (sa_cons rfl (sa_dat (q.toCq.nv 1 (by kernel_rfl))) sa_nil))))
  (ss_cons (cs_ret (q.toCq.nv 4 (by kernel_rfl)))
  ss_nil)))))))
/-! _law_whole -/
abbrev st__law_whole : Stmt := top 37
def N__law_whole : List Str := ["value", "most"]
def m__law_whole : SM GG := seqM (retM (vAndM (un (isiD .int) (brwM 0)) (vAndM (vNotM (un (isiD .bool) (brwM 0))) (chainM leI leI (cM (.int 0)) (brwM 0) (brwM 1))))) <|
  nilM
def s__law_whole : Sem1 GG := fnSem m__law_whole 2 2
theorem b__law_whole {W : Wd} {X : Cx} {ns : List Int} (q : Cs W X N__law_whole (defScope st__law_whole) (fun _ => true) 0)  : PSs X (defBody st__law_whole) (tS (BB W ns) m__law_whole) :=
  (ss_cons (cs_ret (ce_and (q.toCq.isi .int (by kernel_rfl) (by kernel_rfl) (by kernel_rfl) rfl (q.toCq.nb 0 (by kernel_rfl))) (ce_and (ce_not (q.toCq.isi .bool (by kernel_rfl) (by kernel_rfl) (by kernel_rfl) rfl (q.toCq.nb 0 (by kernel_rfl)))) (ce_one (ce_chain op_le op_le ok_le ok_le rfl (bV kI) (q.toCq.nb 0 (by kernel_rfl)) (q.toCq.nb 1 (by kernel_rfl)))))))
  ss_nil)
/-! _law_word -/
abbrev st__law_word : Stmt := top 38
def N__law_word : List Str := ["m", "value", "c", "item", "one"]
def m__law_word : SM GG := seqM (ifS (orM (notM (tstM (un (isiD .tuple) (brwM 1)))) (blM (bin gtI (un lenD (brwM 1)) (cM (.int 3))))) (seqM (retM (cM (.str "form"))) <|
  nilM) (nilM)) <|
  seqM (forM (itEnum (varM 1)) (.tp (.cons (.nm 2) (.cons (.nm 3) (.nil)))) (seqM (ifS (orM (notM (tstM (un (isiD .tuple) (brwM 3)))) (blM (bin neX (un lenD (brwM 3)) (cM (.int 2))))) (seqM (retM (tupM [cM (.str "weights"), varM 2])) <|
  nilM) (nilM)) <|
  seqM (ifS (orM (notM (tstM (un (isiD .tuple) (bin idxD (brwM 3) (cM (.int 0)))))) (blM (bin neX (un lenD (bin idxD (brwM 3) (cM (.int 0)))) (brwM 0)))) (seqM (retM (tupM [cM (.str "weights"), varM 2])) <|
  nilM) (nilM)) <|
  seqM (ifS (notM (tstM (un allD (compM (itSeq (bin idxD (brwM 3) (cM (.int 0)))) (.nm 4) (yesM) (callM s__law_whole idL [daM (varM 4), daM (cM (.int 9))]) [4])))) (seqM (retM (tupM [cM (.str "weights"), varM 2])) <|
  nilM) (nilM)) <|
  nilM)) <|
  seqM (forM (itEnum (varM 1)) (.tp (.cons (.nm 2) (.cons (.nm 3) (.nil)))) (seqM (ifS (notM (tstM (callM s__law_whole idL [daM (bin idxD (brwM 3) (cM (.int 1))), daM (bin powD (cM (.int 10)) (cM (.int 9)))]))) (seqM (retM (tupM [cM (.str "most"), varM 2])) <|
  nilM) (nilM)) <|
  nilM)) <|
  seqM (retM (cM .none)) <|
  nilM
def s__law_word : Sem1 GG := fnSem m__law_word 2 5
theorem b__law_word {W : Wd} {X : Cx} {ns : List Int} (q : Cs W X N__law_word (defScope st__law_word) (fun _ => true) 1) (cl__law_whole : Cal (BB W ns) W.P W.w W.K W.mg W.bs 1 "_law_whole" ["value", "most"] s__law_whole) : PSs X (defBody st__law_word) (tS (BB W ns) m__law_word) :=
  (ss_cons (cs_if (PW.pt (cw_or (ct_not (ct_val rfl (bV (q.toCq.isi .tuple (by kernel_rfl) (by kernel_rfl) (by kernel_rfl) rfl (q.toCq.nb 1 (by kernel_rfl)))))) (cw_or1 (tGt (bV (q.toCq.len (by kernel_rfl) rfl (q.toCq.nb 1 (by kernel_rfl)))) (bV kI) rfl))))
  (ss_cons (cs_ret kS)
  ss_nil)
  ss_nil)
  (ss_cons (q.for_ (q.toCq.ivEnum (by kernel_rfl) rfl (q.toCq.nv 1 (by kernel_rfl))) rfl (q.toCq.tp rfl rfl (cg_cons rfl (q.toCq.tg 2 (by kernel_rfl)) (cg_cons rfl (q.toCq.tg 3 (by kernel_rfl)) cg_nil)))
  (ss_cons (cs_if (PW.pt (cw_or (ct_not (ct_val rfl (bV (q.toCq.isi .tuple (by kernel_rfl) (by kernel_rfl) (by kernel_rfl) rfl (q.toCq.nb 3 (by kernel_rfl)))))) (cw_or1 (q.toCq.tNe (bV (q.toCq.len (by kernel_rfl) rfl (q.toCq.nb 3 (by kernel_rfl)))) (bV kI) rfl))))
  (ss_cons (cs_ret (ce_tup (by decide) (ca_cons rfl kS (ca_cons rfl (q.toCq.nv 2 (by kernel_rfl)) ca_nil))))
  ss_nil)
  ss_nil)
  (ss_cons (cs_if (PW.pt (cw_or (ct_not (ct_val rfl (bV (q.toCq.isi .tuple (by kernel_rfl) (by kernel_rfl) (by kernel_rfl) rfl (bV (ce_idx rfl (q.toCq.nb 3 (by kernel_rfl)) (bV kI))))))) (cw_or1 (q.toCq.tNe (bV (q.toCq.len (by kernel_rfl) rfl (bV (ce_idx rfl (q.toCq.nb 3 (by kernel_rfl)) (bV kI))))) (q.toCq.nb 0 (by kernel_rfl)) rfl))))
  (ss_cons (cs_ret (ce_tup (by decide) (ca_cons rfl kS (ca_cons rfl (q.toCq.nv 2 (by kernel_rfl)) ca_nil))))
  ss_nil)
  ss_nil)
  (ss_cons (cs_if (ct_not (ct_val rfl (bV (q.toCq.all (by kernel_rfl) rfl (bF (ce_lc (q.toCq.lc (own := [("one", 4)]) (t := .nm 4) (by kernel_rfl) (by kernel_rfl) rfl (ib_seq (bV (ce_idx rfl (q.toCq.nb 3 (by kernel_rfl)) (bV kI)))) fun _ q24 => ⟨(q24.tg 4 (by kernel_rfl)), pts_yes, (q24.call cl__law_whole (by kernel_rfl) (by kernel_rfl) rfl rfl (sa_cons rfl (sa_dat (q24.nv 4 (by kernel_rfl))) (sa_cons rfl (sa_dat kI) sa_nil)))⟩)))))))
  (ss_cons (cs_ret (ce_tup (by decide) (ca_cons rfl kS (ca_cons rfl (q.toCq.nv 2 (by kernel_rfl)) ca_nil))))
  ss_nil)
  ss_nil)
  ss_nil))))
  (ss_cons (q.for_ (q.toCq.ivEnum (by kernel_rfl) rfl (q.toCq.nv 1 (by kernel_rfl))) rfl (q.toCq.tp rfl rfl (cg_cons rfl (q.toCq.tg 2 (by kernel_rfl)) (cg_cons rfl (q.toCq.tg 3 (by kernel_rfl)) cg_nil)))
  (ss_cons (cs_if (ct_not (ct_val rfl (bV (q.toCq.call cl__law_whole (by kernel_rfl) (by kernel_rfl) rfl rfl (sa_cons rfl (sa_dat (ce_idx rfl (q.toCq.nb 3 (by kernel_rfl)) (bV kI))) (sa_cons rfl (sa_dat (oPow (bV kI) (bV kI))) sa_nil))))))
  (ss_cons (cs_ret (ce_tup (by decide) (ca_cons rfl kS (ca_cons rfl (q.toCq.nv 2 (by kernel_rfl)) ca_nil))))
  ss_nil)
  ss_nil)
  ss_nil))
  (ss_cons (cs_ret kN)
  ss_nil))))
/-! _law_is_word_right -/
abbrev st__law_is_word_right : Stmt := top 39
def N__law_is_word_right : List Str := ["m", "value", "kept", "due", "told", "named"]
def m__law_is_word_right : SM GG := seqM (multM [2, 3] [(false, un rpD (brwM 1)), (false, un rpD (callM s__law_word idL [daM (varM 0), daM (varM 1)]))]) <|
  seqM (multM [4, 5] [(false, callM s_caps_error idL [daM (varM 0), daM (varM 1)]), (false, callM s_caps_error gp_caps_error__value_m [daM (varM 1), daM (varM 0)])]) <|
  seqM (retM (vAndM (bin eqX (un rpD (brwM 4)) (brwM 3)) (vAndM (bin eqX (un rpD (brwM 5)) (brwM 3)) (bin eqX (un rpD (brwM 1)) (brwM 2))))) <|
  nilM
def s__law_is_word_right : Sem1 GG := fnSem m__law_is_word_right 2 6
theorem b__law_is_word_right {W : Wd} {X : Cx} {ns : List Int} (q : Cs W X N__law_is_word_right (defScope st__law_is_word_right) (fun _ => true) 5) (cl_caps_error : Cal (BB W ns) W.P W.w W.K W.mg W.bs 5 "caps_error" ["m", "value"] s_caps_error) (cl__law_word : Cal (BB W ns) W.P W.w W.K W.mg W.bs 2 "_law_word" ["m", "value"] s__law_word) (ck_caps_error__value_m : CalK (BB W ns) W.P W.w W.K W.mg W.bs 5 "caps_error" ["m", "value"] ["value", "m"] gp_caps_error__value_m s_caps_error) : PSs X (defBody st__law_is_word_right) (tS (BB W ns) m__law_is_word_right) :=
  (ss_cons (q.par2 2 3 (by kernel_rfl) (by kernel_rfl) rfl (by kernel_rfl) (by kernel_rfl) (by kernel_rfl) (by kernel_rfl) (cf_dat rfl (q.toCq.repr (by kernel_rfl) rfl (q.toCq.nb 1 (by kernel_rfl))) (cf_dat rfl (q.toCq.repr (by kernel_rfl) rfl (bV (q.toCq.call cl__law_word (by kernel_rfl) (by kernel_rfl) rfl rfl (sa_cons rfl (sa_dat (q.toCq.nv 0 (by kernel_rfl))) (sa_cons rfl (sa_dat (q.toCq.nv 1 (by kernel_rfl))) sa_nil))))) cf_nil)))
  (ss_cons (q.par2 4 5 (by kernel_rfl) (by kernel_rfl) rfl (by kernel_rfl) (by kernel_rfl) (by kernel_rfl) (by kernel_rfl) (cf_dat rfl (q.toCq.call cl_caps_error (by kernel_rfl) (by kernel_rfl) rfl rfl (sa_cons rfl (sa_dat (q.toCq.nv 0 (by kernel_rfl))) (sa_cons rfl (sa_dat (q.toCq.nv 1 (by kernel_rfl))) sa_nil))) (cf_dat rfl (q.toCq.callK ck_caps_error__value_m (by kernel_rfl) (by kernel_rfl) rfl (sk_cons (sa_dat (q.toCq.nv 1 (by kernel_rfl))) (sk_cons (sa_dat (q.toCq.nv 0 (by kernel_rfl))) sk_nil)) rfl rfl rfl) cf_nil)))
  (ss_cons (cs_ret (ce_and (q.toCq.vEq (bV (q.toCq.repr (by kernel_rfl) rfl (q.toCq.nb 4 (by kernel_rfl)))) (q.toCq.nb 3 (by kernel_rfl)) rfl) (ce_and (q.toCq.vEq (bV (q.toCq.repr (by kernel_rfl) rfl (q.toCq.nb 5 (by kernel_rfl)))) (q.toCq.nb 3 (by kernel_rfl)) rfl) (ce_one (q.toCq.vEq (bV (q.toCq.repr (by kernel_rfl) rfl (q.toCq.nb 1 (by kernel_rfl)))) (q.toCq.nb 2 (by kernel_rfl)) rfl)))))
  ss_nil)))
/-! _law_any -/
abbrev st__law_any : Stmt := top 40
def N__law_any : List Str := ["bag", "deep", "way", "rows", "found", "k", "row"]
def m__law_any (self : Sem1 GG) : SM GG := seqM (setM 2 (callM s__law_draw idL [slM 0, daM (ifM (blM (bin gtI (brwM 1) (cM (.int 0)))) (cM (.int 9)) (cM (.int 5)))])) <|
  seqM (ifS (blM (bin eqX (brwM 2) (cM (.int 0)))) (seqM (retM (cM .none)) <|
  nilM) (nilM)) <|
  seqM (ifS (blM (bin eqX (brwM 2) (cM (.int 1)))) (seqM (retM (bin eqX (callM s__law_draw idL [slM 0, daM (cM (.int 2))]) (cM (.int 0)))) <|
  nilM) (nilM)) <|
  seqM (ifS (blM (bin eqX (brwM 2) (cM (.int 2)))) (seqM (retM (bin subD (callM s__law_draw idL [slM 0, daM (cM (.int 30))]) (cM (.int 9)))) <|
  nilM) (nilM)) <|
  seqM (ifS (blM (bin eqX (brwM 2) (cM (.int 3)))) (seqM (retM (callM s__law_pick idL [slM 0, daM (lstM [bin powD (cM (.int 10)) (cM (.int 9)), bin addD (bin powD (cM (.int 10)) (cM (.int 9))) (cM (.int 1)), un negD (bin powD (cM (.int 10)) (cM (.int 30))), bin powD (bin powD (cM (.int 10)) (cM (.int 57))) (cM (.int 7)), cM (.int 10)])])) <|
  nilM) (nilM)) <|
  seqM (ifS (blM (bin eqX (brwM 2) (cM (.int 4)))) (seqM (retM (callM s__law_pick idL [slM 0, daM (lstM [cM (.str ""), cM (.str "form"), cM (.str "weights"), cM (.str "most"), cM (.str "0"), cM (.str "a b\n~")])])) <|
  nilM) (nilM)) <|
  seqM (setM 3 (compM (itRange1 (callM s__law_draw idL [slM 0, daM (cM (.int 4))])) (.nm 5) (yesM) (callM self idL [slM 0, daM (bin subD (brwM 1) (cM (.int 1)))]) [5])) <|
  seqM (ifS (blM (bin ltI (brwM 2) (cM (.int 7)))) (seqM (retM (un tupleD (brwM 3))) <|
  nilM) (nilM)) <|
  seqM (ifS (blM (bin eqX (brwM 2) (cM (.int 7)))) (seqM (retM (varM 3)) <|
  nilM) (nilM)) <|
  seqM (setOM 4 (dnewM)) <|
  seqM (forM (itEnum (varM 3)) (.tp (.cons (.nm 5) (.cons (.nm 6) (.nil)))) (seqM (stoM 4 (brwM 5) (varM 6)) <|
  nilM)) <|
  seqM (retM (varM 4)) <|
  nilM
def s__law_any : Nat → Sem1 GG := recSem m__law_any 2 7
theorem b__law_any {W : Wd} {X : Cx} {ns : List Int} {j : Nat} {self : Sem1 GG} (q : Cs W X N__law_any (defScope st__law_any) (fun _ => true) j) (hj : 2 ≤ j) (cl__law_draw : Cal (BB W ns) W.P W.w W.K W.mg W.bs 1 "_law_draw" ["bag", "below"] s__law_draw) (cl__law_pick : Cal (BB W ns) W.P W.w W.K W.mg W.bs 2 "_law_pick" ["bag", "some"] s__law_pick) (cl__law_any : Cal (BB W ns) W.P W.w W.K W.mg W.bs j "_law_any" ["bag", "deep"] self) : PSs X (defBody st__law_any) (tS (BB W ns) (m__law_any self)) :=
  (ss_cons (q.set 2 (by kernel_rfl) rfl (q.toCq.call cl__law_draw (Nat.ble_eq_true_of_le (Nat.le_trans (by decide) hj)) (by kernel_rfl) rfl rfl (sa_cons rfl (q.toCq.ns 0 (by kernel_rfl)) (sa_cons rfl (sa_dat (ce_if (tGt (q.toCq.nb 1 (by kernel_rfl)) (bV kI) rfl) kI kI)) sa_nil))))
  (ss_cons (cs_if (q.toCq.tEq (q.toCq.nb 2 (by kernel_rfl)) (bV kI) rfl)
  (ss_cons (cs_ret kN)
  ss_nil)
  ss_nil)
  (ss_cons (cs_if (q.toCq.tEq (q.toCq.nb 2 (by kernel_rfl)) (bV kI) rfl)
  (ss_cons (cs_ret (q.toCq.vEq (bV (q.toCq.call cl__law_draw (Nat.ble_eq_true_of_le (Nat.le_trans (by decide) hj)) (by kernel_rfl) rfl rfl (sa_cons rfl (q.toCq.ns 0 (by kernel_rfl)) (sa_cons rfl (sa_dat kI) sa_nil)))) (bV kI) rfl))
  ss_nil)
  ss_nil)
  (ss_cons (cs_if (q.toCq.tEq (q.toCq.nb 2 (by kernel_rfl)) (bV kI) rfl)
  (ss_cons (cs_ret (oSub (bV (q.toCq.call cl__law_draw (Nat.ble_eq_true_of_le (Nat.le_trans (by decide) hj)) (by kernel_rfl) rfl rfl (sa_cons rfl (q.toCq.ns 0 (by kernel_rfl)) (sa_cons rfl (sa_dat kI) sa_nil)))) (bV kI)))
  ss_nil)
  ss_nil)
  (ss_cons (cs_if (q.toCq.tEq (q.toCq.nb 2 (by kernel_rfl)) (bV kI) rfl)
  (ss_cons (cs_ret (q.toCq.call cl__law_pick (Nat.ble_eq_true_of_le (Nat.le_trans (by decide) hj)) (by kernel_rfl) rfl rfl (sa_cons rfl (q.toCq.ns 0 (by kernel_rfl)) (sa_cons rfl (sa_dat (vF (ce_lst (by decide) (ca_cons rfl (oPow (bV kI) (bV kI)) (ca_cons rfl (oAdd (bV (oPow (bV kI) (bV kI))) (bV kI)) (ca_cons rfl (oNeg (bV (oPow (bV kI) (bV kI)))) (ca_cons rfl (oPow (bV (oPow (bV kI) (bV kI))) (bV kI)) (ca_cons rfl kI ca_nil)))))))) sa_nil))))
  ss_nil)
  ss_nil)
  (ss_cons (cs_if (q.toCq.tEq (q.toCq.nb 2 (by kernel_rfl)) (bV kI) rfl)
  (ss_cons (cs_ret (q.toCq.call cl__law_pick (Nat.ble_eq_true_of_le (Nat.le_trans (by decide) hj)) (by kernel_rfl) rfl rfl (sa_cons rfl (q.toCq.ns 0 (by kernel_rfl)) (sa_cons rfl (sa_dat (vF (ce_lst (by decide) (ca_cons rfl kS (ca_cons rfl kS (ca_cons rfl kS (ca_cons rfl kS (ca_cons rfl kS (ca_cons rfl kS ca_nil))))))))) sa_nil))))
  ss_nil)
  ss_nil)
  (ss_cons (q.setC 3 (by kernel_rfl) (by kernel_rfl) (q.toCq.lc (own := [("k", 5)]) (t := .nm 5) (by kernel_rfl) (by kernel_rfl) rfl (q.toCq.ibRange (by kernel_rfl) rfl (bV (q.toCq.call cl__law_draw (Nat.ble_eq_true_of_le (Nat.le_trans (by decide) hj)) (by kernel_rfl) rfl rfl (sa_cons rfl (q.toCq.ns 0 (by kernel_rfl)) (sa_cons rfl (sa_dat kI) sa_nil))))) fun _ q25 => ⟨(q25.tg 5 (by kernel_rfl)), pts_yes, (q25.call cl__law_any (Nat.ble_eq_true_of_le (Nat.le_refl _)) (by kernel_rfl) rfl rfl (sa_cons rfl (q25.ns 0 (by kernel_rfl)) (sa_cons rfl (sa_dat (oSub (q25.nb 1 (by kernel_rfl)) (bV kI))) sa_nil)))⟩))
  (ss_cons (cs_if (tLt (q.toCq.nb 2 (by kernel_rfl)) (bV kI) rfl)
  (ss_cons (cs_ret (q.toCq.tuple (by kernel_rfl) rfl (q.toCq.nb 3 (by kernel_rfl))))
  ss_nil)
  ss_nil)
  (ss_cons (cs_if (q.toCq.tEq (q.toCq.nb 2 (by kernel_rfl)) (bV kI) rfl)
  (ss_cons (cs_ret (q.toCq.nv 3 (by kernel_rfl)))
  ss_nil)
  ss_nil)
  (ss_cons (q.setO 4 (by kernel_rfl) rfl ce_dnew)
  (ss_cons (q.for_ (q.toCq.ivEnum (by kernel_rfl) rfl (q.toCq.nv 3 (by kernel_rfl))) rfl (q.toCq.tp rfl rfl (cg_cons rfl (q.toCq.tg 5 (by kernel_rfl)) (cg_cons rfl (q.toCq.tg 6 (by kernel_rfl)) cg_nil)))
  (ss_cons (q.sto 4 (by kernel_rfl) rfl rfl (q.toCq.nb 5 (by kernel_rfl)) (q.toCq.nv 6 (by kernel_rfl)))
  ss_nil))
  (ss_cons (cs_ret (q.toCq.nv 4 (by kernel_rfl)))
  ss_nil))))))))))))
/-! _law_items -/
abbrev st__law_items : Stmt := top 41
def N__law_items : List Str := ["bag", "m", "cap", "found", "worth", "weights", "most", "i"]
def m__law_items : SM GG := seqM (unpM (.tp (.cons (.nm 5) (.cons (.nm 6) (.nil)))) (varM 2)) <|
  seqM (setOM 3 (lstM [un listD (brwM 2), tupM [varM 5], tupM [varM 5, varM 6, varM 6], tupM [], cM .none, varM 5, tupM [varM 6, varM 5], cM (.str "ab"), varM 6, cM (.bool true)])) <|
  seqM (extM 3 (lstM [tupM [un listD (brwM 5), varM 6], tupM [bin addD (brwM 5) (tupM [cM (.int 0)]), varM 6], tupM [bin addD (brwM 5) (tupM [cM (.int 3), cM (.int 3)]), varM 6], tupM [cM .none, varM 6], tupM [cM (.int 0), varM 6]])) <|
  seqM (extM 3 (lstM [tupM [tupM [varM 5], varM 6], tupM [varM 5, varM 5], tupM [un strD (brwM 5), varM 6], dispM [(cM (.int 0), varM 5), (cM (.int 1), varM 6)]])) <|
  seqM (ifS (blM (bin gtI (brwM 1) (cM (.int 0)))) (seqM (setM 7 (callM s__law_pick idL [slM 0, daM (lstM [cM (.int 0), bin subD (brwM 1) (cM (.int 1)), callM s__law_draw idL [slM 0, daM (varM 1)]])])) <|
  seqM (forM (itSeq (lstM [cM (.int 1), cM (.bool true), cM (.int 1), cM (.int 0), cM (.bool false), cM (.int 0), un negD (cM (.int 1)), cM (.int 9), cM (.int 10), cM .none, cM (.str "3"), tupM [cM (.int 3)], bin powD (cM (.int 10)) (cM (.int 30)), un negD (bin powD (bin powD (cM (.int 10)) (cM (.int 57))) (cM (.int 7))), lstM [cM (.int 3)]])) (.nm 4) (seqM (appM 3 (tupM [bin addD (bin addD (sliceM (brwM 5) none (some (brwM 7))) (tupM [varM 4])) (sliceM (brwM 5) (some (bin addD (brwM 7) (cM (.int 1)))) none), varM 6])) <|
  nilM)) <|
  seqM (extM 3 (lstM [tupM [sliceM (brwM 5) none (some (un negD (cM (.int 1)))), varM 6], tupM [sliceM (brwM 5) (some (cM (.int 1))) none, varM 6]])) <|
  nilM) (nilM)) <|
  seqM (forM (itSeq (lstM [cM (.int 1), cM (.bool true), cM (.int 1), cM (.int 0), cM (.bool false), cM (.int 0), un negD (cM (.int 1)), bin powD (cM (.int 10)) (cM (.int 9)), bin addD (bin powD (cM (.int 10)) (cM (.int 9))) (cM (.int 1)), cM .none, cM (.str "5"), tupM [cM (.int 5)], lstM [], bin powD (bin powD (cM (.int 10)) (cM (.int 57))) (cM (.int 7)), un negD (bin powD (cM (.int 10)) (cM (.int 9)))])) (.nm 4) (seqM (appM 3 (tupM [varM 5, varM 4])) <|
  nilM)) <|
  seqM (extM 3 (lstM [tupM [varM 5, callM (s__law_any 8) idL [slM 0, daM (cM (.int 2))]], tupM [callM (s__law_any 8) idL [slM 0, daM (cM (.int 2))], varM 6], callM (s__law_any 8) idL [slM 0, daM (cM (.int 3))]])) <|
  seqM (retM (varM 3)) <|
  nilM
def s__law_items : Sem1 GG := fnSem m__law_items 3 8
theorem b__law_items {W : Wd} {X : Cx} {ns : List Int} (q : Cs W X N__law_items (defScope st__law_items) (fun _ => true) 10) (cl__law_any : Cal (BB W ns) W.P W.w W.K W.mg W.bs 10 "_law_any" ["bag", "deep"] (s__law_any 8)) (cl__law_pick : Cal (BB W ns) W.P W.w W.K W.mg W.bs 2 "_law_pick" ["bag", "some"] s__law_pick) (cl__law_draw : Cal (BB W ns) W.P W.w W.K W.mg W.bs 1 "_law_draw" ["bag", "below"] s__law_draw) : PSs X (defBody st__law_items) (tS (BB W ns) m__law_items) :=
  (ss_cons (q.unp (q.toCq.tp rfl rfl (cg_cons rfl (q.toCq.tg 5 (by kernel_rfl)) (cg_cons rfl (q.toCq.tg 6 (by kernel_rfl)) cg_nil))) rfl rfl (q.toCq.nv 2 (by kernel_rfl)))
  (ss_cons (q.setO 3 (by kernel_rfl) rfl (ce_lst (by decide) (ca_cons rfl (vF (q.toCq.list (by kernel_rfl) rfl (q.toCq.nb 2 (by kernel_rfl)))) (ca_cons rfl (ce_tup (by decide) (ca_cons rfl (q.toCq.nv 5 (by kernel_rfl)) ca_nil)) (ca_cons rfl (ce_tup (by decide) (ca_cons rfl (q.toCq.nv 5 (by kernel_rfl)) (ca_cons rfl (q.toCq.nv 6 (by kernel_rfl)) (ca_cons rfl (q.toCq.nv 6 (by kernel_rfl)) ca_nil)))) (ca_cons rfl (ce_tup (by decide) ca_nil) (ca_cons rfl kN (ca_cons rfl (q.toCq.nv 5 (by kernel_rfl)) (ca_cons rfl (ce_tup (by decide) (ca_cons rfl (q.toCq.nv 6 (by kernel_rfl)) (ca_cons rfl (q.toCq.nv 5 (by kernel_rfl)) ca_nil))) (ca_cons rfl kS (ca_cons rfl (q.toCq.nv 6 (by kernel_rfl)) (ca_cons rfl kB ca_nil))))))))))))
  (ss_cons (q.ext 3 (by kernel_rfl) rfl rfl (bF (ce_lst (by decide) (ca_cons rfl (ce_tup (by decide) (ca_cons rfl (vF (q.toCq.list (by kernel_rfl) rfl (q.toCq.nb 5 (by kernel_rfl)))) (ca_cons rfl (q.toCq.nv 6 (by kernel_rfl)) ca_nil))) (ca_cons rfl (ce_tup (by decide) (ca_cons rfl (oAdd (q.toCq.nb 5 (by kernel_rfl)) (bV (ce_tup (by decide) (ca_cons rfl kI ca_nil)))) (ca_cons rfl (q.toCq.nv 6 (by kernel_rfl)) ca_nil))) (ca_cons rfl (ce_tup (by decide) (ca_cons rfl (oAdd (q.toCq.nb 5 (by kernel_rfl)) (bV (ce_tup (by decide) (ca_cons rfl kI (ca_cons rfl kI ca_nil))))) (ca_cons rfl (q.toCq.nv 6 (by kernel_rfl)) ca_nil))) (ca_cons rfl (ce_tup (by decide) (ca_cons rfl kN (ca_cons rfl (q.toCq.nv 6 (by kernel_rfl)) ca_nil))) (ca_cons rfl (ce_tup (by decide) (ca_cons rfl kI (ca_cons rfl (q.toCq.nv 6 (by kernel_rfl)) ca_nil))) ca_nil))))))))
  (ss_cons (q.ext 3 (by kernel_rfl) rfl rfl (bF (ce_lst (by decide) (ca_cons rfl (ce_tup (by decide) (ca_cons rfl (ce_tup (by decide) (ca_cons rfl (q.toCq.nv 5 (by kernel_rfl)) ca_nil)) (ca_cons rfl (q.toCq.nv 6 (by kernel_rfl)) ca_nil))) (ca_cons rfl (ce_tup (by decide) (ca_cons rfl (q.toCq.nv 5 (by kernel_rfl)) (ca_cons rfl (q.toCq.nv 5 (by kernel_rfl)) ca_nil))) (ca_cons rfl (ce_tup (by decide) (ca_cons rfl (q.toCq.str (by kernel_rfl) rfl (q.toCq.nb 5 (by kernel_rfl))) (ca_cons rfl (q.toCq.nv 6 (by kernel_rfl)) ca_nil))) (ca_cons rfl (vF (ce_disp (cd_cons kI (q.toCq.nv 5 (by kernel_rfl)) (cd_cons kI (q.toCq.nv 6 (by kernel_rfl)) cd_nil)) rfl rfl (List.cons_ne_nil _ _) (by decide))) ca_nil)))))))
  (ss_cons (cs_if (tGt (q.toCq.nb 1 (by kernel_rfl)) (bV kI) rfl)
  (ss_cons (q.set 7 (by kernel_rfl) rfl (q.toCq.call cl__law_pick (by kernel_rfl) (by kernel_rfl) rfl rfl (sa_cons rfl (q.toCq.ns 0 (by kernel_rfl)) (sa_cons rfl (sa_dat (vF (ce_lst (by decide) (ca_cons rfl kI (ca_cons rfl (oSub (q.toCq.nb 1 (by kernel_rfl)) (bV kI)) (ca_cons rfl (q.toCq.call cl__law_draw (by kernel_rfl) (by kernel_rfl) rfl rfl (sa_cons rfl (q.toCq.ns 0 (by kernel_rfl)) (sa_cons rfl (sa_dat (q.toCq.nv 1 (by kernel_rfl))) sa_nil))) ca_nil)))))) sa_nil))))
  (ss_cons (q.for_ (iv_seq (vF (ce_lst (by decide) (ca_cons rfl kI (ca_cons rfl kB (ca_cons rfl kI (ca_cons rfl kI (ca_cons rfl kB (ca_cons rfl kI (ca_cons rfl (oNeg (bV kI)) (ca_cons rfl kI (ca_cons rfl kI (ca_cons rfl kN (ca_cons rfl kS (ca_cons rfl (ce_tup (by decide) (ca_cons rfl kI ca_nil)) (ca_cons rfl (oPow (bV kI) (bV kI)) (ca_cons rfl (oNeg (bV (oPow (bV (oPow (bV kI) (bV kI))) (bV kI)))) (ca_cons rfl (vF (ce_lst (by decide) (ca_cons rfl kI ca_nil))) ca_nil)))))))))))))))))) rfl (q.toCq.tg 4 (by kernel_rfl))
  (ss_cons (q.app 3 (by kernel_rfl) rfl rfl (ce_tup (by decide) (ca_cons rfl (oAdd (bV (oAdd (bV (ce_slice (q.toCq.nb 5 (by kernel_rfl)) co_none (co_some (q.toCq.nb 7 (by kernel_rfl))))) (bV (ce_tup (by decide) (ca_cons rfl (q.toCq.nv 4 (by kernel_rfl)) ca_nil))))) (bV (ce_slice (q.toCq.nb 5 (by kernel_rfl)) (co_some (bV (oAdd (q.toCq.nb 7 (by kernel_rfl)) (bV kI)))) co_none))) (ca_cons rfl (q.toCq.nv 6 (by kernel_rfl)) ca_nil))))
  ss_nil))
  (ss_cons (q.ext 3 (by kernel_rfl) rfl rfl (bF (ce_lst (by decide) (ca_cons rfl (ce_tup (by decide) (ca_cons rfl (ce_slice (q.toCq.nb 5 (by kernel_rfl)) co_none (co_some (bV (oNeg (bV kI))))) (ca_cons rfl (q.toCq.nv 6 (by kernel_rfl)) ca_nil))) (ca_cons rfl (ce_tup (by decide) (ca_cons rfl (ce_slice (q.toCq.nb 5 (by kernel_rfl)) (co_some (bV kI)) co_none) (ca_cons rfl (q.toCq.nv 6 (by kernel_rfl)) ca_nil))) ca_nil)))))
  ss_nil)))
  ss_nil)
  (ss_cons (q.for_ (iv_seq (vF (ce_lst (by decide) (ca_cons rfl kI (ca_cons rfl kB (ca_cons rfl kI (ca_cons rfl kI (ca_cons rfl kB (ca_cons rfl kI (ca_cons rfl (oNeg (bV kI)) (ca_cons rfl (oPow (bV kI) (bV kI)) (ca_cons rfl (oAdd (bV (oPow (bV kI) (bV kI))) (bV kI)) (ca_cons rfl kN (ca_cons rfl kS (ca_cons rfl (ce_tup (by decide) (ca_cons rfl kI ca_nil)) (ca_cons rfl (vF (ce_lst (by decide) ca_nil)) (ca_cons rfl (oPow (bV (oPow (bV kI) (bV kI))) (bV kI)) (ca_cons rfl (oNeg (bV (oPow (bV kI) (bV kI)))) ca_nil)))))))))))))))))) rfl (q.toCq.tg 4 (by kernel_rfl))
  (ss_cons (q.app 3 (by kernel_rfl) rfl rfl (ce_tup (by decide) (ca_cons rfl (q.toCq.nv 5 (by kernel_rfl)) (ca_cons rfl (q.toCq.nv 4 (by kernel_rfl)) ca_nil))))
  ss_nil))
  (ss_cons (q.ext 3 (by kernel_rfl) rfl rfl (bF (ce_lst (by decide) (ca_cons rfl (ce_tup (by decide) (ca_cons rfl (q.toCq.nv 5 (by kernel_rfl)) (ca_cons rfl (q.toCq.call cl__law_any (by kernel_rfl) (by kernel_rfl) rfl rfl (sa_cons rfl (q.toCq.ns 0 (by kernel_rfl)) (sa_cons rfl (sa_dat kI) sa_nil))) ca_nil))) (ca_cons rfl (ce_tup (by decide) (ca_cons rfl (q.toCq.call cl__law_any (by kernel_rfl) (by kernel_rfl) rfl rfl (sa_cons rfl (q.toCq.ns 0 (by kernel_rfl)) (sa_cons rfl (sa_dat kI) sa_nil))) (ca_cons rfl (q.toCq.nv 6 (by kernel_rfl)) ca_nil))) (ca_cons rfl (q.toCq.call cl__law_any (by kernel_rfl) (by kernel_rfl) rfl rfl (sa_cons rfl (q.toCq.ns 0 (by kernel_rfl)) (sa_cons rfl (sa_dat kI) sa_nil))) ca_nil))))))
  (ss_cons (cs_ret (q.toCq.nv 3 (by kernel_rfl)))
  ss_nil))))))))
/-! _law_values -/
abbrev st__law_values : Stmt := top 42
def N__law_values : List Str := ["bag", "m", "caps", "spare", "full", "c", "found", "at", "bad", "low", "item", "many", "turn"]
def m__law_values : SM GG := seqM (setM 3 (tupM [callM s__law_row idL [slM 0, daM (varM 1)], callM s__law_tokens idL [slM 0, daM (callM s__law_draw idL [slM 0, daM (cM (.int 4))])]])) <|
  seqM (setM 4 (ifM (blM (bin neX (brwM 2) (tupM []))) (varM 2) (tupM [varM 3]))) <|
  seqM (setM 5 (callM s__law_pick idL [slM 0, daM (lstM [cM (.int 0), bin subD (un lenD (brwM 4)) (cM (.int 1)), callM s__law_draw idL [slM 0, daM (un lenD (brwM 4))]])])) <|
  seqM (setOM 6 (compM (itSeq (callM s__law_items idL [slM 0, daM (varM 1), daM (bin idxD (brwM 4) (brwM 5))])) (.nm 10) (yesM) (bin addD (bin addD (sliceM (brwM 4) none (some (brwM 5))) (tupM [varM 10])) (sliceM (brwM 4) (some (bin addD (brwM 5) (cM (.int 1)))) none)) [10])) <|
  seqM (multM [8, 9] [(false, tupM [bin addD (bin idxD (brwM 3) (cM (.int 0))) (tupM [cM (.int 1)]), bin idxD (brwM 3) (cM (.int 1))]), (false, tupM [bin idxD (brwM 3) (cM (.int 0)), bin subD (un negD (cM (.int 1))) (callM s__law_draw idL [slM 0, daM (cM (.int 3))])])]) <|
  seqM (extM 6 (lstM [tupM [varM 8, varM 9], tupM [varM 9, varM 8], tupM [varM 9, varM 9], tupM [varM 8, varM 8], tupM [varM 9, varM 3, varM 8], tupM [varM 3, varM 9, varM 8]])) <|
  seqM (extM 6 (lstM [tupM [varM 3, varM 3, varM 9], tupM [varM 3, varM 3, varM 8], tupM [varM 3, varM 8, varM 9], tupM [tupM [bin idxD (brwM 8) (cM (.int 0)), un negD (cM (.int 1))]]])) <|
  seqM (appM 6 (tupM [varM 9, tupM [bin idxD (brwM 8) (cM (.int 0)), un negD (cM (.int 1))]])) <|
  seqM (extM 6 (lstM [un listD (brwM 4), lstM [], tupM [], cM .none, cM (.bool true), cM (.int 0), cM (.str ""), cM (.str "caps"), dnewM, dispM [(cM (.int 0), varM 3)], varM 3, tupM [tupM []], tupM [tupM [], tupM []], cM (.int 3)])) <|
  seqM (extM 6 (compM (itSeq (lstM [cM (.int 1), cM (.int 2), cM (.int 3), cM (.int 4), cM (.int 5), cM (.int 12), cM (.int 200)])) (.nm 11) (yesM) (bin mulX (tupM [varM 3]) (brwM 11)) [11])) <|
  seqM (extM 6 (lstM [bin mulX (tupM [varM 8]) (cM (.int 4)), bin mulX (tupM [varM 9]) (cM (.int 4)), lstM [varM 8], tupM [varM 3, varM 3, varM 3, cM .none], bin mulX (tupM [cM .none]) (cM (.int 4))])) <|
  seqM (extM 6 (lstM [tupM [varM 3, cM .none], tupM [cM .none, varM 3]])) <|
  seqM (extM 6 (compM (itRange1 (cM (.int 3))) (.nm 12) (yesM) (callM (s__law_any 8) idL [slM 0, daM (cM (.int 3))]) [12])) <|
  seqM (setM 7 (callM s__law_draw idL [slM 0, daM (un lenD (brwM 6))])) <|
  seqM (retM (bin addD (bin addD (bin addD (lstM [varM 2]) (sliceM (brwM 6) (some (brwM 7)) none)) (sliceM (brwM 6) none (some (brwM 7)))) (lstM [varM 2]))) <|
  nilM
def s__law_values : Sem1 GG := fnSem m__law_values 3 13
theorem b__law_values {W : Wd} {X : Cx} {ns : List Int} (q : Cs W X N__law_values (defScope st__law_values) (fun _ => true) 11) (cl__law_draw : Cal (BB W ns) W.P W.w W.K W.mg W.bs 1 "_law_draw" ["bag", "below"] s__law_draw) (cl__law_any : Cal (BB W ns) W.P W.w W.K W.mg W.bs 10 "_law_any" ["bag", "deep"] (s__law_any 8)) (cl__law_items : Cal (BB W ns) W.P W.w W.K W.mg W.bs 11 "_law_items" ["bag", "m", "cap"] s__law_items) (cl__law_pick : Cal (BB W ns) W.P W.w W.K W.mg W.bs 2 "_law_pick" ["bag", "some"] s__law_pick) (cl__law_tokens : Cal (BB W ns) W.P W.w W.K W.mg W.bs 2 "_law_tokens" ["bag", "kind"] s__law_tokens) (cl__law_row : Cal (BB W ns) W.P W.w W.K W.mg W.bs 3 "_law_row" ["bag", "m"] s__law_row) : PSs X (defBody st__law_values) (tS (BB W ns) m__law_values) :=
  (ss_cons (q.set 3 (by kernel_rfl) rfl (ce_tup (by decide) (ca_cons rfl (q.toCq.call cl__law_row (by kernel_rfl) (by kernel_rfl) rfl rfl (sa_cons rfl (q.toCq.ns 0 (by kernel_rfl)) (sa_cons rfl (sa_dat (q.toCq.nv 1 (by kernel_rfl))) sa_nil))) (ca_cons rfl (q.toCq.call cl__law_tokens (by kernel_rfl) (by kernel_rfl) rfl rfl (sa_cons rfl (q.toCq.ns 0 (by kernel_rfl)) (sa_cons rfl (sa_dat (q.toCq.call cl__law_draw (by kernel_rfl) (by kernel_rfl) rfl rfl (sa_cons rfl (q.toCq.ns 0 (by kernel_rfl)) (sa_cons rfl (sa_dat kI) sa_nil)))) sa_nil))) ca_nil))))
  (ss_cons (q.set 4 (by kernel_rfl) rfl (ce_if (q.toCq.tNe (q.toCq.nb 2 (by kernel_rfl)) (bV (ce_tup (by decide) ca_nil)) rfl) (q.toCq.nv 2 (by kernel_rfl)) (ce_tup (by decide) (ca_cons rfl (q.toCq.nv 3 (by kernel_rfl)) ca_nil))))
  (ss_cons (q.set 5 (by kernel_rfl) rfl (q.toCq.call cl__law_pick (by kernel_rfl) (by kernel_rfl) rfl rfl (sa_cons rfl (q.toCq.ns 0 (by kernel_rfl)) (sa_cons rfl (sa_dat (vF (ce_lst (by decide) (ca_cons rfl kI (ca_cons rfl (oSub (bV (q.toCq.len (by kernel_rfl) rfl (q.toCq.nb 4 (by kernel_rfl)))) (bV kI)) (ca_cons rfl (q.toCq.call cl__law_draw (by kernel_rfl) (by kernel_rfl) rfl rfl (sa_cons rfl (q.toCq.ns 0 (by kernel_rfl)) (sa_cons rfl (sa_dat (q.toCq.len (by kernel_rfl) rfl (q.toCq.nb 4 (by kernel_rfl)))) sa_nil))) ca_nil)))))) sa_nil))))
  (ss_cons (q.setCO 6 (by kernel_rfl) (by kernel_rfl) (q.toCq.lc (own := [("item", 10)]) (t := .nm 10) (by kernel_rfl) (by kernel_rfl) rfl (ib_seq (bV (q.toCq.call cl__law_items (by kernel_rfl) (by kernel_rfl) rfl rfl (sa_cons rfl (q.toCq.ns 0 (by kernel_rfl)) (sa_cons rfl (sa_dat (q.toCq.nv 1 (by kernel_rfl))) (sa_cons rfl (sa_dat (ce_idx rfl (q.toCq.nb 4 (by kernel_rfl)) (q.toCq.nb 5 (by kernel_rfl)))) sa_nil)))))) fun _ q28 => ⟨(q28.tg 10 (by kernel_rfl)), pts_yes, (oAdd (bV (oAdd (bV (ce_slice (q28.nb 4 (by kernel_rfl)) co_none (co_some (q28.nb 5 (by kernel_rfl))))) (bV (ce_tup (by decide) (ca_cons rfl (q28.nv 10 (by kernel_rfl)) ca_nil))))) (bV (ce_slice (q28.nb 4 (by kernel_rfl)) (co_some (bV (oAdd (q28.nb 5 (by kernel_rfl)) (bV kI)))) co_none)))⟩))
  (ss_cons (q.par2 8 9 (by kernel_rfl) (by kernel_rfl) rfl (by kernel_rfl) (by kernel_rfl) (by kernel_rfl) (by kernel_rfl) (cf_dat rfl (ce_tup (by decide) (ca_cons rfl (oAdd (bV (ce_idx rfl (q.toCq.nb 3 (by kernel_rfl)) (bV kI))) (bV (ce_tup (by decide) (ca_cons rfl kI ca_nil)))) (ca_cons rfl (ce_idx rfl (q.toCq.nb 3 (by kernel_rfl)) (bV kI)) ca_nil))) (cf_dat rfl (ce_tup (by decide) (ca_cons rfl (ce_idx rfl (q.toCq.nb 3 (by kernel_rfl)) (bV kI)) (ca_cons rfl (oSub (bV (oNeg (bV kI))) (bV (q.toCq.call cl__law_draw (by kernel_rfl) (by kernel_rfl) rfl rfl (sa_cons rfl (q.toCq.ns 0 (by kernel_rfl)) (sa_cons rfl (sa_dat kI) sa_nil))))) ca_nil))) cf_nil)))
  (ss_cons (q.ext 6 (by kernel_rfl) rfl rfl (bF (ce_lst (by decide) (ca_cons rfl (ce_tup (by decide) (ca_cons rfl (q.toCq.nv 8 (by kernel_rfl)) (ca_cons rfl (q.toCq.nv 9 (by kernel_rfl)) ca_nil))) (ca_cons rfl (ce_tup (by decide) (ca_cons rfl (q.toCq.nv 9 (by kernel_rfl)) (ca_cons rfl (q.toCq.nv 8 (by kernel_rfl)) ca_nil))) (ca_cons rfl (ce_tup (by decide) (ca_cons rfl (q.toCq.nv 9 (by kernel_rfl)) (ca_cons rfl (q.toCq.nv 9 (by kernel_rfl)) ca_nil))) (ca_cons rfl (ce_tup (by decide) (ca_cons rfl (q.toCq.nv 8 (by kernel_rfl)) (ca_cons rfl (q.toCq.nv 8 (by kernel_rfl)) ca_nil))) (ca_cons rfl (ce_tup (by decide) (ca_cons rfl (q.toCq.nv 9 (by kernel_rfl)) (ca_cons rfl (q.toCq.nv 3 (by kernel_rfl)) (ca_cons rfl (q.toCq.nv 8 (by kernel_rfl)) ca_nil)))) (ca_cons rfl (ce_tup (by decide) (ca_cons rfl (q.toCq.nv 3 (by kernel_rfl)) (ca_cons rfl (q.toCq.nv 9 (by kernel_rfl)) (ca_cons rfl (q.toCq.nv 8 (by kernel_rfl)) ca_nil)))) ca_nil)))))))))
  (ss_cons (q.ext 6 (by kernel_rfl) rfl rfl (bF (ce_lst (by decide) (ca_cons rfl (ce_tup (by decide) (ca_cons rfl (q.toCq.nv 3 (by kernel_rfl)) (ca_cons rfl (q.toCq.nv 3 (by kernel_rfl)) (ca_cons rfl (q.toCq.nv 9 (by kernel_rfl)) ca_nil)))) (ca_cons rfl (ce_tup (by decide) (ca_cons rfl (q.toCq.nv 3 (by kernel_rfl)) (ca_cons rfl (q.toCq.nv 3 (by kernel_rfl)) (ca_cons rfl (q.toCq.nv 8 (by kernel_rfl)) ca_nil)))) (ca_cons rfl (ce_tup (by decide) (ca_cons rfl (q.toCq.nv 3 (by kernel_rfl)) (ca_cons rfl (q.toCq.nv 8 (by kernel_rfl)) (ca_cons rfl (q.toCq.nv 9 (by kernel_rfl)) ca_nil)))) (ca_cons rfl (ce_tup (by decide) (ca_cons rfl (ce_tup (by decide) (ca_cons rfl (ce_idx rfl (q.toCq.nb 8 (by kernel_rfl)) (bV kI)) (ca_cons rfl (oNeg (bV kI)) ca_nil))) ca_nil)) ca_nil)))))))
  (ss_cons (q.app 6 (by kernel_rfl) rfl rfl (ce_tup (by decide) (ca_cons rfl (q.toCq.nv 9 (by kernel_rfl)) (ca_cons rfl (ce_tup (by decide) (ca_cons rfl (ce_idx rfl (q.toCq.nb 8 (by kernel_rfl)) (bV kI)) (ca_cons rfl (oNeg (bV kI)) ca_nil))) ca_nil))))
  (ss_cons (q.ext 6 (by kernel_rfl) rfl rfl (bF (ce_lst (by decide) (ca_cons rfl (vF (q.toCq.list (by kernel_rfl) rfl (q.toCq.nb 4 (by kernel_rfl)))) (ca_cons rfl (vF (ce_lst (by decide) ca_nil)) (ca_cons rfl (ce_tup (by decide) ca_nil) (ca_cons rfl kN (ca_cons rfl kB (ca_cons rfl kI (ca_cons rfl kS (ca_cons rfl kS (ca_cons rfl (vF ce_dnew) (ca_cons rfl (vF (ce_disp (cd_cons kI (q.toCq.nv 3 (by kernel_rfl)) cd_nil) rfl rfl (List.cons_ne_nil _ _) (by decide))) (ca_cons rfl (q.toCq.nv 3 (by kernel_rfl)) (ca_cons rfl (ce_tup (by decide) (ca_cons rfl (ce_tup (by decide) ca_nil) ca_nil)) (ca_cons rfl (ce_tup (by decide) (ca_cons rfl (ce_tup (by decide) ca_nil) (ca_cons rfl (ce_tup (by decide) ca_nil) ca_nil))) (ca_cons rfl kI ca_nil)))))))))))))))))
  (ss_cons (q.ext 6 (by kernel_rfl) rfl rfl (bF (ce_lc (q.toCq.lc (own := [("many", 11)]) (t := .nm 11) (by kernel_rfl) (by kernel_rfl) rfl (ib_seq (bF (ce_lst (by decide) (ca_cons rfl kI (ca_cons rfl kI (ca_cons rfl kI (ca_cons rfl kI (ca_cons rfl kI (ca_cons rfl kI (ca_cons rfl kI ca_nil)))))))))) fun _ q27 => ⟨(q27.tg 11 (by kernel_rfl)), pts_yes, (oMulX (bV (ce_tup (by decide) (ca_cons rfl (q27.nv 3 (by kernel_rfl)) ca_nil))) (q27.nb 11 (by kernel_rfl)))⟩))))
  (ss_cons (q.ext 6 (by kernel_rfl) rfl rfl (bF (ce_lst (by decide) (ca_cons rfl (oMulX (bV (ce_tup (by decide) (ca_cons rfl (q.toCq.nv 8 (by kernel_rfl)) ca_nil))) (bV kI)) (ca_cons rfl (oMulX (bV (ce_tup (by decide) (ca_cons rfl (q.toCq.nv 9 (by kernel_rfl)) ca_nil))) (bV kI)) (ca_cons rfl (vF (ce_lst (by decide) (ca_cons rfl (q.toCq.nv 8 (by kernel_rfl)) ca_nil))) (ca_cons rfl (ce_tup (by decide) (ca_cons rfl (q.toCq.nv 3 (by kernel_rfl)) (ca_cons rfl (q.toCq.nv 3 (by kernel_rfl)) (ca_cons rfl (q.toCq.nv 3 (by kernel_rfl)) (ca_cons rfl kN ca_nil))))) (ca_cons rfl (oMulX (bV (ce_tup (by decide) (ca_cons rfl kN ca_nil))) (bV kI)) ca_nil))))))))
  (ss_cons (q.ext 6 (by kernel_rfl) rfl rfl (bF (ce_lst (by decide) (ca_cons rfl (ce_tup (by decide) (ca_cons rfl (q.toCq.nv 3 (by kernel_rfl)) (ca_cons rfl kN ca_nil))) (ca_cons rfl (ce_tup (by decide) (ca_cons rfl kN (ca_cons rfl (q.toCq.nv 3 (by kernel_rfl)) ca_nil))) ca_nil)))))
  (ss_cons (q.ext 6 (by kernel_rfl) rfl rfl (bF (ce_lc (q.toCq.lc (own := [("turn", 12)]) (t := .nm 12) (by kernel_rfl) (by kernel_rfl) rfl (q.toCq.ibRange (by kernel_rfl) rfl (bV kI)) fun _ q26 => ⟨(q26.tg 12 (by kernel_rfl)), pts_yes, (q26.call cl__law_any (by kernel_rfl) (by kernel_rfl) rfl rfl (sa_cons rfl (q26.ns 0 (by kernel_rfl)) (sa_cons rfl (sa_dat kI) sa_nil)))⟩))))
  (ss_cons (q.set 7 (by kernel_rfl) rfl (q.toCq.call cl__law_draw (by kernel_rfl) (by kernel_rfl) rfl rfl (sa_cons rfl (q.toCq.ns 0 (by kernel_rfl)) (sa_cons rfl (sa_dat (q.toCq.len (by kernel_rfl) rfl (q.toCq.nb 6 (by kernel_rfl)))) sa_nil))))
  (ss_cons (cs_ret (oAdd (bV (oAdd (bV (oAdd (bF (ce_lst (by decide) (ca_cons rfl (q.toCq.nv 2 (by kernel_rfl)) ca_nil))) (bV (ce_slice (q.toCq.nb 6 (by kernel_rfl)) (co_some (q.toCq.nb 7 (by kernel_rfl))) co_none)))) (bV (ce_slice (q.toCq.nb 6 (by kernel_rfl)) co_none (co_some (q.toCq.nb 7 (by kernel_rfl))))))) (bF (ce_lst (by decide) (ca_cons rfl (q.toCq.nv 2 (by kernel_rfl)) ca_nil)))))
  ss_nil)))))))))))))))
/-! _law_made -/
abbrev st__law_made : Stmt := top 43
def N__law_made : List Str := ["bag", "m", "here", "state", "k", "weights", "most", "i", "heavy", "net", "takes", "puts", "j", "one", "has"]
def m__law_made : SM GG := seqM (setM 1 (bin addD (cM (.int 1)) (callM s__law_draw idL [slM 0, daM (cM (.int 8))]))) <|
  seqM (multM [7, 8, 3, 9] [(false, callM s__law_draw idL [slM 0, daM (varM 1)]), (false, bin addD (cM (.int 1)) (callM s__law_draw idL [slM 0, daM (cM (.int 9))])), (false, callM s__law_state idL [slM 0, daM (varM 1)]), (true, lstM [])]) <|
  seqM (setM 2 (callM s__law_pick idL [slM 0, daM (lstM [bin addD (cM (.int 1)) (callM s__law_draw idL [slM 0, daM (cM (.int 9))]), bin addD (cM (.int 9)) (callM s__law_draw idL [slM 0, daM (cM (.int 60))]), bin fdivD (bin powD (cM (.int 10)) (cM (.int 9))) (brwM 8)])])) <|
  seqM (ifS (blM (bin eqX (callM s__law_draw idL [slM 0, daM (cM (.int 3))]) (cM (.int 0)))) (seqM (multM [8, 2] [(false, cM (.int 1)), (false, bin subD (bin powD (cM (.int 10)) (cM (.int 9))) (callM s__law_draw idL [slM 0, daM (cM (.int 3))]))]) <|
  nilM) (nilM)) <|
  seqM (setM 3 (bin addD (bin addD (sliceM (brwM 3) none (some (brwM 7))) (tupM [varM 2])) (sliceM (brwM 3) (some (bin addD (brwM 7) (cM (.int 1)))) none))) <|
  seqM (forM (itRange1 (cM (.int 12))) (.nm 4) (seqM (multM [10, 11] [(false, callM s__law_row idL [slM 0, daM (varM 1)]), (false, callM s__law_row idL [slM 0, daM (varM 1)])]) <|
  seqM (ifS (blM (bin gtI (callM s__law_draw idL [slM 0, daM (cM (.int 3))]) (cM (.int 0)))) (seqM (setM 10 (un tupleD (compM (itZip (brwM 10) (brwM 3)) (.tp (.cons (.nm 13) (.cons (.nm 14) (.nil)))) (yesM) (bin min2D (brwM 13) (brwM 14)) [13, 14]))) <|
  nilM) (nilM)) <|
  seqM (setM 10 (bin addD (bin addD (sliceM (brwM 10) none (some (brwM 7))) (tupM [bin min2D (brwM 2) (callM s__law_draw idL [slM 0, daM (cM (.int 4))])])) (sliceM (brwM 10) (some (bin addD (brwM 7) (cM (.int 1)))) none))) <|
  seqM (appM 9 (tupM [varM 10, bin addD (bin addD (sliceM (brwM 11) none (some (brwM 7))) (tupM [bin modD (un intD (bin addD (bin addD (bin idxD (brwM 10) (brwM 7)) (cM (.int 1))) (callM s__law_draw idL [slM 0, daM (cM (.int 9))]))) (cM (.int 10))])) (sliceM (brwM 11) (some (bin addD (brwM 7) (cM (.int 1)))) none)])) <|
  nilM)) <|
  seqM (setM 5 (un tupleD (compM (itRange1 (brwM 1)) (.nm 12) (yesM) (ifM (blM (bin eqX (brwM 12) (brwM 7))) (varM 8) (cM (.int 0))) [12]))) <|
  seqM (setM 6 (bin addD (bin mulX (brwM 8) (brwM 2)) (callM s__law_pick idL [slM 0, daM (lstM [un negD (cM (.int 1)), cM (.int 0), cM (.int 0), bin subD (brwM 8) (cM (.int 1)), varM 8, bin mulX (cM (.int 3)) (brwM 8), bin subD (bin mulX (cM (.int 3)) (brwM 8)) (cM (.int 1))])]))) <|
  seqM (retM (lstM [varM 1, un tupleD (brwM 9), tupM [tupM [varM 5, bin min2D (bin powD (cM (.int 10)) (cM (.int 9))) (brwM 6)]], varM 3])) <|
  nilM
def s__law_made : Sem1 GG := fnSem m__law_made 1 15
theorem b__law_made {W : Wd} {X : Cx} {ns : List Int} (q : Cs W X N__law_made (defScope st__law_made) (fun _ => true) 3) (cl__law_pick : Cal (BB W ns) W.P W.w W.K W.mg W.bs 2 "_law_pick" ["bag", "some"] s__law_pick) (cl__law_draw : Cal (BB W ns) W.P W.w W.K W.mg W.bs 1 "_law_draw" ["bag", "below"] s__law_draw) (cl__law_row : Cal (BB W ns) W.P W.w W.K W.mg W.bs 3 "_law_row" ["bag", "m"] s__law_row) (cl__law_state : Cal (BB W ns) W.P W.w W.K W.mg W.bs 3 "_law_state" ["bag", "m"] s__law_state) : PSs X (defBody st__law_made) (tS (BB W ns) m__law_made) :=
  (ss_cons (q.set 1 (by kernel_rfl) rfl (oAdd (bV kI) (bV (q.toCq.call cl__law_draw (by kernel_rfl) (by kernel_rfl) rfl rfl (sa_cons rfl (q.toCq.ns 0 (by kernel_rfl)) (sa_cons rfl (sa_dat kI) sa_nil))))))
  (ss_cons (q.mult (is := [7, 8, 3, 9]) (q.nn 7 (by kernel_rfl) (q.nn 8 (by kernel_rfl) (q.nn 3 (by kernel_rfl) (q.nn 9 (by kernel_rfl) cn_nil)))) rfl rfl (by kernel_rfl) (by kernel_rfl) (by kernel_rfl) (cf_dat rfl (q.toCq.call cl__law_draw (by kernel_rfl) (by kernel_rfl) rfl rfl (sa_cons rfl (q.toCq.ns 0 (by kernel_rfl)) (sa_cons rfl (sa_dat (q.toCq.nv 1 (by kernel_rfl))) sa_nil))) (cf_dat rfl (oAdd (bV kI) (bV (q.toCq.call cl__law_draw (by kernel_rfl) (by kernel_rfl) rfl rfl (sa_cons rfl (q.toCq.ns 0 (by kernel_rfl)) (sa_cons rfl (sa_dat kI) sa_nil))))) (cf_dat rfl (q.toCq.call cl__law_state (by kernel_rfl) (by kernel_rfl) rfl rfl (sa_cons rfl (q.toCq.ns 0 (by kernel_rfl)) (sa_cons rfl (sa_dat (q.toCq.nv 1 (by kernel_rfl))) sa_nil))) (cf_own rfl (ce_lst (by decide) ca_nil) cf_nil)))))
  (ss_cons (q.set 2 (by kernel_rfl) rfl (q.toCq.call cl__law_pick (by kernel_rfl) (by kernel_rfl) rfl rfl (sa_cons rfl (q.toCq.ns 0 (by kernel_rfl)) (sa_cons rfl (sa_dat (vF (ce_lst (by decide) (ca_cons rfl (oAdd (bV kI) (bV (q.toCq.call cl__law_draw (by kernel_rfl) (by kernel_rfl) rfl rfl (sa_cons rfl (q.toCq.ns 0 (by kernel_rfl)) (sa_cons rfl (sa_dat kI) sa_nil))))) (ca_cons rfl (oAdd (bV kI) (bV (q.toCq.call cl__law_draw (by kernel_rfl) (by kernel_rfl) rfl rfl (sa_cons rfl (q.toCq.ns 0 (by kernel_rfl)) (sa_cons rfl (sa_dat kI) sa_nil))))) (ca_cons rfl (oDiv (bV (oPow (bV kI) (bV kI))) (q.toCq.nb 8 (by kernel_rfl))) ca_nil)))))) sa_nil))))
  (ss_cons (cs_if (q.toCq.tEq (bV (q.toCq.call cl__law_draw (by kernel_rfl) (by kernel_rfl) rfl rfl (sa_cons rfl (q.toCq.ns 0 (by kernel_rfl)) (sa_cons rfl (sa_dat kI) sa_nil)))) (bV kI) rfl)
  (ss_cons (q.mult (is := [8, 2]) (q.nn 8 (by kernel_rfl) (q.nn 2 (by kernel_rfl) cn_nil)) rfl rfl (by kernel_rfl) (by kernel_rfl) (by kernel_rfl) (cf_dat rfl kI (cf_dat rfl (oSub (bV (oPow (bV kI) (bV kI))) (bV (q.toCq.call cl__law_draw (by kernel_rfl) (by kernel_rfl) rfl rfl (sa_cons rfl (q.toCq.ns 0 (by kernel_rfl)) (sa_cons rfl (sa_dat kI) sa_nil))))) cf_nil)))
  ss_nil)
  ss_nil)
  (ss_cons (q.set 3 (by kernel_rfl) rfl (oAdd (bV (oAdd (bV (ce_slice (q.toCq.nb 3 (by kernel_rfl)) co_none (co_some (q.toCq.nb 7 (by kernel_rfl))))) (bV (ce_tup (by decide) (ca_cons rfl (q.toCq.nv 2 (by kernel_rfl)) ca_nil))))) (bV (ce_slice (q.toCq.nb 3 (by kernel_rfl)) (co_some (bV (oAdd (q.toCq.nb 7 (by kernel_rfl)) (bV kI)))) co_none))))
  (ss_cons (q.for_ (q.toCq.ivRange (by kernel_rfl) rfl (bV kI)) rfl (q.toCq.tg 4 (by kernel_rfl))
  (ss_cons (q.par2 10 11 (by kernel_rfl) (by kernel_rfl) rfl (by kernel_rfl) (by kernel_rfl) (by kernel_rfl) (by kernel_rfl) (cf_dat rfl (q.toCq.call cl__law_row (by kernel_rfl) (by kernel_rfl) rfl rfl (sa_cons rfl (q.toCq.ns 0 (by kernel_rfl)) (sa_cons rfl (sa_dat (q.toCq.nv 1 (by kernel_rfl))) sa_nil))) (cf_dat rfl (q.toCq.call cl__law_row (by kernel_rfl) (by kernel_rfl) rfl rfl (sa_cons rfl (q.toCq.ns 0 (by kernel_rfl)) (sa_cons rfl (sa_dat (q.toCq.nv 1 (by kernel_rfl))) sa_nil))) cf_nil)))
  (ss_cons (cs_if (tGt (bV (q.toCq.call cl__law_draw (by kernel_rfl) (by kernel_rfl) rfl rfl (sa_cons rfl (q.toCq.ns 0 (by kernel_rfl)) (sa_cons rfl (sa_dat kI) sa_nil)))) (bV kI) rfl)
  (ss_cons (q.set 10 (by kernel_rfl) rfl (q.toCq.tuple (by kernel_rfl) rfl (bF (ce_lc (q.toCq.lc (own := [("one", 13), ("has", 14)]) (t := .tp (.cons (.nm 13) (.cons (.nm 14) (.nil)))) (by kernel_rfl) (by kernel_rfl) rfl (q.toCq.ibZip (by kernel_rfl) rfl rfl (q.toCq.nb 10 (by kernel_rfl)) (q.toCq.nb 3 (by kernel_rfl))) fun _ q30 => ⟨(q30.tp rfl rfl (cg_cons rfl (q30.tg 13 (by kernel_rfl)) (cg_cons rfl (q30.tg 14 (by kernel_rfl)) cg_nil))), pts_yes, (q30.min (by kernel_rfl) rfl rfl (q30.nb 13 (by kernel_rfl)) (q30.nb 14 (by kernel_rfl)))⟩)))))
  ss_nil)
  ss_nil)
  (ss_cons (q.set 10 (by kernel_rfl) rfl (oAdd (bV (oAdd (bV (ce_slice (q.toCq.nb 10 (by kernel_rfl)) co_none (co_some (q.toCq.nb 7 (by kernel_rfl))))) (bV (ce_tup (by decide) (ca_cons rfl (q.toCq.min (by kernel_rfl) rfl rfl (q.toCq.nb 2 (by kernel_rfl)) (bV (q.toCq.call cl__law_draw (by kernel_rfl) (by kernel_rfl) rfl rfl (sa_cons rfl (q.toCq.ns 0 (by kernel_rfl)) (sa_cons rfl (sa_dat kI) sa_nil))))) ca_nil))))) (bV (ce_slice (q.toCq.nb 10 (by kernel_rfl)) (co_some (bV (oAdd (q.toCq.nb 7 (by kernel_rfl)) (bV kI)))) co_none))))
  (ss_cons (q.app 9 (by kernel_rfl) rfl rfl (ce_tup (by decide) (ca_cons rfl (q.toCq.nv 10 (by kernel_rfl)) (ca_cons rfl (oAdd (bV (oAdd (bV (ce_slice (q.toCq.nb 11 (by kernel_rfl)) co_none (co_some (q.toCq.nb 7 (by kernel_rfl))))) (bV (ce_tup (by decide) (ca_cons rfl (oMod (bV (q.toCq.int (by kernel_rfl) rfl (bV (oAdd (bV (oAdd (bV (ce_idx rfl (q.toCq.nb 10 (by kernel_rfl)) (q.toCq.nb 7 (by kernel_rfl)))) (bV kI))) (bV (q.toCq.call cl__law_draw (by kernel_rfl) (by kernel_rfl) rfl rfl (sa_cons rfl (q.toCq.ns 0 (by kernel_rfl)) (sa_cons rfl (sa_dat kI) sa_nil)))))))) (bV kI)) ca_nil))))) (bV (ce_slice (q.toCq.nb 11 (by kernel_rfl)) (co_some (bV (oAdd (q.toCq.nb 7 (by kernel_rfl)) (bV kI)))) co_none))) ca_nil))))
  ss_nil)))))
  (ss_cons (q.set 5 (by kernel_rfl) rfl (q.toCq.tuple (by kernel_rfl) rfl (bF (ce_lc (q.toCq.lc (own := [("j", 12)]) (t := .nm 12) (by kernel_rfl) (by kernel_rfl) rfl (q.toCq.ibRange (by kernel_rfl) rfl (q.toCq.nb 1 (by kernel_rfl))) fun _ q29 => ⟨(q29.tg 12 (by kernel_rfl)), pts_yes, (ce_if (q29.tEq (q29.nb 12 (by kernel_rfl)) (q29.nb 7 (by kernel_rfl)) rfl) (q29.nv 8 (by kernel_rfl)) kI)⟩)))))
  (ss_cons (q.set 6 (by kernel_rfl) rfl (oAdd (bV (oMulX (q.toCq.nb 8 (by kernel_rfl)) (q.toCq.nb 2 (by kernel_rfl)))) (bV (q.toCq.call cl__law_pick (by kernel_rfl) (by kernel_rfl) rfl rfl (sa_cons rfl (q.toCq.ns 0 (by kernel_rfl)) (sa_cons rfl (sa_dat (vF (ce_lst (by decide) (ca_cons rfl (oNeg (bV kI)) (ca_cons rfl kI (ca_cons rfl kI (ca_cons rfl (oSub (q.toCq.nb 8 (by kernel_rfl)) (bV kI)) (ca_cons rfl (q.toCq.nv 8 (by kernel_rfl)) (ca_cons rfl (oMulX (bV kI) (q.toCq.nb 8 (by kernel_rfl))) (ca_cons rfl (oSub (bV (oMulX (bV kI) (q.toCq.nb 8 (by kernel_rfl)))) (bV kI)) ca_nil)))))))))) sa_nil))))))
  (ss_cons (cs_ret (vF (ce_lst (by decide) (ca_cons rfl (q.toCq.nv 1 (by kernel_rfl)) (ca_cons rfl (q.toCq.tuple (by kernel_rfl) rfl (q.toCq.nb 9 (by kernel_rfl))) (ca_cons rfl (ce_tup (by decide) (ca_cons rfl (ce_tup (by decide) (ca_cons rfl (q.toCq.nv 5 (by kernel_rfl)) (ca_cons rfl (q.toCq.min (by kernel_rfl) rfl rfl (bV (oPow (bV kI) (bV kI))) (q.toCq.nb 6 (by kernel_rfl))) ca_nil))) ca_nil)) (ca_cons rfl (q.toCq.nv 3 (by kernel_rfl)) ca_nil)))))))
  ss_nil)))))))))
/-! law -/
abbrev st_law : Stmt := top 44
def N_law : List Str := ["script", "bag", "m", "state", "net", "caps", "made", "plain", "kept", "first", "own", "some", "value", "cap"]
def m_law (ns : List Int) : SM GG := seqM (bagM (potOf ns) 1 0) <|
  seqM (setM 2 (callM s__law_pick idL [slM 1, daM (lstM [cM (.int 0), cM (.int 1), cM (.int 2), cM (.int 3), cM (.int 4), cM (.int 5), cM (.int 6), cM (.int 7), cM (.int 8), cM (.int 8)])])) <|
  seqM (setM 3 (callM s__law_state idL [slM 1, daM (varM 2)])) <|
  seqM (setM 4 (callM s__law_net idL [slM 1, daM (varM 2), daM (varM 3), daM (callM s__law_pick idL [slM 1, daM (lstM [cM (.int 0), cM (.int 1), cM (.int 2), cM (.int 3), cM (.int 4), cM (.int 6), cM (.int 9), cM (.int 12), cM (.int 12)])])])) <|
  seqM (setM 5 (callM s__law_caps idL [slM 1, daM (varM 2), daM (varM 4), daM (varM 3), daM (callM s__law_pick idL [slM 1, daM (lstM [cM (.int 0), cM (.int 1), cM (.int 2), cM (.int 3), cM (.int 3)])])])) <|
  seqM (setM 6 (callM s__law_made idL [slM 1])) <|
  seqM (setM 7 (un tupleD (compM (itSeq (brwM 5)) (.nm 13) (yesM) (tupM [bin mulX (tupM [cM (.int 0)]) (brwM 2), bin idxD (brwM 13) (cM (.int 1))]) [13]))) <|
  seqM (setM 8 (un rpD (lstM [varM 4, varM 5, varM 3, varM 6]))) <|
  seqM (setM 9 (un rpD (callM s__law_breaking idL [daM (varM 4), daM (varM 5), daM (varM 3)]))) <|
  seqM (ifS (blM (bin neX (un rpD (callM s_breaking_steps idL [daM (varM 4), daM (varM 5), daM (varM 3)])) (brwM 9))) (seqM (retM (cM (.bool false))) <|
  nilM) (nilM)) <|
  seqM (forM (itSeq (callM s__law_some_states idL [slM 1, daM (varM 2), daM (varM 4), daM (varM 3)])) (.nm 10) (seqM (ifS (notM (tstM (callM s__law_are_sums_right idL [daM (varM 4), daM (varM 5), daM (varM 10)]))) (seqM (retM (cM (.bool false))) <|
  nilM) (nilM)) <|
  seqM (ifS (notM (tstM (callM s__law_are_sums_right idL [daM (varM 4), daM (un tupleD (un revD (un listD (brwM 5)))), daM (varM 10)]))) (seqM (retM (cM (.bool false))) <|
  nilM) (nilM)) <|
  nilM)) <|
  seqM (forM (itSeq (bin addD (lstM [tupM [], varM 7]) (compM (itSeq (brwM 5)) (.nm 13) (yesM) (tupM [varM 13]) [13]))) (.nm 11) (seqM (ifS (orM (notM (tstM (callM s__law_are_sums_right idL [daM (varM 4), daM (varM 11), daM (varM 3)]))) (notM (tstM (callM s__law_are_changes_right idL [daM (varM 4), daM (varM 11)])))) (seqM (retM (cM (.bool false))) <|
  nilM) (nilM)) <|
  nilM)) <|
  seqM (ifS (orM (notM (tstM (callM s__law_are_changes_right idL [daM (varM 4), daM (varM 5)]))) (notM (tstM (callM s__law_are_changes_right idL [daM (varM 4), daM (un tupleD (un revD (un listD (brwM 5))))])))) (seqM (retM (cM (.bool false))) <|
  nilM) (nilM)) <|
  seqM (ifS (orM (notM (tstM (callM s__law_are_sums_right idL [daM (bin idxD (brwM 6) (cM (.int 1))), daM (bin idxD (brwM 6) (cM (.int 2))), daM (bin idxD (brwM 6) (cM (.int 3)))]))) (notM (tstM (callM s__law_are_changes_right idL [daM (bin idxD (brwM 6) (cM (.int 1))), daM (bin idxD (brwM 6) (cM (.int 2)))])))) (seqM (retM (cM (.bool false))) <|
  nilM) (nilM)) <|
  seqM (forM (itSeq (callM s__law_values idL [slM 1, daM (varM 2), daM (varM 5)])) (.nm 12) (seqM (ifS (notM (tstM (callM s__law_is_word_right idL [daM (varM 2), daM (varM 12)]))) (seqM (retM (cM (.bool false))) <|
  nilM) (nilM)) <|
  nilM)) <|
  seqM (ifS (orM (notM (tstM (callM s__law_is_word_right idL [daM (bin subD (cM (.int 8)) (brwM 2)), daM (varM 5)]))) (notM (tstM (callM s__law_is_word_right idL [daM (bin idxD (brwM 6) (cM (.int 0))), daM (bin idxD (brwM 6) (cM (.int 2)))])))) (seqM (retM (cM (.bool false))) <|
  nilM) (nilM)) <|
  seqM (ifS (notM (tstM (callM s__law_is_word_right idL [daM (bin modD (un intD (bin addD (brwM 2) (cM (.int 1)))) (cM (.int 9))), daM (varM 5)]))) (seqM (retM (cM (.bool false))) <|
  nilM) (nilM)) <|
  seqM (retM (vAndM (bin eqX (un rpD (lstM [varM 4, varM 5, varM 3, varM 6])) (brwM 8)) (bin eqX (un rpD (callM s_breaking_steps idL [daM (varM 4), daM (varM 5), daM (varM 3)])) (brwM 9)))) <|
  nilM
def s_law (ns : List Int) : Sem1 GG := fnSem (m_law ns) 1 14
theorem b_law {W : Wd} {X : Cx} {ns : List Int} (q : Cs W X N_law (defScope st_law) (fun _ => true) 12) (cl_breaking_steps : Cal (BB W ns) W.P W.w W.K W.mg W.bs 4 "breaking_steps" ["net", "caps", "state"] s_breaking_steps) (cl__law_is_word_right : Cal (BB W ns) W.P W.w W.K W.mg W.bs 6 "_law_is_word_right" ["m", "value"] s__law_is_word_right) (cl__law_values : Cal (BB W ns) W.P W.w W.K W.mg W.bs 12 "_law_values" ["bag", "m", "caps"] s__law_values) (cl__law_are_changes_right : Cal (BB W ns) W.P W.w W.K W.mg W.bs 3 "_law_are_changes_right" ["net", "caps"] s__law_are_changes_right) (cl__law_are_sums_right : Cal (BB W ns) W.P W.w W.K W.mg W.bs 5 "_law_are_sums_right" ["net", "caps", "state"] s__law_are_sums_right) (cl__law_some_states : Cal (BB W ns) W.P W.w W.K W.mg W.bs 4 "_law_some_states" ["bag", "m", "net", "state"] s__law_some_states) (cl__law_breaking : Cal (BB W ns) W.P W.w W.K W.mg W.bs 3 "_law_breaking" ["net", "caps", "state"] s__law_breaking) (cl__law_made : Cal (BB W ns) W.P W.w W.K W.mg W.bs 4 "_law_made" ["bag"] s__law_made) (cl__law_caps : Cal (BB W ns) W.P W.w W.K W.mg W.bs 4 "_law_caps" ["bag", "m", "net", "state", "many"] s__law_caps) (cl__law_pick : Cal (BB W ns) W.P W.w W.K W.mg W.bs 2 "_law_pick" ["bag", "some"] s__law_pick) (cl__law_net : Cal (BB W ns) W.P W.w W.K W.mg W.bs 4 "_law_net" ["bag", "m", "state", "many"] s__law_net) (cl__law_state : Cal (BB W ns) W.P W.w W.K W.mg W.bs 3 "_law_state" ["bag", "m"] s__law_state) (cl__law_bag : CalBag W ns (potOf ns) 1) : PSs X (defBody st_law) (tS (BB W ns) (m_law ns)) :=
  (ss_cons (q.bag cl__law_bag (by kernel_rfl) 1 0 (by kernel_rfl) (by kernel_rfl) (by kernel_rfl))
  (ss_cons (q.set 2 (by kernel_rfl) rfl (q.toCq.call cl__law_pick (by kernel_rfl) (by kernel_rfl) rfl rfl (sa_cons rfl (q.toCq.ns 1 (by kernel_rfl)) (sa_cons rfl (sa_dat (vF (ce_lst (by decide) (ca_cons rfl kI (ca_cons rfl kI (ca_cons rfl kI (ca_cons rfl kI (ca_cons rfl kI (ca_cons rfl kI (ca_cons rfl kI (ca_cons rfl kI (ca_cons rfl kI (ca_cons rfl kI ca_nil))))))))))))) sa_nil))))
  (ss_cons (q.set 3 (by kernel_rfl) rfl (q.toCq.call cl__law_state (by kernel_rfl) (by kernel_rfl) rfl rfl (sa_cons rfl (q.toCq.ns 1 (by kernel_rfl)) (sa_cons rfl (sa_dat (q.toCq.nv 2 (by kernel_rfl))) sa_nil))))
  (ss_cons (q.set 4 (by kernel_rfl) rfl (q.toCq.call cl__law_net (by kernel_rfl) (by kernel_rfl) rfl rfl (sa_cons rfl (q.toCq.ns 1 (by kernel_rfl)) (sa_cons rfl (sa_dat (q.toCq.nv 2 (by kernel_rfl))) (sa_cons rfl (sa_dat (q.toCq.nv 3 (by kernel_rfl))) (sa_cons rfl (sa_dat (q.toCq.call cl__law_pick (by kernel_rfl) (by kernel_rfl) rfl rfl (sa_cons rfl (q.toCq.ns 1 (by kernel_rfl)) (sa_cons rfl (sa_dat (vF (ce_lst (by decide) (ca_cons rfl kI (ca_cons rfl kI (ca_cons rfl kI (ca_cons rfl kI (ca_cons rfl kI (ca_cons rfl kI (ca_cons rfl kI (ca_cons rfl kI (ca_cons rfl kI ca_nil)))))))))))) sa_nil)))) sa_nil))))))
  (ss_cons (q.set 5 (by kernel_rfl) rfl (q.toCq.call cl__law_caps (by kernel_rfl) (by kernel_rfl) rfl rfl (sa_cons rfl (q.toCq.ns 1 (by kernel_rfl)) (sa_cons rfl (sa_dat (q.toCq.nv 2 (by kernel_rfl))) (sa_cons rfl (sa_dat (q.toCq.nv 4 (by kernel_rfl))) (sa_cons rfl (sa_dat (q.toCq.nv 3 (by kernel_rfl))) (sa_cons rfl (sa_dat (q.toCq.call cl__law_pick (by kernel_rfl) (by kernel_rfl) rfl rfl (sa_cons rfl (q.toCq.ns 1 (by kernel_rfl)) (sa_cons rfl (sa_dat (vF (ce_lst (by decide) (ca_cons rfl kI (ca_cons rfl kI (ca_cons rfl kI (ca_cons rfl kI (ca_cons rfl kI ca_nil)))))))) sa_nil)))) sa_nil)))))))
  (ss_cons (q.set 6 (by kernel_rfl) rfl (q.toCq.call cl__law_made (by kernel_rfl) (by kernel_rfl) rfl rfl (sa_cons rfl (q.toCq.ns 1 (by kernel_rfl)) sa_nil)))
  (ss_cons (q.set 7 (by kernel_rfl) rfl (q.toCq.tuple (by kernel_rfl) rfl (bF (ce_lc (q.toCq.lc (own := [("cap", 13)]) (t := .nm 13) (by kernel_rfl) (by kernel_rfl) rfl (ib_seq (q.toCq.nb 5 (by kernel_rfl))) fun _ q32 => ⟨(q32.tg 13 (by kernel_rfl)), pts_yes, (ce_tup (by decide) (ca_cons rfl (oMulX (bV (ce_tup (by decide) (ca_cons rfl kI ca_nil))) (q32.nb 2 (by kernel_rfl))) (ca_cons rfl (ce_idx rfl (q32.nb 13 (by kernel_rfl)) (bV kI)) ca_nil)))⟩)))))
  (ss_cons (q.set 8 (by kernel_rfl) rfl (q.toCq.repr (by kernel_rfl) rfl (bF (ce_lst (by decide) (ca_cons rfl (q.toCq.nv 4 (by kernel_rfl)) (ca_cons rfl (q.toCq.nv 5 (by kernel_rfl)) (ca_cons rfl (q.toCq.nv 3 (by kernel_rfl)) (ca_cons rfl (q.toCq.nv 6 (by kernel_rfl)) ca_nil))))))))
  (ss_cons (q.set 9 (by kernel_rfl) rfl (q.toCq.repr (by kernel_rfl) rfl (bV (q.toCq.call cl__law_breaking (by kernel_rfl) (by kernel_rfl) rfl rfl (sa_cons rfl (sa_dat (q.toCq.nv 4 (by kernel_rfl))) (sa_cons rfl (sa_dat (q.toCq.nv 5 (by kernel_rfl))) (sa_cons rfl (sa_dat (q.toCq.nv 3 (by kernel_rfl))) sa_nil)))))))
  (ss_cons (cs_if (q.toCq.tNe (bV (q.toCq.repr (by kernel_rfl) rfl (bV (q.toCq.call cl_breaking_steps (by kernel_rfl) (by kernel_rfl) rfl rfl (sa_cons rfl (sa_dat (q.toCq.nv 4 (by kernel_rfl))) (sa_cons rfl (sa_dat (q.toCq.nv 5 (by kernel_rfl))) (sa_cons rfl (sa_dat (q.toCq.nv 3 (by kernel_rfl))) sa_nil))))))) (q.toCq.nb 9 (by kernel_rfl)) rfl)
  (ss_cons (cs_ret kB)
  ss_nil)
  ss_nil)
  (ss_cons (q.for_ (iv_seq (q.toCq.call cl__law_some_states (by kernel_rfl) (by kernel_rfl) rfl rfl (sa_cons rfl (q.toCq.ns 1 (by kernel_rfl)) (sa_cons rfl (sa_dat (q.toCq.nv 2 (by kernel_rfl))) (sa_cons rfl (sa_dat (q.toCq.nv 4 (by kernel_rfl))) (sa_cons rfl (sa_dat (q.toCq.nv 3 (by kernel_rfl))) sa_nil)))))) rfl (q.toCq.tg 10 (by kernel_rfl))
  (ss_cons (cs_if (ct_not (ct_val rfl (bV (q.toCq.call cl__law_are_sums_right (by kernel_rfl) (by kernel_rfl) rfl rfl (sa_cons rfl (sa_dat (q.toCq.nv 4 (by kernel_rfl))) (sa_cons rfl (sa_dat (q.toCq.nv 5 (by kernel_rfl))) (sa_cons rfl (sa_dat (q.toCq.nv 10 (by kernel_rfl))) sa_nil)))))))
  (ss_cons (cs_ret kB)
  ss_nil)
  ss_nil)
  (ss_cons (cs_if (ct_not (ct_val rfl (bV (q.toCq.call cl__law_are_sums_right (by kernel_rfl) (by kernel_rfl) rfl rfl (sa_cons rfl (sa_dat (q.toCq.nv 4 (by kernel_rfl))) (sa_cons rfl (sa_dat (q.toCq.tuple (by kernel_rfl) rfl (bF (q.toCq.listRev (by kernel_rfl) (by kernel_rfl) rfl (bF (q.toCq.list (by kernel_rfl) rfl (q.toCq.nb 5 (by kernel_rfl)))))))) (sa_cons rfl (sa_dat (q.toCq.nv 10 (by kernel_rfl))) sa_nil)))))))
  (ss_cons (cs_ret kB)
  ss_nil)
  ss_nil)
  ss_nil)))
  (ss_cons (q.for_ (iv_seq (oAdd (bF (ce_lst (by decide) (ca_cons rfl (ce_tup (by decide) ca_nil) (ca_cons rfl (q.toCq.nv 7 (by kernel_rfl)) ca_nil)))) (bF (ce_lc (q.toCq.lc (own := [("cap", 13)]) (t := .nm 13) (by kernel_rfl) (by kernel_rfl) rfl (ib_seq (q.toCq.nb 5 (by kernel_rfl))) fun _ q31 => ⟨(q31.tg 13 (by kernel_rfl)), pts_yes, (ce_tup (by decide) (ca_cons rfl (q31.nv 13 (by kernel_rfl)) ca_nil))⟩))))) rfl (q.toCq.tg 11 (by kernel_rfl))
  (ss_cons (cs_if (PW.pt (cw_or (ct_not (ct_val rfl (bV (q.toCq.call cl__law_are_sums_right (by kernel_rfl) (by kernel_rfl) rfl rfl (sa_cons rfl (sa_dat (q.toCq.nv 4 (by kernel_rfl))) (sa_cons rfl (sa_dat (q.toCq.nv 11 (by kernel_rfl))) (sa_cons rfl (sa_dat (q.toCq.nv 3 (by kernel_rfl))) sa_nil))))))) (cw_or1 (ct_not (ct_val rfl (bV (q.toCq.call cl__law_are_changes_right (by kernel_rfl) (by kernel_rfl) rfl rfl (sa_cons rfl (sa_dat (q.toCq.nv 4 (by kernel_rfl))) (sa_cons rfl (sa_dat (q.toCq.nv 11 (by kernel_rfl))) sa_nil)))))))))
  (ss_cons (cs_ret kB)
  ss_nil)
  ss_nil)
  ss_nil))
  (ss_cons (cs_if (PW.pt (cw_or (ct_not (ct_val rfl (bV (q.toCq.call cl__law_are_changes_right (by kernel_rfl) (by kernel_rfl) rfl rfl (sa_cons rfl (sa_dat (q.toCq.nv 4 (by kernel_rfl))) (sa_cons rfl (sa_dat (q.toCq.nv 5 (by kernel_rfl))) sa_nil)))))) (cw_or1 (ct_not (ct_val rfl (bV (q.toCq.call cl__law_are_changes_right (by kernel_rfl) (by kernel_rfl) rfl rfl (sa_cons rfl (sa_dat (q.toCq.nv 4 (by kernel_rfl))) (sa_cons rfl (sa_dat (q.toCq.tuple (by kernel_rfl) rfl (bF (q.toCq.listRev (by kernel_rfl) (by kernel_rfl) rfl (bF (q.toCq.list (by kernel_rfl) rfl (q.toCq.nb 5 (by kernel_rfl)))))))) sa_nil)))))))))
  (ss_cons (cs_ret kB)
  ss_nil)
  ss_nil)
  (ss_cons (cs_if (PW.pt (cw_or (ct_not (ct_val rfl (bV (q.toCq.call cl__law_are_sums_right (by kernel_rfl) (by kernel_rfl) rfl rfl (sa_cons rfl (sa_dat (ce_idx rfl (q.toCq.nb 6 (by kernel_rfl)) (bV kI))) (sa_cons rfl (sa_dat (ce_idx rfl (q.toCq.nb 6 (by kernel_rfl)) (bV kI))) (sa_cons rfl (sa_dat (ce_idx rfl (q.toCq.nb 6 (by kernel_rfl)) (bV kI))) sa_nil))))))) (cw_or1 (ct_not (ct_val rfl (bV (q.toCq.call cl__law_are_changes_right (by kernel_rfl) (by kernel_rfl) rfl rfl (sa_cons rfl (sa_dat (ce_idx rfl (q.toCq.nb 6 (by kernel_rfl)) (bV kI))) (sa_cons rfl (sa_dat (ce_idx rfl (q.toCq.nb 6 (by kernel_rfl)) (bV kI))) sa_nil)))))))))
  (ss_cons (cs_ret kB)
  ss_nil)
  ss_nil)
  (ss_cons (q.for_ (iv_seq (q.toCq.call cl__law_values (by kernel_rfl) (by kernel_rfl) rfl rfl (sa_cons rfl (q.toCq.ns 1 (by kernel_rfl)) (sa_cons rfl (sa_dat (q.toCq.nv 2 (by kernel_rfl))) (sa_cons rfl (sa_dat (q.toCq.nv 5 (by kernel_rfl))) sa_nil))))) rfl (q.toCq.tg 12 (by kernel_rfl))
  (ss_cons (cs_if (ct_not (ct_val rfl (bV (q.toCq.call cl__law_is_word_right (by kernel_rfl) (by kernel_rfl) rfl rfl (sa_cons rfl (sa_dat (q.toCq.nv 2 (by kernel_rfl))) (sa_cons rfl (sa_dat (q.toCq.nv 12 (by kernel_rfl))) sa_nil))))))
  (ss_cons (cs_ret kB)
  ss_nil)
  ss_nil)
  ss_nil))
  (ss_cons (cs_if (PW.pt (cw_or (ct_not (ct_val rfl (bV (q.toCq.call cl__law_is_word_right (by kernel_rfl) (by kernel_rfl) rfl rfl (sa_cons rfl (sa_dat (oSub (bV kI) (q.toCq.nb 2 (by kernel_rfl)))) (sa_cons rfl (sa_dat (q.toCq.nv 5 (by kernel_rfl))) sa_nil)))))) (cw_or1 (ct_not (ct_val rfl (bV (q.toCq.call cl__law_is_word_right (by kernel_rfl) (by kernel_rfl) rfl rfl (sa_cons rfl (sa_dat (ce_idx rfl (q.toCq.nb 6 (by kernel_rfl)) (bV kI))) (sa_cons rfl (sa_dat (ce_idx rfl (q.toCq.nb 6 (by kernel_rfl)) (bV kI))) sa_nil)))))))))
  (ss_cons (cs_ret kB)
  ss_nil)
  ss_nil)
  (ss_cons (cs_if (ct_not (ct_val rfl (bV (q.toCq.call cl__law_is_word_right (by kernel_rfl) (by kernel_rfl) rfl rfl (sa_cons rfl (sa_dat (oMod (bV (q.toCq.int (by kernel_rfl) rfl (bV (oAdd (q.toCq.nb 2 (by kernel_rfl)) (bV kI))))) (bV kI))) (sa_cons rfl (sa_dat (q.toCq.nv 5 (by kernel_rfl))) sa_nil))))))
  (ss_cons (cs_ret kB)
  ss_nil)
  ss_nil)
  (ss_cons (cs_ret (ce_and (q.toCq.vEq (bV (q.toCq.repr (by kernel_rfl) rfl (bF (ce_lst (by decide) (ca_cons rfl (q.toCq.nv 4 (by kernel_rfl)) (ca_cons rfl (q.toCq.nv 5 (by kernel_rfl)) (ca_cons rfl (q.toCq.nv 3 (by kernel_rfl)) (ca_cons rfl (q.toCq.nv 6 (by kernel_rfl)) ca_nil)))))))) (q.toCq.nb 8 (by kernel_rfl)) rfl) (ce_one (q.toCq.vEq (bV (q.toCq.repr (by kernel_rfl) rfl (bV (q.toCq.call cl_breaking_steps (by kernel_rfl) (by kernel_rfl) rfl rfl (sa_cons rfl (sa_dat (q.toCq.nv 4 (by kernel_rfl))) (sa_cons rfl (sa_dat (q.toCq.nv 5 (by kernel_rfl))) (sa_cons rfl (sa_dat (q.toCq.nv 3 (by kernel_rfl))) sa_nil))))))) (q.toCq.nb 9 (by kernel_rfl)) rfl))))
  ss_nil))))))))))))))))))
end K77

end part_K77A
section part_K77C
namespace K77
open PySem Kd
/-- a pot that goes on -/
def Pk (g : GG) : Prop := ∃ p, g = some p ∧ p.cells.length < 100000
abbrev wc : Mn GG Bool := andM (blM (bin eqX (potI 0 1) (cM (.int 0)))) (potNE 0)
abbrev wb : SM GG := seqM (potPop 0 2) <|
  seqM (potSet 0 1 (ifM (blM (bin gtI (brwM 2) (bin powD (cM (.int 10)) (cM (.int 9))))) (varM 2) (cM (.int 0)))) <|
  nilM
theorem neD_cells (ns : List Int) : neD (.list (ns.map PyData.int)) (.list []) = some (.bool (!ns.isEmpty)) := by
  rw [neD_of (shaped_ints ns) shaped_nil]
  simp only [PyData.eqv, eqv_nil, List.isEmpty_map]
theorem draw_while (b : Sv) : ∀ (n : Nat) (p : Pot) (o2 : Option Sv), p.cells.length < n → ∃ o2' p', whileGo wc wb n [some .bag, some b, o2, none] (some p) = some (.nx [some .bag, some b, o2', none] (some p')) ∧ p'.cells.length ≤ p.cells.length
  | 0, p, o2, h => absurd h (Nat.not_lt_zero _)
  | n + 1, p, o2, h => by
    unfold whileGo
    by_cases hc : p.cur = 0
    · have e1 : wc [some .bag, some b, o2, none] (some p) = some (.ok (!p.cells.isEmpty) (some p)) := by
        simp [Kd.andM, Kd.orM, Kd.notM, blM, bin, un, potI, cM, potNE, seqM, potPop, potSet, ifM, brwM, varM, Pot.setI, nilM, ifS, setM, retM, thaw, retNM, tstM, truD, vAndM, vOrM, vNotM, chainM, daM, slM, argsM, tupM, lstM, callM, argsS, idL, multM, argsF, setSs, compM, itSeq, seqD, wipeE, bindT, bindTs, yesM, isiD, itZip, zipD, itEnum, itRange1, idxD, lenD, tupleD, listD, hc, neD_cells]
      rw [e1]
      cases hcs : p.cells.isEmpty with
      | true => exact ⟨o2, p, rfl, Nat.le_refl _⟩
      | false =>
        have hl : p.cells.length - 1 < p.cells.length := by
          cases hp : p.cells with
          | nil => rw [hp] at hcs; cases hcs
          | cons a r => simp [Kd.andM, Kd.orM, Kd.notM, blM, bin, un, potI, cM, potNE, seqM, potPop, potSet, ifM, brwM, varM, Pot.setI, nilM, ifS, setM, retM, thaw, retNM, tstM, truD, vAndM, vOrM, vNotM, chainM, daM, slM, argsM, tupM, lstM, callM, argsS, idL, multM, argsF, setSs, compM, itSeq, seqD, wipeE, bindT, bindTs, yesM, isiD, itZip, zipD, itEnum, itRange1, idxD, lenD, tupleD, listD]
        have hlast : p.cells[p.cells.length - 1]? = some (p.cells[p.cells.length - 1]'hl) := List.getElem?_eq_getElem hl
        have h0 : 0 ≤ p.cells[p.cells.length - 1]'hl := p.ok.1 _ (List.getElem_mem hl)
        generalize hv : p.cells[p.cells.length - 1]'hl = v at hlast h0
        have e2 : ∃ p', wb [some .bag, some b, o2, none] (some p) = some (.nx [some .bag, some b, some (.dat (.int v)), none] (some p')) ∧ p'.cells = p.cells.dropLast := by
          by_cases hg : 1000000000 < v
          · refine ⟨⟨p.pop.cells, v, p.pop.mixed, p.pop.ok.1, h0, p.pop.ok.2.2⟩, ?_, rfl⟩
            simp [Kd.andM, Kd.orM, Kd.notM, blM, bin, un, potI, cM, potNE, seqM, potPop, potSet, ifM, brwM, varM, Pot.setI, nilM, ifS, setM, retM, thaw, retNM, tstM, truD, vAndM, vOrM, vNotM, chainM, daM, slM, argsM, tupM, lstM, callM, argsS, idL, multM, argsF, setSs, compM, itSeq, seqD, wipeE, bindT, bindTs, yesM, isiD, itZip, zipD, itEnum, itRange1, idxD, lenD, tupleD, listD, hlast, hg, h0]
          · refine ⟨⟨p.pop.cells, 0, p.pop.mixed, p.pop.ok.1, Int.le_refl _, p.pop.ok.2.2⟩, ?_, rfl⟩
            simp [Kd.andM, Kd.orM, Kd.notM, blM, bin, un, potI, cM, potNE, seqM, potPop, potSet, ifM, brwM, varM, Pot.setI, nilM, ifS, setM, retM, thaw, retNM, tstM, truD, vAndM, vOrM, vNotM, chainM, daM, slM, argsM, tupM, lstM, callM, argsS, idL, multM, argsF, setSs, compM, itSeq, seqD, wipeE, bindT, bindTs, yesM, isiD, itZip, zipD, itEnum, itRange1, idxD, lenD, tupleD, listD, hlast, hg]
        obtain ⟨p', e2, hlen⟩ := e2
        simp only [Bool.not_false, e2]
        have hlen2 : p'.cells.length = p.cells.length - 1 := by rw [hlen, List.length_dropLast]
        obtain ⟨o3, p3, i1, i2⟩ := draw_while b n p' (some (.dat (.int v))) (by omega)
        exact ⟨o3, p3, i1, by omega⟩
    · have e1 : wc [some .bag, some b, o2, none] (some p) = some (.ok false (some p)) := by
        have hb : (p.cur == 0) = false := by simp [Kd.andM, Kd.orM, Kd.notM, blM, bin, un, potI, cM, potNE, seqM, potPop, potSet, ifM, brwM, varM, Pot.setI, nilM, ifS, setM, retM, thaw, retNM, tstM, truD, vAndM, vOrM, vNotM, chainM, daM, slM, argsM, tupM, lstM, callM, argsS, idL, multM, argsF, setSs, compM, itSeq, seqD, wipeE, bindT, bindTs, yesM, isiD, itZip, zipD, itEnum, itRange1, idxD, lenD, tupleD, listD, hc]
        simp [Kd.andM, Kd.orM, Kd.notM, blM, bin, un, potI, cM, potNE, seqM, potPop, potSet, ifM, brwM, varM, Pot.setI, nilM, ifS, setM, retM, thaw, retNM, tstM, truD, vAndM, vOrM, vNotM, chainM, daM, slM, argsM, tupM, lstM, callM, argsS, idL, multM, argsF, setSs, compM, itSeq, seqD, wipeE, bindT, bindTs, yesM, isiD, itZip, zipD, itEnum, itRange1, idxD, lenD, tupleD, listD, hb]
      rw [e1]
      exact ⟨o2, p, rfl, Nat.le_refl _⟩
theorem draw_ok {g : GG} (hg : Pk g) {n : Int} (h0 : 0 < n) (h1 : n < 1073741824) : ∃ v g', s__law_draw [.bag, .dat (.int n)] g = some (.ok (.int v) g') ∧ Pk g' ∧ 0 ≤ v ∧ v < n := by
  obtain ⟨p, rfl, hp⟩ := hg
  obtain ⟨o2, q, hw, hl⟩ := draw_while (.dat (.int n)) 100000 p none hp
  by_cases hc : 0 < q.cur
  · have hd : 0 ≤ q.cur / n := Int.ediv_nonneg q.ok.2.1 (Int.le_of_lt h0)
    refine ⟨q.cur % n, some ⟨q.cells, q.cur / n, q.mixed, q.ok.1, hd, q.ok.2.2⟩, ?_, ⟨_, rfl, by show q.cells.length < _; omega⟩, Int.emod_nonneg _ (by omega), Int.emod_lt_of_pos _ h0⟩
    refine fnSem_rt rfl rfl ?_
    show m__law_draw [some .bag, some (.dat (.int n)), none, none] (some p) = _
    unfold m__law_draw
    rw [seqM_nx hw]
    simp [Kd.andM, Kd.orM, Kd.notM, blM, bin, un, potI, cM, potNE, seqM, potPop, potSet, ifM, brwM, varM, Pot.setI, nilM, ifS, setM, retM, thaw, retNM, tstM, truD, vAndM, vOrM, vNotM, chainM, daM, slM, argsM, tupM, lstM, callM, argsS, idL, multM, argsF, setSs, compM, itSeq, seqD, wipeE, bindT, bindTs, yesM, isiD, itZip, zipD, itEnum, itRange1, idxD, lenD, tupleD, listD, hc, modD_int h0, fdivD_int h0 h1, hd]
  · have hm0 := q.ok.2.2.1
    have hm1 := q.ok.2.2.2
    have e1 : mulX (.int q.mixed) (.int 48271) = some (.int (q.mixed * 48271)) := mulX_int (mulOkR (by decide) (by decide))
    have r0 : 0 ≤ (q.mixed * 48271 + 11) % 2147483647 := Int.emod_nonneg _ (by decide)
    have r1 : (q.mixed * 48271 + 11) % 2147483647 < 2147483647 := Int.emod_lt_of_pos _ (by decide)
    have e2 : mulX (.int ((q.mixed * 48271 + 11) % 2147483647)) (.int ((q.mixed * 48271 + 11) % 2147483647)) = some (.int ((q.mixed * 48271 + 11) % 2147483647 * ((q.mixed * 48271 + 11) % 2147483647))) := mulX_int (mulOkR (by omega) (by omega))
    refine ⟨((q.mixed * 48271 + 11) % 2147483647 * ((q.mixed * 48271 + 11) % 2147483647)) % 2147483629 / 7 % n, some ⟨q.cells, q.cur, (q.mixed * 48271 + 11) % 2147483647, q.ok.1, q.ok.2.1, r0, r1⟩, ?_, ⟨_, rfl, by show q.cells.length < _; omega⟩, Int.emod_nonneg _ (by omega), Int.emod_lt_of_pos _ h0⟩
    refine fnSem_rt rfl rfl ?_
    show m__law_draw [some .bag, some (.dat (.int n)), none, none] (some p) = _
    unfold m__law_draw
    rw [seqM_nx hw]
    have f1 : modD (.int (q.mixed * 48271 + 11)) (.int 2147483647) = some (.int ((q.mixed * 48271 + 11) % 2147483647)) := modD_int (by decide)
    have f2 : ∀ a : Int, modD (.int a) (.int 2147483629) = some (.int (a % 2147483629)) := fun a => modD_int (by decide)
    have f3 : ∀ a : Int, fdivD (.int a) (.int 7) = some (.int (a / 7)) := fun a => fdivD_int (by decide) (by decide)
    simp [Kd.andM, Kd.orM, Kd.notM, blM, bin, un, potI, cM, potNE, seqM, potPop, potSet, ifM, brwM, varM, Pot.setI, nilM, ifS, setM, retM, thaw, retNM, tstM, truD, vAndM, vOrM, vNotM, chainM, daM, slM, argsM, tupM, lstM, callM, argsS, idL, multM, argsF, setSs, compM, itSeq, seqD, wipeE, bindT, bindTs, yesM, isiD, itZip, zipD, itEnum, itRange1, idxD, lenD, tupleD, listD, hc, e1, f1, r0, r1, e2, f2, f3, modD_int h0]
/-! ### the program's defs -/
def isNum : D → Bool
  | .int _ => true
  | _ => false
def inR (lo hi : Int) : D → Bool
  | .int i => decide (lo ≤ i) && decide (i ≤ hi)
  | _ => false
theorem is_number_ok (v : D) (g : GG) : s_is_number [.dat v] g = some (.ok (.bool (isNum v)) g) := by
  refine fnSem_rt rfl rfl ?_
  show m_is_number [some (.dat v)] g = _
  cases v <;> simp [Kd.andM, Kd.orM, Kd.notM, blM, bin, un, potI, cM, potNE, seqM, potPop, potSet, ifM, brwM, varM, Pot.setI, nilM, ifS, setM, retM, thaw, retNM, tstM, truD, vAndM, vOrM, vNotM, chainM, daM, slM, argsM, tupM, lstM, callM, argsS, idL, multM, argsF, setSs, compM, itSeq, seqD, wipeE, bindT, bindTs, yesM, isiD, itZip, zipD, itEnum, itRange1, idxD, lenD, tupleD, listD, m_is_number, isiB, isNum]
theorem is_within_ok (v : D) (lo hi : Int) (g : GG) : s_is_within [.dat v, .dat (.int lo), .dat (.int hi)] g = some (.ok (.bool (inR lo hi v)) g) := by
  refine fnSem_rt rfl rfl ?_
  show m_is_within [some (.dat v), some (.dat (.int lo)), some (.dat (.int hi))] g = _
  unfold m_is_within
  cases v with
  | int i =>
    by_cases h : lo ≤ i
    · simp [Kd.andM, Kd.orM, Kd.notM, blM, bin, un, potI, cM, potNE, seqM, potPop, potSet, ifM, brwM, varM, Pot.setI, nilM, ifS, setM, retM, thaw, retNM, tstM, truD, vAndM, vOrM, vNotM, chainM, daM, slM, argsM, tupM, lstM, callM, argsS, idL, multM, argsF, setSs, compM, itSeq, seqD, wipeE, bindT, bindTs, yesM, isiD, itZip, zipD, itEnum, itRange1, idxD, lenD, tupleD, listD, is_number_ok, isNum, inR, h]
    · simp [Kd.andM, Kd.orM, Kd.notM, blM, bin, un, potI, cM, potNE, seqM, potPop, potSet, ifM, brwM, varM, Pot.setI, nilM, ifS, setM, retM, thaw, retNM, tstM, truD, vAndM, vOrM, vNotM, chainM, daM, slM, argsM, tupM, lstM, callM, argsS, idL, multM, argsF, setSs, compM, itSeq, seqD, wipeE, bindT, bindTs, yesM, isiD, itZip, zipD, itEnum, itRange1, idxD, lenD, tupleD, listD, is_number_ok, isNum, inR, h]
  | _ => simp [Kd.andM, Kd.orM, Kd.notM, blM, bin, un, potI, cM, potNE, seqM, potPop, potSet, ifM, brwM, varM, Pot.setI, nilM, ifS, setM, retM, thaw, retNM, tstM, truD, vAndM, vOrM, vNotM, chainM, daM, slM, argsM, tupM, lstM, callM, argsS, idL, multM, argsF, setSs, compM, itSeq, seqD, wipeE, bindT, bindTs, yesM, isiD, itZip, zipD, itEnum, itRange1, idxD, lenD, tupleD, listD, is_number_ok, isNum, inR]
def areN (many lo hi : Int) : D → Bool
  | .tuple xs => decide ((xs.length : Int) = many) && xs.all (inR lo hi)
  | _ => false
theorem are_numbers_ok (v : D) (many lo hi : Int) (g : GG) : s_are_numbers [.dat v, .dat (.int many), .dat (.int lo), .dat (.int hi)] g = some (.ok (.bool (areN many lo hi v)) g) := by
  refine fnSem_rt rfl rfl ?_
  show m_are_numbers [some (.dat v), some (.dat (.int many)), some (.dat (.int lo)), some (.dat (.int hi)), none] g = _
  unfold m_are_numbers
  cases v with
  | tuple xs =>
    have hc : compGo (.nm 4) yesM (callM s_is_within idL [daM (varM 4), daM (varM 2), daM (varM 3)]) [some (.dat (.tuple xs)), some (.dat (.int many)), some (.dat (.int lo)), some (.dat (.int hi)), none] xs g = some (.ok (xs.map fun x => .bool (inR lo hi x)) g) := by
      have := compGo_all (t := .nm 4) (e := callM s_is_within idL [daM (varM 4), daM (varM 2), daM (varM 3)]) (ρ := [some (.dat (.tuple xs)), some (.dat (.int many)), some (.dat (.int lo)), some (.dat (.int hi)), none]) (g := g) id (fun x => .bool (inR lo hi x)) xs fun z _ => ⟨_, rfl, by simp [Kd.andM, Kd.orM, Kd.notM, blM, bin, un, potI, cM, potNE, seqM, potPop, potSet, ifM, brwM, varM, Pot.setI, nilM, ifS, setM, retM, thaw, retNM, tstM, truD, vAndM, vOrM, vNotM, chainM, daM, slM, argsM, tupM, lstM, callM, argsS, idL, multM, argsF, setSs, compM, itSeq, seqD, wipeE, bindT, bindTs, yesM, isiD, itZip, zipD, itEnum, itRange1, idxD, lenD, tupleD, listD, is_within_ok]⟩
      rwa [List.map_id] at this
    by_cases hl : (xs.length : Int) = many
    · simp [Kd.andM, Kd.orM, Kd.notM, blM, bin, un, potI, cM, potNE, seqM, potPop, potSet, ifM, brwM, varM, Pot.setI, nilM, ifS, setM, retM, thaw, retNM, tstM, truD, vAndM, vOrM, vNotM, chainM, daM, slM, argsM, tupM, lstM, callM, argsS, idL, multM, argsF, setSs, compM, itSeq, seqD, wipeE, bindT, bindTs, yesM, isiD, itZip, zipD, itEnum, itRange1, idxD, lenD, tupleD, listD, isiB, hl, hc, allD_map, areN]
    · have hb : ((xs.length : Int) == many) = false := by simp [Kd.andM, Kd.orM, Kd.notM, blM, bin, un, potI, cM, potNE, seqM, potPop, potSet, ifM, brwM, varM, Pot.setI, nilM, ifS, setM, retM, thaw, retNM, tstM, truD, vAndM, vOrM, vNotM, chainM, daM, slM, argsM, tupM, lstM, callM, argsS, idL, multM, argsF, setSs, compM, itSeq, seqD, wipeE, bindT, bindTs, yesM, isiD, itZip, zipD, itEnum, itRange1, idxD, lenD, tupleD, listD, hl]
      simp [Kd.andM, Kd.orM, Kd.notM, blM, bin, un, potI, cM, potNE, seqM, potPop, potSet, ifM, brwM, varM, Pot.setI, nilM, ifS, setM, retM, thaw, retNM, tstM, truD, vAndM, vOrM, vNotM, chainM, daM, slM, argsM, tupM, lstM, callM, argsS, idL, multM, argsF, setSs, compM, itSeq, seqD, wipeE, bindT, bindTs, yesM, isiD, itZip, zipD, itEnum, itRange1, idxD, lenD, tupleD, listD, isiB, hb, areN, hl]
  | _ => simp [Kd.andM, Kd.orM, Kd.notM, blM, bin, un, potI, cM, potNE, seqM, potPop, potSet, ifM, brwM, varM, Pot.setI, nilM, ifS, setM, retM, thaw, retNM, tstM, truD, vAndM, vOrM, vNotM, chainM, daM, slM, argsM, tupM, lstM, callM, argsS, idL, multM, argsF, setSs, compM, itSeq, seqD, wipeE, bindT, bindTs, yesM, isiD, itZip, zipD, itEnum, itRange1, idxD, lenD, tupleD, listD, isiB, areN]
/-! rows, steps, nets, caps -/
abbrev tI (r : List Int) : D := .tuple (r.map .int)
abbrev tSt (s : List Int × List Int) : D := .tuple [tI s.1, tI s.2]
abbrev tNet (n : List (List Int × List Int)) : D := .tuple (n.map tSt)
abbrev tCap (c : List Int × Int) : D := .tuple [tI c.1, .int c.2]
abbrev tCaps (c : List (List Int × Int)) : D := .tuple (c.map tCap)
def isLet (s : List Int × List Int) (st : List Int) : Bool := (st.zip s.1).all fun p => decide (p.2 ≤ p.1)
theorem is_let_ok {net : List (List Int × List Int)} {st : List Int} {k : Nat} {s : List Int × List Int} (h : net[k]? = some s) (g : GG) : s_is_let [.dat (tNet net), .dat (tI st), .dat (.int (k : Nat))] g = some (.ok (.bool (isLet s st)) g) := by
  refine fnSem_rt rfl rfl ?_
  show m_is_let [some (.dat (tNet net)), some (.dat (tI st)), some (.dat (.int (k : Nat))), none, none] g = _
  unfold m_is_let
  have hc := compGo_all (t := .tp (.cons (.nm 3) (.cons (.nm 4) (.nil)))) (e := bin geI (brwM 3) (brwM 4)) (ρ := [some (.dat (tNet net)), some (.dat (tI st)), some (.dat (.int (k : Nat))), none, none]) (g := g) (fun p : Int × Int => .tuple [.int p.1, .int p.2]) (fun p => .bool (decide (p.2 ≤ p.1))) (st.zip s.1) fun z _ => ⟨_, rfl, by simp [Kd.andM, Kd.orM, Kd.notM, blM, bin, un, potI, cM, potNE, seqM, potPop, potSet, ifM, brwM, varM, Pot.setI, nilM, ifS, setM, retM, thaw, retNM, tstM, truD, vAndM, vOrM, vNotM, chainM, daM, slM, argsM, tupM, lstM, callM, argsS, idL, multM, argsF, setSs, compM, itSeq, seqD, wipeE, bindT, bindTs, yesM, isiD, itZip, zipD, itEnum, itRange1, idxD, lenD, tupleD, listD]⟩
  simp [Kd.andM, Kd.orM, Kd.notM, blM, bin, un, potI, cM, potNE, seqM, potPop, potSet, ifM, brwM, varM, Pot.setI, nilM, ifS, setM, retM, thaw, retNM, tstM, truD, vAndM, vOrM, vNotM, chainM, daM, slM, argsM, tupM, lstM, callM, argsS, idL, multM, argsF, setSs, compM, itSeq, seqD, wipeE, bindT, bindTs, yesM, isiD, itZip, zipD, itEnum, itRange1, idxD, lenD, tupleD, listD, atI_nat, h, zipL_ints, hc, allD_map, isLet]
  simp [Kd.andM, Kd.orM, Kd.notM, blM, bin, un, potI, cM, potNE, seqM, potPop, potSet, ifM, brwM, varM, Pot.setI, nilM, ifS, setM, retM, thaw, retNM, tstM, truD, vAndM, vOrM, vNotM, chainM, daM, slM, argsM, tupM, lstM, callM, argsS, idL, multM, argsF, setSs, compM, itSeq, seqD, wipeE, bindT, bindTs, yesM, isiD, itZip, zipD, itEnum, itRange1, idxD, lenD, tupleD, listD, L2.atI, L2.ixN, zipL_ints, hc, allD_map, isLet]
def letSteps (net : List (List Int × List Int)) (st : List Int) : List Nat := (List.range net.length).filter fun k => match net[k]? with
  | some s => isLet s st
  | none => false
theorem let_steps_ok {net : List (List Int × List Int)} {st : List Int} (hn : net.length ≤ 16777216) (g : GG) : s_let_steps [.dat (tNet net), .dat (tI st)] g = some (.ok (.tuple ((letSteps net st).map fun (k : Nat) => .int (k : Nat))) g) := by
  refine fnSem_rt rfl rfl ?_
  show m_let_steps [some (.dat (tNet net)), some (.dat (tI st)), none] g = _
  unfold m_let_steps
  have hc := compGo_mapA (t := .nm 2) (c := tstM (callM s_is_let idL [daM (varM 0), daM (varM 1), daM (varM 2)])) (e := varM 2) (ρ := [some (.dat (tNet net)), some (.dat (tI st)), none]) (g := g) (fun (k : Nat) => PyData.int (k : Nat)) (fun k => match net[k]? with
    | some s => isLet s st
    | none => false) (fun k => .int (k : Nat)) (List.range net.length) fun k hk => by
      have hk := List.mem_range.mp hk
      have hs : net[k]? = some net[k] := List.getElem?_eq_getElem hk
      refine ⟨_, rfl, ?_, fun _ => by simp [Kd.andM, Kd.orM, Kd.notM, blM, bin, un, potI, cM, potNE, seqM, potPop, potSet, ifM, brwM, varM, Pot.setI, nilM, ifS, setM, retM, thaw, retNM, tstM, truD, vAndM, vOrM, vNotM, chainM, daM, slM, argsM, tupM, lstM, callM, argsS, idL, multM, argsF, setSs, compM, itSeq, seqD, wipeE, bindT, bindTs, yesM, isiD, itZip, zipD, itEnum, itRange1, idxD, lenD, tupleD, listD]⟩
      simp [Kd.andM, Kd.orM, Kd.notM, blM, bin, un, potI, cM, potNE, seqM, potPop, potSet, ifM, brwM, varM, Pot.setI, nilM, ifS, setM, retM, thaw, retNM, tstM, truD, vAndM, vOrM, vNotM, chainM, daM, slM, argsM, tupM, lstM, callM, argsS, idL, multM, argsF, setSs, compM, itSeq, seqD, wipeE, bindT, bindTs, yesM, isiD, itZip, zipD, itEnum, itRange1, idxD, lenD, tupleD, listD, is_let_ok hs, hs]
  simp [Kd.andM, Kd.orM, Kd.notM, blM, bin, un, potI, cM, potNE, seqM, potPop, potSet, ifM, brwM, varM, Pot.setI, nilM, ifS, setM, retM, thaw, retNM, tstM, truD, vAndM, vOrM, vNotM, chainM, daM, slM, argsM, tupM, lstM, callM, argsS, idL, multM, argsF, setSs, compM, itSeq, seqD, wipeE, bindT, bindTs, yesM, isiD, itZip, zipD, itEnum, itRange1, idxD, lenD, tupleD, listD, range1_ok hn, rangeL_eq, hc, letSteps]
def chg (s : List Int × List Int) : List Int := (s.1.zip s.2).map fun p => p.2 - p.1
theorem change_of_ok {net : List (List Int × List Int)} {k : Nat} {s : List Int × List Int} (h : net[k]? = some s) (g : GG) : s_change_of [.dat (tNet net), .dat (.int (k : Nat))] g = some (.ok (tI (chg s)) g) := by
  refine fnSem_rt rfl rfl ?_
  show m_change_of [some (.dat (tNet net)), some (.dat (.int (k : Nat))), none, none] g = _
  unfold m_change_of
  have hc := compGo_all (t := .tp (.cons (.nm 2) (.cons (.nm 3) (.nil)))) (e := bin subD (brwM 3) (brwM 2)) (ρ := [some (.dat (tNet net)), some (.dat (.int (k : Nat))), none, none]) (g := g) (fun p : Int × Int => .tuple [.int p.1, .int p.2]) (fun p => .int (p.2 - p.1)) (s.1.zip s.2) fun z _ => ⟨_, rfl, by simp [Kd.andM, Kd.orM, Kd.notM, blM, bin, un, potI, cM, potNE, seqM, potPop, potSet, ifM, brwM, varM, Pot.setI, nilM, ifS, setM, retM, thaw, retNM, tstM, truD, vAndM, vOrM, vNotM, chainM, daM, slM, argsM, tupM, lstM, callM, argsS, idL, multM, argsF, setSs, compM, itSeq, seqD, wipeE, bindT, bindTs, yesM, isiD, itZip, zipD, itEnum, itRange1, idxD, lenD, tupleD, listD]⟩
  simp [Kd.andM, Kd.orM, Kd.notM, blM, bin, un, potI, cM, potNE, seqM, potPop, potSet, ifM, brwM, varM, Pot.setI, nilM, ifS, setM, retM, thaw, retNM, tstM, truD, vAndM, vOrM, vNotM, chainM, daM, slM, argsM, tupM, lstM, callM, argsS, idL, multM, argsF, setSs, compM, itSeq, seqD, wipeE, bindT, bindTs, yesM, isiD, itZip, zipD, itEnum, itRange1, idxD, lenD, tupleD, listD, atI_nat, h]
  simp [Kd.andM, Kd.orM, Kd.notM, blM, bin, un, potI, cM, potNE, seqM, potPop, potSet, ifM, brwM, varM, Pot.setI, nilM, ifS, setM, retM, thaw, retNM, tstM, truD, vAndM, vOrM, vNotM, chainM, daM, slM, argsM, tupM, lstM, callM, argsS, idL, multM, argsF, setSs, compM, itSeq, seqD, wipeE, bindT, bindTs, yesM, isiD, itZip, zipD, itEnum, itRange1, idxD, lenD, tupleD, listD, L2.atI, L2.ixN, zipL_ints, hc, chg]
def mov (st c : List Int) : List Int := (st.zip c).map fun p => p.1 + p.2
theorem moved_state_ok (st c : List Int) (g : GG) : s_moved_state [.dat (tI st), .dat (tI c)] g = some (.ok (tI (mov st c)) g) := by
  refine fnSem_rt rfl rfl ?_
  show m_moved_state [some (.dat (tI st)), some (.dat (tI c)), none, none] g = _
  unfold m_moved_state
  have hc := compGo_all (t := .tp (.cons (.nm 2) (.cons (.nm 3) (.nil)))) (e := bin addD (brwM 2) (brwM 3)) (ρ := [some (.dat (tI st)), some (.dat (tI c)), none, none]) (g := g) (fun p : Int × Int => .tuple [.int p.1, .int p.2]) (fun p => .int (p.1 + p.2)) (st.zip c) fun z _ => ⟨_, rfl, by simp [Kd.andM, Kd.orM, Kd.notM, blM, bin, un, potI, cM, potNE, seqM, potPop, potSet, ifM, brwM, varM, Pot.setI, nilM, ifS, setM, retM, thaw, retNM, tstM, truD, vAndM, vOrM, vNotM, chainM, daM, slM, argsM, tupM, lstM, callM, argsS, idL, multM, argsF, setSs, compM, itSeq, seqD, wipeE, bindT, bindTs, yesM, isiD, itZip, zipD, itEnum, itRange1, idxD, lenD, tupleD, listD]⟩
  simp [Kd.andM, Kd.orM, Kd.notM, blM, bin, un, potI, cM, potNE, seqM, potPop, potSet, ifM, brwM, varM, Pot.setI, nilM, ifS, setM, retM, thaw, retNM, tstM, truD, vAndM, vOrM, vNotM, chainM, daM, slM, argsM, tupM, lstM, callM, argsS, idL, multM, argsF, setSs, compM, itSeq, seqD, wipeE, bindT, bindTs, yesM, isiD, itZip, zipD, itEnum, itRange1, idxD, lenD, tupleD, listD, zipL_ints, hc, mov]
/-- numbers that may be multiplied -/
def Sm (w : List Int) : Prop := ∀ x ∈ w, -(2 ^ 64) < x ∧ x < 2 ^ 64
def dot (w r : List Int) : Int := ((w.zip r).map fun p => p.1 * p.2).sum
theorem watched_sum_ok {w : List Int} (hw : Sm w) (r : List Int) (g : GG) : s_watched_sum [.dat (tI w), .dat (tI r)] g = some (.ok (.int (dot w r)) g) := by
  refine fnSem_rt rfl rfl ?_
  show m_watched_sum [some (.dat (tI w)), some (.dat (tI r)), none, none] g = _
  unfold m_watched_sum
  have hc := compGo_all (t := .tp (.cons (.nm 2) (.cons (.nm 3) (.nil)))) (e := bin mulX (brwM 2) (brwM 3)) (ρ := [some (.dat (tI w)), some (.dat (tI r)), none, none]) (g := g) (fun p : Int × Int => .tuple [.int p.1, .int p.2]) (fun p => .int (p.1 * p.2)) (w.zip r) fun z hz => ⟨_, rfl, by
    have := hw z.1 (List.of_mem_zip hz).1
    simp [Kd.andM, Kd.orM, Kd.notM, blM, bin, un, potI, cM, potNE, seqM, potPop, potSet, ifM, brwM, varM, Pot.setI, nilM, ifS, setM, retM, thaw, retNM, tstM, truD, vAndM, vOrM, vNotM, chainM, daM, slM, argsM, tupM, lstM, callM, argsS, idL, multM, argsF, setSs, compM, itSeq, seqD, wipeE, bindT, bindTs, yesM, isiD, itZip, zipD, itEnum, itRange1, idxD, lenD, tupleD, listD, mulX_int (mulOkL (b := z.2) this.1 this.2)]⟩
  simp [Kd.andM, Kd.orM, Kd.notM, blM, bin, un, potI, cM, potNE, seqM, potPop, potSet, ifM, brwM, varM, Pot.setI, nilM, ifS, setM, retM, thaw, retNM, tstM, truD, vAndM, vOrM, vNotM, chainM, daM, slM, argsM, tupM, lstM, callM, argsS, idL, multM, argsF, setSs, compM, itSeq, seqD, wipeE, bindT, bindTs, yesM, isiD, itZip, zipD, itEnum, itRange1, idxD, lenD, tupleD, listD, zipL_ints, hc, sumD_map, dot]
def SmC (cs : List (List Int × Int)) : Prop := ∀ c ∈ cs, Sm c.1
def slk (cs : List (List Int × Int)) (st : List Int) : List Int := cs.map fun c => c.2 - dot c.1 st
theorem cap_slack_ok {cs : List (List Int × Int)} (hc : SmC cs) (st : List Int) (g : GG) : s_cap_slack [.dat (tCaps cs), .dat (tI st)] g = some (.ok (tI (slk cs st)) g) := by
  refine fnSem_rt rfl rfl ?_
  show m_cap_slack [some (.dat (tCaps cs)), some (.dat (tI st)), none, none] g = _
  unfold m_cap_slack
  have hc := compGo_all (t := .tp (.cons (.nm 2) (.cons (.nm 3) (.nil)))) (e := bin subD (brwM 3) (callM s_watched_sum idL [daM (varM 2), daM (varM 1)])) (ρ := [some (.dat (tCaps cs)), some (.dat (tI st)), none, none]) (g := g) tCap (fun c => .int (c.2 - dot c.1 st)) cs fun z hz => ⟨_, rfl, by
    simp [Kd.andM, Kd.orM, Kd.notM, blM, bin, un, potI, cM, potNE, seqM, potPop, potSet, ifM, brwM, varM, Pot.setI, nilM, ifS, setM, retM, thaw, retNM, tstM, truD, vAndM, vOrM, vNotM, chainM, daM, slM, argsM, tupM, lstM, callM, argsS, idL, multM, argsF, setSs, compM, itSeq, seqD, wipeE, bindT, bindTs, yesM, isiD, itZip, zipD, itEnum, itRange1, idxD, lenD, tupleD, listD, watched_sum_ok (hc z hz)]⟩
  simp [Kd.andM, Kd.orM, Kd.notM, blM, bin, un, potI, cM, potNE, seqM, potPop, potSet, ifM, brwM, varM, Pot.setI, nilM, ifS, setM, retM, thaw, retNM, tstM, truD, vAndM, vOrM, vNotM, chainM, daM, slM, argsM, tupM, lstM, callM, argsS, idL, multM, argsF, setSs, compM, itSeq, seqD, wipeE, bindT, bindTs, yesM, isiD, itZip, zipD, itEnum, itRange1, idxD, lenD, tupleD, listD, hc, slk]
def keeps (cs : List (List Int × Int)) (st : List Int) : Bool := (slk cs st).all fun x => decide (0 ≤ x)
theorem does_keep_ok {cs : List (List Int × Int)} (hc : SmC cs) (st : List Int) (g : GG) : s_does_keep [.dat (tCaps cs), .dat (tI st)] g = some (.ok (.bool (keeps cs st)) g) := by
  refine fnSem_rt rfl rfl ?_
  show m_does_keep [some (.dat (tCaps cs)), some (.dat (tI st)), none] g = _
  unfold m_does_keep
  have hcc := compGo_all (t := .nm 2) (e := bin geI (brwM 2) (cM (.int 0))) (ρ := [some (.dat (tCaps cs)), some (.dat (tI st)), none]) (g := g) PyData.int (fun x => .bool (decide (0 ≤ x))) (slk cs st) fun z hz => ⟨_, rfl, by simp [Kd.andM, Kd.orM, Kd.notM, blM, bin, un, potI, cM, potNE, seqM, potPop, potSet, ifM, brwM, varM, Pot.setI, nilM, ifS, setM, retM, thaw, retNM, tstM, truD, vAndM, vOrM, vNotM, chainM, daM, slM, argsM, tupM, lstM, callM, argsS, idL, multM, argsF, setSs, compM, itSeq, seqD, wipeE, bindT, bindTs, yesM, isiD, itZip, zipD, itEnum, itRange1, idxD, lenD, tupleD, listD]⟩
  simp [Kd.andM, Kd.orM, Kd.notM, blM, bin, un, potI, cM, potNE, seqM, potPop, potSet, ifM, brwM, varM, Pot.setI, nilM, ifS, setM, retM, thaw, retNM, tstM, truD, vAndM, vOrM, vNotM, chainM, daM, slM, argsM, tupM, lstM, callM, argsS, idL, multM, argsF, setSs, compM, itSeq, seqD, wipeE, bindT, bindTs, yesM, isiD, itZip, zipD, itEnum, itRange1, idxD, lenD, tupleD, listD, cap_slack_ok hc, hcc, allD_map, keeps]
theorem cap_changes_ok {net : List (List Int × List Int)} {cs : List (List Int × Int)} {k : Nat} {s : List Int × List Int} (h : net[k]? = some s) (hc : SmC cs) (g : GG) : s_cap_changes [.dat (tNet net), .dat (tCaps cs), .dat (.int (k : Nat))] g = some (.ok (tI (cs.map fun c => dot c.1 (chg s))) g) := by
  refine fnSem_rt rfl rfl ?_
  show m_cap_changes [some (.dat (tNet net)), some (.dat (tCaps cs)), some (.dat (.int (k : Nat))), none, none, none] g = _
  unfold m_cap_changes
  have hcc := compGo_all (t := .tp (.cons (.nm 4) (.cons (.nm 5) (.nil)))) (e := callM s_watched_sum idL [daM (varM 4), daM (varM 3)]) (ρ := [some (.dat (tNet net)), some (.dat (tCaps cs)), some (.dat (.int (k : Nat))), some (.dat (tI (chg s))), none, none]) (g := g) tCap (fun c => .int (dot c.1 (chg s))) cs fun z hz => ⟨_, rfl, by
    simp [Kd.andM, Kd.orM, Kd.notM, blM, bin, un, potI, cM, potNE, seqM, potPop, potSet, ifM, brwM, varM, Pot.setI, nilM, ifS, setM, retM, thaw, retNM, tstM, truD, vAndM, vOrM, vNotM, chainM, daM, slM, argsM, tupM, lstM, callM, argsS, idL, multM, argsF, setSs, compM, itSeq, seqD, wipeE, bindT, bindTs, yesM, isiD, itZip, zipD, itEnum, itRange1, idxD, lenD, tupleD, listD, watched_sum_ok (hc z hz)]⟩
  simp [Kd.andM, Kd.orM, Kd.notM, blM, bin, un, potI, cM, potNE, seqM, potPop, potSet, ifM, brwM, varM, Pot.setI, nilM, ifS, setM, retM, thaw, retNM, tstM, truD, vAndM, vOrM, vNotM, chainM, daM, slM, argsM, tupM, lstM, callM, argsS, idL, multM, argsF, setSs, compM, itSeq, seqD, wipeE, bindT, bindTs, yesM, isiD, itZip, zipD, itEnum, itRange1, idxD, lenD, tupleD, listD, change_of_ok h, hcc]
def brk (net : List (List Int × List Int)) (cs : List (List Int × Int)) (st : List Int) : List Nat := (letSteps net st).filter fun k => match net[k]? with
  | some s => !keeps cs (mov st (chg s))
  | none => false
theorem letSteps_at {net : List (List Int × List Int)} {st : List Int} {k : Nat} (h : k ∈ letSteps net st) : ∃ s, net[k]? = some s ∧ isLet s st = true := by
  have := (List.mem_filter.mp h).2
  split at this
  · exact ⟨_, by assumption, this⟩
  · cases this
theorem breaking_steps_ok {net : List (List Int × List Int)} {cs : List (List Int × Int)} (hn : net.length ≤ 16777216) (hc : SmC cs) (st : List Int) (g : GG) : s_breaking_steps [.dat (tNet net), .dat (tCaps cs), .dat (tI st)] g = some (.ok (.tuple ((brk net cs st).map fun (k : Nat) => .int (k : Nat))) g) := by
  refine fnSem_rt rfl rfl ?_
  show m_breaking_steps [some (.dat (tNet net)), some (.dat (tCaps cs)), some (.dat (tI st)), none, none] g = _
  unfold m_breaking_steps
  have hcc := compGo_mapA (t := .nm 4) (c := notM (tstM (callM s_does_keep idL [daM (varM 1), daM (callM s_moved_state idL [daM (varM 2), daM (callM s_change_of idL [daM (varM 0), daM (varM 4)])])]))) (e := varM 4)
    (ρ := [some (.dat (tNet net)), some (.dat (tCaps cs)), some (.dat (tI st)), some (.dat (.tuple ((letSteps net st).map fun (k : Nat) => .int (k : Nat)))), none]) (g := g) (fun (k : Nat) => PyData.int (k : Nat)) (fun k => match net[k]? with
    | some s => !keeps cs (mov st (chg s))
    | none => false) (fun k => .int (k : Nat)) (letSteps net st) fun k hk => by
      obtain ⟨s, hs, _⟩ := letSteps_at hk
      refine ⟨_, rfl, ?_, fun _ => by simp [Kd.andM, Kd.orM, Kd.notM, blM, bin, un, potI, cM, potNE, seqM, potPop, potSet, ifM, brwM, varM, Pot.setI, nilM, ifS, setM, retM, thaw, retNM, tstM, truD, vAndM, vOrM, vNotM, chainM, daM, slM, argsM, tupM, lstM, callM, argsS, idL, multM, argsF, setSs, compM, itSeq, seqD, wipeE, bindT, bindTs, yesM, isiD, itZip, zipD, itEnum, itRange1, idxD, lenD, tupleD, listD]⟩
      simp [Kd.andM, Kd.orM, Kd.notM, blM, bin, un, potI, cM, potNE, seqM, potPop, potSet, ifM, brwM, varM, Pot.setI, nilM, ifS, setM, retM, thaw, retNM, tstM, truD, vAndM, vOrM, vNotM, chainM, daM, slM, argsM, tupM, lstM, callM, argsS, idL, multM, argsF, setSs, compM, itSeq, seqD, wipeE, bindT, bindTs, yesM, isiD, itZip, zipD, itEnum, itRange1, idxD, lenD, tupleD, listD, change_of_ok hs, moved_state_ok, does_keep_ok hc, hs]
  simp [Kd.andM, Kd.orM, Kd.notM, blM, bin, un, potI, cM, potNE, seqM, potPop, potSet, ifM, brwM, varM, Pot.setI, nilM, ifS, setM, retM, thaw, retNM, tstM, truD, vAndM, vOrM, vNotM, chainM, daM, slM, argsM, tupM, lstM, callM, argsS, idL, multM, argsF, setSs, compM, itSeq, seqD, wipeE, bindT, bindTs, yesM, isiD, itZip, zipD, itEnum, itRange1, idxD, lenD, tupleD, listD, let_steps_ok hn, hcc, brk]
/-! ### the caps' form -/
def wItem (m : Int) : D → Bool
  | .tuple [a, _] => areN m 0 9 a
  | _ => false
theorem len2 (r : List D) : (((r.length : Nat) : Int) + 1 + 1 + 1 == 2) = false := by
  exact beq_eq_false_iff_ne.mpr (by omega)
theorem is_weights_item_ok (m : Int) (v : D) (g : GG) : s_is_weights_item [.dat (.int m), .dat v] g = some (.ok (.bool (wItem m v)) g) := by
  refine fnSem_rt rfl rfl ?_
  show m_is_weights_item [some (.dat (.int m)), some (.dat v)] g = _
  unfold m_is_weights_item
  cases v with
  | tuple xs =>
    match xs with
    | [] => simp [Kd.andM, Kd.orM, Kd.notM, blM, bin, un, potI, cM, potNE, seqM, potPop, potSet, ifM, brwM, varM, Pot.setI, nilM, ifS, setM, retM, thaw, retNM, tstM, truD, vAndM, vOrM, vNotM, chainM, daM, slM, argsM, tupM, lstM, callM, argsS, idL, multM, argsF, setSs, compM, itSeq, seqD, wipeE, bindT, bindTs, yesM, isiD, itZip, zipD, itEnum, itRange1, idxD, lenD, tupleD, listD, isiB, wItem]
    | [a] => simp [Kd.andM, Kd.orM, Kd.notM, blM, bin, un, potI, cM, potNE, seqM, potPop, potSet, ifM, brwM, varM, Pot.setI, nilM, ifS, setM, retM, thaw, retNM, tstM, truD, vAndM, vOrM, vNotM, chainM, daM, slM, argsM, tupM, lstM, callM, argsS, idL, multM, argsF, setSs, compM, itSeq, seqD, wipeE, bindT, bindTs, yesM, isiD, itZip, zipD, itEnum, itRange1, idxD, lenD, tupleD, listD, isiB, wItem]
    | [a, b] =>
      simp [Kd.andM, Kd.orM, Kd.notM, blM, bin, un, potI, cM, potNE, seqM, potPop, potSet, ifM, brwM, varM, Pot.setI, nilM, ifS, setM, retM, thaw, retNM, tstM, truD, vAndM, vOrM, vNotM, chainM, daM, slM, argsM, tupM, lstM, callM, argsS, idL, multM, argsF, setSs, compM, itSeq, seqD, wipeE, bindT, bindTs, yesM, isiD, itZip, zipD, itEnum, itRange1, idxD, lenD, tupleD, listD, isiB, wItem, L2.atI, L2.ixN, are_numbers_ok]
    | a :: b :: c :: r =>
      simp [Kd.andM, Kd.orM, Kd.notM, blM, bin, un, potI, cM, potNE, seqM, potPop, potSet, ifM, brwM, varM, Pot.setI, nilM, ifS, setM, retM, thaw, retNM, tstM, truD, vAndM, vOrM, vNotM, chainM, daM, slM, argsM, tupM, lstM, callM, argsS, idL, multM, argsF, setSs, compM, itSeq, seqD, wipeE, bindT, bindTs, yesM, isiD, itZip, zipD, itEnum, itRange1, idxD, lenD, tupleD, listD, isiB, wItem, len2 r]
  | _ => simp [Kd.andM, Kd.orM, Kd.notM, blM, bin, un, potI, cM, potNE, seqM, potPop, potSet, ifM, brwM, varM, Pot.setI, nilM, ifS, setM, retM, thaw, retNM, tstM, truD, vAndM, vOrM, vNotM, chainM, daM, slM, argsM, tupM, lstM, callM, argsS, idL, multM, argsF, setSs, compM, itSeq, seqD, wipeE, bindT, bindTs, yesM, isiD, itZip, zipD, itEnum, itRange1, idxD, lenD, tupleD, listD, isiB, wItem]
def iPos (P : D → Bool) (xs : List D) : Option Nat := (badL P 0 xs).head?
def mItem : D → Bool
  | .tuple [_, b] => inR 0 1000000000 b
  | _ => false
/-- what is said of a value -/
def word (m : Int) : D → D
  | .tuple xs => if xs.length ≤ 3 then (match iPos (wItem m) xs with
      | some c => .tuple [.str "weights", .int (c : Nat)]
      | none => match iPos mItem xs with
        | some c => .tuple [.str "most", .int (c : Nat)]
        | none => .none)
    else .str "form"
  | _ => .str "form"
theorem badL_nil {P : D → Bool} : ∀ {xs : List D} {i : Nat}, (badL P i xs).head? = none → ∀ x ∈ xs, P x = true
  | [], _, _, x, h => nomatch h
  | y :: ys, i, e, x, h => by
    unfold badL at e
    cases hp : P y with
    | true =>
      simp only [hp] at e
      rcases List.mem_cons.mp h with z | h
      · rw [z]; exact hp
      · exact badL_nil e x h
    | false => simp only [hp] at e; cases e
theorem wItem_pair {m : Int} {x : D} (h : wItem m x = true) : ∃ a b, x = .tuple [a, b] := by
  unfold wItem at h
  split at h
  · exact ⟨_, _, rfl⟩
  · cases h
theorem caps_error_ok (m : Int) (v : D) (g : GG) : s_caps_error [.dat (.int m), .dat v] g = some (.ok (word m v) g) := by
  refine fnSem_rt rfl rfl ?_
  show m_caps_error [some (.dat (.int m)), some (.dat v), none, none, none, none] g = _
  unfold m_caps_error
  cases v with
  | tuple xs =>
    by_cases hl : xs.length ≤ 3
    · have hl' : ¬ ((3 : Int) < (xs.length : Nat)) := by omega
      have c1 := compGo_mapA (t := .tp (.cons (.nm 4) (.cons (.nm 5) (.nil)))) (c := notM (tstM (callM s_is_weights_item idL [daM (varM 0), daM (varM 5)]))) (e := varM 4) (ρ := [some (.dat (.int m)), some (.dat (.tuple xs)), none, none, none, none]) (g := g)
        (fun p : D × Nat => .tuple [.int (p.2 : Nat), p.1]) (fun p => !wItem m p.1) (fun p => .int (p.2 : Nat)) (xs.zipIdx 0) fun z hz => ⟨_, rfl, by simp [Kd.andM, Kd.orM, Kd.notM, blM, bin, un, potI, cM, potNE, seqM, potPop, potSet, ifM, brwM, varM, Pot.setI, nilM, ifS, setM, retM, thaw, retNM, tstM, truD, vAndM, vOrM, vNotM, chainM, daM, slM, argsM, tupM, lstM, callM, argsS, idL, multM, argsF, setSs, compM, itSeq, seqD, wipeE, bindT, bindTs, yesM, isiD, itZip, zipD, itEnum, itRange1, idxD, lenD, tupleD, listD, is_weights_item_ok], fun _ => by simp [Kd.andM, Kd.orM, Kd.notM, blM, bin, un, potI, cM, potNE, seqM, potPop, potSet, ifM, brwM, varM, Pot.setI, nilM, ifS, setM, retM, thaw, retNM, tstM, truD, vAndM, vOrM, vNotM, chainM, daM, slM, argsM, tupM, lstM, callM, argsS, idL, multM, argsF, setSs, compM, itSeq, seqD, wipeE, bindT, bindTs, yesM, isiD, itZip, zipD, itEnum, itRange1, idxD, lenD, tupleD, listD]⟩
      rw [badL_comp] at c1
      cases h1 : badL (wItem m) 0 xs with
      | cons k r =>
        rw [h1] at c1
        have hs := shaped_ints ((k :: r).map fun (i : Nat) => ((i : Nat) : Int))
        have hs' : SeqAt.shaped (.list ((k :: r).map fun (i : Nat) => PyData.int (i : Nat))) = true := by
          rw [List.map_map] at hs; exact hs
        have n1 := neX_lnil hs'
        simp only [List.map_cons] at c1 n1
        simp [Kd.andM, Kd.orM, Kd.notM, blM, bin, un, potI, cM, potNE, seqM, potPop, potSet, ifM, brwM, varM, Pot.setI, nilM, ifS, setM, retM, thaw, retNM, tstM, truD, vAndM, vOrM, vNotM, chainM, daM, slM, argsM, tupM, lstM, callM, argsS, idL, multM, argsF, setSs, compM, itSeq, seqD, wipeE, bindT, bindTs, yesM, isiD, itZip, zipD, itEnum, itRange1, idxD, lenD, tupleD, listD, isiB, hl', enumL_eq, c1, n1, word, hl, iPos, h1, L2.atI, L2.ixN]
      | nil =>
        rw [h1] at c1
        have hall := badL_nil (P := wItem m) (xs := xs) (i := 0) (by rw [h1]; rfl)
        have c2 := compGo_mapA (t := .tp (.cons (.nm 4) (.cons (.nm 5) (.nil)))) (c := notM (tstM (callM s_is_within idL [daM (bin idxD (brwM 5) (cM (.int 1))), daM (cM (.int 0)), daM (cM (.int 1000000000))]))) (e := varM 4) (ρ := [some (.dat (.int m)), some (.dat (.tuple xs)), some (.dat (.list [])), none, none, none]) (g := g)
          (fun p : D × Nat => .tuple [.int (p.2 : Nat), p.1]) (fun p => !mItem p.1) (fun p => .int (p.2 : Nat)) (xs.zipIdx 0) fun z hz => ⟨_, rfl, by
            have hz' : z.1 ∈ xs := by
              have := List.mem_zipIdx hz
              obtain ⟨_, _, e⟩ := this
              rw [e]; exact List.getElem_mem _
            obtain ⟨a, b, e⟩ := wItem_pair (hall z.1 hz')
            rw [e]
            simp [Kd.andM, Kd.orM, Kd.notM, blM, bin, un, potI, cM, potNE, seqM, potPop, potSet, ifM, brwM, varM, Pot.setI, nilM, ifS, setM, retM, thaw, retNM, tstM, truD, vAndM, vOrM, vNotM, chainM, daM, slM, argsM, tupM, lstM, callM, argsS, idL, multM, argsF, setSs, compM, itSeq, seqD, wipeE, bindT, bindTs, yesM, isiD, itZip, zipD, itEnum, itRange1, idxD, lenD, tupleD, listD, L2.atI, L2.ixN, is_within_ok, mItem], fun _ => by simp [Kd.andM, Kd.orM, Kd.notM, blM, bin, un, potI, cM, potNE, seqM, potPop, potSet, ifM, brwM, varM, Pot.setI, nilM, ifS, setM, retM, thaw, retNM, tstM, truD, vAndM, vOrM, vNotM, chainM, daM, slM, argsM, tupM, lstM, callM, argsS, idL, multM, argsF, setSs, compM, itSeq, seqD, wipeE, bindT, bindTs, yesM, isiD, itZip, zipD, itEnum, itRange1, idxD, lenD, tupleD, listD]⟩
        rw [badL_comp] at c2
        have n0 : neX (.list []) (.list []) = some (.bool false) := neX_lnil shaped_nil
        cases h2 : badL mItem 0 xs with
        | cons k r =>
          rw [h2] at c2
          have hs := shaped_ints ((k :: r).map fun (i : Nat) => ((i : Nat) : Int))
          have hs' : SeqAt.shaped (.list ((k :: r).map fun (i : Nat) => PyData.int (i : Nat))) = true := by
            rw [List.map_map] at hs; exact hs
          have n1 := neX_lnil hs'
          simp only [List.map_cons] at c2 n1
          simp [Kd.andM, Kd.orM, Kd.notM, blM, bin, un, potI, cM, potNE, seqM, potPop, potSet, ifM, brwM, varM, Pot.setI, nilM, ifS, setM, retM, thaw, retNM, tstM, truD, vAndM, vOrM, vNotM, chainM, daM, slM, argsM, tupM, lstM, callM, argsS, idL, multM, argsF, setSs, compM, itSeq, seqD, wipeE, bindT, bindTs, yesM, isiD, itZip, zipD, itEnum, itRange1, idxD, lenD, tupleD, listD, isiB, hl', enumL_eq, c1, n0, c2, n1, word, hl, iPos, h1, h2, L2.atI, L2.ixN]
        | nil =>
          rw [h2] at c2
          simp [Kd.andM, Kd.orM, Kd.notM, blM, bin, un, potI, cM, potNE, seqM, potPop, potSet, ifM, brwM, varM, Pot.setI, nilM, ifS, setM, retM, thaw, retNM, tstM, truD, vAndM, vOrM, vNotM, chainM, daM, slM, argsM, tupM, lstM, callM, argsS, idL, multM, argsF, setSs, compM, itSeq, seqD, wipeE, bindT, bindTs, yesM, isiD, itZip, zipD, itEnum, itRange1, idxD, lenD, tupleD, listD, isiB, hl', enumL_eq, c1, n0, c2, word, hl, iPos, h1, h2]
    · have hl' : (3 : Int) < (xs.length : Nat) := by omega
      simp [Kd.andM, Kd.orM, Kd.notM, blM, bin, un, potI, cM, potNE, seqM, potPop, potSet, ifM, brwM, varM, Pot.setI, nilM, ifS, setM, retM, thaw, retNM, tstM, truD, vAndM, vOrM, vNotM, chainM, daM, slM, argsM, tupM, lstM, callM, argsS, idL, multM, argsF, setSs, compM, itSeq, seqD, wipeE, bindT, bindTs, yesM, isiD, itZip, zipD, itEnum, itRange1, idxD, lenD, tupleD, listD, isiB, hl', word, hl]
  | _ => simp [Kd.andM, Kd.orM, Kd.notM, blM, bin, un, potI, cM, potNE, seqM, potPop, potSet, ifM, brwM, varM, Pot.setI, nilM, ifS, setM, retM, thaw, retNM, tstM, truD, vAndM, vOrM, vNotM, chainM, daM, slM, argsM, tupM, lstM, callM, argsS, idL, multM, argsF, setSs, compM, itSeq, seqD, wipeE, bindT, bindTs, yesM, isiD, itZip, zipD, itEnum, itRange1, idxD, lenD, tupleD, listD, isiB, word]
theorem law_whole_ok (v : D) (hi : Int) (g : GG) : s__law_whole [.dat v, .dat (.int hi)] g = some (.ok (.bool (inR 0 hi v)) g) := by
  refine fnSem_rt rfl rfl ?_
  show m__law_whole [some (.dat v), some (.dat (.int hi))] g = _
  unfold m__law_whole
  cases v with
  | int i =>
    by_cases h : 0 ≤ i
    · simp [Kd.andM, Kd.orM, Kd.notM, blM, bin, un, potI, cM, potNE, seqM, potPop, potSet, ifM, brwM, varM, Pot.setI, nilM, ifS, setM, retM, thaw, retNM, tstM, truD, vAndM, vOrM, vNotM, chainM, daM, slM, argsM, tupM, lstM, callM, argsS, idL, multM, argsF, setSs, compM, itSeq, seqD, wipeE, bindT, bindTs, yesM, isiD, itZip, zipD, itEnum, itRange1, idxD, lenD, tupleD, listD, isiB, inR, h]
    · simp [Kd.andM, Kd.orM, Kd.notM, blM, bin, un, potI, cM, potNE, seqM, potPop, potSet, ifM, brwM, varM, Pot.setI, nilM, ifS, setM, retM, thaw, retNM, tstM, truD, vAndM, vOrM, vNotM, chainM, daM, slM, argsM, tupM, lstM, callM, argsS, idL, multM, argsF, setSs, compM, itSeq, seqD, wipeE, bindT, bindTs, yesM, isiD, itZip, zipD, itEnum, itRange1, idxD, lenD, tupleD, listD, isiB, inR, h]
  | _ => simp [Kd.andM, Kd.orM, Kd.notM, blM, bin, un, potI, cM, potNE, seqM, potPop, potSet, ifM, brwM, varM, Pot.setI, nilM, ifS, setM, retM, thaw, retNM, tstM, truD, vAndM, vOrM, vNotM, chainM, daM, slM, argsM, tupM, lstM, callM, argsS, idL, multM, argsF, setSs, compM, itSeq, seqD, wipeE, bindT, bindTs, yesM, isiD, itZip, zipD, itEnum, itRange1, idxD, lenD, tupleD, listD, isiB, inR]
theorem len2n (r : List D) : (((r.length : Nat) : Int) + 1 + 1 + 1 == 2) = false := len2 r
theorem law_word_ok (m : Int) (v : D) (g : GG) : s__law_word [.dat (.int m), .dat v] g = some (.ok (word m v) g) := by
  refine fnSem_rt rfl rfl ?_
  show m__law_word [some (.dat (.int m)), some (.dat v), none, none, none] g = _
  unfold m__law_word
  cases v with
  | tuple xs =>
    by_cases hl : xs.length ≤ 3
    · have hl' : ¬ ((3 : Int) < (xs.length : Nat)) := by omega
      let Q : Kd.Env → Prop := fun ρ => ∃ o2 o3 o4, ρ = [some (.dat (.int m)), some (.dat (.tuple xs)), o2, o3, o4]
      let b1 : SM GG := seqM (ifS (Kd.orM (Kd.notM (tstM (un (isiD .tuple) (brwM 3)))) (blM (bin neX (un lenD (brwM 3)) (cM (.int 2))))) (seqM (retM (tupM [cM (.str "weights"), varM 2])) nilM) (nilM)) <|
        seqM (ifS (Kd.orM (Kd.notM (tstM (un (isiD .tuple) (bin idxD (brwM 3) (cM (.int 0)))))) (blM (bin neX (un lenD (bin idxD (brwM 3) (cM (.int 0)))) (brwM 0)))) (seqM (retM (tupM [cM (.str "weights"), varM 2])) nilM) (nilM)) <|
        seqM (ifS (Kd.notM (tstM (un allD (compM (itSeq (bin idxD (brwM 3) (cM (.int 0)))) (.nm 4) (yesM) (callM s__law_whole idL [daM (varM 4), daM (cM (.int 9))]) [4])))) (seqM (retM (tupM [cM (.str "weights"), varM 2])) nilM) (nilM)) nilM
      have f1 := forGo_find (t := .tp (.cons (.nm 2) (.cons (.nm 3) (.nil)))) (m := b1) (g := g) Q (wItem m) (fun c => .tuple [.str "weights", .int (c : Nat)]) xs 0 [some (.dat (.int m)), some (.dat (.tuple xs)), none, none, none] ⟨_, _, _, rfl⟩ fun x hx i ρ hq => by
        obtain ⟨o2, o3, o4, rfl⟩ := hq
        refine ⟨_, rfl, ?_⟩
        have done : ∀ x, (wItem m x = true → b1 [some (.dat (.int m)), some (.dat (.tuple xs)), some (.dat (.int (i : Nat))), some (.dat x), o4] g = some (.nx [some (.dat (.int m)), some (.dat (.tuple xs)), some (.dat (.int (i : Nat))), some (.dat x), o4] g)) ∧
            (wItem m x = false → b1 [some (.dat (.int m)), some (.dat (.tuple xs)), some (.dat (.int (i : Nat))), some (.dat x), o4] g = some (.rt (.tuple [.str "weights", .int (i : Nat)]) g)) := fun x => by
          cases x with
          | tuple ys =>
            match ys with
            | [] => simp [Kd.andM, Kd.orM, Kd.notM, blM, bin, un, potI, cM, potNE, seqM, potPop, potSet, ifM, brwM, varM, Pot.setI, nilM, ifS, setM, retM, thaw, retNM, tstM, truD, vAndM, vOrM, vNotM, chainM, daM, slM, argsM, tupM, lstM, callM, argsS, idL, multM, argsF, setSs, compM, itSeq, seqD, wipeE, bindT, bindTs, yesM, isiD, itZip, zipD, itEnum, itRange1, idxD, lenD, tupleD, listD, b1, isiB, wItem]
            | [a] => simp [Kd.andM, Kd.orM, Kd.notM, blM, bin, un, potI, cM, potNE, seqM, potPop, potSet, ifM, brwM, varM, Pot.setI, nilM, ifS, setM, retM, thaw, retNM, tstM, truD, vAndM, vOrM, vNotM, chainM, daM, slM, argsM, tupM, lstM, callM, argsS, idL, multM, argsF, setSs, compM, itSeq, seqD, wipeE, bindT, bindTs, yesM, isiD, itZip, zipD, itEnum, itRange1, idxD, lenD, tupleD, listD, b1, isiB, wItem]
            | [a, b] =>
              cases a with
              | tuple zs =>
                have hc : compGo (.nm 4) yesM (callM s__law_whole idL [daM (varM 4), daM (cM (.int 9))]) [some (.dat (.int m)), some (.dat (.tuple xs)), some (.dat (.int (i : Nat))), some (.dat (.tuple [.tuple zs, b])), none] zs g = some (.ok (zs.map fun x => .bool (inR 0 9 x)) g) := by
                  have := compGo_all (t := .nm 4) (e := callM s__law_whole idL [daM (varM 4), daM (cM (.int 9))]) (ρ := [some (.dat (.int m)), some (.dat (.tuple xs)), some (.dat (.int (i : Nat))), some (.dat (.tuple [.tuple zs, b])), none]) (g := g) id (fun x => .bool (inR 0 9 x)) zs fun z _ => ⟨_, rfl, by simp [Kd.andM, Kd.orM, Kd.notM, blM, bin, un, potI, cM, potNE, seqM, potPop, potSet, ifM, brwM, varM, Pot.setI, nilM, ifS, setM, retM, thaw, retNM, tstM, truD, vAndM, vOrM, vNotM, chainM, daM, slM, argsM, tupM, lstM, callM, argsS, idL, multM, argsF, setSs, compM, itSeq, seqD, wipeE, bindT, bindTs, yesM, isiD, itZip, zipD, itEnum, itRange1, idxD, lenD, tupleD, listD, law_whole_ok]⟩
                  rwa [List.map_id] at this
                by_cases hm : (zs.length : Int) = m
                · cases hall : zs.all (inR 0 9) with
                  | true => simp [Kd.andM, Kd.orM, Kd.notM, blM, bin, un, potI, cM, potNE, seqM, potPop, potSet, ifM, brwM, varM, Pot.setI, nilM, ifS, setM, retM, thaw, retNM, tstM, truD, vAndM, vOrM, vNotM, chainM, daM, slM, argsM, tupM, lstM, callM, argsS, idL, multM, argsF, setSs, compM, itSeq, seqD, wipeE, bindT, bindTs, yesM, isiD, itZip, zipD, itEnum, itRange1, idxD, lenD, tupleD, listD, b1, isiB, wItem, areN, L2.atI, L2.ixN, hm, hc, allD_map, hall]
                  | false => simp [Kd.andM, Kd.orM, Kd.notM, blM, bin, un, potI, cM, potNE, seqM, potPop, potSet, ifM, brwM, varM, Pot.setI, nilM, ifS, setM, retM, thaw, retNM, tstM, truD, vAndM, vOrM, vNotM, chainM, daM, slM, argsM, tupM, lstM, callM, argsS, idL, multM, argsF, setSs, compM, itSeq, seqD, wipeE, bindT, bindTs, yesM, isiD, itZip, zipD, itEnum, itRange1, idxD, lenD, tupleD, listD, b1, isiB, wItem, areN, L2.atI, L2.ixN, hm, hc, allD_map, hall]
                · have hb : ((zs.length : Int) == m) = false := by simp [Kd.andM, Kd.orM, Kd.notM, blM, bin, un, potI, cM, potNE, seqM, potPop, potSet, ifM, brwM, varM, Pot.setI, nilM, ifS, setM, retM, thaw, retNM, tstM, truD, vAndM, vOrM, vNotM, chainM, daM, slM, argsM, tupM, lstM, callM, argsS, idL, multM, argsF, setSs, compM, itSeq, seqD, wipeE, bindT, bindTs, yesM, isiD, itZip, zipD, itEnum, itRange1, idxD, lenD, tupleD, listD, hm]
                  simp [Kd.andM, Kd.orM, Kd.notM, blM, bin, un, potI, cM, potNE, seqM, potPop, potSet, ifM, brwM, varM, Pot.setI, nilM, ifS, setM, retM, thaw, retNM, tstM, truD, vAndM, vOrM, vNotM, chainM, daM, slM, argsM, tupM, lstM, callM, argsS, idL, multM, argsF, setSs, compM, itSeq, seqD, wipeE, bindT, bindTs, yesM, isiD, itZip, zipD, itEnum, itRange1, idxD, lenD, tupleD, listD, b1, isiB, wItem, areN, L2.atI, L2.ixN, hm, hb]
              | _ => simp [Kd.andM, Kd.orM, Kd.notM, blM, bin, un, potI, cM, potNE, seqM, potPop, potSet, ifM, brwM, varM, Pot.setI, nilM, ifS, setM, retM, thaw, retNM, tstM, truD, vAndM, vOrM, vNotM, chainM, daM, slM, argsM, tupM, lstM, callM, argsS, idL, multM, argsF, setSs, compM, itSeq, seqD, wipeE, bindT, bindTs, yesM, isiD, itZip, zipD, itEnum, itRange1, idxD, lenD, tupleD, listD, b1, isiB, wItem, areN, L2.atI, L2.ixN]
            | a :: b :: c :: r => simp [Kd.andM, Kd.orM, Kd.notM, blM, bin, un, potI, cM, potNE, seqM, potPop, potSet, ifM, brwM, varM, Pot.setI, nilM, ifS, setM, retM, thaw, retNM, tstM, truD, vAndM, vOrM, vNotM, chainM, daM, slM, argsM, tupM, lstM, callM, argsS, idL, multM, argsF, setSs, compM, itSeq, seqD, wipeE, bindT, bindTs, yesM, isiD, itZip, zipD, itEnum, itRange1, idxD, lenD, tupleD, listD, b1, isiB, wItem, len2 r]
          | _ => simp [Kd.andM, Kd.orM, Kd.notM, blM, bin, un, potI, cM, potNE, seqM, potPop, potSet, ifM, brwM, varM, Pot.setI, nilM, ifS, setM, retM, thaw, retNM, tstM, truD, vAndM, vOrM, vNotM, chainM, daM, slM, argsM, tupM, lstM, callM, argsS, idL, multM, argsF, setSs, compM, itSeq, seqD, wipeE, bindT, bindTs, yesM, isiD, itZip, zipD, itEnum, itRange1, idxD, lenD, tupleD, listD, b1, isiB, wItem]
        exact ⟨fun h => ⟨_, (done x).1 h, _, _, _, rfl⟩, (done x).2⟩
      rcases f1 with ⟨h1, ρ1, e1, o2, o3, o4, rfl⟩ | ⟨k, h1, e1⟩
      · have hall := badL_nil h1
        let b2 : SM GG := seqM (ifS (Kd.notM (tstM (callM s__law_whole idL [daM (bin idxD (brwM 3) (cM (.int 1))), daM (bin powD (cM (.int 10)) (cM (.int 9)))]))) (seqM (retM (tupM [cM (.str "most"), varM 2])) nilM) (nilM)) nilM
        have f2 := forGo_find (t := .tp (.cons (.nm 2) (.cons (.nm 3) (.nil)))) (m := b2) (g := g) Q mItem (fun c => .tuple [.str "most", .int (c : Nat)]) xs 0 [some (.dat (.int m)), some (.dat (.tuple xs)), o2, o3, o4] ⟨_, _, _, rfl⟩ fun x hx i ρ hq => by
          obtain ⟨o2, o3, o4, rfl⟩ := hq
          refine ⟨_, rfl, ?_⟩
          obtain ⟨a, b, rfl⟩ := wItem_pair (hall x hx)
          cases hb : inR 0 1000000000 b with
          | true => exact ⟨fun _ => ⟨[some (.dat (.int m)), some (.dat (.tuple xs)), some (.dat (.int (i : Nat))), some (.dat (.tuple [a, b])), o4], by simp [Kd.andM, Kd.orM, Kd.notM, blM, bin, un, potI, cM, potNE, seqM, potPop, potSet, ifM, brwM, varM, Pot.setI, nilM, ifS, setM, retM, thaw, retNM, tstM, truD, vAndM, vOrM, vNotM, chainM, daM, slM, argsM, tupM, lstM, callM, argsS, idL, multM, argsF, setSs, compM, itSeq, seqD, wipeE, bindT, bindTs, yesM, isiD, itZip, zipD, itEnum, itRange1, idxD, lenD, tupleD, listD, b2, L2.atI, L2.ixN, law_whole_ok, hb], _, _, _, rfl⟩, fun h => by simp [Kd.andM, Kd.orM, Kd.notM, blM, bin, un, potI, cM, potNE, seqM, potPop, potSet, ifM, brwM, varM, Pot.setI, nilM, ifS, setM, retM, thaw, retNM, tstM, truD, vAndM, vOrM, vNotM, chainM, daM, slM, argsM, tupM, lstM, callM, argsS, idL, multM, argsF, setSs, compM, itSeq, seqD, wipeE, bindT, bindTs, yesM, isiD, itZip, zipD, itEnum, itRange1, idxD, lenD, tupleD, listD, mItem, hb] at h⟩
          | false => exact ⟨fun h => by simp [Kd.andM, Kd.orM, Kd.notM, blM, bin, un, potI, cM, potNE, seqM, potPop, potSet, ifM, brwM, varM, Pot.setI, nilM, ifS, setM, retM, thaw, retNM, tstM, truD, vAndM, vOrM, vNotM, chainM, daM, slM, argsM, tupM, lstM, callM, argsS, idL, multM, argsF, setSs, compM, itSeq, seqD, wipeE, bindT, bindTs, yesM, isiD, itZip, zipD, itEnum, itRange1, idxD, lenD, tupleD, listD, mItem, hb] at h, fun _ => by simp [Kd.andM, Kd.orM, Kd.notM, blM, bin, un, potI, cM, potNE, seqM, potPop, potSet, ifM, brwM, varM, Pot.setI, nilM, ifS, setM, retM, thaw, retNM, tstM, truD, vAndM, vOrM, vNotM, chainM, daM, slM, argsM, tupM, lstM, callM, argsS, idL, multM, argsF, setSs, compM, itSeq, seqD, wipeE, bindT, bindTs, yesM, isiD, itZip, zipD, itEnum, itRange1, idxD, lenD, tupleD, listD, b2, L2.atI, L2.ixN, law_whole_ok, hb]⟩
        rcases f2 with ⟨h2, ρ2, e2, _⟩ | ⟨k, h2, e2⟩
        · simp only [b1, b2] at e1 e2
          simp [Kd.andM, Kd.orM, Kd.notM, blM, bin, un, potI, cM, potNE, seqM, potPop, potSet, ifM, brwM, varM, Pot.setI, nilM, ifS, setM, retM, thaw, retNM, tstM, truD, vAndM, vOrM, vNotM, chainM, daM, slM, argsM, tupM, lstM, callM, argsS, idL, multM, argsF, setSs, compM, itSeq, seqD, wipeE, bindT, bindTs, yesM, isiD, itZip, zipD, itEnum, itRange1, idxD, lenD, tupleD, listD, isiB, hl', Kd.forM, e1, e2, word, hl, iPos, h1, h2]
        · simp only [b1, b2] at e1 e2
          simp [Kd.andM, Kd.orM, Kd.notM, blM, bin, un, potI, cM, potNE, seqM, potPop, potSet, ifM, brwM, varM, Pot.setI, nilM, ifS, setM, retM, thaw, retNM, tstM, truD, vAndM, vOrM, vNotM, chainM, daM, slM, argsM, tupM, lstM, callM, argsS, idL, multM, argsF, setSs, compM, itSeq, seqD, wipeE, bindT, bindTs, yesM, isiD, itZip, zipD, itEnum, itRange1, idxD, lenD, tupleD, listD, isiB, hl', Kd.forM, e1, e2, word, hl, iPos, h1, h2]
      · simp only [b1] at e1
        simp [Kd.andM, Kd.orM, Kd.notM, blM, bin, un, potI, cM, potNE, seqM, potPop, potSet, ifM, brwM, varM, Pot.setI, nilM, ifS, setM, retM, thaw, retNM, tstM, truD, vAndM, vOrM, vNotM, chainM, daM, slM, argsM, tupM, lstM, callM, argsS, idL, multM, argsF, setSs, compM, itSeq, seqD, wipeE, bindT, bindTs, yesM, isiD, itZip, zipD, itEnum, itRange1, idxD, lenD, tupleD, listD, isiB, hl', Kd.forM, e1, word, hl, iPos, h1]
    · have hl' : (3 : Int) < (xs.length : Nat) := by omega
      simp [Kd.andM, Kd.orM, Kd.notM, blM, bin, un, potI, cM, potNE, seqM, potPop, potSet, ifM, brwM, varM, Pot.setI, nilM, ifS, setM, retM, thaw, retNM, tstM, truD, vAndM, vOrM, vNotM, chainM, daM, slM, argsM, tupM, lstM, callM, argsS, idL, multM, argsF, setSs, compM, itSeq, seqD, wipeE, bindT, bindTs, yesM, isiD, itZip, zipD, itEnum, itRange1, idxD, lenD, tupleD, listD, isiB, hl', word, hl]
  | _ => simp [Kd.andM, Kd.orM, Kd.notM, blM, bin, un, potI, cM, potNE, seqM, potPop, potSet, ifM, brwM, varM, Pot.setI, nilM, ifS, setM, retM, thaw, retNM, tstM, truD, vAndM, vOrM, vNotM, chainM, daM, slM, argsM, tupM, lstM, callM, argsS, idL, multM, argsF, setSs, compM, itSeq, seqD, wipeE, bindT, bindTs, yesM, isiD, itZip, zipD, itEnum, itRange1, idxD, lenD, tupleD, listD, isiB, word]
theorem niceSmall {h n : Nat} {i : Int} (hi : -(10 ^ 30) ≤ i ∧ i ≤ 10 ^ 30) : Nice h n (.int i) := Nice.int (by
  have : i.natAbs ≤ 10 ^ 30 := by omega
  exact Nat.lt_of_le_of_lt this (by decide +kernel))
theorem badL_lt {P : D → Bool} : ∀ {xs : List D} {i k : Nat}, (badL P i xs).head? = some k → k < i + xs.length
  | [], _, _, h => nomatch h
  | y :: ys, i, k, h => by
    unfold badL at h
    cases hp : P y with
    | true =>
      simp only [hp] at h
      have := badL_lt h
      simp only [List.length_cons]; omega
    | false =>
      simp only [hp] at h
      cases h
      simp only [List.length_cons]; omega
theorem word_nice (m : Int) (v : D) : Nice 2 100 (word m v) := by
  have hS : ∀ x : Str, x ∈ ([("weights" : Str), "most", "form"] : List Str) → Nice 1 10 (.str x) := fun x hx => by
    simp only [List.mem_cons, List.not_mem_nil, or_false] at hx
    rcases hx with rfl | rfl | rfl <;> exact Nice.str (by decide +kernel) (by decide +kernel)
  have pair : ∀ (x : Str) (c : Nat), x ∈ ([("weights" : Str), "most", "form"] : List Str) → c < 100 → Nice 2 100 (.tuple [.str x, .int (c : Nat)]) := fun x c hx hc =>
    (Nice.tuple (k := 2) (h := 1) (n := 10) (xs := [.str x, .int (c : Nat)]) (fun y hy => by
      simp only [List.mem_cons, List.not_mem_nil, or_false] at hy
      rcases hy with rfl | rfl
      · exact hS x hx
      · exact niceSmall (by omega)) (Nat.le_refl 2)).mono (Nat.le_refl _) (by decide)
  have form : Nice 2 100 (.str "form") := (hS "form" (by simp [Kd.andM, Kd.orM, Kd.notM, blM, bin, un, potI, cM, potNE, seqM, potPop, potSet, ifM, brwM, varM, Pot.setI, nilM, ifS, setM, retM, thaw, retNM, tstM, truD, vAndM, vOrM, vNotM, chainM, daM, slM, argsM, tupM, lstM, callM, argsS, idL, multM, argsF, setSs, compM, itSeq, seqD, wipeE, bindT, bindTs, yesM, isiD, itZip, zipD, itEnum, itRange1, idxD, lenD, tupleD, listD])).mono (by decide) (by decide)
  cases v with
  | tuple xs =>
    unfold word
    dsimp only
    by_cases hl : xs.length ≤ 3
    · rw [if_pos hl]
      split
      · rename_i c hc
        have := badL_lt hc
        exact pair _ c (by simp [Kd.andM, Kd.orM, Kd.notM, blM, bin, un, potI, cM, potNE, seqM, potPop, potSet, ifM, brwM, varM, Pot.setI, nilM, ifS, setM, retM, thaw, retNM, tstM, truD, vAndM, vOrM, vNotM, chainM, daM, slM, argsM, tupM, lstM, callM, argsS, idL, multM, argsF, setSs, compM, itSeq, seqD, wipeE, bindT, bindTs, yesM, isiD, itZip, zipD, itEnum, itRange1, idxD, lenD, tupleD, listD]) (by omega)
      · split
        · rename_i c hc
          have := badL_lt hc
          exact pair _ c (by simp [Kd.andM, Kd.orM, Kd.notM, blM, bin, un, potI, cM, potNE, seqM, potPop, potSet, ifM, brwM, varM, Pot.setI, nilM, ifS, setM, retM, thaw, retNM, tstM, truD, vAndM, vOrM, vNotM, chainM, daM, slM, argsM, tupM, lstM, callM, argsS, idL, multM, argsF, setSs, compM, itSeq, seqD, wipeE, bindT, bindTs, yesM, isiD, itZip, zipD, itEnum, itRange1, idxD, lenD, tupleD, listD]) (by omega)
        · exact Nice.non
    · rw [if_neg hl]; exact form
  | _ => exact form
theorem is_word_right_ok (m : Int) {v : D} {h n : Nat} (hv : Nice h n v) (a : h ≤ 64) (b : n ≤ 20000) (g : GG) : s__law_is_word_right [.dat (.int m), .dat v] g = some (.ok (.bool true) g) := by
  refine fnSem_rt rfl rfl ?_
  show m__law_is_word_right [some (.dat (.int m)), some (.dat v), none, none, none, none] g = _
  unfold m__law_is_word_right
  have w := (word_nice m v).rp (by decide) (by decide)
  have e : gp_caps_error__value_m [Sv.dat v, Sv.dat (.int m)] = [Sv.dat (.int m), Sv.dat v] := rfl
  simp [Kd.andM, Kd.orM, Kd.notM, blM, bin, un, potI, cM, potNE, seqM, potPop, potSet, ifM, brwM, varM, Pot.setI, nilM, ifS, setM, retM, thaw, retNM, tstM, truD, vAndM, vOrM, vNotM, chainM, daM, slM, argsM, tupM, lstM, callM, argsS, idL, multM, argsF, setSs, compM, itSeq, seqD, wipeE, bindT, bindTs, yesM, isiD, itZip, zipD, itEnum, itRange1, idxD, lenD, tupleD, listD, hv.rp a b, law_word_ok, w, caps_error_ok, e]
end K77

end part_K77C
section part_K77D
namespace K77
open PySem Kd
/-! ### the law's own reckoning -/
theorem law_sum_ok {w : List Int} (hw : Sm w) (r : List Int) (g : GG) : s__law_sum [.dat (tI w), .dat (tI r)] g = some (.ok (.int (dot w r)) g) := watched_sum_ok hw r g
theorem law_change_ok {w : List Int} (hw : Sm w) (s : List Int × List Int) (g : GG) : s__law_change [.dat (tSt s), .dat (tI w)] g = some (.ok (.int (dot w s.2 - dot w s.1)) g) := by
  refine fnSem_rt rfl rfl ?_
  show m__law_change [some (.dat (tSt s)), some (.dat (tI w))] g = _
  unfold m__law_change
  simp [Kd.andM, Kd.orM, Kd.notM, blM, bin, un, potI, cM, potNE, seqM, potPop, potSet, ifM, brwM, varM, Pot.setI, nilM, ifS, setM, retM, thaw, retNM, tstM, truD, vAndM, vOrM, vNotM, chainM, daM, slM, argsM, tupM, lstM, callM, argsS, idL, multM, argsF, setSs, compM, itSeq, seqD, wipeE, bindT, bindTs, yesM, isiD, itZip, zipD, itEnum, itRange1, idxD, lenD, tupleD, listD, setOM, appM, extM, itZip3, L2.atI, L2.ixN, law_sum_ok hw]
theorem law_is_let_ok (s : List Int × List Int) (st : List Int) (g : GG) : s__law_is_let [.dat (tSt s), .dat (tI st)] g = some (.ok (.bool (isLet s st)) g) := by
  refine fnSem_rt rfl rfl ?_
  show m__law_is_let [some (.dat (tSt s)), some (.dat (tI st)), none, none] g = _
  unfold m__law_is_let
  have hc := compGo_all (t := .tp (.cons (.nm 2) (.cons (.nm 3) (.nil)))) (e := bin geI (brwM 2) (brwM 3)) (ρ := [some (.dat (tSt s)), some (.dat (tI st)), none, none]) (g := g) (fun p : Int × Int => .tuple [.int p.1, .int p.2]) (fun p => .bool (decide (p.2 ≤ p.1))) (st.zip s.1) fun z _ => ⟨_, rfl, by simp [Kd.andM, Kd.orM, Kd.notM, blM, bin, un, potI, cM, potNE, seqM, potPop, potSet, ifM, brwM, varM, Pot.setI, nilM, ifS, setM, retM, thaw, retNM, tstM, truD, vAndM, vOrM, vNotM, chainM, daM, slM, argsM, tupM, lstM, callM, argsS, idL, multM, argsF, setSs, compM, itSeq, seqD, wipeE, bindT, bindTs, yesM, isiD, itZip, zipD, itEnum, itRange1, idxD, lenD, tupleD, listD, setOM, appM, extM, itZip3]⟩
  simp [Kd.andM, Kd.orM, Kd.notM, blM, bin, un, potI, cM, potNE, seqM, potPop, potSet, ifM, brwM, varM, Pot.setI, nilM, ifS, setM, retM, thaw, retNM, tstM, truD, vAndM, vOrM, vNotM, chainM, daM, slM, argsM, tupM, lstM, callM, argsS, idL, multM, argsF, setSs, compM, itSeq, seqD, wipeE, bindT, bindTs, yesM, isiD, itZip, zipD, itEnum, itRange1, idxD, lenD, tupleD, listD, setOM, appM, extM, itZip3, L2.atI, L2.ixN, zipL_ints, hc, allD_map, isLet]
def z3 : List Int → List Int → List Int → List (Int × Int × Int)
  | a :: as, b :: bs, c :: cs => (a, b, c) :: z3 as bs cs
  | _, _, _ => []
theorem zip3L_ints : ∀ a b c : List Int, zip3L (a.map PyData.int) (b.map PyData.int) (c.map PyData.int) = (z3 a b c).map fun p => .tuple [.int p.1, .int p.2.1, .int p.2.2]
  | [], _, _ => by simp [Kd.andM, Kd.orM, Kd.notM, blM, bin, un, potI, cM, potNE, seqM, potPop, potSet, ifM, brwM, varM, Pot.setI, nilM, ifS, setM, retM, thaw, retNM, tstM, truD, vAndM, vOrM, vNotM, chainM, daM, slM, argsM, tupM, lstM, callM, argsS, idL, multM, argsF, setSs, compM, itSeq, seqD, wipeE, bindT, bindTs, yesM, isiD, itZip, zipD, itEnum, itRange1, idxD, lenD, tupleD, listD, setOM, appM, extM, itZip3, zip3L, z3]
  | _ :: _, [], _ => by simp [Kd.andM, Kd.orM, Kd.notM, blM, bin, un, potI, cM, potNE, seqM, potPop, potSet, ifM, brwM, varM, Pot.setI, nilM, ifS, setM, retM, thaw, retNM, tstM, truD, vAndM, vOrM, vNotM, chainM, daM, slM, argsM, tupM, lstM, callM, argsS, idL, multM, argsF, setSs, compM, itSeq, seqD, wipeE, bindT, bindTs, yesM, isiD, itZip, zipD, itEnum, itRange1, idxD, lenD, tupleD, listD, setOM, appM, extM, itZip3, zip3L, z3]
  | _ :: _, _ :: _, [] => by simp [Kd.andM, Kd.orM, Kd.notM, blM, bin, un, potI, cM, potNE, seqM, potPop, potSet, ifM, brwM, varM, Pot.setI, nilM, ifS, setM, retM, thaw, retNM, tstM, truD, vAndM, vOrM, vNotM, chainM, daM, slM, argsM, tupM, lstM, callM, argsS, idL, multM, argsF, setSs, compM, itSeq, seqD, wipeE, bindT, bindTs, yesM, isiD, itZip, zipD, itEnum, itRange1, idxD, lenD, tupleD, listD, setOM, appM, extM, itZip3, zip3L, z3]
  | a :: as, b :: bs, c :: cs => by simp [Kd.andM, Kd.orM, Kd.notM, blM, bin, un, potI, cM, potNE, seqM, potPop, potSet, ifM, brwM, varM, Pot.setI, nilM, ifS, setM, retM, thaw, retNM, tstM, truD, vAndM, vOrM, vNotM, chainM, daM, slM, argsM, tupM, lstM, callM, argsS, idL, multM, argsF, setSs, compM, itSeq, seqD, wipeE, bindT, bindTs, yesM, isiD, itZip, zipD, itEnum, itRange1, idxD, lenD, tupleD, listD, setOM, appM, extM, itZip3, zip3L, z3, zip3L_ints as bs cs]
def done (s : List Int × List Int) (st : List Int) : List Int := (z3 st s.1 s.2).map fun p => p.1 - p.2.1 + p.2.2
theorem law_done_ok (s : List Int × List Int) (st : List Int) (g : GG) : s__law_done [.dat (tSt s), .dat (tI st)] g = some (.ok (tI (done s st)) g) := by
  refine fnSem_rt rfl rfl ?_
  show m__law_done [some (.dat (tSt s)), some (.dat (tI st)), none, none, none] g = _
  unfold m__law_done
  have hc := compGo_all (t := .tp (.cons (.nm 2) (.cons (.nm 3) (.cons (.nm 4) (.nil))))) (e := bin addD (bin subD (brwM 2) (brwM 3)) (brwM 4)) (ρ := [some (.dat (tSt s)), some (.dat (tI st)), none, none, none]) (g := g) (fun p : Int × Int × Int => .tuple [.int p.1, .int p.2.1, .int p.2.2]) (fun p => .int (p.1 - p.2.1 + p.2.2)) (z3 st s.1 s.2) fun z _ => ⟨_, rfl, by simp [Kd.andM, Kd.orM, Kd.notM, blM, bin, un, potI, cM, potNE, seqM, potPop, potSet, ifM, brwM, varM, Pot.setI, nilM, ifS, setM, retM, thaw, retNM, tstM, truD, vAndM, vOrM, vNotM, chainM, daM, slM, argsM, tupM, lstM, callM, argsS, idL, multM, argsF, setSs, compM, itSeq, seqD, wipeE, bindT, bindTs, yesM, isiD, itZip, zipD, itEnum, itRange1, idxD, lenD, tupleD, listD, setOM, appM, extM, itZip3]⟩
  simp [Kd.andM, Kd.orM, Kd.notM, blM, bin, un, potI, cM, potNE, seqM, potPop, potSet, ifM, brwM, varM, Pot.setI, nilM, ifS, setM, retM, thaw, retNM, tstM, truD, vAndM, vOrM, vNotM, chainM, daM, slM, argsM, tupM, lstM, callM, argsS, idL, multM, argsF, setSs, compM, itSeq, seqD, wipeE, bindT, bindTs, yesM, isiD, itZip, zipD, itEnum, itRange1, idxD, lenD, tupleD, listD, setOM, appM, extM, itZip3, L2.atI, L2.ixN, zip3L_ints, hc, done]
theorem law_keeps_ok {cs : List (List Int × Int)} (hc : SmC cs) (st : List Int) (g : GG) : s__law_keeps [.dat (tCaps cs), .dat (tI st)] g = some (.ok (.bool (keeps cs st)) g) := by
  refine fnSem_rt rfl rfl ?_
  show m__law_keeps [some (.dat (tCaps cs)), some (.dat (tI st)), none] g = _
  unfold m__law_keeps
  have hcc := compGo_all (t := .nm 2) (e := bin leI (callM s__law_sum idL [daM (bin idxD (brwM 2) (cM (.int 0))), daM (varM 1)]) (bin idxD (brwM 2) (cM (.int 1)))) (ρ := [some (.dat (tCaps cs)), some (.dat (tI st)), none]) (g := g) tCap (fun c => .bool (decide (dot c.1 st ≤ c.2))) cs fun z hz => ⟨_, rfl, by
    simp [Kd.andM, Kd.orM, Kd.notM, blM, bin, un, potI, cM, potNE, seqM, potPop, potSet, ifM, brwM, varM, Pot.setI, nilM, ifS, setM, retM, thaw, retNM, tstM, truD, vAndM, vOrM, vNotM, chainM, daM, slM, argsM, tupM, lstM, callM, argsS, idL, multM, argsF, setSs, compM, itSeq, seqD, wipeE, bindT, bindTs, yesM, isiD, itZip, zipD, itEnum, itRange1, idxD, lenD, tupleD, listD, setOM, appM, extM, itZip3, L2.atI, L2.ixN, law_sum_ok (hc z hz)]⟩
  have e : (cs.all fun c => decide (dot c.1 st ≤ c.2)) = keeps cs st := by
    unfold keeps slk
    rw [List.all_map]
    congr 1
    funext c
    simp only [Function.comp]
    by_cases h : dot c.1 st ≤ c.2
    · rw [decide_eq_true h, decide_eq_true (by omega)]
    · rw [decide_eq_false h, decide_eq_false (by omega)]
  simp [Kd.andM, Kd.orM, Kd.notM, blM, bin, un, potI, cM, potNE, seqM, potPop, potSet, ifM, brwM, varM, Pot.setI, nilM, ifS, setM, retM, thaw, retNM, tstM, truD, vAndM, vOrM, vNotM, chainM, daM, slM, argsM, tupM, lstM, callM, argsS, idL, multM, argsF, setSs, compM, itSeq, seqD, wipeE, bindT, bindTs, yesM, isiD, itZip, zipD, itEnum, itRange1, idxD, lenD, tupleD, listD, setOM, appM, extM, itZip3, hcc, allD_map, e]
def brkC (net : List (List Int × List Int)) (cs : List (List Int × Int)) (st : List Int) (k : Nat) : Bool := match net[k]? with
  | some s => isLet s st && !keeps cs (done s st)
  | none => false
theorem law_breaking_ok {net : List (List Int × List Int)} {cs : List (List Int × Int)} (hn : net.length ≤ 1000) (hc : SmC cs) (st : List Int) (g : GG) :
    s__law_breaking [.dat (tNet net), .dat (tCaps cs), .dat (tI st)] g = some (.ok (.tuple (((List.range net.length).filter (brkC net cs st)).map fun (k : Nat) => .int (k : Nat))) g) := by
  refine fnSem_rt rfl rfl ?_
  show m__law_breaking [some (.dat (tNet net)), some (.dat (tCaps cs)), some (.dat (tI st)), none, none, none] g = _
  unfold m__law_breaking
  let body : SM GG := seqM (ifS (Kd.andM (tstM (callM s__law_is_let idL [daM (varM 5), daM (varM 2)])) (Kd.notM (tstM (callM s__law_keeps idL [daM (varM 1), daM (callM s__law_done idL [daM (varM 5), daM (varM 2)])])))) (seqM (appM 3 (varM 4)) nilM) (nilM)) nilM
  let P : Nat → Kd.Env → GG → Prop := fun i ρ g' => g' = g ∧ ∃ o4 o5, ρ = [some (.dat (tNet net)), some (.dat (tCaps cs)), some (.dat (tI st)), some (.own (.list (((List.range i).filter (brkC net cs st)).map fun (k : Nat) => .int (k : Nat)))), o4, o5]
  obtain ⟨ρ1, g1, e1, rfl, o4, o5, rfl⟩ := forGo_nx (t := .tp (.cons (.nm 4) (.cons (.nm 5) (.nil)))) (m := body) P (enumL 0 (net.map tSt)) 0 [some (.dat (tNet net)), some (.dat (tCaps cs)), some (.dat (tI st)), some (.own (.list [])), none, none] g ⟨rfl, none, none, rfl⟩ fun i x ρ g' hx hP => by
    obtain ⟨rfl, o4, o5, rfl⟩ := hP
    rw [enumL_get, List.getElem?_map, Nat.zero_add] at hx
    cases hs : net[i]? with
    | none => rw [hs] at hx; cases hx
    | some s =>
      rw [hs] at hx
      cases hx
      have hi : i < net.length := (List.getElem?_eq_some_iff.mp hs).1
      have hlen : ((List.range i).filter (brkC net cs st)).length ≤ i := by
        have := List.length_filter_le (brkC net cs st) (List.range i)
        rwa [List.length_range] at this
      rw [Nat.zero_add]
      refine ⟨_, [some (.dat (tNet net)), some (.dat (tCaps cs)), some (.dat (tI st)), some (.own (.list (((List.range (i + 1)).filter (brkC net cs st)).map fun (k : Nat) => .int (k : Nat)))), some (.dat (.int (i : Nat))), some (.dat (tSt s))], g', rfl, .inl ?_, rfl, _, _, rfl⟩
      have hb : brkC net cs st i = (isLet s st && !keeps cs (done s st)) := by unfold brkC; rw [hs]
      rw [List.range_succ, List.filter_append, List.map_append]
      cases hl : isLet s st with
      | false =>
        rw [hl, Bool.false_and] at hb
        simp [Kd.andM, Kd.orM, Kd.notM, blM, bin, un, potI, cM, potNE, seqM, potPop, potSet, ifM, brwM, varM, Pot.setI, nilM, ifS, setM, retM, thaw, retNM, tstM, truD, vAndM, vOrM, vNotM, chainM, daM, slM, argsM, tupM, lstM, callM, argsS, idL, multM, argsF, setSs, compM, itSeq, seqD, wipeE, bindT, bindTs, yesM, isiD, itZip, zipD, itEnum, itRange1, idxD, lenD, tupleD, listD, setOM, appM, extM, itZip3, body, law_is_let_ok, hl, hb]
      | true =>
        cases hk : keeps cs (done s st) with
        | true =>
          rw [hl, hk] at hb
          simp [Kd.andM, Kd.orM, Kd.notM, blM, bin, un, potI, cM, potNE, seqM, potPop, potSet, ifM, brwM, varM, Pot.setI, nilM, ifS, setM, retM, thaw, retNM, tstM, truD, vAndM, vOrM, vNotM, chainM, daM, slM, argsM, tupM, lstM, callM, argsS, idL, multM, argsF, setSs, compM, itSeq, seqD, wipeE, bindT, bindTs, yesM, isiD, itZip, zipD, itEnum, itRange1, idxD, lenD, tupleD, listD, setOM, appM, extM, itZip3, body, law_is_let_ok, hl, law_done_ok, law_keeps_ok hc, hk, hb]
        | false =>
          rw [hl, hk] at hb
          have hlt : ((List.range i).filter (brkC net cs st)).length < 16777216 := by omega
          simp [Kd.andM, Kd.orM, Kd.notM, blM, bin, un, potI, cM, potNE, seqM, potPop, potSet, ifM, brwM, varM, Pot.setI, nilM, ifS, setM, retM, thaw, retNM, tstM, truD, vAndM, vOrM, vNotM, chainM, daM, slM, argsM, tupM, lstM, callM, argsS, idL, multM, argsF, setSs, compM, itSeq, seqD, wipeE, bindT, bindTs, yesM, isiD, itZip, zipD, itEnum, itRange1, idxD, lenD, tupleD, listD, setOM, appM, extM, itZip3, body, law_is_let_ok, hl, law_done_ok, law_keeps_ok hc, hk, hb, hlt]
  simp only [body] at e1
  have hl : (enumL 0 (net.map tSt)).length = net.length := by rw [enumL_len, List.length_map]
  rw [hl, Nat.zero_add] at e1
  simp [Kd.andM, Kd.orM, Kd.notM, blM, bin, un, potI, cM, potNE, seqM, potPop, potSet, ifM, brwM, varM, Pot.setI, nilM, ifS, setM, retM, thaw, retNM, tstM, truD, vAndM, vOrM, vNotM, chainM, daM, slM, argsM, tupM, lstM, callM, argsS, idL, multM, argsF, setSs, compM, itSeq, seqD, wipeE, bindT, bindTs, yesM, isiD, itZip, zipD, itEnum, itRange1, idxD, lenD, tupleD, listD, setOM, appM, extM, itZip3, Kd.forM, e1]
end K77

end part_K77D
section part_K77E
namespace K77
open PySem Kd
/-! ### bounds -/
def Bd (A : Nat) (xs : List Int) : Prop := ∀ x ∈ xs, x.natAbs ≤ A
theorem dot_cons (a b : Int) (w r : List Int) : dot (a :: w) (b :: r) = a * b + dot w r := by simp [Kd.andM, Kd.orM, Kd.notM, blM, bin, un, potI, cM, potNE, seqM, potPop, potSet, ifM, brwM, varM, Pot.setI, nilM, ifS, setM, retM, thaw, retNM, tstM, truD, vAndM, vOrM, vNotM, chainM, daM, slM, argsM, tupM, lstM, callM, argsS, idL, multM, argsF, setSs, compM, itSeq, seqD, wipeE, bindT, bindTs, yesM, isiD, itZip, zipD, itEnum, itRange1, idxD, lenD, tupleD, listD, setOM, appM, extM, itZip3, dot]
theorem dot_nil (r : List Int) : dot [] r = 0 := by simp [Kd.andM, Kd.orM, Kd.notM, blM, bin, un, potI, cM, potNE, seqM, potPop, potSet, ifM, brwM, varM, Pot.setI, nilM, ifS, setM, retM, thaw, retNM, tstM, truD, vAndM, vOrM, vNotM, chainM, daM, slM, argsM, tupM, lstM, callM, argsS, idL, multM, argsF, setSs, compM, itSeq, seqD, wipeE, bindT, bindTs, yesM, isiD, itZip, zipD, itEnum, itRange1, idxD, lenD, tupleD, listD, setOM, appM, extM, itZip3, dot]
theorem dot_nil2 (w : List Int) : dot w [] = 0 := by simp [Kd.andM, Kd.orM, Kd.notM, blM, bin, un, potI, cM, potNE, seqM, potPop, potSet, ifM, brwM, varM, Pot.setI, nilM, ifS, setM, retM, thaw, retNM, tstM, truD, vAndM, vOrM, vNotM, chainM, daM, slM, argsM, tupM, lstM, callM, argsS, idL, multM, argsF, setSs, compM, itSeq, seqD, wipeE, bindT, bindTs, yesM, isiD, itZip, zipD, itEnum, itRange1, idxD, lenD, tupleD, listD, setOM, appM, extM, itZip3, dot]
theorem dot_bd {A B : Nat} : ∀ {w r : List Int}, Bd A w → Bd B r → (dot w r).natAbs ≤ w.length * (A * B)
  | [], r, _, _ => by rw [dot_nil]; simp [Kd.andM, Kd.orM, Kd.notM, blM, bin, un, potI, cM, potNE, seqM, potPop, potSet, ifM, brwM, varM, Pot.setI, nilM, ifS, setM, retM, thaw, retNM, tstM, truD, vAndM, vOrM, vNotM, chainM, daM, slM, argsM, tupM, lstM, callM, argsS, idL, multM, argsF, setSs, compM, itSeq, seqD, wipeE, bindT, bindTs, yesM, isiD, itZip, zipD, itEnum, itRange1, idxD, lenD, tupleD, listD, setOM, appM, extM, itZip3]
  | a :: w, [], _, _ => by rw [dot_nil2]; simp [Kd.andM, Kd.orM, Kd.notM, blM, bin, un, potI, cM, potNE, seqM, potPop, potSet, ifM, brwM, varM, Pot.setI, nilM, ifS, setM, retM, thaw, retNM, tstM, truD, vAndM, vOrM, vNotM, chainM, daM, slM, argsM, tupM, lstM, callM, argsS, idL, multM, argsF, setSs, compM, itSeq, seqD, wipeE, bindT, bindTs, yesM, isiD, itZip, zipD, itEnum, itRange1, idxD, lenD, tupleD, listD, setOM, appM, extM, itZip3]
  | a :: w, b :: r, hw, hr => by
    have h1 := dot_bd (fun x hx => hw x (List.mem_cons_of_mem _ hx)) (fun x hx => hr x (List.mem_cons_of_mem _ hx)) (w := w) (r := r)
    have h2 : (a * b).natAbs ≤ A * B := by
      rw [Int.natAbs_mul]
      exact Nat.mul_le_mul (hw a (by simp [Kd.andM, Kd.orM, Kd.notM, blM, bin, un, potI, cM, potNE, seqM, potPop, potSet, ifM, brwM, varM, Pot.setI, nilM, ifS, setM, retM, thaw, retNM, tstM, truD, vAndM, vOrM, vNotM, chainM, daM, slM, argsM, tupM, lstM, callM, argsS, idL, multM, argsF, setSs, compM, itSeq, seqD, wipeE, bindT, bindTs, yesM, isiD, itZip, zipD, itEnum, itRange1, idxD, lenD, tupleD, listD, setOM, appM, extM, itZip3])) (hr b (by simp [Kd.andM, Kd.orM, Kd.notM, blM, bin, un, potI, cM, potNE, seqM, potPop, potSet, ifM, brwM, varM, Pot.setI, nilM, ifS, setM, retM, thaw, retNM, tstM, truD, vAndM, vOrM, vNotM, chainM, daM, slM, argsM, tupM, lstM, callM, argsS, idL, multM, argsF, setSs, compM, itSeq, seqD, wipeE, bindT, bindTs, yesM, isiD, itZip, zipD, itEnum, itRange1, idxD, lenD, tupleD, listD, setOM, appM, extM, itZip3]))
    rw [dot_cons, List.length_cons, Nat.succ_mul]
    have := Int.natAbs_add_le (a * b) (dot w r)
    omega
theorem dot_sub : ∀ {w a b : List Int}, w.length = a.length → w.length = b.length → dot w (chg (a, b)) = dot w b - dot w a
  | [], a, b, _, _ => by rw [dot_nil, dot_nil, dot_nil]; rfl
  | x :: w, [], _, h, _ => by cases h
  | x :: w, _ :: _, [], _, h => by cases h
  | x :: w, y :: a, z :: b, h1, h2 => by
    have ih := dot_sub (w := w) (a := a) (b := b) (by simpa using h1) (by simpa using h2)
    have e : chg (y :: a, z :: b) = (z - y) :: chg (a, b) := by simp [Kd.andM, Kd.orM, Kd.notM, blM, bin, un, potI, cM, potNE, seqM, potPop, potSet, ifM, brwM, varM, Pot.setI, nilM, ifS, setM, retM, thaw, retNM, tstM, truD, vAndM, vOrM, vNotM, chainM, daM, slM, argsM, tupM, lstM, callM, argsS, idL, multM, argsF, setSs, compM, itSeq, seqD, wipeE, bindT, bindTs, yesM, isiD, itZip, zipD, itEnum, itRange1, idxD, lenD, tupleD, listD, setOM, appM, extM, itZip3, chg]
    rw [e, dot_cons, dot_cons, dot_cons, ih, Int.mul_sub]
    omega
theorem done_mov : ∀ {st a b : List Int}, st.length = a.length → st.length = b.length → done (a, b) st = mov st (chg (a, b))
  | [], a, b, _, _ => by simp [Kd.andM, Kd.orM, Kd.notM, blM, bin, un, potI, cM, potNE, seqM, potPop, potSet, ifM, brwM, varM, Pot.setI, nilM, ifS, setM, retM, thaw, retNM, tstM, truD, vAndM, vOrM, vNotM, chainM, daM, slM, argsM, tupM, lstM, callM, argsS, idL, multM, argsF, setSs, compM, itSeq, seqD, wipeE, bindT, bindTs, yesM, isiD, itZip, zipD, itEnum, itRange1, idxD, lenD, tupleD, listD, setOM, appM, extM, itZip3, done, z3, mov]
  | x :: w, [], _, h, _ => by cases h
  | x :: w, _ :: _, [], _, h => by cases h
  | x :: w, y :: a, z :: b, h1, h2 => by
    have ih := done_mov (st := w) (a := a) (b := b) (by simpa using h1) (by simpa using h2)
    have e : chg (y :: a, z :: b) = (z - y) :: chg (a, b) := by simp [Kd.andM, Kd.orM, Kd.notM, blM, bin, un, potI, cM, potNE, seqM, potPop, potSet, ifM, brwM, varM, Pot.setI, nilM, ifS, setM, retM, thaw, retNM, tstM, truD, vAndM, vOrM, vNotM, chainM, daM, slM, argsM, tupM, lstM, callM, argsS, idL, multM, argsF, setSs, compM, itSeq, seqD, wipeE, bindT, bindTs, yesM, isiD, itZip, zipD, itEnum, itRange1, idxD, lenD, tupleD, listD, setOM, appM, extM, itZip3, chg]
    have e1 : done (y :: a, z :: b) (x :: w) = (x - y + z) :: done (a, b) w := by simp [Kd.andM, Kd.orM, Kd.notM, blM, bin, un, potI, cM, potNE, seqM, potPop, potSet, ifM, brwM, varM, Pot.setI, nilM, ifS, setM, retM, thaw, retNM, tstM, truD, vAndM, vOrM, vNotM, chainM, daM, slM, argsM, tupM, lstM, callM, argsS, idL, multM, argsF, setSs, compM, itSeq, seqD, wipeE, bindT, bindTs, yesM, isiD, itZip, zipD, itEnum, itRange1, idxD, lenD, tupleD, listD, setOM, appM, extM, itZip3, done, z3]
    have e2 : mov (x :: w) ((z - y) :: chg (a, b)) = (x + (z - y)) :: mov w (chg (a, b)) := by simp [Kd.andM, Kd.orM, Kd.notM, blM, bin, un, potI, cM, potNE, seqM, potPop, potSet, ifM, brwM, varM, Pot.setI, nilM, ifS, setM, retM, thaw, retNM, tstM, truD, vAndM, vOrM, vNotM, chainM, daM, slM, argsM, tupM, lstM, callM, argsS, idL, multM, argsF, setSs, compM, itSeq, seqD, wipeE, bindT, bindTs, yesM, isiD, itZip, zipD, itEnum, itRange1, idxD, lenD, tupleD, listD, setOM, appM, extM, itZip3, mov]
    rw [e, e1, e2, ih]
    congr 1
    omega
/-- a net, a state, caps that fit one another -/
structure WF (m : Nat) (net : List (List Int × List Int)) (st : List Int) (cs : List (List Int × Int)) : Prop where
  hm : m ≤ 8
  ln : net.length ≤ 20
  lc : cs.length ≤ 10
  net : ∀ s ∈ net, s.1.length = m ∧ s.2.length = m ∧ Bd (10 ^ 10) s.1 ∧ Bd (10 ^ 10) s.2
  st : st.length = m ∧ Bd (10 ^ 11) st
  cs : ∀ c ∈ cs, c.1.length = m ∧ Bd (10 ^ 3) c.1 ∧ c.2.natAbs ≤ 10 ^ 11
theorem Bd.sm {w : List Int} {A : Nat} (hA : A < 2 ^ 64) (h : Bd A w) : Sm w := fun x hx => by
  have := h x hx
  omega
theorem WF.sm {m : Nat} {net : List (List Int × List Int)} {st : List Int} {cs : List (List Int × Int)} (W : WF m net st cs) : SmC cs := fun c hc => (W.cs c hc).2.1.sm (by decide)
theorem brk_eq {m : Nat} {net : List (List Int × List Int)} {st : List Int} {cs : List (List Int × Int)} (W : WF m net st cs) : brk net cs st = (List.range net.length).filter (brkC net cs st) := by
  unfold brk letSteps
  rw [List.filter_filter]
  refine List.filter_congr fun k hk => ?_
  unfold brkC
  have hk := List.mem_range.mp hk
  have hs : net[k]? = some net[k] := List.getElem?_eq_getElem hk
  obtain ⟨h1, h2, _⟩ := W.net net[k] (List.getElem_mem hk)
  rw [hs]
  have e : done net[k] st = mov st (chg net[k]) := done_mov (W.st.1.trans h1.symm) (W.st.1.trans h2.symm)
  simp only [e, Bool.and_comm]
theorem niceI {h n : Nat} {i : Int} (hi : i.natAbs ≤ 10 ^ 30) : Nice h n (.int i) := Nice.int (Nat.lt_of_le_of_lt hi (by decide +kernel))
theorem nice_tI {h : Nat} {xs : List Int} {k : Nat} (hb : Bd (10 ^ 30) xs) (hl : xs.length ≤ k) : Nice (h + 1) (k * 1) (tI xs) := Nice.tuple (n := 0) (fun x hx => by
  obtain ⟨i, hi, rfl⟩ := List.mem_map.mp hx
  exact niceI (hb i hi)) (by rw [List.length_map]; exact hl)
theorem nice_ks {h : Nat} {xs : List Nat} {k : Nat} (hb : ∀ x ∈ xs, x ≤ 1000) (hl : xs.length ≤ k) : Nice (h + 1) (k * 1) (.tuple (xs.map fun (k : Nat) => .int (k : Nat))) := Nice.tuple (n := 0) (fun x hx => by
  obtain ⟨i, hi, rfl⟩ := List.mem_map.mp hx
  have := hb i hi
  exact niceI (by
    show ((i : Nat) : Int).natAbs ≤ 10 ^ 30
    rw [Int.natAbs_natCast]
    exact Nat.le_trans this (by decide +kernel))) (by rw [List.length_map]; exact hl)
theorem WF.slk {m : Nat} {net : List (List Int × List Int)} {st : List Int} {cs : List (List Int × Int)} (W : WF m net st cs) : Bd (10 ^ 30) (slk cs st) := fun x hx => by
  obtain ⟨c, hc, rfl⟩ := List.mem_map.mp hx
  obtain ⟨h1, h2, h3⟩ := W.cs c hc
  have h4 := dot_bd h2 W.st.2
  rw [h1] at h4
  have h5 : m * (10 ^ 3 * 10 ^ 11) ≤ 8 * (10 ^ 3 * 10 ^ 11) := Nat.mul_le_mul_right _ W.hm
  have h6 := Int.natAbs_sub_le c.2 (dot c.1 st)
  omega
theorem sums_right_ok {m : Nat} {net : List (List Int × List Int)} {st : List Int} {cs : List (List Int × Int)} (W : WF m net st cs) (g : GG) : s__law_are_sums_right [.dat (tNet net), .dat (tCaps cs), .dat (tI st)] g = some (.ok (.bool true) g) := by
  refine fnSem_rt rfl rfl ?_
  show m__law_are_sums_right [some (.dat (tNet net)), some (.dat (tCaps cs)), some (.dat (tI st)), none, none, none, none, none] g = _
  unfold m__law_are_sums_right
  have hc := W.sm
  have ln := W.ln
  have lc := W.lc
  have hcc := compGo_all (t := .nm 7) (e := bin subD (bin idxD (brwM 7) (cM (.int 1))) (callM s__law_sum idL [daM (bin idxD (brwM 7) (cM (.int 0))), daM (varM 2)])) (ρ := [some (.dat (tNet net)), some (.dat (tCaps cs)), some (.dat (tI st)), none, none, none, none, none]) (g := g) tCap (fun c => .int (c.2 - dot c.1 st)) cs fun z hz => ⟨_, rfl, by
    simp [Kd.andM, Kd.orM, Kd.notM, blM, bin, un, potI, cM, potNE, seqM, potPop, potSet, ifM, brwM, varM, Pot.setI, nilM, ifS, setM, retM, thaw, retNM, tstM, truD, vAndM, vOrM, vNotM, chainM, daM, slM, argsM, tupM, lstM, callM, argsS, idL, multM, argsF, setSs, compM, itSeq, seqD, wipeE, bindT, bindTs, yesM, isiD, itZip, zipD, itEnum, itRange1, idxD, lenD, tupleD, listD, setOM, appM, extM, itZip3, L2.atI, L2.ixN, law_sum_ok (hc z hz)]⟩
  have hslk : (cs.map fun c => PyData.int (c.2 - dot c.1 st)) = (K77.slk cs st).map .int := by unfold K77.slk; rw [List.map_map]; rfl
  rw [hslk] at hcc
  have lb := law_breaking_ok (net := net) (by omega) hc st g
  rw [← brk_eq W] at lb
  have hN : Nice 2 100 (.list [.bool (keeps cs st), tI (K77.slk cs st), .tuple ((brk net cs st).map fun (k : Nat) => .int (k : Nat))]) := by
    have hk : ∀ x ∈ brk net cs st, x ≤ 1000 := fun x hx => by
      rw [brk_eq W] at hx
      have := List.mem_range.mp (List.mem_filter.mp hx).1
      omega
    have hl : (brk net cs st).length ≤ 20 := by
      rw [brk_eq W]
      have := List.length_filter_le (brkC net cs st) (List.range net.length)
      rw [List.length_range] at this
      omega
    refine (Nice.list (h := 1) (n := 20) (k := 3) (xs := [.bool (keeps cs st), tI (K77.slk cs st), .tuple ((brk net cs st).map fun (k : Nat) => .int (k : Nat))]) (fun x hx => ?_) (Nat.le_refl 3)).mono (Nat.le_refl _) (by decide)
    simp only [List.mem_cons, List.not_mem_nil, or_false] at hx
    rcases hx with rfl | rfl | rfl
    · exact Nice.bool _
    · exact (nice_tI (h := 0) (k := 10) W.slk (by unfold K77.slk; rw [List.length_map]; exact lc)).mono (by decide) (by decide)
    · exact (nice_ks (h := 0) (k := 20) hk hl).mono (by decide) (by decide)
  have hrp := hN.rp (by decide) (by decide)
  have bs := breaking_steps_ok (net := net) (cs := cs) (by omega) hc st g
  have g1 : gp_does_keep__state_caps [Sv.dat (tI st), Sv.dat (tCaps cs)] = [Sv.dat (tCaps cs), Sv.dat (tI st)] := rfl
  have g2 : gp_cap_slack__state_caps [Sv.dat (tI st), Sv.dat (tCaps cs)] = [Sv.dat (tCaps cs), Sv.dat (tI st)] := rfl
  have g3 : gp_breaking_steps__state_caps_net [Sv.dat (tI st), Sv.dat (tCaps cs), Sv.dat (tNet net)] = [Sv.dat (tNet net), Sv.dat (tCaps cs), Sv.dat (tI st)] := rfl
  simp only [tI, tCaps, tNet, tSt, tCap] at *
  simp [Kd.andM, Kd.orM, Kd.notM, blM, bin, un, potI, cM, potNE, seqM, potPop, potSet, ifM, brwM, varM, Pot.setI, nilM, ifS, setM, retM, thaw, retNM, tstM, truD, vAndM, vOrM, vNotM, chainM, daM, slM, argsM, tupM, lstM, callM, argsS, idL, multM, argsF, setSs, compM, itSeq, seqD, wipeE, bindT, bindTs, yesM, isiD, itZip, zipD, itEnum, itRange1, idxD, lenD, tupleD, listD, setOM, appM, extM, itZip3, hcc, law_keeps_ok hc, lb, hrp, does_keep_ok hc, cap_slack_ok hc, bs, g1, g2, g3]
theorem chg_bd {m : Nat} {net : List (List Int × List Int)} {st : List Int} {cs : List (List Int × Int)} (W : WF m net st cs) {s : List Int × List Int} (hs : s ∈ net) : Bd (10 ^ 30) (cs.map fun c => dot c.1 (chg s)) := fun x hx => by
  obtain ⟨c, hc, rfl⟩ := List.mem_map.mp hx
  obtain ⟨h1, h2, h3⟩ := W.cs c hc
  obtain ⟨n1, n2, n3, n4⟩ := W.net s hs
  have h4 : Bd (2 * 10 ^ 10) (chg s) := fun y hy => by
    obtain ⟨p, hp, rfl⟩ := List.mem_map.mp hy
    obtain ⟨p1, p2⟩ := List.of_mem_zip hp
    have a1 := n3 p.1 p1
    have a2 := n4 p.2 p2
    have := Int.natAbs_sub_le p.2 p.1
    omega
  have h5 := dot_bd h2 h4
  rw [h1] at h5
  have h6 : m * (10 ^ 3 * (2 * 10 ^ 10)) ≤ 8 * (10 ^ 3 * (2 * 10 ^ 10)) := Nat.mul_le_mul_right _ W.hm
  omega
theorem changes_right_ok {m : Nat} {net : List (List Int × List Int)} {st : List Int} {cs : List (List Int × Int)} (W : WF m net st cs) (g : GG) : s__law_are_changes_right [.dat (tNet net), .dat (tCaps cs)] g = some (.ok (.bool true) g) := by
  refine fnSem_rt rfl rfl ?_
  show m__law_are_changes_right [some (.dat (tNet net)), some (.dat (tCaps cs)), none, none, none, none] g = _
  unfold m__law_are_changes_right
  have hc := W.sm
  have lc := W.lc
  let body : SM GG := seqM (setM 4 (un rpD (un tupleD (compM (itSeq (brwM 1)) (.nm 5) (yesM) (callM s__law_change idL [daM (varM 3), daM (bin idxD (brwM 5) (cM (.int 0)))]) [5])))) <|
    seqM (ifS (Kd.orM (blM (bin neX (un rpD (callM s_cap_changes idL [daM (varM 0), daM (varM 1), daM (varM 2)])) (brwM 4))) (blM (bin neX (un rpD (callM s_cap_changes gp_cap_changes__k_caps_net [daM (varM 2), daM (varM 1), daM (varM 0)])) (brwM 4)))) (seqM (retM (cM (.bool false))) nilM) (nilM)) nilM
  let P : Nat → Kd.Env → GG → Prop := fun i ρ g' => g' = g ∧ ∃ o2 o3 o4 o5, ρ = [some (.dat (tNet net)), some (.dat (tCaps cs)), o2, o3, o4, o5]
  obtain ⟨ρ1, g1, e1, rfl, o2, o3, o4, o5, rfl⟩ := forGo_nx (t := .tp (.cons (.nm 2) (.cons (.nm 3) (.nil)))) (m := body) P (enumL 0 (net.map tSt)) 0 [some (.dat (tNet net)), some (.dat (tCaps cs)), none, none, none, none] g ⟨rfl, none, none, none, none, rfl⟩ fun i x ρ g' hx hP => by
    obtain ⟨rfl, o2, o3, o4, o5, rfl⟩ := hP
    rw [enumL_get, List.getElem?_map, Nat.zero_add] at hx
    cases hs : net[i]? with
    | none => rw [hs] at hx; cases hx
    | some s =>
      rw [hs] at hx
      cases hx
      have hm : s ∈ net := List.mem_of_getElem? hs
      obtain ⟨n1, n2, _⟩ := W.net s hm
      have hcc := compGo_all (t := .nm 5) (e := callM s__law_change idL [daM (varM 3), daM (bin idxD (brwM 5) (cM (.int 0)))]) (ρ := [some (.dat (tNet net)), some (.dat (tCaps cs)), some (.dat (.int (i : Nat))), some (.dat (tSt s)), o4, none]) (g := g') tCap (fun c => .int (dot c.1 (chg s))) cs fun z hz => ⟨_, rfl, by
        have e := dot_sub (w := z.1) (a := s.1) (b := s.2) (by rw [(W.cs z hz).1, n1]) (by rw [(W.cs z hz).1, n2])
        simp [Kd.andM, Kd.orM, Kd.notM, blM, bin, un, potI, cM, potNE, seqM, potPop, potSet, ifM, brwM, varM, Pot.setI, nilM, ifS, setM, retM, thaw, retNM, tstM, truD, vAndM, vOrM, vNotM, chainM, daM, slM, argsM, tupM, lstM, callM, argsS, idL, multM, argsF, setSs, compM, itSeq, seqD, wipeE, bindT, bindTs, yesM, isiD, itZip, zipD, itEnum, itRange1, idxD, lenD, tupleD, listD, setOM, appM, extM, itZip3, L2.atI, L2.ixN, law_change_ok (hc z hz), ← e]⟩
      have hN : Nice 1 10 (tI (cs.map fun c => dot c.1 (chg s))) := nice_tI (h := 0) (k := 10) (chg_bd W hm) (by rw [List.length_map]; exact lc)
      have hrp := hN.rp (by decide) (by decide)
      have ec : (cs.map fun c => PyData.int (dot c.1 (chg s))) = (cs.map fun c => dot c.1 (chg s)).map .int := by rw [List.map_map]; rfl
      rw [ec] at hcc
      have g1 : gp_cap_changes__k_caps_net [Sv.dat (.int (i : Nat)), Sv.dat (tCaps cs), Sv.dat (tNet net)] = [Sv.dat (tNet net), Sv.dat (tCaps cs), Sv.dat (.int (i : Nat))] := rfl
      refine ⟨_, [some (.dat (tNet net)), some (.dat (tCaps cs)), some (.dat (.int (i : Nat))), some (.dat (tSt s)), some (.dat (.str (tI (cs.map fun c => dot c.1 (chg s))).shown)), o5], g', rfl, .inl ?_, rfl, _, _, _, _, rfl⟩
      have cc := cap_changes_ok hs hc g'
      generalize (cs.map fun c => dot c.1 (chg s)) = L at hcc hrp cc ⊢
      simp only [tI, tCaps, tNet, tSt, tCap] at hcc hrp g1 cc ⊢
      simp [Kd.andM, Kd.orM, Kd.notM, blM, bin, un, potI, cM, potNE, seqM, potPop, potSet, ifM, brwM, varM, Pot.setI, nilM, ifS, setM, retM, thaw, retNM, tstM, truD, vAndM, vOrM, vNotM, chainM, daM, slM, argsM, tupM, lstM, callM, argsS, idL, multM, argsF, setSs, compM, itSeq, seqD, wipeE, bindT, bindTs, yesM, isiD, itZip, zipD, itEnum, itRange1, idxD, lenD, tupleD, listD, setOM, appM, extM, itZip3, body, hcc, hrp, g1, cc]
  simp only [body] at e1
  simp [Kd.andM, Kd.orM, Kd.notM, blM, bin, un, potI, cM, potNE, seqM, potPop, potSet, ifM, brwM, varM, Pot.setI, nilM, ifS, setM, retM, thaw, retNM, tstM, truD, vAndM, vOrM, vNotM, chainM, daM, slM, argsM, tupM, lstM, callM, argsS, idL, multM, argsF, setSs, compM, itSeq, seqD, wipeE, bindT, bindTs, yesM, isiD, itZip, zipD, itEnum, itRange1, idxD, lenD, tupleD, listD, setOM, appM, extM, itZip3, Kd.forM, e1]
end K77

end part_K77E
section part_K77F
namespace K77
open PySem Kd
/-! ### the draws -/
theorem pick_list {g : GG} (hg : Pk g) {xs : List D} (h0 : 0 < xs.length) (h1 : xs.length < 1000000) : ∃ v g', s__law_pick [.bag, .dat (.list xs)] g = some (.ok v g') ∧ Pk g' ∧ v ∈ xs := by
  obtain ⟨n, g', e, hg', n0, n1⟩ := draw_ok hg (n := (xs.length : Nat)) (by omega) (by omega)
  obtain ⟨k, rfl⟩ : ∃ k : Nat, n = (k : Nat) := ⟨n.toNat, by omega⟩
  have hn : k < xs.length := by omega
  refine ⟨xs[k], g', fnSem_rt rfl rfl ?_, hg', List.getElem_mem hn⟩
  show m__law_pick [some .bag, some (.dat (.list xs))] g = _
  unfold m__law_pick
  have ea : L2.atI xs (k : Nat) = some xs[k] := by
    rw [atI_nat]
    exact List.getElem?_eq_getElem hn
  simp [Kd.andM, Kd.orM, Kd.notM, blM, bin, un, potI, cM, potNE, seqM, potPop, potSet, ifM, brwM, varM, Pot.setI, nilM, ifS, setM, retM, thaw, retNM, tstM, truD, vAndM, vOrM, vNotM, chainM, daM, slM, argsM, tupM, lstM, callM, argsS, idL, multM, argsF, setSs, compM, itSeq, seqD, wipeE, bindT, bindTs, yesM, isiD, itZip, zipD, itEnum, itRange1, idxD, lenD, tupleD, listD, setOM, appM, extM, itZip3, e, ea]
theorem pick_tuple {g : GG} (hg : Pk g) {xs : List D} (h0 : 0 < xs.length) (h1 : xs.length < 1000000) : ∃ v g', s__law_pick [.bag, .dat (.tuple xs)] g = some (.ok v g') ∧ Pk g' ∧ v ∈ xs := by
  obtain ⟨n, g', e, hg', n0, n1⟩ := draw_ok hg (n := (xs.length : Nat)) (by omega) (by omega)
  obtain ⟨k, rfl⟩ : ∃ k : Nat, n = (k : Nat) := ⟨n.toNat, by omega⟩
  have hn : k < xs.length := by omega
  refine ⟨xs[k], g', fnSem_rt rfl rfl ?_, hg', List.getElem_mem hn⟩
  show m__law_pick [some .bag, some (.dat (.tuple xs))] g = _
  unfold m__law_pick
  have ea : L2.atI xs (k : Nat) = some xs[k] := by
    rw [atI_nat]
    exact List.getElem?_eq_getElem hn
  simp [Kd.andM, Kd.orM, Kd.notM, blM, bin, un, potI, cM, potNE, seqM, potPop, potSet, ifM, brwM, varM, Pot.setI, nilM, ifS, setM, retM, thaw, retNM, tstM, truD, vAndM, vOrM, vNotM, chainM, daM, slM, argsM, tupM, lstM, callM, argsS, idL, multM, argsF, setSs, compM, itSeq, seqD, wipeE, bindT, bindTs, yesM, isiD, itZip, zipD, itEnum, itRange1, idxD, lenD, tupleD, listD, setOM, appM, extM, itZip3, e, ea]
theorem tokens_ok {g : GG} (hg : Pk g) (k : Int) : ∃ n g', s__law_tokens [.bag, .dat (.int k)] g = some (.ok (.int n) g') ∧ Pk g' ∧ 0 ≤ n ∧ n ≤ 10 ^ 9 := by
  by_cases h0 : k = 0
  · obtain ⟨n, g', e, hg', n0, n1⟩ := draw_ok hg (n := 4) (by decide) (by decide)
    refine ⟨n, g', fnSem_rt rfl rfl ?_, hg', n0, by omega⟩
    show m__law_tokens [some .bag, some (.dat (.int k))] g = _
    unfold m__law_tokens
    simp [Kd.andM, Kd.orM, Kd.notM, blM, bin, un, potI, cM, potNE, seqM, potPop, potSet, ifM, brwM, varM, Pot.setI, nilM, ifS, setM, retM, thaw, retNM, tstM, truD, vAndM, vOrM, vNotM, chainM, daM, slM, argsM, tupM, lstM, callM, argsS, idL, multM, argsF, setSs, compM, itSeq, seqD, wipeE, bindT, bindTs, yesM, isiD, itZip, zipD, itEnum, itRange1, idxD, lenD, tupleD, listD, setOM, appM, extM, itZip3, h0, e]
  · have b0 : (k == 0) = false := by simp [Kd.andM, Kd.orM, Kd.notM, blM, bin, un, potI, cM, potNE, seqM, potPop, potSet, ifM, brwM, varM, Pot.setI, nilM, ifS, setM, retM, thaw, retNM, tstM, truD, vAndM, vOrM, vNotM, chainM, daM, slM, argsM, tupM, lstM, callM, argsS, idL, multM, argsF, setSs, compM, itSeq, seqD, wipeE, bindT, bindTs, yesM, isiD, itZip, zipD, itEnum, itRange1, idxD, lenD, tupleD, listD, setOM, appM, extM, itZip3, h0]
    by_cases h1 : k = 1
    · obtain ⟨n, g', e, hg', n0, n1⟩ := draw_ok hg (n := 61) (by decide) (by decide)
      refine ⟨n, g', fnSem_rt rfl rfl ?_, hg', n0, by omega⟩
      show m__law_tokens [some .bag, some (.dat (.int k))] g = _
      unfold m__law_tokens
      simp [Kd.andM, Kd.orM, Kd.notM, blM, bin, un, potI, cM, potNE, seqM, potPop, potSet, ifM, brwM, varM, Pot.setI, nilM, ifS, setM, retM, thaw, retNM, tstM, truD, vAndM, vOrM, vNotM, chainM, daM, slM, argsM, tupM, lstM, callM, argsS, idL, multM, argsF, setSs, compM, itSeq, seqD, wipeE, bindT, bindTs, yesM, isiD, itZip, zipD, itEnum, itRange1, idxD, lenD, tupleD, listD, setOM, appM, extM, itZip3, h1, e]
    · have b1 : (k == 1) = false := by simp [Kd.andM, Kd.orM, Kd.notM, blM, bin, un, potI, cM, potNE, seqM, potPop, potSet, ifM, brwM, varM, Pot.setI, nilM, ifS, setM, retM, thaw, retNM, tstM, truD, vAndM, vOrM, vNotM, chainM, daM, slM, argsM, tupM, lstM, callM, argsS, idL, multM, argsF, setSs, compM, itSeq, seqD, wipeE, bindT, bindTs, yesM, isiD, itZip, zipD, itEnum, itRange1, idxD, lenD, tupleD, listD, setOM, appM, extM, itZip3, h1]
      by_cases h2 : k = 2
      · obtain ⟨n, g', e, hg', n0, n1⟩ := draw_ok hg (n := 12) (by decide) (by decide)
        refine ⟨1000000000 - n, g', fnSem_rt rfl rfl ?_, hg', by omega, by omega⟩
        show m__law_tokens [some .bag, some (.dat (.int k))] g = _
        unfold m__law_tokens
        simp [Kd.andM, Kd.orM, Kd.notM, blM, bin, un, potI, cM, potNE, seqM, potPop, potSet, ifM, brwM, varM, Pot.setI, nilM, ifS, setM, retM, thaw, retNM, tstM, truD, vAndM, vOrM, vNotM, chainM, daM, slM, argsM, tupM, lstM, callM, argsS, idL, multM, argsF, setSs, compM, itSeq, seqD, wipeE, bindT, bindTs, yesM, isiD, itZip, zipD, itEnum, itRange1, idxD, lenD, tupleD, listD, setOM, appM, extM, itZip3, h2, e]
      · have b2 : (k == 2) = false := by simp [Kd.andM, Kd.orM, Kd.notM, blM, bin, un, potI, cM, potNE, seqM, potPop, potSet, ifM, brwM, varM, Pot.setI, nilM, ifS, setM, retM, thaw, retNM, tstM, truD, vAndM, vOrM, vNotM, chainM, daM, slM, argsM, tupM, lstM, callM, argsS, idL, multM, argsF, setSs, compM, itSeq, seqD, wipeE, bindT, bindTs, yesM, isiD, itZip, zipD, itEnum, itRange1, idxD, lenD, tupleD, listD, setOM, appM, extM, itZip3, h2]
        obtain ⟨n, g1, e, hg1, n0, n1⟩ := draw_ok hg (n := 100000) (by decide) (by decide)
        obtain ⟨n', g2, e2, hg2, n2, n3⟩ := draw_ok hg1 (n := 10001) (by decide) (by decide)
        refine ⟨n * 10000 + n', g2, fnSem_rt rfl rfl ?_, hg2, by omega, by omega⟩
        show m__law_tokens [some .bag, some (.dat (.int k))] g = _
        unfold m__law_tokens
        have em : mulX (.int n) (.int 10000) = some (.int (n * 10000)) := mulX_int (mulOkR (by decide) (by decide))
        simp [Kd.andM, Kd.orM, Kd.notM, blM, bin, un, potI, cM, potNE, seqM, potPop, potSet, ifM, brwM, varM, Pot.setI, nilM, ifS, setM, retM, thaw, retNM, tstM, truD, vAndM, vOrM, vNotM, chainM, daM, slM, argsM, tupM, lstM, callM, argsS, idL, multM, argsF, setSs, compM, itSeq, seqD, wipeE, bindT, bindTs, yesM, isiD, itZip, zipD, itEnum, itRange1, idxD, lenD, tupleD, listD, setOM, appM, extM, itZip3, b0, b1, b2, e, e2, em]
theorem ints_of {Q : Int → Prop} : ∀ {ys : List D}, (∀ y ∈ ys, ∃ n, y = .int n ∧ Q n) → ∃ ns : List Int, ys = ns.map .int ∧ ∀ n ∈ ns, Q n
  | [], _ => ⟨[], rfl, fun _ h => nomatch h⟩
  | y :: ys, h => by
    obtain ⟨n, rfl, hn⟩ := h y (by simp [Kd.andM, Kd.orM, Kd.notM, blM, bin, un, potI, cM, potNE, seqM, potPop, potSet, ifM, brwM, varM, Pot.setI, nilM, ifS, setM, retM, thaw, retNM, tstM, truD, vAndM, vOrM, vNotM, chainM, daM, slM, argsM, tupM, lstM, callM, argsS, idL, multM, argsF, setSs, compM, itSeq, seqD, wipeE, bindT, bindTs, yesM, isiD, itZip, zipD, itEnum, itRange1, idxD, lenD, tupleD, listD, setOM, appM, extM, itZip3])
    obtain ⟨ns, rfl, hs⟩ := ints_of (ys := ys) fun z hz => h z (List.mem_cons_of_mem _ hz)
    refine ⟨n :: ns, rfl, fun z hz => ?_⟩
    rcases List.mem_cons.mp hz with e | hz
    · rw [e]; exact hn
    · exact hs z hz
theorem rangeL_len (m : Nat) : (rangeL 0 (m : Nat)).length = m := by rw [rangeL_eq]; simp [Kd.andM, Kd.orM, Kd.notM, blM, bin, un, potI, cM, potNE, seqM, potPop, potSet, ifM, brwM, varM, Pot.setI, nilM, ifS, setM, retM, thaw, retNM, tstM, truD, vAndM, vOrM, vNotM, chainM, daM, slM, argsM, tupM, lstM, callM, argsS, idL, multM, argsF, setSs, compM, itSeq, seqD, wipeE, bindT, bindTs, yesM, isiD, itZip, zipD, itEnum, itRange1, idxD, lenD, tupleD, listD, setOM, appM, extM, itZip3]
theorem rangeL_mem {m : Nat} {x : D} (h : x ∈ rangeL 0 (m : Nat)) : ∃ i : Nat, x = .int (i : Nat) ∧ i < m := by
  rw [rangeL_eq] at h
  obtain ⟨i, hi, rfl⟩ := List.mem_map.mp h
  exact ⟨i, rfl, List.mem_range.mp hi⟩
theorem state_ok {g : GG} (hg : Pk g) {m : Nat} (hm : m ≤ 8) : ∃ st g', s__law_state [.bag, .dat (.int (m : Nat))] g = some (.ok (tI st) g') ∧ Pk g' ∧ st.length = m ∧ ∀ x ∈ st, 0 ≤ x ∧ x ≤ 10 ^ 9 := by
  obtain ⟨n, g1, e, hg1, n0, n1⟩ := draw_ok hg (n := 5) (by decide) (by decide)
  obtain ⟨ys, g2, e2, hg2, hl, hy⟩ := compGo_inv (t := .nm 3) (e := callM s__law_tokens idL [slM 0, daM (ifM (blM (bin ltI (brwM 2) (cM (.int 4)))) (varM 2) (callM s__law_draw idL [slM 0, daM (cM (.int 4))]))]) (ρ := [some .bag, some (.dat (.int (m : Nat))), some (.dat (.int n)), none]) Pk (fun y => ∃ n, y = .int n ∧ 0 ≤ n ∧ n ≤ 10 ^ 9) (rangeL 0 (m : Nat)) g1 hg1 fun x _ g hg => by
    by_cases h4 : n < 4
    · obtain ⟨v, g', e, hg', v0, v1⟩ := tokens_ok hg n
      exact ⟨_, _, g', rfl, by simp [Kd.andM, Kd.orM, Kd.notM, blM, bin, un, potI, cM, potNE, seqM, potPop, potSet, ifM, brwM, varM, Pot.setI, nilM, ifS, setM, retM, thaw, retNM, tstM, truD, vAndM, vOrM, vNotM, chainM, daM, slM, argsM, tupM, lstM, callM, argsS, idL, multM, argsF, setSs, compM, itSeq, seqD, wipeE, bindT, bindTs, yesM, isiD, itZip, zipD, itEnum, itRange1, idxD, lenD, tupleD, listD, setOM, appM, extM, itZip3, h4, e], hg', v, rfl, v0, v1⟩
    · obtain ⟨w, g', e, hg', w0, w1⟩ := draw_ok hg (n := 4) (by decide) (by decide)
      obtain ⟨v, g2, e2, hg2, v0, v1⟩ := tokens_ok hg' w
      exact ⟨_, _, g2, rfl, by simp [Kd.andM, Kd.orM, Kd.notM, blM, bin, un, potI, cM, potNE, seqM, potPop, potSet, ifM, brwM, varM, Pot.setI, nilM, ifS, setM, retM, thaw, retNM, tstM, truD, vAndM, vOrM, vNotM, chainM, daM, slM, argsM, tupM, lstM, callM, argsS, idL, multM, argsF, setSs, compM, itSeq, seqD, wipeE, bindT, bindTs, yesM, isiD, itZip, zipD, itEnum, itRange1, idxD, lenD, tupleD, listD, setOM, appM, extM, itZip3, h4, e, e2], hg2, v, rfl, v0, v1⟩
  obtain ⟨st, rfl, hst⟩ := ints_of hy
  refine ⟨st, g2, fnSem_rt rfl rfl ?_, hg2, by rw [List.length_map, rangeL_len] at hl; exact hl, hst⟩
  show m__law_state [some .bag, some (.dat (.int (m : Nat))), none, none] g = _
  unfold m__law_state
  have hr := range1_ok (n := m) (by omega)
  simp [Kd.andM, Kd.orM, Kd.notM, blM, bin, un, potI, cM, potNE, seqM, potPop, potSet, ifM, brwM, varM, Pot.setI, nilM, ifS, setM, retM, thaw, retNM, tstM, truD, vAndM, vOrM, vNotM, chainM, daM, slM, argsM, tupM, lstM, callM, argsS, idL, multM, argsF, setSs, compM, itSeq, seqD, wipeE, bindT, bindTs, yesM, isiD, itZip, zipD, itEnum, itRange1, idxD, lenD, tupleD, listD, setOM, appM, extM, itZip3, e, hr, e2]
theorem row_ok {g : GG} (hg : Pk g) {m : Nat} (hm : m ≤ 9) : ∃ r g', s__law_row [.bag, .dat (.int (m : Nat))] g = some (.ok (tI r) g') ∧ Pk g' ∧ r.length = m ∧ ∀ x ∈ r, 0 ≤ x ∧ x ≤ 9 := by
  obtain ⟨n, g1, e, hg1, n0, n1⟩ := draw_ok hg (n := 4) (by decide) (by decide)
  obtain ⟨v, g2, e2, hg2, hv⟩ := pick_list hg1 (xs := [.int 1, .int 2, .int 9, .int 9]) (by decide) (by decide)
  have hv' : ∃ t : Int, v = .int t ∧ 1 ≤ t ∧ t ≤ 9 := by
    simp only [List.mem_cons, List.not_mem_nil, or_false] at hv
    rcases hv with rfl | rfl | rfl | rfl
    · exact ⟨1, rfl, by decide, by decide⟩
    · exact ⟨2, rfl, by decide, by decide⟩
    · exact ⟨9, rfl, by decide, by decide⟩
    · exact ⟨9, rfl, by decide, by decide⟩
  obtain ⟨t, rfl, t0, t1⟩ := hv'
  obtain ⟨ys, g3, e3, hg3, hl, hy⟩ := compGo_inv (t := .nm 4) (e := ifM (blM (bin eqX (callM s__law_draw idL [slM 0, daM (varM 2)]) (cM (.int 0)))) (bin addD (cM (.int 1)) (callM s__law_draw idL [slM 0, daM (varM 3)])) (cM (.int 0))) (ρ := [some .bag, some (.dat (.int (m : Nat))), some (.dat (.int (1 + n))), some (.dat (.int t)), none]) Pk (fun y => ∃ n, y = .int n ∧ 0 ≤ n ∧ n ≤ 9) (rangeL 0 (m : Nat)) g2 hg2 fun x _ g hg => by
    obtain ⟨w, g', e, hg', w0, w1⟩ := draw_ok hg (n := 1 + n) (by omega) (by omega)
    by_cases h0 : w = 0
    · obtain ⟨u, g2, e2, hg2, u0, u1⟩ := draw_ok hg' (n := t) (by omega) (by omega)
      exact ⟨_, .int (1 + u), g2, rfl, by simp [Kd.andM, Kd.orM, Kd.notM, blM, bin, un, potI, cM, potNE, seqM, potPop, potSet, ifM, brwM, varM, Pot.setI, nilM, ifS, setM, retM, thaw, retNM, tstM, truD, vAndM, vOrM, vNotM, chainM, daM, slM, argsM, tupM, lstM, callM, argsS, idL, multM, argsF, setSs, compM, itSeq, seqD, wipeE, bindT, bindTs, yesM, isiD, itZip, zipD, itEnum, itRange1, idxD, lenD, tupleD, listD, setOM, appM, extM, itZip3, h0, e, e2], hg2, 1 + u, rfl, by omega, by omega⟩
    · have hb : (w == 0) = false := by simp [Kd.andM, Kd.orM, Kd.notM, blM, bin, un, potI, cM, potNE, seqM, potPop, potSet, ifM, brwM, varM, Pot.setI, nilM, ifS, setM, retM, thaw, retNM, tstM, truD, vAndM, vOrM, vNotM, chainM, daM, slM, argsM, tupM, lstM, callM, argsS, idL, multM, argsF, setSs, compM, itSeq, seqD, wipeE, bindT, bindTs, yesM, isiD, itZip, zipD, itEnum, itRange1, idxD, lenD, tupleD, listD, setOM, appM, extM, itZip3, h0]
      exact ⟨_, .int 0, g', rfl, by simp [Kd.andM, Kd.orM, Kd.notM, blM, bin, un, potI, cM, potNE, seqM, potPop, potSet, ifM, brwM, varM, Pot.setI, nilM, ifS, setM, retM, thaw, retNM, tstM, truD, vAndM, vOrM, vNotM, chainM, daM, slM, argsM, tupM, lstM, callM, argsS, idL, multM, argsF, setSs, compM, itSeq, seqD, wipeE, bindT, bindTs, yesM, isiD, itZip, zipD, itEnum, itRange1, idxD, lenD, tupleD, listD, setOM, appM, extM, itZip3, hb, e], hg', 0, rfl, by decide, by decide⟩
  obtain ⟨r, rfl, hr⟩ := ints_of hy
  refine ⟨r, g3, fnSem_rt rfl rfl ?_, hg3, by rw [List.length_map, rangeL_len] at hl; exact hl, hr⟩
  show m__law_row [some .bag, some (.dat (.int (m : Nat))), none, none, none] g = _
  unfold m__law_row
  have hrr := range1_ok (n := m) (by omega)
  simp [Kd.andM, Kd.orM, Kd.notM, blM, bin, un, potI, cM, potNE, seqM, potPop, potSet, ifM, brwM, varM, Pot.setI, nilM, ifS, setM, retM, thaw, retNM, tstM, truD, vAndM, vOrM, vNotM, chainM, daM, slM, argsM, tupM, lstM, callM, argsS, idL, multM, argsF, setSs, compM, itSeq, seqD, wipeE, bindT, bindTs, yesM, isiD, itZip, zipD, itEnum, itRange1, idxD, lenD, tupleD, listD, setOM, appM, extM, itZip3, e, e2, hrr, e3]
end K77

end part_K77F
section part_K77G
namespace K77
open PySem Kd
def mn (a b : List Int) : List Int := (a.zip b).map fun p => if p.2 < p.1 then p.2 else p.1
/-- a good step -/
def GS (m : Nat) (s : List Int × List Int) : Prop := s.1.length = m ∧ s.2.length = m ∧ Bd (10 ^ 10) s.1 ∧ Bd (10 ^ 10) s.2
theorem bd9 {r : List Int} (h : ∀ x ∈ r, 0 ≤ x ∧ x ≤ 9) {A : Nat} (hA : 9 ≤ A) : Bd A r := fun x hx => by have := h x hx; omega
theorem mn_ok {m : Nat} {a st : List Int} (ha : a.length = m) (hs : st.length = m) (h1 : Bd (10 ^ 10) a) (h2 : Bd (10 ^ 10) st) : (mn a st).length = m ∧ Bd (10 ^ 10) (mn a st) := by
  refine ⟨by simp [Kd.andM, Kd.orM, Kd.notM, blM, bin, un, potI, cM, potNE, seqM, potPop, potSet, ifM, brwM, varM, Pot.setI, nilM, ifS, setM, retM, thaw, retNM, tstM, truD, vAndM, vOrM, vNotM, chainM, daM, slM, argsM, tupM, lstM, callM, argsS, idL, multM, argsF, setSs, compM, itSeq, seqD, wipeE, bindT, bindTs, yesM, isiD, itZip, zipD, itEnum, itRange1, idxD, lenD, tupleD, listD, setOM, appM, extM, itZip3, mn, ha, hs], fun x hx => ?_⟩
  obtain ⟨p, hp, rfl⟩ := List.mem_map.mp hx
  obtain ⟨p1, p2⟩ := List.of_mem_zip hp
  have a1 := h1 p.1 p1
  have a2 := h2 p.2 p2
  split <;> assumption
theorem mn_comp (ρ : Kd.Env) (g : GG) (a b : List Int) (i j : Nat) (hij : i ≠ j) (hi : i < ρ.length) (hj : j < ρ.length) : compGo (.tp (.cons (.nm i) (.cons (.nm j) (.nil)))) yesM (bin min2D (brwM i) (brwM j)) ρ (zipL (a.map .int) (b.map .int)) g = some (.ok ((mn a b).map .int) g) := by
  have hc := compGo_all (t := .tp (.cons (.nm i) (.cons (.nm j) (.nil)))) (e := bin min2D (brwM i) (brwM j)) (ρ := ρ) (g := g) (fun p : Int × Int => .tuple [.int p.1, .int p.2]) (fun p => .int (if p.2 < p.1 then p.2 else p.1)) (a.zip b) fun z _ => ⟨_, rfl, by
    have e1 : ((ρ.set i (some (.dat (.int z.1)))).set j (some (.dat (.int z.2))))[i]? = some (some (.dat (.int z.1))) := by
      rw [List.getElem?_set_ne (Ne.symm hij), List.getElem?_set_self hi]
    have e2 : ((ρ.set i (some (.dat (.int z.1)))).set j (some (.dat (.int z.2))))[j]? = some (some (.dat (.int z.2))) := List.getElem?_set_self (by rw [List.length_set]; exact hj)
    simp [Kd.andM, Kd.orM, Kd.notM, blM, bin, un, potI, cM, potNE, seqM, potPop, potSet, ifM, brwM, varM, Pot.setI, nilM, ifS, setM, retM, thaw, retNM, tstM, truD, vAndM, vOrM, vNotM, chainM, daM, slM, argsM, tupM, lstM, callM, argsS, idL, multM, argsF, setSs, compM, itSeq, seqD, wipeE, bindT, bindTs, yesM, isiD, itZip, zipD, itEnum, itRange1, idxD, lenD, tupleD, listD, setOM, appM, extM, itZip3, e1, e2, min2D]⟩
  rw [zipL_ints, hc]
  simp [Kd.andM, Kd.orM, Kd.notM, blM, bin, un, potI, cM, potNE, seqM, potPop, potSet, ifM, brwM, varM, Pot.setI, nilM, ifS, setM, retM, thaw, retNM, tstM, truD, vAndM, vOrM, vNotM, chainM, daM, slM, argsM, tupM, lstM, callM, argsS, idL, multM, argsF, setSs, compM, itSeq, seqD, wipeE, bindT, bindTs, yesM, isiD, itZip, zipD, itEnum, itRange1, idxD, lenD, tupleD, listD, setOM, appM, extM, itZip3, mn]
theorem net_ok {g : GG} (hg : Pk g) {m many : Nat} {st : List Int} (hm : m ≤ 8) (hst : st.length = m) (hb : Bd (10 ^ 10) st) (hmany : many ≤ 12) : ∃ net g', s__law_net [.bag, .dat (.int (m : Nat)), .dat (tI st), .dat (.int (many : Nat))] g = some (.ok (tNet net) g') ∧ Pk g' ∧ net.length = many ∧ ∀ s ∈ net, GS m s := by
  let body : SM GG := seqM (multM [6, 7] [(false, callM s__law_row idL [slM 0, daM (varM 1)]), (false, callM s__law_row idL [slM 0, daM (varM 1)])]) <|
    seqM (ifS (blM (bin gtI (callM s__law_draw idL [slM 0, daM (cM (.int 3))]) (cM (.int 0)))) (seqM (setM 6 (un tupleD (compM (itZip (brwM 6) (brwM 2)) (.tp (.cons (.nm 8) (.cons (.nm 9) (.nil)))) (yesM) (bin min2D (brwM 8) (brwM 9)) [8, 9]))) nilM) (nilM)) <|
    seqM (appM 4 (tupM [varM 6, varM 7])) nilM
  let P : Nat → Kd.Env → GG → Prop := fun i ρ g => Pk g ∧ ∃ (net : List (List Int × List Int)) (o5 o6 o7 o8 o9 : Option Sv), ρ = [some .bag, some (.dat (.int (m : Nat))), some (.dat (tI st)), some (.dat (.int (many : Nat))), some (.own (.list (net.map tSt))), o5, o6, o7, o8, o9] ∧ net.length = i ∧ ∀ s ∈ net, GS m s
  obtain ⟨ρ1, g1, e1, hg1, net, o5, o6, o7, o8, o9, rfl, hl, hn⟩ := forGo_nx (t := .nm 5) (m := body) P (rangeL 0 (many : Nat)) 0 [some .bag, some (.dat (.int (m : Nat))), some (.dat (tI st)), some (.dat (.int (many : Nat))), some (.own (.list [])), none, none, none, none, none] g ⟨hg, [], none, none, none, none, none, rfl, rfl, fun _ h => nomatch h⟩ fun i x ρ g hx hP => by
    obtain ⟨hg, net, o5, o6, o7, o8, o9, rfl, hl, hn⟩ := hP
    rw [Nat.zero_add] at hl ⊢
    have hi : i < many := by
      have := (List.getElem?_eq_some_iff.mp hx).1
      rwa [rangeL_len] at this
    obtain ⟨r1, g1, e1, hg1, l1, b1⟩ := row_ok hg (m := m) (by omega)
    obtain ⟨r2, g2, e2, hg2, l2, b2⟩ := row_ok hg1 (m := m) (by omega)
    obtain ⟨v, g3, e3, hg3, v0, v1⟩ := draw_ok hg2 (n := 3) (by decide) (by decide)
    have hlt : net.length < 16777216 := by omega
    have B1 : Bd (10 ^ 10) r1 := bd9 b1 (by decide)
    have B2 : Bd (10 ^ 10) r2 := bd9 b2 (by decide)
    simp only [tI] at e1 e2
    by_cases hv : 0 < v
    · obtain ⟨m1, m2⟩ := mn_ok l1 hst B1 hb
      have hc := mn_comp [some .bag, some (.dat (.int (m : Nat))), some (.dat (tI st)), some (.dat (.int (many : Nat))), some (.own (.list (net.map tSt))), some (.dat x), some (.dat (tI r1)), some (.dat (tI r2)), none, none] g3 r1 st 8 9 (by decide) (by simp [Kd.andM, Kd.orM, Kd.notM, blM, bin, un, potI, cM, potNE, seqM, potPop, potSet, ifM, brwM, varM, Pot.setI, nilM, ifS, setM, retM, thaw, retNM, tstM, truD, vAndM, vOrM, vNotM, chainM, daM, slM, argsM, tupM, lstM, callM, argsS, idL, multM, argsF, setSs, compM, itSeq, seqD, wipeE, bindT, bindTs, yesM, isiD, itZip, zipD, itEnum, itRange1, idxD, lenD, tupleD, listD, setOM, appM, extM, itZip3]) (by simp [Kd.andM, Kd.orM, Kd.notM, blM, bin, un, potI, cM, potNE, seqM, potPop, potSet, ifM, brwM, varM, Pot.setI, nilM, ifS, setM, retM, thaw, retNM, tstM, truD, vAndM, vOrM, vNotM, chainM, daM, slM, argsM, tupM, lstM, callM, argsS, idL, multM, argsF, setSs, compM, itSeq, seqD, wipeE, bindT, bindTs, yesM, isiD, itZip, zipD, itEnum, itRange1, idxD, lenD, tupleD, listD, setOM, appM, extM, itZip3])
      refine ⟨_, [some .bag, some (.dat (.int (m : Nat))), some (.dat (tI st)), some (.dat (.int (many : Nat))), some (.own (.list ((net ++ [(mn r1 st, r2)]).map tSt))), some (.dat x), some (.dat (tI (mn r1 st))), some (.dat (tI r2)), o8, o9], g3, rfl, .inl ?_, hg3, net ++ [(mn r1 st, r2)], _, _, _, _, _, rfl, by simp [Kd.andM, Kd.orM, Kd.notM, blM, bin, un, potI, cM, potNE, seqM, potPop, potSet, ifM, brwM, varM, Pot.setI, nilM, ifS, setM, retM, thaw, retNM, tstM, truD, vAndM, vOrM, vNotM, chainM, daM, slM, argsM, tupM, lstM, callM, argsS, idL, multM, argsF, setSs, compM, itSeq, seqD, wipeE, bindT, bindTs, yesM, isiD, itZip, zipD, itEnum, itRange1, idxD, lenD, tupleD, listD, setOM, appM, extM, itZip3, hl], fun s hs => ?_⟩
      · simp only [tI] at hc
        simp [Kd.andM, Kd.orM, Kd.notM, blM, bin, un, potI, cM, potNE, seqM, potPop, potSet, ifM, brwM, varM, Pot.setI, nilM, ifS, setM, retM, thaw, retNM, tstM, truD, vAndM, vOrM, vNotM, chainM, daM, slM, argsM, tupM, lstM, callM, argsS, idL, multM, argsF, setSs, compM, itSeq, seqD, wipeE, bindT, bindTs, yesM, isiD, itZip, zipD, itEnum, itRange1, idxD, lenD, tupleD, listD, setOM, appM, extM, itZip3, body, e1, e2, e3, hv, hc, hlt]
      · rcases List.mem_append.mp hs with h | h
        · exact hn s h
        · rw [List.mem_singleton.mp h]; exact ⟨m1, l2, m2, B2⟩
    · refine ⟨_, [some .bag, some (.dat (.int (m : Nat))), some (.dat (tI st)), some (.dat (.int (many : Nat))), some (.own (.list ((net ++ [(r1, r2)]).map tSt))), some (.dat x), some (.dat (tI r1)), some (.dat (tI r2)), o8, o9], g3, rfl, .inl ?_, hg3, net ++ [(r1, r2)], _, _, _, _, _, rfl, by simp [Kd.andM, Kd.orM, Kd.notM, blM, bin, un, potI, cM, potNE, seqM, potPop, potSet, ifM, brwM, varM, Pot.setI, nilM, ifS, setM, retM, thaw, retNM, tstM, truD, vAndM, vOrM, vNotM, chainM, daM, slM, argsM, tupM, lstM, callM, argsS, idL, multM, argsF, setSs, compM, itSeq, seqD, wipeE, bindT, bindTs, yesM, isiD, itZip, zipD, itEnum, itRange1, idxD, lenD, tupleD, listD, setOM, appM, extM, itZip3, hl], fun s hs => ?_⟩
      · simp [Kd.andM, Kd.orM, Kd.notM, blM, bin, un, potI, cM, potNE, seqM, potPop, potSet, ifM, brwM, varM, Pot.setI, nilM, ifS, setM, retM, thaw, retNM, tstM, truD, vAndM, vOrM, vNotM, chainM, daM, slM, argsM, tupM, lstM, callM, argsS, idL, multM, argsF, setSs, compM, itSeq, seqD, wipeE, bindT, bindTs, yesM, isiD, itZip, zipD, itEnum, itRange1, idxD, lenD, tupleD, listD, setOM, appM, extM, itZip3, body, e1, e2, e3, hv, hlt]
      · rcases List.mem_append.mp hs with h | h
        · exact hn s h
        · rw [List.mem_singleton.mp h]; exact ⟨l1, l2, B1, B2⟩
  refine ⟨net, g1, fnSem_rt rfl rfl ?_, hg1, by rw [rangeL_len] at hl; omega, hn⟩
  show m__law_net [some .bag, some (.dat (.int (m : Nat))), some (.dat (tI st)), some (.dat (.int (many : Nat))), none, none, none, none, none, none] g = _
  unfold m__law_net
  simp only [body] at e1
  have hrr := range1_ok (n := many) (by omega)
  simp only [tI] at e1
  simp [Kd.andM, Kd.orM, Kd.notM, blM, bin, un, potI, cM, potNE, seqM, potPop, potSet, ifM, brwM, varM, Pot.setI, nilM, ifS, setM, retM, thaw, retNM, tstM, truD, vAndM, vOrM, vNotM, chainM, daM, slM, argsM, tupM, lstM, callM, argsS, idL, multM, argsF, setSs, compM, itSeq, seqD, wipeE, bindT, bindTs, yesM, isiD, itZip, zipD, itEnum, itRange1, idxD, lenD, tupleD, listD, setOM, appM, extM, itZip3, Kd.forM, hrr, e1]
theorem layD {xs : List D} (h : ∀ x ∈ xs, PyData.canLay0 x = true ∧ PyData.depth x ≤ 50) : PyData.canLayAll0 xs = true ∧ PyData.depthAll xs ≤ 50 := by
  induction xs with
  | nil => exact ⟨rfl, Nat.zero_le _⟩
  | cons x xs ih =>
    obtain ⟨a, b⟩ := h x (by simp [Kd.andM, Kd.orM, Kd.notM, blM, bin, un, potI, cM, potNE, seqM, potPop, potSet, ifM, brwM, varM, Pot.setI, nilM, ifS, setM, retM, thaw, retNM, tstM, truD, vAndM, vOrM, vNotM, chainM, daM, slM, argsM, tupM, lstM, callM, argsS, idL, multM, argsF, setSs, compM, itSeq, seqD, wipeE, bindT, bindTs, yesM, isiD, itZip, zipD, itEnum, itRange1, idxD, lenD, tupleD, listD, setOM, appM, extM, itZip3])
    obtain ⟨c, d⟩ := ih fun y hy => h y (List.mem_cons_of_mem _ hy)
    exact ⟨by simp [Kd.andM, Kd.orM, Kd.notM, blM, bin, un, potI, cM, potNE, seqM, potPop, potSet, ifM, brwM, varM, Pot.setI, nilM, ifS, setM, retM, thaw, retNM, tstM, truD, vAndM, vOrM, vNotM, chainM, daM, slM, argsM, tupM, lstM, callM, argsS, idL, multM, argsF, setSs, compM, itSeq, seqD, wipeE, bindT, bindTs, yesM, isiD, itZip, zipD, itEnum, itRange1, idxD, lenD, tupleD, listD, setOM, appM, extM, itZip3, PyData.canLayAll0, a, c], by simp only [PyData.depthAll]; omega⟩
theorem lay_tI (r : List Int) : PyData.canLay0 (tI r) = true ∧ PyData.depth (tI r) ≤ 2 := by
  have := depthI r
  exact ⟨by simp only [PyData.canLay0, canLay_ints], by simp only [PyData.depth]; omega⟩
theorem shaped_tNet (net : List (List Int × List Int)) : SeqAt.shaped (tNet net) = true := by
  obtain ⟨a, b⟩ := layD (xs := net.map tSt) fun x hx => by
    obtain ⟨s, _, rfl⟩ := List.mem_map.mp hx
    obtain ⟨a1, a2⟩ := lay_tI s.1
    obtain ⟨b1, b2⟩ := lay_tI s.2
    refine ⟨by simp [Kd.andM, Kd.orM, Kd.notM, blM, bin, un, potI, cM, potNE, seqM, potPop, potSet, ifM, brwM, varM, Pot.setI, nilM, ifS, setM, retM, thaw, retNM, tstM, truD, vAndM, vOrM, vNotM, chainM, daM, slM, argsM, tupM, lstM, callM, argsS, idL, multM, argsF, setSs, compM, itSeq, seqD, wipeE, bindT, bindTs, yesM, isiD, itZip, zipD, itEnum, itRange1, idxD, lenD, tupleD, listD, setOM, appM, extM, itZip3, PyData.canLay0, PyData.canLayAll0, canLay_ints], ?_⟩
    simp only [PyData.depth, PyData.depthAll] at a2 b2 ⊢
    omega
  exact shaped_tuple a (by omega)
/-- a good cap -/
def GC (m : Nat) (c : List Int × Int) : Prop := c.1.length = m ∧ (∀ x ∈ c.1, 0 ≤ x ∧ x ≤ 9) ∧ 0 ≤ c.2 ∧ c.2 ≤ 10 ^ 9
theorem clip_ok (near : Int) : ∃ v, max2D (.int 0) (.int (if near < 1000000000 then near else 1000000000)) = some (.int v) ∧ 0 ≤ v ∧ v ≤ 10 ^ 9 := by
  unfold max2D
  dsimp only
  refine ⟨_, rfl, ?_, ?_⟩ <;> (split <;> split <;> omega)
theorem caps_ok {g : GG} (hg : Pk g) {m many : Nat} {net : List (List Int × List Int)} {st : List Int} (hm : m ≤ 8) (hl0 : net.length ≤ 100) (hmany : many ≤ 3) : ∃ cs g', s__law_caps [.bag, .dat (.int (m : Nat)), .dat (tNet net), .dat (tI st), .dat (.int (many : Nat))] g = some (.ok (tCaps cs) g') ∧ Pk g' ∧ cs.length = many ∧ ∀ c ∈ cs, GC m c := by
  let body : SM GG := seqM (multM [8, 9] [(false, callM s__law_row idL [slM 0, daM (varM 1)]), (false, callM s__law_draw idL [slM 0, daM (cM (.int 5))])]) <|
    seqM (setM 7 (callM s__law_sum idL [daM (varM 8), daM (varM 3)])) <|
    seqM (ifS (Kd.andM (blM (bin ltI (brwM 9) (cM (.int 3)))) (blM (bin neX (brwM 2) (tupM [])))) (seqM (setM 7 (bin subD (bin addD (brwM 7) (bin max2D (cM (.int 0)) (callM s__law_change idL [daM (callM s__law_pick idL [slM 0, daM (varM 2)]), daM (varM 8)]))) (callM s__law_draw idL [slM 0, daM (cM (.int 2))]))) nilM)
      (seqM (ifS (blM (bin eqX (brwM 9) (cM (.int 3)))) (seqM (setM 7 (bin subD (bin addD (brwM 7) (callM s__law_draw idL [slM 0, daM (cM (.int 24))])) (cM (.int 4)))) nilM)
        (seqM (setM 7 (callM s__law_tokens idL [slM 0, daM (callM s__law_draw idL [slM 0, daM (cM (.int 4))])])) nilM)) nilM)) <|
    seqM (appM 5 (tupM [varM 8, bin max2D (cM (.int 0)) (bin min2D (bin powD (cM (.int 10)) (cM (.int 9))) (brwM 7))])) nilM
  let P : Nat → Kd.Env → GG → Prop := fun i ρ g => Pk g ∧ ∃ (cs : List (List Int × Int)) (o6 o7 o8 o9 : Option Sv), ρ = [some .bag, some (.dat (.int (m : Nat))), some (.dat (tNet net)), some (.dat (tI st)), some (.dat (.int (many : Nat))), some (.own (.list (cs.map tCap))), o6, o7, o8, o9] ∧ cs.length = i ∧ ∀ c ∈ cs, GC m c
  obtain ⟨ρ1, g1, e1, hg1, cs, o6, o7, o8, o9, rfl, hl, hn⟩ := forGo_nx (t := .nm 6) (m := body) P (rangeL 0 (many : Nat)) 0 [some .bag, some (.dat (.int (m : Nat))), some (.dat (tNet net)), some (.dat (tI st)), some (.dat (.int (many : Nat))), some (.own (.list [])), none, none, none, none] g ⟨hg, [], none, none, none, none, rfl, rfl, fun _ h => nomatch h⟩ fun i x ρ g hx hP => by
    obtain ⟨hg, cs, o6, o7, o8, o9, rfl, hl, hn⟩ := hP
    rw [Nat.zero_add] at hl ⊢
    have hi : i < many := by
      have := (List.getElem?_eq_some_iff.mp hx).1
      rwa [rangeL_len] at this
    obtain ⟨w, g1, e1, hg1, l1, b1⟩ := row_ok hg (m := m) (by omega)
    obtain ⟨way, g2, e2, hg2, w0, w1⟩ := draw_ok hg1 (n := 5) (by decide) (by decide)
    have hsm : Sm w := (bd9 b1 (Nat.le_refl 9)).sm (by decide)
    have es := law_sum_ok hsm st g2
    have hlt : cs.length < 16777216 := by omega
    have fin : ∀ (near : Int) (g3 : GG), Pk g3 → (∃ v, max2D (.int 0) (.int (if near < 1000000000 then near else 1000000000)) = some (.int v) ∧ 0 ≤ v ∧ v ≤ 10 ^ 9) → body [some .bag, some (.dat (.int (m : Nat))), some (.dat (tNet net)), some (.dat (tI st)), some (.dat (.int (many : Nat))), some (.own (.list (cs.map tCap))), some (.dat x), o7, o8, o9] g = seqM (appM 5 (tupM [varM 8, bin max2D (cM (.int 0)) (bin min2D (bin powD (cM (.int 10)) (cM (.int 9))) (brwM 7))])) nilM [some .bag, some (.dat (.int (m : Nat))), some (.dat (tNet net)), some (.dat (tI st)), some (.dat (.int (many : Nat))), some (.own (.list (cs.map tCap))), some (.dat x), some (.dat (.int near)), some (.dat (tI w)), some (.dat (.int way))] g3 →
        ∃ ρ2 g2, body [some .bag, some (.dat (.int (m : Nat))), some (.dat (tNet net)), some (.dat (tI st)), some (.dat (.int (many : Nat))), some (.own (.list (cs.map tCap))), some (.dat x), o7, o8, o9] g = some (.nx ρ2 g2) ∧ P (i + 1) ρ2 g2 := fun near g3 hg3 ⟨v, hv, v0, v1⟩ hb => by
      refine ⟨[some .bag, some (.dat (.int (m : Nat))), some (.dat (tNet net)), some (.dat (tI st)), some (.dat (.int (many : Nat))), some (.own (.list ((cs ++ [(w, v)]).map tCap))), some (.dat x), some (.dat (.int near)), some (.dat (tI w)), some (.dat (.int way))], g3, ?_, hg3, cs ++ [(w, v)], _, _, _, _, rfl, by simp [Kd.andM, Kd.orM, Kd.notM, blM, bin, un, potI, cM, potNE, seqM, potPop, potSet, ifM, brwM, varM, Pot.setI, nilM, ifS, setM, retM, thaw, retNM, tstM, truD, vAndM, vOrM, vNotM, chainM, daM, slM, argsM, tupM, lstM, callM, argsS, idL, multM, argsF, setSs, compM, itSeq, seqD, wipeE, bindT, bindTs, yesM, isiD, itZip, zipD, itEnum, itRange1, idxD, lenD, tupleD, listD, setOM, appM, extM, itZip3, hl], fun c hc => ?_⟩
      · rw [hb]
        simp [Kd.andM, Kd.orM, Kd.notM, blM, bin, un, potI, cM, potNE, seqM, potPop, potSet, ifM, brwM, varM, Pot.setI, nilM, ifS, setM, retM, thaw, retNM, tstM, truD, vAndM, vOrM, vNotM, chainM, daM, slM, argsM, tupM, lstM, callM, argsS, idL, multM, argsF, setSs, compM, itSeq, seqD, wipeE, bindT, bindTs, yesM, isiD, itZip, zipD, itEnum, itRange1, idxD, lenD, tupleD, listD, setOM, appM, extM, itZip3, min2D, hv, hlt]
      · rcases List.mem_append.mp hc with h | h
        · exact hn c h
        · rw [List.mem_singleton.mp h]; exact ⟨l1, b1, v0, v1⟩
    have wrap : (∃ ρ2 g2, body [some .bag, some (.dat (.int (m : Nat))), some (.dat (tNet net)), some (.dat (tI st)), some (.dat (.int (many : Nat))), some (.own (.list (cs.map tCap))), some (.dat x), o7, o8, o9] g = some (.nx ρ2 g2) ∧ P (i + 1) ρ2 g2) → ∃ ρ1 ρ2 g2, bindT (.nm 6) x [some .bag, some (.dat (.int (m : Nat))), some (.dat (tNet net)), some (.dat (tI st)), some (.dat (.int (many : Nat))), some (.own (.list (cs.map tCap))), o6, o7, o8, o9] = some ρ1 ∧ (body ρ1 g = some (.nx ρ2 g2) ∨ body ρ1 g = some (.ct ρ2 g2)) ∧ P (i + 1) ρ2 g2 := fun ⟨ρ2, g2, h1, h2⟩ => ⟨_, ρ2, g2, rfl, .inl h1, h2⟩
    apply wrap
    have hne := neX_tnil (shaped_tNet net)
    simp only [tI, tNet] at e1 es hne
    by_cases hway : way < 3 ∧ net ≠ []
    · obtain ⟨h1, h2⟩ := hway
      have hem : (net.map tSt).isEmpty = false := by cases net with
        | nil => exact absurd rfl h2
        | cons a r => rfl
      rw [hem] at hne
      obtain ⟨v, g3, e3, hg3, hv⟩ := pick_tuple hg2 (xs := net.map tSt) (by cases net with
        | nil => exact absurd rfl h2
        | cons a r => simp [Kd.andM, Kd.orM, Kd.notM, blM, bin, un, potI, cM, potNE, seqM, potPop, potSet, ifM, brwM, varM, Pot.setI, nilM, ifS, setM, retM, thaw, retNM, tstM, truD, vAndM, vOrM, vNotM, chainM, daM, slM, argsM, tupM, lstM, callM, argsS, idL, multM, argsF, setSs, compM, itSeq, seqD, wipeE, bindT, bindTs, yesM, isiD, itZip, zipD, itEnum, itRange1, idxD, lenD, tupleD, listD, setOM, appM, extM, itZip3]) (by rw [List.length_map]; omega)
      obtain ⟨s, hs, rfl⟩ := List.mem_map.mp hv
      have ec := law_change_ok hsm s g3
      obtain ⟨d, g4, e4, hg4, d0, d1⟩ := draw_ok hg3 (n := 2) (by decide) (by decide)
      obtain ⟨mx, hmx⟩ : ∃ mx, max2D (.int 0) (.int (dot w s.2 - dot w s.1)) = some (.int mx) := ⟨_, rfl⟩
      simp only [tI, tSt] at ec e3
      exact fin (dot w st + mx - d) g4 hg4 (clip_ok _) (by simp [Kd.andM, Kd.orM, Kd.notM, blM, bin, un, potI, cM, potNE, seqM, potPop, potSet, ifM, brwM, varM, Pot.setI, nilM, ifS, setM, retM, thaw, retNM, tstM, truD, vAndM, vOrM, vNotM, chainM, daM, slM, argsM, tupM, lstM, callM, argsS, idL, multM, argsF, setSs, compM, itSeq, seqD, wipeE, bindT, bindTs, yesM, isiD, itZip, zipD, itEnum, itRange1, idxD, lenD, tupleD, listD, setOM, appM, extM, itZip3, body, e1, e2, es, h1, hne, e3, ec, hmx, e4])
    · by_cases h3 : way = 3
      · obtain ⟨d, g4, e4, hg4, d0, d1⟩ := draw_ok hg2 (n := 24) (by decide) (by decide)
        exact fin (dot w st + d - 4) g4 hg4 (clip_ok _) (by simp [Kd.andM, Kd.orM, Kd.notM, blM, bin, un, potI, cM, potNE, seqM, potPop, potSet, ifM, brwM, varM, Pot.setI, nilM, ifS, setM, retM, thaw, retNM, tstM, truD, vAndM, vOrM, vNotM, chainM, daM, slM, argsM, tupM, lstM, callM, argsS, idL, multM, argsF, setSs, compM, itSeq, seqD, wipeE, bindT, bindTs, yesM, isiD, itZip, zipD, itEnum, itRange1, idxD, lenD, tupleD, listD, setOM, appM, extM, itZip3, body, e1, e2, es, h3, e4])
      · have hb3 : (way == 3) = false := by simp [Kd.andM, Kd.orM, Kd.notM, blM, bin, un, potI, cM, potNE, seqM, potPop, potSet, ifM, brwM, varM, Pot.setI, nilM, ifS, setM, retM, thaw, retNM, tstM, truD, vAndM, vOrM, vNotM, chainM, daM, slM, argsM, tupM, lstM, callM, argsS, idL, multM, argsF, setSs, compM, itSeq, seqD, wipeE, bindT, bindTs, yesM, isiD, itZip, zipD, itEnum, itRange1, idxD, lenD, tupleD, listD, setOM, appM, extM, itZip3, h3]
        obtain ⟨d, g4, e4, hg4, d0, d1⟩ := draw_ok hg2 (n := 4) (by decide) (by decide)
        obtain ⟨t, g5, e5, hg5, t0, t1⟩ := tokens_ok hg4 d
        by_cases h1 : way < 3
        · have h2 : net = [] := by
            by_cases z : net = []
            · exact z
            · exact absurd ⟨h1, z⟩ hway
          subst h2
          exact fin t g5 hg5 (clip_ok _) (by simp [Kd.andM, Kd.orM, Kd.notM, blM, bin, un, potI, cM, potNE, seqM, potPop, potSet, ifM, brwM, varM, Pot.setI, nilM, ifS, setM, retM, thaw, retNM, tstM, truD, vAndM, vOrM, vNotM, chainM, daM, slM, argsM, tupM, lstM, callM, argsS, idL, multM, argsF, setSs, compM, itSeq, seqD, wipeE, bindT, bindTs, yesM, isiD, itZip, zipD, itEnum, itRange1, idxD, lenD, tupleD, listD, setOM, appM, extM, itZip3, body, e1, e2, es, h1, hne, hb3, e4, e5])
        · exact fin t g5 hg5 (clip_ok _) (by simp [Kd.andM, Kd.orM, Kd.notM, blM, bin, un, potI, cM, potNE, seqM, potPop, potSet, ifM, brwM, varM, Pot.setI, nilM, ifS, setM, retM, thaw, retNM, tstM, truD, vAndM, vOrM, vNotM, chainM, daM, slM, argsM, tupM, lstM, callM, argsS, idL, multM, argsF, setSs, compM, itSeq, seqD, wipeE, bindT, bindTs, yesM, isiD, itZip, zipD, itEnum, itRange1, idxD, lenD, tupleD, listD, setOM, appM, extM, itZip3, body, e1, e2, es, h1, hb3, e4, e5])
  refine ⟨cs, g1, fnSem_rt rfl rfl ?_, hg1, by rw [rangeL_len] at hl; omega, hn⟩
  show m__law_caps [some .bag, some (.dat (.int (m : Nat))), some (.dat (tNet net)), some (.dat (tI st)), some (.dat (.int (many : Nat))), none, none, none, none, none] g = _
  unfold m__law_caps
  simp only [body] at e1
  have hrr := range1_ok (n := many) (by omega)
  simp only [tI, tNet] at e1
  simp [Kd.andM, Kd.orM, Kd.notM, blM, bin, un, potI, cM, potNE, seqM, potPop, potSet, ifM, brwM, varM, Pot.setI, nilM, ifS, setM, retM, thaw, retNM, tstM, truD, vAndM, vOrM, vNotM, chainM, daM, slM, argsM, tupM, lstM, callM, argsS, idL, multM, argsF, setSs, compM, itSeq, seqD, wipeE, bindT, bindTs, yesM, isiD, itZip, zipD, itEnum, itRange1, idxD, lenD, tupleD, listD, setOM, appM, extM, itZip3, Kd.forM, hrr, e1]
end K77

end part_K77G
section part_K77H
namespace K77
open PySem Kd
/-- a good state -/
def GT (m : Nat) (x : D) : Prop := ∃ s : List Int, x = tI s ∧ s.length = m ∧ Bd (10 ^ 11) s
theorem done_ok {m : Nat} {s : List Int × List Int} {st : List Int} (hs : GS m s) (h1 : st.length = m) (h2 : ∀ x ∈ st, 0 ≤ x ∧ x ≤ 10 ^ 9) : (done s st).length = m ∧ Bd (10 ^ 11) (done s st) := by
  obtain ⟨n1, n2, n3, n4⟩ := hs
  have e := done_mov (st := st) (a := s.1) (b := s.2) (h1.trans n1.symm) (h1.trans n2.symm)
  rw [show done s st = mov st (chg s) from e]
  refine ⟨by simp [Kd.andM, Kd.orM, Kd.notM, blM, bin, un, potI, cM, potNE, seqM, potPop, potSet, ifM, brwM, varM, Pot.setI, nilM, ifS, setM, retM, thaw, retNM, tstM, truD, vAndM, vOrM, vNotM, chainM, daM, slM, argsM, tupM, lstM, callM, argsS, idL, multM, argsF, setSs, compM, itSeq, seqD, wipeE, bindT, bindTs, yesM, isiD, itZip, zipD, itEnum, itRange1, idxD, lenD, tupleD, listD, setOM, appM, extM, itZip3, sliceM, partM, sliceD, mov, chg, h1, n1, n2], fun x hx => ?_⟩
  obtain ⟨p, hp, rfl⟩ := List.mem_map.mp hx
  obtain ⟨p1, p2⟩ := List.of_mem_zip hp
  obtain ⟨q, hq, e2⟩ := List.mem_map.mp p2
  obtain ⟨q1, q2⟩ := List.of_mem_zip hq
  have a1 := h2 p.1 p1
  have a2 := n3 q.1 q1
  have a3 := n4 q.2 q2
  rw [← e2]
  omega
theorem put_ok {A : Nat} {st : List Int} {k : Nat} (hk : k < st.length) (hb : Bd A st) {v : Int} (hv : v.natAbs ≤ A) : (st.take k ++ [v] ++ st.drop (k + 1)).length = st.length ∧ Bd A (st.take k ++ [v] ++ st.drop (k + 1)) := by
  refine ⟨by simp [Kd.andM, Kd.orM, Kd.notM, blM, bin, un, potI, cM, potNE, seqM, potPop, potSet, ifM, brwM, varM, Pot.setI, nilM, ifS, setM, retM, thaw, retNM, tstM, truD, vAndM, vOrM, vNotM, chainM, daM, slM, argsM, tupM, lstM, callM, argsS, idL, multM, argsF, setSs, compM, itSeq, seqD, wipeE, bindT, bindTs, yesM, isiD, itZip, zipD, itEnum, itRange1, idxD, lenD, tupleD, listD, setOM, appM, extM, itZip3, sliceM, partM, sliceD]; omega, fun x hx => ?_⟩
  simp only [List.mem_append, List.mem_singleton] at hx
  rcases hx with (h | h) | h
  · exact hb x (List.mem_of_mem_take h)
  · rw [h]; exact hv
  · exact hb x (List.mem_of_mem_drop h)
/-- x[:k] + (v,) + x[k + 1:] -/
theorem put_eq {xs : List D} {k : Nat} {v : D} (hl : xs.length ≤ 1000) : addD (.tuple (cutG xs none (some (k : Nat)))) (.tuple [v]) = some (.tuple (xs.take k ++ [v])) ∧ addD (.tuple (xs.take k ++ [v])) (.tuple (cutG xs (some (((k : Nat) : Int) + 1)) none)) = some (.tuple (xs.take k ++ [v] ++ xs.drop (k + 1))) := by
  refine ⟨?_, ?_⟩
  · rw [cut_take]
    exact addD_tup (by rw [List.length_take, List.length_singleton]; omega)
  · rw [cut_drop1]
    exact addD_tup (by rw [List.length_append, List.length_take, List.length_singleton, List.length_drop]; omega)
theorem some_states_ok {g : GG} (hg : Pk g) {m : Nat} {net : List (List Int × List Int)} {st : List Int} (hm : m ≤ 8) (hst : st.length = m) (hb : ∀ x ∈ st, 0 ≤ x ∧ x ≤ 10 ^ 9) (hn : ∀ s ∈ net, GS m s) (hl : net.length ≤ 20) :
    ∃ xs g', s__law_some_states [.bag, .dat (.int (m : Nat)), .dat (tNet net), .dat (tI st)] g = some (.ok (.list xs) g') ∧ Pk g' ∧ ∀ x ∈ xs, GT m x := by
  let e0 : Kd.Env := [some .bag, some (.dat (.int (m : Nat))), some (.dat (tNet net)), some (.dat (tI st))]
  let L : List (List Int) := (net.filter fun s => isLet s st).map fun s => done s st
  let L2 : List (List Int) := L.filter fun o => decide (o.foldl max 0 ≤ 1000000000)
  have c1 := compGo_mapA (t := .nm 7) (c := tstM (callM s__law_is_let idL [daM (varM 7), daM (varM 3)])) (e := callM s__law_done idL [daM (varM 7), daM (varM 3)]) (ρ := [some .bag, some (.dat (.int (m : Nat))), some (.dat (tNet net)), some (.dat (tI st)), some (.own (.list [tI st])), none, none, none, none]) (g := g) tSt (fun s => isLet s st) (fun s => tI (done s st)) net fun s hs => ⟨_, rfl, by simp [Kd.andM, Kd.orM, Kd.notM, blM, bin, un, potI, cM, potNE, seqM, potPop, potSet, ifM, brwM, varM, Pot.setI, nilM, ifS, setM, retM, thaw, retNM, tstM, truD, vAndM, vOrM, vNotM, chainM, daM, slM, argsM, tupM, lstM, callM, argsS, idL, multM, argsF, setSs, compM, itSeq, seqD, wipeE, bindT, bindTs, yesM, isiD, itZip, zipD, itEnum, itRange1, idxD, lenD, tupleD, listD, setOM, appM, extM, itZip3, sliceM, partM, sliceD, law_is_let_ok], fun _ => by simp [Kd.andM, Kd.orM, Kd.notM, blM, bin, un, potI, cM, potNE, seqM, potPop, potSet, ifM, brwM, varM, Pot.setI, nilM, ifS, setM, retM, thaw, retNM, tstM, truD, vAndM, vOrM, vNotM, chainM, daM, slM, argsM, tupM, lstM, callM, argsS, idL, multM, argsF, setSs, compM, itSeq, seqD, wipeE, bindT, bindTs, yesM, isiD, itZip, zipD, itEnum, itRange1, idxD, lenD, tupleD, listD, setOM, appM, extM, itZip3, sliceM, partM, sliceD, law_done_ok]⟩
  have hL : ((net.filter fun s => isLet s st).map fun s => tI (done s st)) = L.map tI := by
    show _ = List.map tI (List.map _ _)
    rw [List.map_map]; rfl
  rw [hL] at c1
  have c2 := compGo_mapA (t := .nm 8) (c := blM (bin leI (un max1D (bin addD (tupM [cM (.int 0)]) (brwM 8))) (bin powD (cM (.int 10)) (cM (.int 9))))) (e := varM 8) (ρ := [some .bag, some (.dat (.int (m : Nat))), some (.dat (tNet net)), some (.dat (tI st)), some (.own (.list [tI st])), some (.dat (.list (L.map tI))), none, none, none]) (g := g) tI (fun o => decide (o.foldl max 0 ≤ 1000000000)) tI L fun o ho => ⟨_, rfl, by
    have hlo : o.length = m := by
      obtain ⟨s, hs, rfl⟩ := List.mem_map.mp ho
      exact (done_ok (hn s (List.mem_filter.mp hs).1) hst hb).1
    have ea : addD (.tuple [.int 0]) (tI o) = some (.tuple (.int 0 :: o.map .int)) := addD_tup (by simp [Kd.andM, Kd.orM, Kd.notM, blM, bin, un, potI, cM, potNE, seqM, potPop, potSet, ifM, brwM, varM, Pot.setI, nilM, ifS, setM, retM, thaw, retNM, tstM, truD, vAndM, vOrM, vNotM, chainM, daM, slM, argsM, tupM, lstM, callM, argsS, idL, multM, argsF, setSs, compM, itSeq, seqD, wipeE, bindT, bindTs, yesM, isiD, itZip, zipD, itEnum, itRange1, idxD, lenD, tupleD, listD, setOM, appM, extM, itZip3, sliceM, partM, sliceD]; omega)
    have em : max1D (.tuple (.int 0 :: o.map .int)) = some (.int (o.foldl max 0)) := by
      show (ints? (o.map .int)).map _ = _
      rw [ints?_map]; rfl
    simp only [tI] at ea
    simp [Kd.andM, Kd.orM, Kd.notM, blM, bin, un, potI, cM, potNE, seqM, potPop, potSet, ifM, brwM, varM, Pot.setI, nilM, ifS, setM, retM, thaw, retNM, tstM, truD, vAndM, vOrM, vNotM, chainM, daM, slM, argsM, tupM, lstM, callM, argsS, idL, multM, argsF, setSs, compM, itSeq, seqD, wipeE, bindT, bindTs, yesM, isiD, itZip, zipD, itEnum, itRange1, idxD, lenD, tupleD, listD, setOM, appM, extM, itZip3, sliceM, partM, sliceD, ea, em], fun _ => by simp [Kd.andM, Kd.orM, Kd.notM, blM, bin, un, potI, cM, potNE, seqM, potPop, potSet, ifM, brwM, varM, Pot.setI, nilM, ifS, setM, retM, thaw, retNM, tstM, truD, vAndM, vOrM, vNotM, chainM, daM, slM, argsM, tupM, lstM, callM, argsS, idL, multM, argsF, setSs, compM, itSeq, seqD, wipeE, bindT, bindTs, yesM, isiD, itZip, zipD, itEnum, itRange1, idxD, lenD, tupleD, listD, setOM, appM, extM, itZip3, sliceM, partM, sliceD]⟩
  change compGo _ _ _ _ (L.map tI) g = some (.ok (L2.map tI) g) at c2
  have gL2 : ∀ x ∈ L2.map tI, GT m x := fun x hx => by
    obtain ⟨o, ho, rfl⟩ := List.mem_map.mp hx
    obtain ⟨s, hs, rfl⟩ := List.mem_map.mp (List.mem_filter.mp ho).1
    obtain ⟨d1, d2⟩ := done_ok (hn s (List.mem_filter.mp hs).1) hst hb
    exact ⟨_, rfl, d1, d2⟩
  have lL2 : L2.length ≤ 20 := by
    have h1 : L2.length ≤ L.length := List.length_filter_le _ _
    have h2 := List.length_filter_le (fun s => isLet s st) net
    have h3 : L.length = (net.filter fun s => isLet s st).length := List.length_map _
    omega
  have hbS : Bd (10 ^ 11) st := fun x hx => by have := hb x hx; omega
  have gst : GT m (tI st) := ⟨st, rfl, hst, hbS⟩
  have shp : SeqAt.shaped (.list (L2.map tI)) = true := by
    obtain ⟨a, b⟩ := layD (xs := L2.map tI) fun x hx => by
      obtain ⟨o, _, rfl⟩ := List.mem_map.mp hx
      have := lay_tI o
      exact ⟨this.1, by omega⟩
    exact shaped_list a (by omega)
  have hne := neX_lnil shp
  -- the list after the second part
  have part2 : ∃ F g1, Pk g1 ∧ (∀ x ∈ F, GT m x) ∧ F.length ≤ 5 ∧ ifS (blM (bin neX (brwM 5) (lstM []))) (seqM (appM 4 (callM s__law_pick idL [slM 0, daM (varM 5)])) nilM) (nilM) [some .bag, some (.dat (.int (m : Nat))), some (.dat (tNet net)), some (.dat (tI st)), some (.own (.list [tI st])), some (.dat (.list (L2.map tI))), none, none, none] g =
      some (.nx [some .bag, some (.dat (.int (m : Nat))), some (.dat (tNet net)), some (.dat (tI st)), some (.own (.list F)), some (.dat (.list (L2.map tI))), none, none, none] g1) := by
    cases hem : (L2.map tI).isEmpty with
    | true =>
      rw [hem] at hne
      exact ⟨[tI st], g, hg, fun x hx => by rw [List.mem_singleton.mp hx]; exact gst, by simp [Kd.andM, Kd.orM, Kd.notM, blM, bin, un, potI, cM, potNE, seqM, potPop, potSet, ifM, brwM, varM, Pot.setI, nilM, ifS, setM, retM, thaw, retNM, tstM, truD, vAndM, vOrM, vNotM, chainM, daM, slM, argsM, tupM, lstM, callM, argsS, idL, multM, argsF, setSs, compM, itSeq, seqD, wipeE, bindT, bindTs, yesM, isiD, itZip, zipD, itEnum, itRange1, idxD, lenD, tupleD, listD, setOM, appM, extM, itZip3, sliceM, partM, sliceD], by simp [Kd.andM, Kd.orM, Kd.notM, blM, bin, un, potI, cM, potNE, seqM, potPop, potSet, ifM, brwM, varM, Pot.setI, nilM, ifS, setM, retM, thaw, retNM, tstM, truD, vAndM, vOrM, vNotM, chainM, daM, slM, argsM, tupM, lstM, callM, argsS, idL, multM, argsF, setSs, compM, itSeq, seqD, wipeE, bindT, bindTs, yesM, isiD, itZip, zipD, itEnum, itRange1, idxD, lenD, tupleD, listD, setOM, appM, extM, itZip3, sliceM, partM, sliceD, hne]⟩
    | false =>
      rw [hem] at hne
      obtain ⟨v, g1, e1, hg1, hv⟩ := pick_list hg (xs := L2.map tI) (by
        cases hx : L2.map tI with
        | nil => rw [hx] at hem; cases hem
        | cons a r => simp [Kd.andM, Kd.orM, Kd.notM, blM, bin, un, potI, cM, potNE, seqM, potPop, potSet, ifM, brwM, varM, Pot.setI, nilM, ifS, setM, retM, thaw, retNM, tstM, truD, vAndM, vOrM, vNotM, chainM, daM, slM, argsM, tupM, lstM, callM, argsS, idL, multM, argsF, setSs, compM, itSeq, seqD, wipeE, bindT, bindTs, yesM, isiD, itZip, zipD, itEnum, itRange1, idxD, lenD, tupleD, listD, setOM, appM, extM, itZip3, sliceM, partM, sliceD]) (by rw [List.length_map]; omega)
      refine ⟨[tI st, v], g1, hg1, fun x hx => ?_, by simp [Kd.andM, Kd.orM, Kd.notM, blM, bin, un, potI, cM, potNE, seqM, potPop, potSet, ifM, brwM, varM, Pot.setI, nilM, ifS, setM, retM, thaw, retNM, tstM, truD, vAndM, vOrM, vNotM, chainM, daM, slM, argsM, tupM, lstM, callM, argsS, idL, multM, argsF, setSs, compM, itSeq, seqD, wipeE, bindT, bindTs, yesM, isiD, itZip, zipD, itEnum, itRange1, idxD, lenD, tupleD, listD, setOM, appM, extM, itZip3, sliceM, partM, sliceD], by simp [Kd.andM, Kd.orM, Kd.notM, blM, bin, un, potI, cM, potNE, seqM, potPop, potSet, ifM, brwM, varM, Pot.setI, nilM, ifS, setM, retM, thaw, retNM, tstM, truD, vAndM, vOrM, vNotM, chainM, daM, slM, argsM, tupM, lstM, callM, argsS, idL, multM, argsF, setSs, compM, itSeq, seqD, wipeE, bindT, bindTs, yesM, isiD, itZip, zipD, itEnum, itRange1, idxD, lenD, tupleD, listD, setOM, appM, extM, itZip3, sliceM, partM, sliceD, hne, e1]⟩
      simp only [List.mem_cons, List.not_mem_nil, or_false] at hx
      rcases hx with rfl | rfl
      · exact gst
      · exact gL2 _ hv
  obtain ⟨F, g1, hg1, gF, lF, e1⟩ := part2
  have part3 : ∃ F2 g2 o6, Pk g2 ∧ (∀ x ∈ F2, GT m x) ∧ F2.length ≤ 6 ∧ ifS (blM (bin gtI (brwM 1) (cM (.int 0)))) (seqM (setM 6 (callM s__law_draw idL [slM 0, daM (varM 1)])) <| seqM (appM 4 (bin addD (bin addD (sliceM (brwM 3) none (some (brwM 6))) (tupM [bin min2D (bin powD (cM (.int 10)) (cM (.int 9))) (bin addD (bin idxD (brwM 3) (brwM 6)) (cM (.int 1)))])) (sliceM (brwM 3) (some (bin addD (brwM 6) (cM (.int 1)))) none))) nilM) (nilM) [some .bag, some (.dat (.int (m : Nat))), some (.dat (tNet net)), some (.dat (tI st)), some (.own (.list F)), some (.dat (.list (L2.map tI))), none, none, none] g1 =
      some (.nx [some .bag, some (.dat (.int (m : Nat))), some (.dat (tNet net)), some (.dat (tI st)), some (.own (.list F2)), some (.dat (.list (L2.map tI))), o6, none, none] g2) := by
    by_cases h0 : m = 0
    · exact ⟨F, g1, none, hg1, gF, by omega, by simp [Kd.andM, Kd.orM, Kd.notM, blM, bin, un, potI, cM, potNE, seqM, potPop, potSet, ifM, brwM, varM, Pot.setI, nilM, ifS, setM, retM, thaw, retNM, tstM, truD, vAndM, vOrM, vNotM, chainM, daM, slM, argsM, tupM, lstM, callM, argsS, idL, multM, argsF, setSs, compM, itSeq, seqD, wipeE, bindT, bindTs, yesM, isiD, itZip, zipD, itEnum, itRange1, idxD, lenD, tupleD, listD, setOM, appM, extM, itZip3, sliceM, partM, sliceD, h0]⟩
    · obtain ⟨n, g2, e2, hg2, n0, n1⟩ := draw_ok hg1 (n := (m : Nat)) (by omega) (by omega)
      obtain ⟨k, rfl⟩ : ∃ k : Nat, n = (k : Nat) := ⟨n.toNat, by omega⟩
      have hk : k < st.length := by omega
      have hk2 : (st.map PyData.int)[k]? = some (.int st[k]) := by rw [List.getElem?_map, List.getElem?_eq_getElem hk]; rfl
      obtain ⟨v, hv, hvb⟩ : ∃ v : Int, min2D (.int 1000000000) (.int (st[k] + 1)) = some (.int v) ∧ v.natAbs ≤ 10 ^ 11 := by
        have := hb st[k] (List.getElem_mem hk)
        refine ⟨_, rfl, ?_⟩
        split <;> omega
      obtain ⟨p1, p2⟩ := put_eq (xs := st.map PyData.int) (k := k) (v := .int v) (by rw [List.length_map]; omega)
      obtain ⟨q1, q2⟩ := put_ok hk hbS hvb
      refine ⟨F ++ [tI (st.take k ++ [v] ++ st.drop (k + 1))], g2, some (.dat (.int (k : Nat))), hg2, fun x hx => ?_, by simp [Kd.andM, Kd.orM, Kd.notM, blM, bin, un, potI, cM, potNE, seqM, potPop, potSet, ifM, brwM, varM, Pot.setI, nilM, ifS, setM, retM, thaw, retNM, tstM, truD, vAndM, vOrM, vNotM, chainM, daM, slM, argsM, tupM, lstM, callM, argsS, idL, multM, argsF, setSs, compM, itSeq, seqD, wipeE, bindT, bindTs, yesM, isiD, itZip, zipD, itEnum, itRange1, idxD, lenD, tupleD, listD, setOM, appM, extM, itZip3, sliceM, partM, sliceD]; omega, ?_⟩
      · rcases List.mem_append.mp hx with h | h
        · exact gF x h
        · rw [List.mem_singleton.mp h]; exact ⟨_, rfl, by rw [q1]; exact hst, q2⟩
      · have hm0 : 0 < m := Nat.pos_of_ne_zero h0
        have hlt : F.length < 16777216 := by omega
        simp [Kd.andM, Kd.orM, Kd.notM, blM, bin, un, potI, cM, potNE, seqM, potPop, potSet, ifM, brwM, varM, Pot.setI, nilM, ifS, setM, retM, thaw, retNM, tstM, truD, vAndM, vOrM, vNotM, chainM, daM, slM, argsM, tupM, lstM, callM, argsS, idL, multM, argsF, setSs, compM, itSeq, seqD, wipeE, bindT, bindTs, yesM, isiD, itZip, zipD, itEnum, itRange1, idxD, lenD, tupleD, listD, setOM, appM, extM, itZip3, sliceM, partM, sliceD, hm0, e2, p1, p2, atI_nat, hk2, hv, hlt, List.map_take, List.map_drop]
  obtain ⟨F2, g2, o6, hg2, gF2, lF2, e2⟩ := part3
  obtain ⟨s3, g3, e3, hg3, l3, b3⟩ := state_ok hg2 hm
  refine ⟨F2 ++ [tI s3], g3, fnSem_rt rfl rfl ?_, hg3, fun x hx => ?_⟩
  · show m__law_some_states [some .bag, some (.dat (.int (m : Nat))), some (.dat (tNet net)), some (.dat (tI st)), none, none, none, none, none] g = _
    unfold m__law_some_states
    have hlt : F2.length < 16777216 := by omega
    have st1 : setOM 4 (lstM [varM 3]) [some .bag, some (.dat (.int (m : Nat))), some (.dat (tNet net)), some (.dat (tI st)), none, none, none, none, none] g = some (.nx [some .bag, some (.dat (.int (m : Nat))), some (.dat (tNet net)), some (.dat (tI st)), some (.own (.list [tI st])), none, none, none, none] g) := by simp [Kd.andM, Kd.orM, Kd.notM, blM, bin, un, potI, cM, potNE, seqM, potPop, potSet, ifM, brwM, varM, Pot.setI, nilM, ifS, setM, retM, thaw, retNM, tstM, truD, vAndM, vOrM, vNotM, chainM, daM, slM, argsM, tupM, lstM, callM, argsS, idL, multM, argsF, setSs, compM, itSeq, seqD, wipeE, bindT, bindTs, yesM, isiD, itZip, zipD, itEnum, itRange1, idxD, lenD, tupleD, listD, setOM, appM, extM, itZip3, sliceM, partM, sliceD]
    have st2 : setM 5 (compM (itSeq (brwM 2)) (.nm 7) (tstM (callM s__law_is_let idL [daM (varM 7), daM (varM 3)])) (callM s__law_done idL [daM (varM 7), daM (varM 3)]) [7]) [some .bag, some (.dat (.int (m : Nat))), some (.dat (tNet net)), some (.dat (tI st)), some (.own (.list [tI st])), none, none, none, none] g = some (.nx [some .bag, some (.dat (.int (m : Nat))), some (.dat (tNet net)), some (.dat (tI st)), some (.own (.list [tI st])), some (.dat (.list (L.map tI))), none, none, none] g) := by
      unfold setM compM
      simp [Kd.andM, Kd.orM, Kd.notM, blM, bin, un, potI, cM, potNE, seqM, potPop, potSet, ifM, brwM, varM, Pot.setI, nilM, ifS, setM, retM, thaw, retNM, truD, vAndM, vOrM, vNotM, chainM, daM, slM, argsM, tupM, lstM, argsS, idL, multM, argsF, setSs, compM, itSeq, seqD, wipeE, bindT, bindTs, yesM, isiD, itZip, zipD, itEnum, itRange1, idxD, lenD, tupleD, listD, setOM, appM, extM, itZip3, sliceM, partM, sliceD, c1]
    have st3 : setM 5 (compM (itSeq (brwM 5)) (.nm 8) (blM (bin leI (un max1D (bin addD (tupM [cM (.int 0)]) (brwM 8))) (bin powD (cM (.int 10)) (cM (.int 9))))) (varM 8) [8]) [some .bag, some (.dat (.int (m : Nat))), some (.dat (tNet net)), some (.dat (tI st)), some (.own (.list [tI st])), some (.dat (.list (L.map tI))), none, none, none] g = some (.nx [some .bag, some (.dat (.int (m : Nat))), some (.dat (tNet net)), some (.dat (tI st)), some (.own (.list [tI st])), some (.dat (.list (L2.map tI))), none, none, none] g) := by
      unfold setM compM
      simp [Kd.andM, Kd.orM, Kd.notM, potI, cM, potNE, seqM, potPop, potSet, ifM, brwM, varM, Pot.setI, nilM, ifS, setM, retM, thaw, retNM, tstM, truD, vAndM, vOrM, vNotM, chainM, daM, slM, argsM, tupM, lstM, callM, argsS, idL, multM, argsF, setSs, compM, itSeq, seqD, wipeE, bindT, bindTs, yesM, isiD, itZip, zipD, itEnum, itRange1, idxD, lenD, tupleD, listD, setOM, appM, extM, itZip3, sliceM, partM, sliceD, c2]
    rw [seqM_nx st1, seqM_nx st2, seqM_nx st3, seqM_nx e1, seqM_nx e2]
    simp [Kd.andM, Kd.orM, Kd.notM, blM, bin, un, potI, cM, potNE, seqM, potPop, potSet, ifM, brwM, varM, Pot.setI, nilM, ifS, setM, retM, thaw, retNM, tstM, truD, vAndM, vOrM, vNotM, chainM, daM, slM, argsM, tupM, lstM, callM, argsS, idL, multM, argsF, setSs, compM, itSeq, seqD, wipeE, bindT, bindTs, yesM, isiD, itZip, zipD, itEnum, itRange1, idxD, lenD, tupleD, listD, setOM, appM, extM, itZip3, sliceM, partM, sliceD, e3, hlt]
  · rcases List.mem_append.mp hx with h | h
    · exact gF2 x h
    · rw [List.mem_singleton.mp h]
      exact ⟨s3, rfl, l3, fun y hy => by have := b3 y hy; omega⟩
end K77

end part_K77H
section part_K77I
namespace K77
open PySem Kd
def c30 : Int := 10 ^ 30
def c57 : Int := 10 ^ 57
def c399 : Int := 10 ^ 399
theorem pow_of {a b c : Int} (h : 0 ≤ b ∧ ((Builtin.Int.intBits a : Nat) : Int) * b ≤ 2 ^ 27) (e : a ^ b.toNat = c) : powD (.int a) (.int b) = some (.int c) := by
  show (if 0 ≤ b ∧ ((Builtin.Int.intBits a : Nat) : Int) * b ≤ 2 ^ 27 then some (PyData.int (a ^ b.toNat)) else none) = _
  rw [if_pos h, e]
@[simp] theorem pow30 : powD (.int 10) (.int 30) = some (.int c30) := pow_of (by decide +kernel) (by decide +kernel)
@[simp] theorem pow57 : powD (.int 10) (.int 57) = some (.int c57) := pow_of (by decide +kernel) (by decide +kernel)
@[simp] theorem pow399 : powD (.int c57) (.int 7) = some (.int c399) := pow_of (by decide +kernel) (by decide +kernel)
theorem n30 {h n : Nat} : Nice h n (.int (-c30)) := Nice.int (by decide +kernel)
theorem n30p {h n : Nat} : Nice h n (.int c30) := Nice.int (by decide +kernel)
theorem n399 {h n : Nat} : Nice h n (.int c399) := Nice.int (by decide +kernel)
theorem n399m {h n : Nat} : Nice h n (.int (-c399)) := Nice.int (by decide +kernel)
theorem niceKv {h n : Nat} : ∀ {ps : List (D × D)}, (∀ p ∈ ps, Nice h n p.1 ∧ Nice h n p.2) → PyData.showableKv ps = true ∧ PyData.depthKv ps ≤ h ∧ PyData.leavesShortKv 700 ps = true ∧ PyData.bulkKv ps ≤ ps.length * (2 * n + 2)
  | [], _ => by simp [Kd.andM, Kd.orM, Kd.notM, blM, bin, un, potI, cM, potNE, seqM, potPop, potSet, ifM, brwM, varM, Pot.setI, nilM, ifS, setM, retM, thaw, retNM, tstM, truD, vAndM, vOrM, vNotM, chainM, daM, slM, argsM, tupM, lstM, callM, argsS, idL, multM, argsF, setSs, compM, itSeq, seqD, wipeE, bindT, bindTs, yesM, isiD, itZip, zipD, itEnum, itRange1, idxD, lenD, tupleD, listD, setOM, appM, extM, itZip3, sliceM, partM, sliceD, dnewM, stoM, stoD, keyD, PyData.showableKv, PyData.depthKv, PyData.leavesShortKv, PyData.bulkKv]
  | (a, b) :: ps, hx => by
    obtain ⟨h1, h2⟩ := hx (a, b) (by simp [Kd.andM, Kd.orM, Kd.notM, blM, bin, un, potI, cM, potNE, seqM, potPop, potSet, ifM, brwM, varM, Pot.setI, nilM, ifS, setM, retM, thaw, retNM, tstM, truD, vAndM, vOrM, vNotM, chainM, daM, slM, argsM, tupM, lstM, callM, argsS, idL, multM, argsF, setSs, compM, itSeq, seqD, wipeE, bindT, bindTs, yesM, isiD, itZip, zipD, itEnum, itRange1, idxD, lenD, tupleD, listD, setOM, appM, extM, itZip3, sliceM, partM, sliceD, dnewM, stoM, stoD, keyD])
    obtain ⟨e1, e2, e3, e4⟩ := niceKv (ps := ps) fun y hy => hx y (List.mem_cons_of_mem _ hy)
    have f1 := h1.nd
    have f2 := h1.nb
    have f3 := h2.nd
    have f4 := h2.nb
    dsimp only at f1 f2 f3 f4
    have g1 := h1.ns
    have g2 := h2.ns
    have g3 := h1.nl
    have g4 := h2.nl
    dsimp only at g1 g2 g3 g4
    refine ⟨by simp [Kd.andM, Kd.orM, Kd.notM, blM, bin, un, potI, cM, potNE, seqM, potPop, potSet, ifM, brwM, varM, Pot.setI, nilM, ifS, setM, retM, thaw, retNM, tstM, truD, vAndM, vOrM, vNotM, chainM, daM, slM, argsM, tupM, lstM, callM, argsS, idL, multM, argsF, setSs, compM, itSeq, seqD, wipeE, bindT, bindTs, yesM, isiD, itZip, zipD, itEnum, itRange1, idxD, lenD, tupleD, listD, setOM, appM, extM, itZip3, sliceM, partM, sliceD, dnewM, stoM, stoD, keyD, PyData.showableKv, g1, g2, e1], by simp only [PyData.depthKv]; omega, by simp [Kd.andM, Kd.orM, Kd.notM, blM, bin, un, potI, cM, potNE, seqM, potPop, potSet, ifM, brwM, varM, Pot.setI, nilM, ifS, setM, retM, thaw, retNM, tstM, truD, vAndM, vOrM, vNotM, chainM, daM, slM, argsM, tupM, lstM, callM, argsS, idL, multM, argsF, setSs, compM, itSeq, seqD, wipeE, bindT, bindTs, yesM, isiD, itZip, zipD, itEnum, itRange1, idxD, lenD, tupleD, listD, setOM, appM, extM, itZip3, sliceM, partM, sliceD, dnewM, stoM, stoD, keyD, PyData.leavesShortKv, g3, g4, e3], ?_⟩
    simp only [PyData.bulkKv, List.length_cons]
    rw [Nat.add_mul, Nat.one_mul]
    omega
theorem Nice.dict {h n k : Nat} {ps : List (D × D)} (hx : ∀ p ∈ ps, Nice h n p.1 ∧ Nice h n p.2) (hk : ps.length ≤ k) : Nice (h + 1) (k * (2 * n + 2)) (.dict ps) := by
  obtain ⟨a, b, c, d⟩ := niceKv hx
  have := Nat.mul_le_mul_right (2 * n + 2) hk
  exact ⟨by simpa only [PyData.showable] using a, by simp only [PyData.depth]; omega, by simpa only [PyData.leavesShort] using c, by simp only [PyData.bulk]; omega⟩
theorem putP_good {Q : D × D → Prop} {ps : List (D × D)} {k : L2.Key} {d : D} (h : ∀ p ∈ ps, Q p) (hn : Q (kD k, d)) (hr : ∀ a b, Q (a, b) → Q (a, d)) : (∀ p ∈ putP ps k d, Q p) ∧ (putP ps k d).length ≤ ps.length + 1 := by
  refine ⟨fun p hp => ?_, putP_len ps k d⟩
  unfold putP at hp
  split at hp
  · obtain ⟨q, hq, rfl⟩ := List.mem_map.mp hp
    split
    · exact hr q.1 q.2 (h q hq)
    · exact h q hq
  · rcases List.mem_append.mp hp with z | z
    · exact h p z
    · rw [List.mem_singleton.mp z]; exact hn
def nn : Nat → Nat
  | 0 => 10
  | k + 1 => 3 * (2 * nn k + 2) + 10
theorem nn10 (k : Nat) : 10 ≤ nn k := by cases k <;> simp [Kd.andM, Kd.orM, Kd.notM, blM, bin, un, potI, cM, potNE, seqM, potPop, potSet, ifM, brwM, varM, Pot.setI, nilM, ifS, setM, retM, thaw, retNM, tstM, truD, vAndM, vOrM, vNotM, chainM, daM, slM, argsM, tupM, lstM, callM, argsS, idL, multM, argsF, setSs, compM, itSeq, seqD, wipeE, bindT, bindTs, yesM, isiD, itZip, zipD, itEnum, itRange1, idxD, lenD, tupleD, listD, setOM, appM, extM, itZip3, sliceM, partM, sliceD, dnewM, stoM, stoD, keyD, nn] <;> omega
theorem sA : ∀ x ∈ ([.str "", .str "form", .str "weights", .str "most", .str "0", .str "a b\n~"] : List D), Nice 0 10 x := fun x hx => by
  simp only [List.mem_cons, List.not_mem_nil, or_false] at hx
  rcases hx with rfl | rfl | rfl | rfl | rfl | rfl <;> exact Nice.str (by decide +kernel) (by decide +kernel)
theorem any_ok : ∀ (deep f : Nat), deep < f → ∀ {g : GG}, Pk g → ∃ v g', s__law_any f [.bag, .dat (.int (deep : Nat))] g = some (.ok v g') ∧ Pk g' ∧ Nice (deep + 1) (nn deep) v
  | deep, 0, hf, g, hg => absurd hf (Nat.not_lt_zero _)
  | deep, f + 1, hf, g, hg => by
    have run : ∀ {v : D} {g' : GG}, m__law_any (s__law_any f) [some .bag, some (.dat (.int (deep : Nat))), none, none, none, none, none] g = some (.rt v g') → s__law_any (f + 1) [.bag, .dat (.int (deep : Nat))] g = some (.ok v g') := fun h => fnSem_rt (m := m__law_any (s__law_any f)) (n := 2) (nN := 7) (ss := [.bag, .dat (.int (deep : Nat))]) rfl rfl h
    have hh : ∃ n : Int, 0 < n ∧ n ≤ 9 ∧ (deep = 0 → n = 5) ∧ (0 < deep → n = 9) := by
      by_cases h0 : deep = 0
      · exact ⟨5, by decide, by decide, fun _ => rfl, fun h => by omega⟩
      · exact ⟨9, by decide, by decide, fun z => absurd z h0, fun _ => rfl⟩
    obtain ⟨n, n0, n9, n5, en⟩ := hh
    obtain ⟨way, g1, e1, hg1, w0, w1⟩ := draw_ok hg (n := n) n0 (by omega)
    have first : ∀ h, seqM (setM 2 (callM s__law_draw idL [slM 0, daM (ifM (blM (bin gtI (brwM 1) (cM (.int 0)))) (cM (.int 9)) (cM (.int 5)))])) h [some .bag, some (.dat (.int (deep : Nat))), none, none, none, none, none] g = h [some .bag, some (.dat (.int (deep : Nat))), some (.dat (.int way)), none, none, none, none] g1 := fun h => by
      refine seqM_nx ?_
      by_cases h0 : 0 < deep
      · have h9 := en h0
        rw [h9] at e1
        simp [Kd.andM, Kd.orM, Kd.notM, blM, bin, un, potI, cM, potNE, seqM, potPop, potSet, ifM, brwM, varM, Pot.setI, nilM, ifS, setM, retM, thaw, retNM, tstM, truD, vAndM, vOrM, vNotM, chainM, daM, slM, argsM, tupM, lstM, callM, argsS, idL, multM, argsF, setSs, compM, itSeq, seqD, wipeE, bindT, bindTs, yesM, isiD, itZip, zipD, itEnum, itRange1, idxD, lenD, tupleD, listD, setOM, appM, extM, itZip3, sliceM, partM, sliceD, dnewM, stoM, stoD, keyD, h0, e1]
      · have h5 := n5 (by omega)
        rw [h5] at e1
        simp [Kd.andM, Kd.orM, Kd.notM, blM, bin, un, potI, cM, potNE, seqM, potPop, potSet, ifM, brwM, varM, Pot.setI, nilM, ifS, setM, retM, thaw, retNM, tstM, truD, vAndM, vOrM, vNotM, chainM, daM, slM, argsM, tupM, lstM, callM, argsS, idL, multM, argsF, setSs, compM, itSeq, seqD, wipeE, bindT, bindTs, yesM, isiD, itZip, zipD, itEnum, itRange1, idxD, lenD, tupleD, listD, setOM, appM, extM, itZip3, sliceM, partM, sliceD, dnewM, stoM, stoD, keyD, h0, e1]
    have le : ∀ {v : D}, Nice 0 10 v → Nice (deep + 1) (nn deep) v := fun h => h.mono (Nat.zero_le _) (nn10 deep)
    by_cases h0 : way = 0
    · exact ⟨.none, g1, run (by unfold m__law_any; rw [first]; simp [Kd.andM, Kd.orM, Kd.notM, blM, bin, un, potI, cM, potNE, seqM, potPop, potSet, ifM, brwM, varM, Pot.setI, nilM, ifS, setM, retM, thaw, retNM, tstM, truD, vAndM, vOrM, vNotM, chainM, daM, slM, argsM, tupM, lstM, callM, argsS, idL, multM, argsF, setSs, compM, itSeq, seqD, wipeE, bindT, bindTs, yesM, isiD, itZip, zipD, itEnum, itRange1, idxD, lenD, tupleD, listD, setOM, appM, extM, itZip3, sliceM, partM, sliceD, dnewM, stoM, stoD, keyD, h0]), hg1, Nice.non⟩
    have b0 : (way == 0) = false := by simp [Kd.andM, Kd.orM, Kd.notM, blM, bin, un, potI, cM, potNE, seqM, potPop, potSet, ifM, brwM, varM, Pot.setI, nilM, ifS, setM, retM, thaw, retNM, tstM, truD, vAndM, vOrM, vNotM, chainM, daM, slM, argsM, tupM, lstM, callM, argsS, idL, multM, argsF, setSs, compM, itSeq, seqD, wipeE, bindT, bindTs, yesM, isiD, itZip, zipD, itEnum, itRange1, idxD, lenD, tupleD, listD, setOM, appM, extM, itZip3, sliceM, partM, sliceD, dnewM, stoM, stoD, keyD, h0]
    by_cases h1 : way = 1
    · obtain ⟨v, g2, e2, hg2, _, _⟩ := draw_ok hg1 (n := 2) (by decide) (by decide)
      exact ⟨.bool (v == 0), g2, run (by unfold m__law_any; rw [first]; simp [Kd.andM, Kd.orM, Kd.notM, blM, bin, un, potI, cM, potNE, seqM, potPop, potSet, ifM, brwM, varM, Pot.setI, nilM, ifS, setM, retM, thaw, retNM, tstM, truD, vAndM, vOrM, vNotM, chainM, daM, slM, argsM, tupM, lstM, callM, argsS, idL, multM, argsF, setSs, compM, itSeq, seqD, wipeE, bindT, bindTs, yesM, isiD, itZip, zipD, itEnum, itRange1, idxD, lenD, tupleD, listD, setOM, appM, extM, itZip3, sliceM, partM, sliceD, dnewM, stoM, stoD, keyD, h1, e2]), hg2, Nice.bool _⟩
    have b1 : (way == 1) = false := by simp [Kd.andM, Kd.orM, Kd.notM, blM, bin, un, potI, cM, potNE, seqM, potPop, potSet, ifM, brwM, varM, Pot.setI, nilM, ifS, setM, retM, thaw, retNM, tstM, truD, vAndM, vOrM, vNotM, chainM, daM, slM, argsM, tupM, lstM, callM, argsS, idL, multM, argsF, setSs, compM, itSeq, seqD, wipeE, bindT, bindTs, yesM, isiD, itZip, zipD, itEnum, itRange1, idxD, lenD, tupleD, listD, setOM, appM, extM, itZip3, sliceM, partM, sliceD, dnewM, stoM, stoD, keyD, h1]
    by_cases h2 : way = 2
    · obtain ⟨v, g2, e2, hg2, v0, v1⟩ := draw_ok hg1 (n := 30) (by decide) (by decide)
      exact ⟨.int (v - 9), g2, run (by unfold m__law_any; rw [first]; simp [Kd.andM, Kd.orM, Kd.notM, blM, bin, un, potI, cM, potNE, seqM, potPop, potSet, ifM, brwM, varM, Pot.setI, nilM, ifS, setM, retM, thaw, retNM, tstM, truD, vAndM, vOrM, vNotM, chainM, daM, slM, argsM, tupM, lstM, callM, argsS, idL, multM, argsF, setSs, compM, itSeq, seqD, wipeE, bindT, bindTs, yesM, isiD, itZip, zipD, itEnum, itRange1, idxD, lenD, tupleD, listD, setOM, appM, extM, itZip3, sliceM, partM, sliceD, dnewM, stoM, stoD, keyD, h2, e2]), hg2, niceSmall (by omega)⟩
    have b2 : (way == 2) = false := by simp [Kd.andM, Kd.orM, Kd.notM, blM, bin, un, potI, cM, potNE, seqM, potPop, potSet, ifM, brwM, varM, Pot.setI, nilM, ifS, setM, retM, thaw, retNM, tstM, truD, vAndM, vOrM, vNotM, chainM, daM, slM, argsM, tupM, lstM, callM, argsS, idL, multM, argsF, setSs, compM, itSeq, seqD, wipeE, bindT, bindTs, yesM, isiD, itZip, zipD, itEnum, itRange1, idxD, lenD, tupleD, listD, setOM, appM, extM, itZip3, sliceM, partM, sliceD, dnewM, stoM, stoD, keyD, h2]
    by_cases h3 : way = 3
    · obtain ⟨v, g2, e2, hg2, hv⟩ := pick_list hg1 (xs := [.int 1000000000, .int 1000000001, .int (-c30), .int c399, .int 10]) (by decide) (by decide)
      refine ⟨v, g2, run (by unfold m__law_any; rw [first]; simp [Kd.andM, Kd.orM, Kd.notM, blM, bin, un, potI, cM, potNE, seqM, potPop, potSet, ifM, brwM, varM, Pot.setI, nilM, ifS, setM, retM, thaw, retNM, tstM, truD, vAndM, vOrM, vNotM, chainM, daM, slM, argsM, tupM, lstM, callM, argsS, idL, multM, argsF, setSs, compM, itSeq, seqD, wipeE, bindT, bindTs, yesM, isiD, itZip, zipD, itEnum, itRange1, idxD, lenD, tupleD, listD, setOM, appM, extM, itZip3, sliceM, partM, sliceD, dnewM, stoM, stoD, keyD, h3, e2]), hg2, ?_⟩
      simp only [List.mem_cons, List.not_mem_nil, or_false] at hv
      rcases hv with rfl | rfl | rfl | rfl | rfl
      · exact niceSmall (by decide)
      · exact niceSmall (by decide)
      · exact n30
      · exact n399
      · exact niceSmall (by decide)
    have b3 : (way == 3) = false := by simp [Kd.andM, Kd.orM, Kd.notM, blM, bin, un, potI, cM, potNE, seqM, potPop, potSet, ifM, brwM, varM, Pot.setI, nilM, ifS, setM, retM, thaw, retNM, tstM, truD, vAndM, vOrM, vNotM, chainM, daM, slM, argsM, tupM, lstM, callM, argsS, idL, multM, argsF, setSs, compM, itSeq, seqD, wipeE, bindT, bindTs, yesM, isiD, itZip, zipD, itEnum, itRange1, idxD, lenD, tupleD, listD, setOM, appM, extM, itZip3, sliceM, partM, sliceD, dnewM, stoM, stoD, keyD, h3]
    by_cases h4 : way = 4
    · obtain ⟨v, g2, e2, hg2, hv⟩ := pick_list hg1 (xs := [.str "", .str "form", .str "weights", .str "most", .str "0", .str "a b\n~"]) (by decide) (by decide)
      exact ⟨v, g2, run (by unfold m__law_any; rw [first]; simp [Kd.andM, Kd.orM, Kd.notM, blM, bin, un, potI, cM, potNE, seqM, potPop, potSet, ifM, brwM, varM, Pot.setI, nilM, ifS, setM, retM, thaw, retNM, tstM, truD, vAndM, vOrM, vNotM, chainM, daM, slM, argsM, tupM, lstM, callM, argsS, idL, multM, argsF, setSs, compM, itSeq, seqD, wipeE, bindT, bindTs, yesM, isiD, itZip, zipD, itEnum, itRange1, idxD, lenD, tupleD, listD, setOM, appM, extM, itZip3, sliceM, partM, sliceD, dnewM, stoM, stoD, keyD, h4, e2]), hg2, le (sA v hv)⟩
    have b4 : (way == 4) = false := by simp [Kd.andM, Kd.orM, Kd.notM, blM, bin, un, potI, cM, potNE, seqM, potPop, potSet, ifM, brwM, varM, Pot.setI, nilM, ifS, setM, retM, thaw, retNM, tstM, truD, vAndM, vOrM, vNotM, chainM, daM, slM, argsM, tupM, lstM, callM, argsS, idL, multM, argsF, setSs, compM, itSeq, seqD, wipeE, bindT, bindTs, yesM, isiD, itZip, zipD, itEnum, itRange1, idxD, lenD, tupleD, listD, setOM, appM, extM, itZip3, sliceM, partM, sliceD, dnewM, stoM, stoD, keyD, h4]
    have hd : deep ≠ 0 := fun z => by
      have := n5 z
      omega
    obtain ⟨d, rfl⟩ : ∃ d, deep = d + 1 := ⟨deep - 1, by omega⟩
    obtain ⟨many, g2, e2, hg2, m0, m1⟩ := draw_ok hg1 (n := 4) (by decide) (by decide)
    obtain ⟨k, rfl⟩ : ∃ k : Nat, many = (k : Nat) := ⟨many.toNat, by omega⟩
    have hk : k ≤ 3 := by omega
    have ed : (((d + 1 : Nat) : Int) - 1) = ((d : Nat) : Int) := by omega
    obtain ⟨rows, g3, e3, hg3, hl, hr⟩ := compGo_inv (t := .nm 5) (e := callM (s__law_any f) idL [slM 0, daM (bin subD (brwM 1) (cM (.int 1)))]) (ρ := [some .bag, some (.dat (.int ((d + 1 : Nat) : Int))), some (.dat (.int way)), none, none, none, none]) Pk (Nice (d + 1) (nn d)) (rangeL 0 (k : Nat)) g2 hg2 fun x _ g hg => by
      obtain ⟨v, g', e, hg', hv⟩ := any_ok d f (by omega) hg
      exact ⟨_, v, g', rfl, by simp only [callM, argsS, Rs.bind, slM, daM, bin, brwM, cM, subD_int, List.set, List.getElem?_cons_succ, List.getElem?_cons_zero, ed, idL, e], hg', hv⟩
    rw [rangeL_len] at hl
    have second : ∀ h, seqM (setM 3 (compM (itRange1 (callM s__law_draw idL [slM 0, daM (cM (.int 4))])) (.nm 5) (yesM) (callM (s__law_any f) idL [slM 0, daM (bin subD (brwM 1) (cM (.int 1)))]) [5])) h [some .bag, some (.dat (.int ((d + 1 : Nat) : Int))), some (.dat (.int way)), none, none, none, none] g1 = h [some .bag, some (.dat (.int ((d + 1 : Nat) : Int))), some (.dat (.int way)), some (.dat (.list rows)), none, none, none] g3 := fun h => by
      refine seqM_nx ?_
      have hrr := range1_ok (n := k) (by omega)
      unfold setM compM itRange1
      have ea : (callM s__law_draw (fun {α} => idL) [slM 0, daM (cM (.int 4))] : EM GG) [some .bag, some (.dat (.int ((d + 1 : Nat) : Int))), some (.dat (.int way)), none, none, none, none] g1 = some (.ok (.int (k : Nat)) g2) := by simp [Kd.andM, Kd.orM, Kd.notM, blM, bin, un, potI, cM, potNE, seqM, potPop, potSet, ifM, brwM, varM, Pot.setI, nilM, ifS, setM, retM, thaw, retNM, tstM, truD, vAndM, vOrM, vNotM, chainM, daM, slM, argsM, tupM, lstM, callM, argsS, idL, multM, argsF, setSs, compM, itSeq, seqD, wipeE, bindT, bindTs, yesM, isiD, itZip, zipD, itEnum, itRange1, idxD, lenD, tupleD, listD, setOM, appM, extM, itZip3, sliceM, partM, sliceD, dnewM, stoM, stoD, keyD, e2]
      simp only [ea, Rs.bind_ok, hrr, and_self, if_true]
      have ew : wipeE [some .bag, some (.dat (.int ((d + 1 : Nat) : Int))), some (.dat (.int way)), none, none, none, none] [5] = [some .bag, some (.dat (.int ((d + 1 : Nat) : Int))), some (.dat (.int way)), none, none, none, none] := rfl
      rw [ew, e3]
      rfl
    have szL : 3 * (nn d + 1) ≤ nn (d + 1) := by simp only [nn]; omega
    have szD : 3 * (2 * nn d + 2) ≤ nn (d + 1) := by simp only [nn]; omega
    -- the ways before are not taken
    have skip : ∀ {h : SM GG} {a : SM GG} {c : EM GG} {w : Int}, (way == w) = false → c = cM (.int w) → seqM (ifS (blM (bin eqX (brwM 2) c)) a nilM) h [some .bag, some (.dat (.int ((d + 1 : Nat) : Int))), some (.dat (.int way)), none, none, none, none] g1 = h [some .bag, some (.dat (.int ((d + 1 : Nat) : Int))), some (.dat (.int way)), none, none, none, none] g1 := fun {h a c w} hb hc => by
      subst hc
      refine seqM_nx ?_
      simp [Kd.andM, Kd.orM, Kd.notM, blM, bin, un, potI, cM, potNE, seqM, potPop, potSet, ifM, brwM, varM, Pot.setI, nilM, ifS, setM, retM, thaw, retNM, tstM, truD, vAndM, vOrM, vNotM, chainM, daM, slM, argsM, tupM, lstM, callM, argsS, idL, multM, argsF, setSs, compM, itSeq, seqD, wipeE, bindT, bindTs, yesM, isiD, itZip, zipD, itEnum, itRange1, idxD, lenD, tupleD, listD, setOM, appM, extM, itZip3, sliceM, partM, sliceD, dnewM, stoM, stoD, keyD, hb]
    have upto : ∀ {v : D} {g' : GG}, (seqM (ifS (blM (bin ltI (brwM 2) (cM (.int 7)))) (seqM (retM (un tupleD (brwM 3))) nilM) (nilM)) <|
        seqM (ifS (blM (bin eqX (brwM 2) (cM (.int 7)))) (seqM (retM (varM 3)) nilM) (nilM)) <|
        seqM (setOM 4 (dnewM)) <|
        seqM (Kd.forM (itEnum (varM 3)) (.tp (.cons (.nm 5) (.cons (.nm 6) (.nil)))) (seqM (stoM 4 (brwM 5) (varM 6)) nilM)) <|
        seqM (retM (varM 4)) nilM) [some .bag, some (.dat (.int ((d + 1 : Nat) : Int))), some (.dat (.int way)), some (.dat (.list rows)), none, none, none] g3 = some (.rt v g') → s__law_any (f + 1) [.bag, .dat (.int ((d + 1 : Nat) : Int))] g = some (.ok v g') := fun {v g'} h => by
      refine run ?_
      unfold m__law_any
      rw [first, skip b0 rfl, skip b1 rfl, skip b2 rfl, skip b3 rfl, skip b4 rfl, second]
      exact h
    by_cases h7 : way < 7
    · exact ⟨.tuple rows, g3, upto (by simp [Kd.andM, Kd.orM, Kd.notM, blM, bin, un, potI, cM, potNE, seqM, potPop, potSet, ifM, brwM, varM, Pot.setI, nilM, ifS, setM, retM, thaw, retNM, tstM, truD, vAndM, vOrM, vNotM, chainM, daM, slM, argsM, tupM, lstM, callM, argsS, idL, multM, argsF, setSs, compM, itSeq, seqD, wipeE, bindT, bindTs, yesM, isiD, itZip, zipD, itEnum, itRange1, idxD, lenD, tupleD, listD, setOM, appM, extM, itZip3, sliceM, partM, sliceD, dnewM, stoM, stoD, keyD, h7]), hg3, (Nice.tuple hr (k := 3) (by omega)).mono (Nat.le_refl _) szL⟩
    by_cases h8 : way = 7
    · exact ⟨.list rows, g3, upto (by simp [Kd.andM, Kd.orM, Kd.notM, blM, bin, un, potI, cM, potNE, seqM, potPop, potSet, ifM, brwM, varM, Pot.setI, nilM, ifS, setM, retM, thaw, retNM, tstM, truD, vAndM, vOrM, vNotM, chainM, daM, slM, argsM, tupM, lstM, callM, argsS, idL, multM, argsF, setSs, compM, itSeq, seqD, wipeE, bindT, bindTs, yesM, isiD, itZip, zipD, itEnum, itRange1, idxD, lenD, tupleD, listD, setOM, appM, extM, itZip3, sliceM, partM, sliceD, dnewM, stoM, stoD, keyD, h8]), hg3, (Nice.list hr (k := 3) (by omega)).mono (Nat.le_refl _) szL⟩
    have b7 : (way == 7) = false := by simp [Kd.andM, Kd.orM, Kd.notM, blM, bin, un, potI, cM, potNE, seqM, potPop, potSet, ifM, brwM, varM, Pot.setI, nilM, ifS, setM, retM, thaw, retNM, tstM, truD, vAndM, vOrM, vNotM, chainM, daM, slM, argsM, tupM, lstM, callM, argsS, idL, multM, argsF, setSs, compM, itSeq, seqD, wipeE, bindT, bindTs, yesM, isiD, itZip, zipD, itEnum, itRange1, idxD, lenD, tupleD, listD, setOM, appM, extM, itZip3, sliceM, partM, sliceD, dnewM, stoM, stoD, keyD, h8]
    let P : Nat → Kd.Env → GG → Prop := fun i ρ g => g = g3 ∧ ∃ (ps : List (D × D)) (o5 o6 : Option Sv), ρ = [some .bag, some (.dat (.int ((d + 1 : Nat) : Int))), some (.dat (.int way)), some (.dat (.list rows)), some (.own (.dict ps)), o5, o6] ∧ ps.length ≤ i ∧ ∀ p ∈ ps, Nice (d + 1) (nn d) p.1 ∧ Nice (d + 1) (nn d) p.2
    obtain ⟨ρ4, g4, e4, rfl, ps, o5, o6, rfl, hpl, hps⟩ := forGo_nx (t := .tp (.cons (.nm 5) (.cons (.nm 6) (.nil)))) (m := seqM (stoM 4 (brwM 5) (varM 6)) nilM) P (enumL 0 rows) 0 [some .bag, some (.dat (.int ((d + 1 : Nat) : Int))), some (.dat (.int way)), some (.dat (.list rows)), some (.own (.dict [])), none, none] g3 ⟨rfl, [], none, none, rfl, Nat.zero_le _, fun _ h => nomatch h⟩ fun i x ρ g hx hP => by
      obtain ⟨rfl, ps, o5, o6, rfl, hpl, hps⟩ := hP
      rw [Nat.zero_add] at hpl ⊢
      rw [enumL_get, Nat.zero_add] at hx
      cases hy : rows[i]? with
      | none => rw [hy] at hx; cases hx
      | some y =>
        rw [hy] at hx
        cases hx
        have hi : i < rows.length := (List.getElem?_eq_some_iff.mp hy).1
        obtain ⟨q1, q2⟩ := putP_good (Q := fun p => Nice (d + 1) (nn d) p.1 ∧ Nice (d + 1) (nn d) p.2) (k := .inl ((i : Nat) : Int)) (d := y) hps ⟨niceSmall (by omega), hr y (List.mem_of_getElem? hy)⟩ (fun a b h => ⟨h.1, hr y (List.mem_of_getElem? hy)⟩)
        have hlt : ps.length < 16777216 := by omega
        exact ⟨_, [some .bag, some (.dat (.int ((d + 1 : Nat) : Int))), some (.dat (.int way)), some (.dat (.list rows)), some (.own (.dict (putP ps (.inl ((i : Nat) : Int)) y))), some (.dat (.int (i : Nat))), some (.dat y)], g, rfl, .inl (by simp [Kd.andM, Kd.orM, Kd.notM, blM, bin, un, potI, cM, potNE, seqM, potPop, potSet, ifM, brwM, varM, Pot.setI, nilM, ifS, setM, retM, thaw, retNM, tstM, truD, vAndM, vOrM, vNotM, chainM, daM, slM, argsM, tupM, lstM, callM, argsS, idL, multM, argsF, setSs, compM, itSeq, seqD, wipeE, bindT, bindTs, yesM, isiD, itZip, zipD, itEnum, itRange1, idxD, lenD, tupleD, listD, setOM, appM, extM, itZip3, sliceM, partM, sliceD, dnewM, stoM, stoD, keyD, hlt]), rfl, _, _, _, rfl, by omega, q1⟩
    rw [enumL_len] at hpl
    refine ⟨.dict ps, g4, upto ?_, hg3, (Nice.dict hps (k := 3) (by omega)).mono (Nat.le_refl _) szD⟩
    have ef : Kd.forM (itEnum (varM 3)) (.tp (.cons (.nm 5) (.cons (.nm 6) (.nil)))) (seqM (stoM 4 (brwM 5) (varM 6)) nilM) [some .bag, some (.dat (.int ((d + 1 : Nat) : Int))), some (.dat (.int way)), some (.dat (.list rows)), some (.own (.dict [])), none, none] g4 = some (.nx [some .bag, some (.dat (.int ((d + 1 : Nat) : Int))), some (.dat (.int way)), some (.dat (.list rows)), some (.own (.dict ps)), o5, o6] g4) := by
      unfold Kd.forM
      simp only [itEnum, varM, Rs.bind, seqD, List.getElem?_cons_succ, List.getElem?_cons_zero]
      exact e4
    have e7 : ifS (blM (bin ltI (brwM 2) (cM (.int 7)))) (seqM (retM (un tupleD (brwM 3))) nilM) nilM [some .bag, some (.dat (.int ((d + 1 : Nat) : Int))), some (.dat (.int way)), some (.dat (.list rows)), none, none, none] g4 = some (.nx [some .bag, some (.dat (.int ((d + 1 : Nat) : Int))), some (.dat (.int way)), some (.dat (.list rows)), none, none, none] g4) := by simp [Kd.andM, Kd.orM, Kd.notM, blM, bin, un, potI, cM, potNE, seqM, potPop, potSet, ifM, brwM, varM, Pot.setI, nilM, ifS, setM, retM, thaw, retNM, tstM, truD, vAndM, vOrM, vNotM, chainM, daM, slM, argsM, tupM, lstM, callM, argsS, idL, multM, argsF, setSs, compM, itSeq, seqD, wipeE, bindT, bindTs, yesM, isiD, itZip, zipD, itEnum, itRange1, idxD, lenD, tupleD, listD, setOM, appM, extM, itZip3, sliceM, partM, sliceD, dnewM, stoM, stoD, keyD, h7]
    have e8 : ifS (blM (bin eqX (brwM 2) (cM (.int 7)))) (seqM (retM (varM 3)) nilM) nilM [some .bag, some (.dat (.int ((d + 1 : Nat) : Int))), some (.dat (.int way)), some (.dat (.list rows)), none, none, none] g4 = some (.nx [some .bag, some (.dat (.int ((d + 1 : Nat) : Int))), some (.dat (.int way)), some (.dat (.list rows)), none, none, none] g4) := by simp [Kd.andM, Kd.orM, Kd.notM, blM, bin, un, potI, cM, potNE, seqM, potPop, potSet, ifM, brwM, varM, Pot.setI, nilM, ifS, setM, retM, thaw, retNM, tstM, truD, vAndM, vOrM, vNotM, chainM, daM, slM, argsM, tupM, lstM, callM, argsS, idL, multM, argsF, setSs, compM, itSeq, seqD, wipeE, bindT, bindTs, yesM, isiD, itZip, zipD, itEnum, itRange1, idxD, lenD, tupleD, listD, setOM, appM, extM, itZip3, sliceM, partM, sliceD, dnewM, stoM, stoD, keyD, b7]
    have e9 : setOM 4 dnewM [some .bag, some (.dat (.int ((d + 1 : Nat) : Int))), some (.dat (.int way)), some (.dat (.list rows)), none, none, none] g4 = some (.nx [some .bag, some (.dat (.int ((d + 1 : Nat) : Int))), some (.dat (.int way)), some (.dat (.list rows)), some (.own (.dict [])), none, none] g4) := by simp [Kd.andM, Kd.orM, Kd.notM, blM, bin, un, potI, cM, potNE, seqM, potPop, potSet, ifM, brwM, varM, Pot.setI, nilM, ifS, setM, retM, thaw, retNM, tstM, truD, vAndM, vOrM, vNotM, chainM, daM, slM, argsM, tupM, lstM, callM, argsS, idL, multM, argsF, setSs, compM, itSeq, seqD, wipeE, bindT, bindTs, yesM, isiD, itZip, zipD, itEnum, itRange1, idxD, lenD, tupleD, listD, setOM, appM, extM, itZip3, sliceM, partM, sliceD, dnewM, stoM, stoD, keyD]
    rw [seqM_nx e7, seqM_nx e8, seqM_nx e9, seqM_nx ef]
    simp [Kd.andM, Kd.orM, Kd.notM, blM, bin, un, potI, cM, potNE, seqM, potPop, potSet, ifM, brwM, varM, Pot.setI, nilM, ifS, setM, retM, thaw, retNM, tstM, truD, vAndM, vOrM, vNotM, chainM, daM, slM, argsM, tupM, lstM, callM, argsS, idL, multM, argsF, setSs, compM, itSeq, seqD, wipeE, bindT, bindTs, yesM, isiD, itZip, zipD, itEnum, itRange1, idxD, lenD, tupleD, listD, setOM, appM, extM, itZip3, sliceM, partM, sliceD, dnewM, stoM, stoD, keyD]
end K77

end part_K77I
section part_K77J
namespace K77
open PySem Kd
def Low (x : Str) : Prop := ∀ c ∈ x.cps.toList, c < 16 ^ 8
theorem Low.app {x y : Str} (a : Low x) (b : Low y) : Low (x ++ y) := fun c hc => by
  rw [Str.cps_append, Array.toList_append] at hc
  rcases List.mem_append.mp hc with h | h
  · exact a c h
  · exact b c h
theorem Low.of (s : String) : Low (Str.ofString s) := fun c hc => by
  rw [PyProof.Rows.signs_ofString] at hc
  obtain ⟨ch, _, rfl⟩ := List.mem_map.mp hc
  have := ch.val.toNat_lt
  exact this
theorem Low.join {sep : Str} (hs : Low sep) : ∀ {ts : List Str}, (∀ t ∈ ts, Low t) → Low (Str.join sep ts)
  | [], _ => fun c hc => by
    have : c ∈ (Str.empty).cps.toList := hc
    simp [Kd.andM, Kd.orM, Kd.notM, blM, bin, un, potI, cM, potNE, seqM, potPop, potSet, ifM, brwM, varM, Pot.setI, nilM, ifS, setM, retM, thaw, retNM, tstM, truD, vAndM, vOrM, vNotM, chainM, daM, slM, argsM, tupM, lstM, callM, argsS, idL, multM, argsF, setSs, compM, itSeq, seqD, wipeE, bindT, bindTs, yesM, isiD, itZip, zipD, itEnum, itRange1, idxD, lenD, tupleD, listD, setOM, appM, extM, itZip3, sliceM, partM, sliceD, dnewM, stoM, stoD, keyD, unpM, Str.empty] at this
  | [x], h => h x (by simp [Kd.andM, Kd.orM, Kd.notM, blM, bin, un, potI, cM, potNE, seqM, potPop, potSet, ifM, brwM, varM, Pot.setI, nilM, ifS, setM, retM, thaw, retNM, tstM, truD, vAndM, vOrM, vNotM, chainM, daM, slM, argsM, tupM, lstM, callM, argsS, idL, multM, argsF, setSs, compM, itSeq, seqD, wipeE, bindT, bindTs, yesM, isiD, itZip, zipD, itEnum, itRange1, idxD, lenD, tupleD, listD, setOM, appM, extM, itZip3, sliceM, partM, sliceD, dnewM, stoM, stoD, keyD, unpM])
  | x :: y :: r, h => by
    show Low (x ++ sep ++ Str.join sep (y :: r))
    exact ((h x (by simp [Kd.andM, Kd.orM, Kd.notM, blM, bin, un, potI, cM, potNE, seqM, potPop, potSet, ifM, brwM, varM, Pot.setI, nilM, ifS, setM, retM, thaw, retNM, tstM, truD, vAndM, vOrM, vNotM, chainM, daM, slM, argsM, tupM, lstM, callM, argsS, idL, multM, argsF, setSs, compM, itSeq, seqD, wipeE, bindT, bindTs, yesM, isiD, itZip, zipD, itEnum, itRange1, idxD, lenD, tupleD, listD, setOM, appM, extM, itZip3, sliceM, partM, sliceD, dnewM, stoM, stoD, keyD, unpM])).app hs).app (Low.join hs fun t ht => h t (List.mem_cons_of_mem _ ht))
theorem low_tI (w : List Int) : Low (tI w).shown := by
  have h : ∀ t ∈ PyData.shownAll (w.map PyData.int), Low t := by
    induction w with
    | nil => intro t ht; simp [Kd.andM, Kd.orM, Kd.notM, blM, bin, un, potI, cM, potNE, seqM, potPop, potSet, ifM, brwM, varM, Pot.setI, nilM, ifS, setM, retM, thaw, retNM, tstM, truD, vAndM, vOrM, vNotM, chainM, daM, slM, argsM, tupM, lstM, callM, argsS, idL, multM, argsF, setSs, compM, itSeq, seqD, wipeE, bindT, bindTs, yesM, isiD, itZip, zipD, itEnum, itRange1, idxD, lenD, tupleD, listD, setOM, appM, extM, itZip3, sliceM, partM, sliceD, dnewM, stoM, stoD, keyD, unpM, PyData.shownAll] at ht
    | cons a w ih =>
      intro t ht
      rw [List.map_cons] at ht
      simp only [PyData.shownAll, List.mem_cons] at ht
      rcases ht with rfl | ht
      · simp only [PyData.shown]; exact Low.of _
      · exact ih t ht
  simp only [PyData.shown]
  unfold tupleText
  exact ((Low.of _).app (Low.join (Low.of _) h)).app (Low.of _)
theorem short20 {w : List Int} (hb : Bd 9 w) : PyData.leavesShort 20 (tI w) = true := by
  simp only [PyData.leavesShort]
  induction w with
  | nil => rfl
  | cons a w ih =>
    rw [List.map_cons]
    simp only [PyData.leavesShortAll, Bool.and_eq_true]
    refine ⟨?_, ih fun x hx => hb x (List.mem_cons_of_mem _ hx)⟩
    have h0 : a.natAbs < 10 ^ 10 := Nat.lt_of_le_of_lt (hb a (by simp [Kd.andM, Kd.orM, Kd.notM, blM, bin, un, potI, cM, potNE, seqM, potPop, potSet, ifM, brwM, varM, Pot.setI, nilM, ifS, setM, retM, thaw, retNM, tstM, truD, vAndM, vOrM, vNotM, chainM, daM, slM, argsM, tupM, lstM, callM, argsS, idL, multM, argsF, setSs, compM, itSeq, seqD, wipeE, bindT, bindTs, yesM, isiD, itZip, zipD, itEnum, itRange1, idxD, lenD, tupleD, listD, setOM, appM, extM, itZip3, sliceM, partM, sliceD, dnewM, stoM, stoD, keyD, unpM])) (by decide)
    have := int_text_length_le10 (a := a) (k := 10) (by decide) h0
    have h2 : (Str.ofString (toString a)).length ≤ 20 := by rw [ofString_length]; omega
    have h3 : (PyData.int a).shown = Str.ofString (toString a) := by simp only [PyData.shown]
    simp only [PyData.leavesShort, decide_eq_true_eq, h3]
    exact h2
theorem str_tI {w : List Int} {m : Nat} (hm : m ≤ 9) (hl : w.length = m) (hb : Bd 9 w) : ∃ x, strD (tI w) = some (.str x) ∧ Nice 0 300 (.str x) := by
  have hN : Nice 1 9 (tI w) := nice_tI (h := 0) (k := 9) (fun x hx => Nat.le_trans (hb x hx) (by decide +kernel)) (by omega)
  have hr := hN.rp (by decide) (by decide)
  refine ⟨_, hr, Nice.str ?_ ?_⟩
  · rw [List.all_eq_true]
    intro c hc
    exact decide_eq_true (low_tI w c hc)
  · have h1 := PyData.shown_le_bulk 20 (by decide) (tI w) (short20 hb)
    have h2 : (20 + 2) * (tI w).bulk ≤ 22 * 9 := Nat.mul_le_mul_left _ hN.nb
    have h3 : (tI w).shown.length = (tI w).shown.cps.size := rfl
    omega
theorem nc_w {w : List Int} {m : Nat} (hm : m ≤ 12) (hl : w.length ≤ m) (hb : Bd (10 ^ 30) w) : Nice 1 20 (tI w) := (nice_tI (h := 0) (k := 12) hb (by omega)).mono (Nat.le_refl _) (by decide)
/-- an item -/
abbrev Ni (x : D) : Prop := Nice 6 2900 x
theorem ni {h n : Nat} {x : D} (N : Nice h n x) (a : h ≤ 6) (b : n ≤ 2900) : Ni x := N.mono a b
theorem pair2 {h n : Nat} {x y : D} (a : Nice h n x) (b : Nice h n y) : Nice (h + 1) (2 * (n + 1)) (.tuple [x, y]) := Nice.tuple (k := 2) (xs := [x, y]) (fun z hz => by
  simp only [List.mem_cons, List.not_mem_nil, or_false] at hz
  rcases hz with rfl | rfl
  · exact a
  · exact b) (Nat.le_refl 2)
def NF (k : Nat) (F : List D) : Prop := F.length ≤ k ∧ ∀ x ∈ F, Ni x
theorem NF.app {k j : Nat} {F E : List D} (a : NF k F) (b : NF j E) : NF (k + j) (F ++ E) := ⟨by rw [List.length_append]; have := a.1; have := b.1; omega, fun x hx => (List.mem_append.mp hx).elim (a.2 x) (b.2 x)⟩
/-- a loop that appends to slot 3 -/
theorem loop_app {e : EM GG} {ρ0 : List D → Option Sv → Kd.Env} {j : Nat} (hset : ∀ F o x, bindT (.nm j) x (ρ0 F o) = some (ρ0 F (some (.dat x)))) (happ : ∀ F o y, F.length < 16777216 → ∀ g g', e (ρ0 F o) g = some (.ok y g') → appM 3 e (ρ0 F o) g = some (.nx (ρ0 (F ++ [y]) o) g')) (xs : List D) (hx : ∀ x ∈ xs, ∀ F g, ∃ y, e (ρ0 F (some (.dat x))) g = some (.ok y g) ∧ Ni y) {k : Nat} {F : List D} (hF : NF k F) (hk : k + xs.length ≤ 1000) (o : Option Sv) (g : GG) :
    ∃ F' o', forGo (.nm j) (seqM (appM 3 e) nilM) xs (ρ0 F o) g = some (.nx (ρ0 F' o') g) ∧ NF (k + xs.length) F' := by
  let P : Nat → Kd.Env → GG → Prop := fun i ρ g' => g' = g ∧ ∃ F o, ρ = ρ0 F o ∧ NF (k + i) F
  obtain ⟨ρ1, g1, e1, eg, F', o', rfl, hF'⟩ := forGo_nx (t := .nm j) (m := seqM (appM 3 e) nilM) P xs 0 (ρ0 F o) g ⟨rfl, F, o, rfl, hF⟩ fun i x ρ g' hxi hP => by
    obtain ⟨rfl, F, o, rfl, hF⟩ := hP
    have hi : i < xs.length := (List.getElem?_eq_some_iff.mp hxi).1
    rw [Nat.zero_add] at hF
    obtain ⟨y, ey, hy⟩ := hx x (List.mem_of_getElem? hxi) F g'
    have hlt : F.length < 16777216 := by have := hF.1; omega
    refine ⟨_, _, g', hset F o x, .inl (seqM_nx (happ F _ y hlt g' g' ey)), rfl, F ++ [y], _, rfl, ?_⟩
    have := hF.app (j := 1) (E := [y]) ⟨Nat.le_refl 1, fun z hz => by rw [List.mem_singleton.mp hz]; exact hy⟩
    rw [Nat.zero_add]
    exact this
  subst eg
  rw [Nat.zero_add] at hF'
  exact ⟨F', o', e1, hF'⟩
end K77

end part_K77J
section part_K77K
namespace K77
open PySem Kd
section
variable {w : List Int} {t : Int} {m : Nat} {c : List Int × Int}
abbrev rI (m : Nat) (c : List Int × Int) (F : List D) (o w7 : Option Sv) : Kd.Env := [some .bag, some (.dat (.int (m : Nat))), some (.dat (tCap c)), some (.own (.list F)), o, some (.dat (tI c.1)), some (.dat (.int c.2)), w7]
def W1 : List D := [.int 1, .bool true, .int 1, .int 0, .bool false, .int 0, .int (-1), .int 9, .int 10, .none, .str "3", .tuple [.int 3], .int c30, .int (-c399), .list [.int 3]]
def W2 : List D := [.int 1, .bool true, .int 1, .int 0, .bool false, .int 0, .int (-1), .int 1000000000, .int 1000000001, .none, .str "5", .tuple [.int 5], .list [], .int c399, .int (-1000000000)]
theorem nW (x : D) (h : x ∈ W1 ∨ x ∈ W2) : Nice 1 20 x := by
  have one : ∀ i : Int, i.natAbs ≤ 10 → Nice 0 10 (.int i) := fun i hi => niceI (Nat.le_trans hi (by decide +kernel))
  rcases h with h | h
  · simp only [W1, List.mem_cons, List.not_mem_nil, or_false] at h
    rcases h with rfl | rfl | rfl | rfl | rfl | rfl | rfl | rfl | rfl | rfl | rfl | rfl | rfl | rfl | rfl
    all_goals first | exact Nice.bool _ | exact Nice.non | exact n30p | exact n399m | exact niceSmall (by decide) | exact Nice.str (by decide +kernel) (by decide +kernel) | skip
    · exact (Nice.tuple (h := 0) (n := 10) (k := 1) (xs := [.int 3]) (fun z hz => by rw [List.mem_singleton.mp hz]; exact one 3 (by decide)) (Nat.le_refl 1)).mono (Nat.le_refl _) (by decide)
    · exact (Nice.list (h := 0) (n := 10) (k := 1) (xs := [.int 3]) (fun z hz => by rw [List.mem_singleton.mp hz]; exact one 3 (by decide)) (Nat.le_refl 1)).mono (Nat.le_refl _) (by decide)
  · simp only [W2, List.mem_cons, List.not_mem_nil, or_false] at h
    rcases h with rfl | rfl | rfl | rfl | rfl | rfl | rfl | rfl | rfl | rfl | rfl | rfl | rfl | rfl | rfl
    all_goals first | exact Nice.bool _ | exact Nice.non | exact n399 | exact niceSmall (by decide) | exact Nice.str (by decide +kernel) (by decide +kernel) | skip
    · exact (Nice.tuple (h := 0) (n := 10) (k := 1) (xs := [.int 5]) (fun z hz => by rw [List.mem_singleton.mp hz]; exact one 5 (by decide)) (Nat.le_refl 1)).mono (Nat.le_refl _) (by decide)
    · exact (Nice.list (h := 0) (n := 10) (k := 0) (xs := []) (fun z hz => nomatch hz) (Nat.le_refl 0)).mono (Nat.le_refl _) (by decide)
theorem appM_ok {i : Nat} {f : EM GG} {ρ : Kd.Env} {g g' : GG} {F : List D} {y : D} (h : ρ[i]? = some (some (.own (.list F)))) (e : f ρ g = some (.ok y g')) (hF : F.length < 16777216) : appM i f ρ g = some (.nx (ρ.set i (some (.own (.list (F ++ [y]))))) g') := by
  unfold appM
  rw [h, e]
  exact if_pos hF
theorem items_ok {g : GG} (hg : Pk g) (hm : m ≤ 8) (hc : GC m c) : ∃ xs g', s__law_items [.bag, .dat (.int (m : Nat)), .dat (tCap c)] g = some (.ok (.list xs) g') ∧ Pk g' ∧ NF 100 xs := by
  obtain ⟨hl, hw, t0, t1⟩ := hc
  have hb9 : Bd 9 c.1 := bd9 hw (Nat.le_refl 9)
  have hb30 : Bd (10 ^ 30) c.1 := bd9 hw (by decide +kernel)
  have nw : Nice 1 20 (tI c.1) := nc_w (m := 9) (by decide) (by omega) hb30
  have nt : ∀ {h n : Nat}, Nice h n (.int c.2) := niceI (by
    have : c.2.natAbs ≤ 10 ^ 9 := by omega
    exact Nat.le_trans this (by decide +kernel))
  have nt1 : Nice 1 20 (.int c.2) := nt
  obtain ⟨sx, es, nsx⟩ := str_tI (m := m) (by omega) hl hb9
  have a1 : addD (.tuple (c.1.map .int)) (.tuple [.int 0]) = some (.tuple (c.1.map .int ++ [.int 0])) := addD_tup (by simp [Kd.andM, Kd.orM, Kd.notM, blM, bin, un, potI, cM, potNE, seqM, potPop, potSet, ifM, brwM, varM, Pot.setI, nilM, ifS, setM, retM, thaw, retNM, tstM, truD, vAndM, vOrM, vNotM, chainM, daM, slM, argsM, tupM, lstM, callM, argsS, idL, multM, argsF, setSs, compM, itSeq, seqD, wipeE, bindT, bindTs, yesM, isiD, itZip, zipD, itEnum, itRange1, idxD, lenD, tupleD, listD, setOM, appM, extM, itZip3, sliceM, partM, sliceD, dnewM, stoM, stoD, keyD, unpM, pow30, pow57, pow399]; omega)
  have a2 : addD (.tuple (c.1.map .int)) (.tuple [.int 3, .int 3]) = some (.tuple (c.1.map .int ++ [.int 3, .int 3])) := addD_tup (by simp [Kd.andM, Kd.orM, Kd.notM, blM, bin, un, potI, cM, potNE, seqM, potPop, potSet, ifM, brwM, varM, Pot.setI, nilM, ifS, setM, retM, thaw, retNM, tstM, truD, vAndM, vOrM, vNotM, chainM, daM, slM, argsM, tupM, lstM, callM, argsS, idL, multM, argsF, setSs, compM, itSeq, seqD, wipeE, bindT, bindTs, yesM, isiD, itZip, zipD, itEnum, itRange1, idxD, lenD, tupleD, listD, setOM, appM, extM, itZip3, sliceM, partM, sliceD, dnewM, stoM, stoD, keyD, unpM, pow30, pow57, pow399]; omega)
  let L1 : List D := [.list [tI c.1, .int c.2], .tuple [tI c.1], .tuple [tI c.1, .int c.2, .int c.2], .tuple [], .none, tI c.1, .tuple [.int c.2, tI c.1], .str "ab", .int c.2, .bool true]
  let L2 : List D := [.tuple [.list (c.1.map .int), .int c.2], .tuple [.tuple (c.1.map .int ++ [.int 0]), .int c.2], .tuple [.tuple (c.1.map .int ++ [.int 3, .int 3]), .int c.2], .tuple [.none, .int c.2], .tuple [.int 0, .int c.2]]
  let L3 : List D := [.tuple [.tuple [tI c.1], .int c.2], .tuple [tI c.1, tI c.1], .tuple [.str sx, .int c.2], .dict [(.int 0, tI c.1), (.int 1, .int c.2)]]
  have nl : ∀ {xs : List Int}, xs.length ≤ 12 → Bd (10 ^ 30) xs → Nice 1 20 (.list (xs.map .int)) := fun {xs} h1 h2 => (Nice.list (h := 0) (n := 0) (k := 12) (fun x hx => by
    obtain ⟨i, hi, rfl⟩ := List.mem_map.mp hx
    exact niceI (h2 i hi)) (by rw [List.length_map]; exact h1)).mono (Nat.le_refl _) (by decide)
  have bz : ∀ {z : List Int}, Bd 9 z → Bd (10 ^ 30) (c.1 ++ z) := fun {z} hz x hx => by
    rcases List.mem_append.mp hx with h | h
    · exact hb30 x h
    · exact Nat.le_trans (hz x h) (by decide +kernel)
  have f1 : NF 10 L1 := by
    refine ⟨Nat.le_refl 10, fun x hx => ?_⟩
    simp only [L1, List.mem_cons, List.not_mem_nil, or_false] at hx
    rcases hx with rfl | rfl | rfl | rfl | rfl | rfl | rfl | rfl | rfl | rfl
    · exact ni (Nice.list (h := 1) (n := 20) (k := 2) (xs := [tI c.1, .int c.2]) (fun z hz => by
        simp only [List.mem_cons, List.not_mem_nil, or_false] at hz
        rcases hz with rfl | rfl
        · exact nw
        · exact nt) (Nat.le_refl 2)) (by decide) (by decide)
    · exact ni (Nice.tuple (h := 1) (n := 20) (k := 1) (xs := [tI c.1]) (fun z hz => by rw [List.mem_singleton.mp hz]; exact nw) (Nat.le_refl 1)) (by decide) (by decide)
    · exact ni (Nice.tuple (h := 1) (n := 20) (k := 3) (xs := [tI c.1, .int c.2, .int c.2]) (fun z hz => by
        simp only [List.mem_cons, List.not_mem_nil, or_false] at hz
        rcases hz with rfl | rfl | rfl
        · exact nw
        · exact nt
        · exact nt) (Nat.le_refl 3)) (by decide) (by decide)
    · exact ni (Nice.tuple (h := 1) (n := 20) (k := 0) (xs := []) (fun z hz => nomatch hz) (Nat.le_refl 0)) (by decide) (by decide)
    · exact Nice.non
    · exact ni nw (by decide) (by decide)
    · exact ni (pair2 nt1 nw) (by decide) (by decide)
    · exact ni (Nice.str (h := 0) (n := 5) (by decide +kernel) (by decide +kernel)) (by decide) (by decide)
    · exact nt
    · exact Nice.bool _
  have f2 : NF 5 L2 := by
    refine ⟨Nat.le_refl 5, fun x hx => ?_⟩
    simp only [L2, List.mem_cons, List.not_mem_nil, or_false] at hx
    have e1 : (c.1.map PyData.int ++ [.int 0]) = (c.1 ++ [0]).map .int := by simp [Kd.andM, Kd.orM, Kd.notM, blM, bin, un, potI, cM, potNE, seqM, potPop, potSet, ifM, brwM, varM, Pot.setI, nilM, ifS, setM, retM, thaw, retNM, tstM, truD, vAndM, vOrM, vNotM, chainM, daM, slM, argsM, tupM, lstM, callM, argsS, idL, multM, argsF, setSs, compM, itSeq, seqD, wipeE, bindT, bindTs, yesM, isiD, itZip, zipD, itEnum, itRange1, idxD, lenD, tupleD, listD, setOM, appM, extM, itZip3, sliceM, partM, sliceD, dnewM, stoM, stoD, keyD, unpM, pow30, pow57, pow399]
    have e2 : (c.1.map PyData.int ++ [.int 3, .int 3]) = (c.1 ++ [3, 3]).map .int := by simp [Kd.andM, Kd.orM, Kd.notM, blM, bin, un, potI, cM, potNE, seqM, potPop, potSet, ifM, brwM, varM, Pot.setI, nilM, ifS, setM, retM, thaw, retNM, tstM, truD, vAndM, vOrM, vNotM, chainM, daM, slM, argsM, tupM, lstM, callM, argsS, idL, multM, argsF, setSs, compM, itSeq, seqD, wipeE, bindT, bindTs, yesM, isiD, itZip, zipD, itEnum, itRange1, idxD, lenD, tupleD, listD, setOM, appM, extM, itZip3, sliceM, partM, sliceD, dnewM, stoM, stoD, keyD, unpM, pow30, pow57, pow399]
    rcases hx with rfl | rfl | rfl | rfl | rfl
    · exact ni (pair2 (nl (by omega) hb30) nt1) (by decide) (by decide)
    · rw [e1]; exact ni (pair2 (nc_w (m := 12) (by decide) (by simp [Kd.andM, Kd.orM, Kd.notM, blM, bin, un, potI, cM, potNE, seqM, potPop, potSet, ifM, brwM, varM, Pot.setI, nilM, ifS, setM, retM, thaw, retNM, tstM, truD, vAndM, vOrM, vNotM, chainM, daM, slM, argsM, tupM, lstM, callM, argsS, idL, multM, argsF, setSs, compM, itSeq, seqD, wipeE, bindT, bindTs, yesM, isiD, itZip, zipD, itEnum, itRange1, idxD, lenD, tupleD, listD, setOM, appM, extM, itZip3, sliceM, partM, sliceD, dnewM, stoM, stoD, keyD, unpM, pow30, pow57, pow399]; omega) (bz (z := [0]) (by intro x hx; rw [List.mem_singleton.mp hx]; decide))) nt1) (by decide) (by decide)
    · rw [e2]; exact ni (pair2 (nc_w (m := 12) (by decide) (by simp [Kd.andM, Kd.orM, Kd.notM, blM, bin, un, potI, cM, potNE, seqM, potPop, potSet, ifM, brwM, varM, Pot.setI, nilM, ifS, setM, retM, thaw, retNM, tstM, truD, vAndM, vOrM, vNotM, chainM, daM, slM, argsM, tupM, lstM, callM, argsS, idL, multM, argsF, setSs, compM, itSeq, seqD, wipeE, bindT, bindTs, yesM, isiD, itZip, zipD, itEnum, itRange1, idxD, lenD, tupleD, listD, setOM, appM, extM, itZip3, sliceM, partM, sliceD, dnewM, stoM, stoD, keyD, unpM, pow30, pow57, pow399]; omega) (bz (z := [3, 3]) (by intro x hx; simp [Kd.andM, Kd.orM, Kd.notM, blM, bin, un, potI, cM, potNE, seqM, potPop, potSet, ifM, brwM, varM, Pot.setI, nilM, ifS, setM, retM, thaw, retNM, tstM, truD, vAndM, vOrM, vNotM, chainM, daM, slM, argsM, tupM, lstM, callM, argsS, idL, multM, argsF, setSs, compM, itSeq, seqD, wipeE, bindT, bindTs, yesM, isiD, itZip, zipD, itEnum, itRange1, idxD, lenD, tupleD, listD, setOM, appM, extM, itZip3, sliceM, partM, sliceD, dnewM, stoM, stoD, keyD, unpM, pow30, pow57, pow399] at hx; rw [hx]; decide))) nt1) (by decide) (by decide)
    · exact ni (pair2 (h := 1) (n := 20) Nice.non nt) (by decide) (by decide)
    · exact ni (pair2 (h := 1) (n := 20) (niceSmall (by decide)) nt) (by decide) (by decide)
  have f3 : NF 4 L3 := by
    refine ⟨Nat.le_refl 4, fun x hx => ?_⟩
    simp only [L3, List.mem_cons, List.not_mem_nil, or_false] at hx
    rcases hx with rfl | rfl | rfl | rfl
    · exact ni (pair2 (Nice.tuple (h := 1) (n := 20) (k := 1) (xs := [tI c.1]) (fun z hz => by rw [List.mem_singleton.mp hz]; exact nw) (Nat.le_refl 1)) nt) (by decide) (by decide)
    · exact ni (pair2 nw nw) (by decide) (by decide)
    · exact ni (pair2 nsx nt) (by decide) (by decide)
    · exact ni (Nice.dict (h := 1) (n := 20) (k := 2) (ps := [(.int 0, tI c.1), (.int 1, .int c.2)]) (fun z hz => by
        simp only [List.mem_cons, List.not_mem_nil, or_false] at hz
        rcases hz with rfl | rfl
        · exact ⟨niceSmall (by decide), nw⟩
        · exact ⟨niceSmall (by decide), nt⟩) (Nat.le_refl 2)) (by decide) (by decide)
  have s0 : unpM (.tp (.cons (.nm 5) (.cons (.nm 6) (.nil)))) (varM 2) [some .bag, some (.dat (.int (m : Nat))), some (.dat (tCap c)), none, none, none, none, none] g = some (.nx [some .bag, some (.dat (.int (m : Nat))), some (.dat (tCap c)), none, none, some (.dat (tI c.1)), some (.dat (.int c.2)), none] g) := by simp [Kd.andM, Kd.orM, Kd.notM, blM, bin, un, potI, cM, potNE, seqM, potPop, potSet, ifM, brwM, varM, Pot.setI, nilM, ifS, setM, retM, thaw, retNM, tstM, truD, vAndM, vOrM, vNotM, chainM, daM, slM, argsM, tupM, lstM, callM, argsS, idL, multM, argsF, setSs, compM, itSeq, seqD, wipeE, bindT, bindTs, yesM, isiD, itZip, zipD, itEnum, itRange1, idxD, lenD, tupleD, listD, setOM, appM, extM, itZip3, sliceM, partM, sliceD, dnewM, stoM, stoD, keyD, unpM, pow30, pow57, pow399]
  have s1 : setOM 3 (lstM [un listD (brwM 2), tupM [varM 5], tupM [varM 5, varM 6, varM 6], tupM [], cM .none, varM 5, tupM [varM 6, varM 5], cM (.str "ab"), varM 6, cM (.bool true)]) [some .bag, some (.dat (.int (m : Nat))), some (.dat (tCap c)), none, none, some (.dat (tI c.1)), some (.dat (.int c.2)), none] g = some (.nx (rI m c L1 none none) g) := by simp [Kd.andM, Kd.orM, Kd.notM, blM, bin, un, potI, cM, potNE, seqM, potPop, potSet, ifM, brwM, varM, Pot.setI, nilM, ifS, setM, retM, thaw, retNM, tstM, truD, vAndM, vOrM, vNotM, chainM, daM, slM, argsM, tupM, lstM, callM, argsS, idL, multM, argsF, setSs, compM, itSeq, seqD, wipeE, bindT, bindTs, yesM, isiD, itZip, zipD, itEnum, itRange1, idxD, lenD, tupleD, listD, setOM, appM, extM, itZip3, sliceM, partM, sliceD, dnewM, stoM, stoD, keyD, unpM, pow30, pow57, pow399, L1]
  have s2 : extM 3 (lstM [tupM [un listD (brwM 5), varM 6], tupM [bin addD (brwM 5) (tupM [cM (.int 0)]), varM 6], tupM [bin addD (brwM 5) (tupM [cM (.int 3), cM (.int 3)]), varM 6], tupM [cM .none, varM 6], tupM [cM (.int 0), varM 6]]) (rI m c L1 none none) g = some (.nx (rI m c (L1 ++ L2) none none) g) := by
    simp [Kd.andM, Kd.orM, Kd.notM, blM, bin, un, potI, cM, potNE, seqM, potPop, potSet, ifM, brwM, varM, Pot.setI, nilM, ifS, setM, retM, thaw, retNM, tstM, truD, vAndM, vOrM, vNotM, chainM, daM, slM, argsM, tupM, lstM, callM, argsS, idL, multM, argsF, setSs, compM, itSeq, seqD, wipeE, bindT, bindTs, yesM, isiD, itZip, zipD, itEnum, itRange1, idxD, lenD, tupleD, listD, setOM, appM, extM, itZip3, sliceM, partM, sliceD, dnewM, stoM, stoD, keyD, unpM, pow30, pow57, pow399, L1, L2, a1, a2]
  have s3 : extM 3 (lstM [tupM [tupM [varM 5], varM 6], tupM [varM 5, varM 5], tupM [un strD (brwM 5), varM 6], dispM [(cM (.int 0), varM 5), (cM (.int 1), varM 6)]]) (rI m c (L1 ++ L2) none none) g = some (.nx (rI m c (L1 ++ L2 ++ L3) none none) g) := by
    have hlen : (L1 ++ L2).length ≤ 15 := Nat.le_refl 15
    generalize L1 ++ L2 = F at hlen ⊢
    simp only [tI] at es
    simp [Kd.andM, Kd.orM, Kd.notM, blM, bin, un, potI, cM, potNE, seqM, potPop, potSet, ifM, brwM, varM, Pot.setI, nilM, ifS, setM, retM, thaw, retNM, tstM, truD, vAndM, vOrM, vNotM, chainM, daM, slM, argsM, tupM, lstM, callM, argsS, idL, multM, argsF, setSs, compM, itSeq, seqD, wipeE, bindT, bindTs, yesM, isiD, itZip, zipD, itEnum, itRange1, idxD, lenD, tupleD, listD, setOM, appM, extM, itZip3, sliceM, partM, sliceD, dnewM, stoM, stoD, keyD, unpM, pow30, pow57, pow399, L3, es, dispM, pairsM, mergeP, putP, kD]
    omega
  have F0 : NF 19 (L1 ++ L2 ++ L3) := (f1.app f2).app f3
  generalize L1 ++ L2 ++ L3 = F at s3 F0
  let eW : EM GG := tupM [bin addD (bin addD (sliceM (brwM 5) none (some (brwM 7))) (tupM [varM 4])) (sliceM (brwM 5) (some (bin addD (brwM 7) (cM (.int 1)))) none), varM 6]
  have s4 : ∃ F' o w7 g', ifS (blM (bin gtI (brwM 1) (cM (.int 0)))) (seqM (setM 7 (callM s__law_pick idL [slM 0, daM (lstM [cM (.int 0), bin subD (brwM 1) (cM (.int 1)), callM s__law_draw idL [slM 0, daM (varM 1)]])])) <|
  seqM (Kd.forM (itSeq (lstM [cM (.int 1), cM (.bool true), cM (.int 1), cM (.int 0), cM (.bool false), cM (.int 0), un negD (cM (.int 1)), cM (.int 9), cM (.int 10), cM .none, cM (.str "3"), tupM [cM (.int 3)], bin powD (cM (.int 10)) (cM (.int 30)), un negD (bin powD (bin powD (cM (.int 10)) (cM (.int 57))) (cM (.int 7))), lstM [cM (.int 3)]])) (.nm 4) (seqM (appM 3 eW) <| nilM)) <|
  seqM (extM 3 (lstM [tupM [sliceM (brwM 5) none (some (un negD (cM (.int 1)))), varM 6], tupM [sliceM (brwM 5) (some (cM (.int 1))) none, varM 6]])) <| nilM) (nilM) (rI m c F none none) g = some (.nx (rI m c F' o w7) g') ∧ Pk g' ∧ NF 40 F' := by
    by_cases hm0 : 0 < m
    · obtain ⟨n, g1, e1, hg1, n0, n1⟩ := draw_ok hg (n := (m : Nat)) (by omega) (by omega)
      obtain ⟨y, g2, e2, hg2, hy⟩ := pick_list hg1 (xs := [.int 0, .int ((m : Int) - 1), .int n]) (by simp [Kd.andM, Kd.orM, Kd.notM, blM, bin, un, potI, cM, potNE, seqM, potPop, potSet, ifM, brwM, varM, Pot.setI, nilM, ifS, setM, retM, thaw, retNM, tstM, truD, vAndM, vOrM, vNotM, chainM, daM, slM, argsM, tupM, lstM, callM, argsS, idL, multM, argsF, setSs, compM, itSeq, seqD, wipeE, bindT, bindTs, yesM, isiD, itZip, zipD, itEnum, itRange1, idxD, lenD, tupleD, listD, setOM, appM, extM, itZip3, sliceM, partM, sliceD, dnewM, stoM, stoD, keyD, unpM, pow30, pow57, pow399]) (by simp [Kd.andM, Kd.orM, Kd.notM, blM, bin, un, potI, cM, potNE, seqM, potPop, potSet, ifM, brwM, varM, Pot.setI, nilM, ifS, setM, retM, thaw, retNM, tstM, truD, vAndM, vOrM, vNotM, chainM, daM, slM, argsM, tupM, lstM, callM, argsS, idL, multM, argsF, setSs, compM, itSeq, seqD, wipeE, bindT, bindTs, yesM, isiD, itZip, zipD, itEnum, itRange1, idxD, lenD, tupleD, listD, setOM, appM, extM, itZip3, sliceM, partM, sliceD, dnewM, stoM, stoD, keyD, unpM, pow30, pow57, pow399])
      have hy2 : ∃ k : Nat, y = .int (k : Nat) ∧ k < m := by
        simp only [List.mem_cons, List.not_mem_nil, or_false] at hy
        rcases hy with rfl | rfl | rfl
        · exact ⟨0, rfl, hm0⟩
        · exact ⟨m - 1, by rw [show ((m - 1 : Nat) : Int) = (m : Int) - 1 by omega], by omega⟩
        · exact ⟨n.toNat, by rw [show ((n.toNat : Nat) : Int) = n by omega], by omega⟩
      obtain ⟨k, rfl, hk⟩ := hy2
      obtain ⟨F', o', e3, hF'⟩ := loop_app (e := eW) (ρ0 := fun F o => rI m c F o (some (.dat (.int (k : Nat))))) (j := 4) (fun F o x => rfl) (fun F o y hF g g' e => by
        exact appM_ok rfl e hF) W1 (fun x hx F g => by
          obtain ⟨p1, p2⟩ := put_eq (xs := c.1.map PyData.int) (k := k) (v := x) (by rw [List.length_map]; omega)
          refine ⟨.tuple [.tuple ((c.1.map PyData.int).take k ++ [x] ++ (c.1.map PyData.int).drop (k + 1)), .int c.2], ?_, ?_⟩
          · simp only [eW]
            simp [Kd.andM, Kd.orM, Kd.notM, blM, bin, un, potI, cM, potNE, seqM, potPop, potSet, ifM, brwM, varM, Pot.setI, nilM, ifS, setM, retM, thaw, retNM, tstM, truD, vAndM, vOrM, vNotM, chainM, daM, slM, argsM, tupM, lstM, callM, argsS, idL, multM, argsF, setSs, compM, itSeq, seqD, wipeE, bindT, bindTs, yesM, isiD, itZip, zipD, itEnum, itRange1, idxD, lenD, tupleD, listD, setOM, appM, extM, itZip3, sliceM, partM, sliceD, dnewM, stoM, stoD, keyD, unpM, pow30, pow57, pow399, p1, p2]
          · refine ni (pair2 (h := 2) (n := 252) (Nice.tuple (h := 1) (n := 20) (k := 12) (fun z hz => ?_) ?_) (nt1.mono (by decide) (by decide))) (by decide) (by decide)
            · rcases List.mem_append.mp hz with hz | hz
              · rcases List.mem_append.mp hz with hz | hz
                · obtain ⟨i, hi, rfl⟩ := List.mem_map.mp (List.mem_of_mem_take hz)
                  exact niceI (hb30 i hi)
                · rw [List.mem_singleton.mp hz]; exact nW x (.inl hx)
              · obtain ⟨i, hi, rfl⟩ := List.mem_map.mp (List.mem_of_mem_drop hz)
                exact niceI (hb30 i hi)
            · simp [Kd.andM, Kd.orM, Kd.notM, blM, bin, un, potI, cM, potNE, seqM, potPop, potSet, ifM, brwM, varM, Pot.setI, nilM, ifS, setM, retM, thaw, retNM, tstM, truD, vAndM, vOrM, vNotM, chainM, daM, slM, argsM, tupM, lstM, callM, argsS, idL, multM, argsF, setSs, compM, itSeq, seqD, wipeE, bindT, bindTs, yesM, isiD, itZip, zipD, itEnum, itRange1, idxD, lenD, tupleD, listD, setOM, appM, extM, itZip3, sliceM, partM, sliceD, dnewM, stoM, stoD, keyD, unpM, pow30, pow57, pow399]; omega) F0 (by decide) none g2
      have t2 : Kd.forM (itSeq (lstM [cM (.int 1), cM (.bool true), cM (.int 1), cM (.int 0), cM (.bool false), cM (.int 0), un negD (cM (.int 1)), cM (.int 9), cM (.int 10), cM .none, cM (.str "3"), tupM [cM (.int 3)], bin powD (cM (.int 10)) (cM (.int 30)), un negD (bin powD (bin powD (cM (.int 10)) (cM (.int 57))) (cM (.int 7))), lstM [cM (.int 3)]])) (.nm 4) (seqM (appM 3 eW) <| nilM) (rI m c F none (some (.dat (.int (k : Nat))))) g2 = some (.nx (rI m c F' o' (some (.dat (.int (k : Nat))))) g2) := by
        have : itSeq (lstM [cM (.int 1), cM (.bool true), cM (.int 1), cM (.int 0), cM (.bool false), cM (.int 0), un negD (cM (.int 1)), cM (.int 9), cM (.int 10), cM .none, cM (.str "3"), tupM [cM (.int 3)], bin powD (cM (.int 10)) (cM (.int 30)), un negD (bin powD (bin powD (cM (.int 10)) (cM (.int 57))) (cM (.int 7))), lstM [cM (.int 3)]]) (rI m c F none (some (.dat (.int (k : Nat))))) g2 = some (.ok W1 g2) := by
          simp [Kd.andM, Kd.orM, Kd.notM, blM, bin, un, potI, cM, potNE, seqM, potPop, potSet, ifM, brwM, varM, Pot.setI, nilM, ifS, setM, retM, thaw, retNM, tstM, truD, vAndM, vOrM, vNotM, chainM, daM, slM, argsM, tupM, lstM, callM, argsS, idL, multM, argsF, setSs, compM, itSeq, seqD, wipeE, bindT, bindTs, yesM, isiD, itZip, zipD, itEnum, itRange1, idxD, lenD, tupleD, listD, setOM, appM, extM, itZip3, sliceM, partM, sliceD, dnewM, stoM, stoD, keyD, unpM, pow30, pow57, pow399, W1]
        unfold Kd.forM
        rw [this]
        exact e3
      have hF16 : F'.length ≤ 34 := hF'.1
      let L5 : List D := [.tuple [.tuple (cutG (c.1.map PyData.int) none (some (-1))), .int c.2], .tuple [.tuple (cutG (c.1.map PyData.int) (some 1) none), .int c.2]]
      have t3 : extM 3 (lstM [tupM [sliceM (brwM 5) none (some (un negD (cM (.int 1)))), varM 6], tupM [sliceM (brwM 5) (some (cM (.int 1))) none, varM 6]]) (rI m c F' o' (some (.dat (.int (k : Nat))))) g2 = some (.nx (rI m c (F' ++ L5) o' (some (.dat (.int (k : Nat))))) g2) := by
        simp [Kd.andM, Kd.orM, Kd.notM, blM, bin, un, potI, cM, potNE, seqM, potPop, potSet, ifM, brwM, varM, Pot.setI, nilM, ifS, setM, retM, thaw, retNM, tstM, truD, vAndM, vOrM, vNotM, chainM, daM, slM, argsM, tupM, lstM, callM, argsS, idL, multM, argsF, setSs, compM, itSeq, seqD, wipeE, bindT, bindTs, yesM, isiD, itZip, zipD, itEnum, itRange1, idxD, lenD, tupleD, listD, setOM, appM, extM, itZip3, sliceM, partM, sliceD, dnewM, stoM, stoD, keyD, unpM, pow30, pow57, pow399, L5]; omega
      have ncut : ∀ lo hi, Nice 1 20 (.tuple (cutG (c.1.map PyData.int) lo hi)) := fun lo hi => by
        rw [cut_map]
        exact nc_w (m := 9) (by decide) (Nat.le_trans (cut_len _ _ _) (by omega)) fun x hx => hb30 x (cut_mem hx)
      have f5 : NF 2 L5 := by
        refine ⟨Nat.le_refl 2, fun x hx => ?_⟩
        simp only [L5, List.mem_cons, List.not_mem_nil, or_false] at hx
        rcases hx with rfl | rfl
        · exact ni (pair2 (ncut _ _) nt1) (by decide) (by decide)
        · exact ni (pair2 (ncut _ _) nt1) (by decide) (by decide)
      refine ⟨F' ++ L5, o', some (.dat (.int (k : Nat))), g2, ?_, hg2, ?_⟩
      · have hb : blM (bin gtI (brwM 1) (cM (.int 0))) (rI m c F none none) g = some (.ok true g) := by simp [Kd.andM, Kd.orM, Kd.notM, blM, bin, un, potI, cM, potNE, seqM, potPop, potSet, ifM, brwM, varM, Pot.setI, nilM, ifS, setM, retM, thaw, retNM, tstM, truD, vAndM, vOrM, vNotM, chainM, daM, slM, argsM, tupM, lstM, callM, argsS, idL, multM, argsF, setSs, compM, itSeq, seqD, wipeE, bindT, bindTs, yesM, isiD, itZip, zipD, itEnum, itRange1, idxD, lenD, tupleD, listD, setOM, appM, extM, itZip3, sliceM, partM, sliceD, dnewM, stoM, stoD, keyD, unpM, pow30, pow57, pow399, hm0]
        rw [ifS_t hb]
        have t1' : setM 7 (callM s__law_pick idL [slM 0, daM (lstM [cM (.int 0), bin subD (brwM 1) (cM (.int 1)), callM s__law_draw idL [slM 0, daM (varM 1)]])]) (rI m c F none none) g = some (.nx (rI m c F none (some (.dat (.int (k : Nat))))) g2) := by
          simp [Kd.andM, Kd.orM, Kd.notM, blM, bin, un, potI, cM, potNE, seqM, potPop, potSet, ifM, brwM, varM, Pot.setI, nilM, ifS, setM, retM, thaw, retNM, tstM, truD, vAndM, vOrM, vNotM, chainM, daM, slM, argsM, tupM, lstM, callM, argsS, idL, multM, argsF, setSs, compM, itSeq, seqD, wipeE, bindT, bindTs, yesM, isiD, itZip, zipD, itEnum, itRange1, idxD, lenD, tupleD, listD, setOM, appM, extM, itZip3, sliceM, partM, sliceD, dnewM, stoM, stoD, keyD, unpM, pow30, pow57, pow399, e1, e2]
        rw [seqM_nx t1', seqM_nx t2, seqM_nx t3]
        rfl
      · have := hF'.app f5
        exact ⟨Nat.le_trans this.1 (by decide), this.2⟩
    · refine ⟨F, none, none, g, ?_, hg, Nat.le_trans F0.1 (by decide), F0.2⟩
      simp [Kd.andM, Kd.orM, Kd.notM, blM, bin, un, potI, cM, potNE, seqM, potPop, potSet, ifM, brwM, varM, Pot.setI, nilM, ifS, setM, retM, thaw, retNM, tstM, truD, vAndM, vOrM, vNotM, chainM, daM, slM, argsM, tupM, lstM, callM, argsS, idL, multM, argsF, setSs, compM, itSeq, seqD, wipeE, bindT, bindTs, yesM, isiD, itZip, zipD, itEnum, itRange1, idxD, lenD, tupleD, listD, setOM, appM, extM, itZip3, sliceM, partM, sliceD, dnewM, stoM, stoD, keyD, unpM, pow30, pow57, pow399, hm0]
  obtain ⟨F4, o4, w7, g4, e4, hg4, hF4⟩ := s4
  obtain ⟨F5, o5, e5, hF5⟩ := loop_app (e := tupM [varM 5, varM 4]) (ρ0 := fun F o => rI m c F o w7) (j := 4) (fun F o x => rfl) (fun F o y hF g g' e => by
        exact appM_ok rfl e hF) W2 (fun x hx F g => ⟨.tuple [tI c.1, x], by simp [Kd.andM, Kd.orM, Kd.notM, blM, bin, un, potI, cM, potNE, seqM, potPop, potSet, ifM, brwM, varM, Pot.setI, nilM, ifS, setM, retM, thaw, retNM, tstM, truD, vAndM, vOrM, vNotM, chainM, daM, slM, argsM, tupM, lstM, callM, argsS, idL, multM, argsF, setSs, compM, itSeq, seqD, wipeE, bindT, bindTs, yesM, isiD, itZip, zipD, itEnum, itRange1, idxD, lenD, tupleD, listD, setOM, appM, extM, itZip3, sliceM, partM, sliceD, dnewM, stoM, stoD, keyD, unpM, pow30, pow57, pow399], ni (pair2 nw (nW x (.inr hx))) (by decide) (by decide)⟩) hF4 (by decide) o4 g4
  have s5 : Kd.forM (itSeq (lstM [cM (.int 1), cM (.bool true), cM (.int 1), cM (.int 0), cM (.bool false), cM (.int 0), un negD (cM (.int 1)), bin powD (cM (.int 10)) (cM (.int 9)), bin addD (bin powD (cM (.int 10)) (cM (.int 9))) (cM (.int 1)), cM .none, cM (.str "5"), tupM [cM (.int 5)], lstM [], bin powD (bin powD (cM (.int 10)) (cM (.int 57))) (cM (.int 7)), un negD (bin powD (cM (.int 10)) (cM (.int 9)))])) (.nm 4) (seqM (appM 3 (tupM [varM 5, varM 4])) <| nilM) (rI m c F4 o4 w7) g4 = some (.nx (rI m c F5 o5 w7) g4) := by
    have : itSeq (lstM [cM (.int 1), cM (.bool true), cM (.int 1), cM (.int 0), cM (.bool false), cM (.int 0), un negD (cM (.int 1)), bin powD (cM (.int 10)) (cM (.int 9)), bin addD (bin powD (cM (.int 10)) (cM (.int 9))) (cM (.int 1)), cM .none, cM (.str "5"), tupM [cM (.int 5)], lstM [], bin powD (bin powD (cM (.int 10)) (cM (.int 57))) (cM (.int 7)), un negD (bin powD (cM (.int 10)) (cM (.int 9)))]) (rI m c F4 o4 w7) g4 = some (.ok W2 g4) := by
      simp [Kd.andM, Kd.orM, Kd.notM, blM, bin, un, potI, cM, potNE, seqM, potPop, potSet, ifM, brwM, varM, Pot.setI, nilM, ifS, setM, retM, thaw, retNM, tstM, truD, vAndM, vOrM, vNotM, chainM, daM, slM, argsM, tupM, lstM, callM, argsS, idL, multM, argsF, setSs, compM, itSeq, seqD, wipeE, bindT, bindTs, yesM, isiD, itZip, zipD, itEnum, itRange1, idxD, lenD, tupleD, listD, setOM, appM, extM, itZip3, sliceM, partM, sliceD, dnewM, stoM, stoD, keyD, unpM, pow30, pow57, pow399, W2]
    unfold Kd.forM
    rw [this]
    exact e5
  obtain ⟨a1, g5, ea1, hg5, na1⟩ := any_ok 2 8 (by decide) hg4
  obtain ⟨a2, g6, ea2, hg6, na2⟩ := any_ok 2 8 (by decide) hg5
  obtain ⟨a3, g7, ea3, hg7, na3⟩ := any_ok 3 8 (by decide) hg6
  have hF55 : F5.length ≤ 55 := hF5.1
  have ea1' : s__law_any 8 [.bag, .dat (.int 2)] g4 = _ := ea1
  have ea2' : s__law_any 8 [.bag, .dat (.int 2)] g5 = _ := ea2
  have ea3' : s__law_any 8 [.bag, .dat (.int 3)] g6 = _ := ea3
  have s6 : extM 3 (lstM [tupM [varM 5, callM (s__law_any 8) idL [slM 0, daM (cM (.int 2))]], tupM [callM (s__law_any 8) idL [slM 0, daM (cM (.int 2))], varM 6], callM (s__law_any 8) idL [slM 0, daM (cM (.int 3))]]) (rI m c F5 o5 w7) g4 = some (.nx (rI m c (F5 ++ [.tuple [tI c.1, a1], .tuple [a2, .int c.2], a3]) o5 w7) g7) := by
    simp [Kd.andM, Kd.orM, Kd.notM, blM, bin, un, potI, cM, potNE, seqM, potPop, potSet, ifM, brwM, varM, Pot.setI, nilM, ifS, setM, retM, thaw, retNM, tstM, truD, vAndM, vOrM, vNotM, chainM, daM, slM, argsM, tupM, lstM, callM, argsS, idL, multM, argsF, setSs, compM, itSeq, seqD, wipeE, bindT, bindTs, yesM, isiD, itZip, zipD, itEnum, itRange1, idxD, lenD, tupleD, listD, setOM, appM, extM, itZip3, sliceM, partM, sliceD, dnewM, stoM, stoD, keyD, unpM, pow30, pow57, pow399, ea1', ea2', ea3']; omega
  have f6 : NF 3 [.tuple [tI c.1, a1], .tuple [a2, .int c.2], a3] := by
    refine ⟨Nat.le_refl 3, fun x hx => ?_⟩
    simp only [List.mem_cons, List.not_mem_nil, or_false] at hx
    have na1' : Nice 3 472 a1 := na1
    have na2' : Nice 3 472 a2 := na2
    have na3' : Nice 4 2848 a3 := na3
    rcases hx with rfl | rfl | rfl
    · exact ni (pair2 (nw.mono (by decide) (by decide)) na1') (by decide) (by decide)
    · exact ni (pair2 na2' (nt1.mono (by decide) (by decide))) (by decide) (by decide)
    · exact ni na3' (by decide) (by decide)
  have hF6 := hF5.app f6
  refine ⟨F5 ++ [.tuple [tI c.1, a1], .tuple [a2, .int c.2], a3], g7, fnSem_rt rfl rfl ?_, hg7, Nat.le_trans hF6.1 (by decide), hF6.2⟩
  show m__law_items [some .bag, some (.dat (.int (m : Nat))), some (.dat (tCap c)), none, none, none, none, none] g = _
  unfold m__law_items
  rw [seqM_nx s0, seqM_nx s1, seqM_nx s2, seqM_nx s3, seqM_nx e4, seqM_nx s5, seqM_nx s6]
  simp [Kd.andM, Kd.orM, Kd.notM, blM, bin, un, potI, cM, potNE, seqM, potPop, potSet, ifM, brwM, varM, Pot.setI, nilM, ifS, setM, retM, thaw, retNM, tstM, truD, vAndM, vOrM, vNotM, chainM, daM, slM, argsM, tupM, lstM, callM, argsS, idL, multM, argsF, setSs, compM, itSeq, seqD, wipeE, bindT, bindTs, yesM, isiD, itZip, zipD, itEnum, itRange1, idxD, lenD, tupleD, listD, setOM, appM, extM, itZip3, sliceM, partM, sliceD, dnewM, stoM, stoD, keyD, unpM, pow30, pow57, pow399]
end
end K77

end part_K77K
section part_K77L
namespace K77
open PySem Kd
theorem mulX1 (x : D) : ∀ {k : Nat}, 1 ≤ k → k ≤ 1000 → mulX (.tuple [x]) (.int (k : Nat)) = some (.tuple (List.replicate k x))
  | 0, h, _ => absurd h (by decide)
  | 1, _, _ => rfl
  | k + 2, _, h => by
    have e : mulT (.tuple [x]) (.int ((k + 2 : Nat) : Int)) = some (.tuple (List.replicate (k + 2) [x]).flatten) := by
      unfold mulT
      have h2 : [x] ≠ [] ∧ 2 ≤ ((k + 2 : Nat) : Int) ∧ ((k + 2 : Nat) : Int) ≤ 1000 ∧ [x].length ≤ 1000 := ⟨by simp [Kd.andM, Kd.orM, Kd.notM, blM, bin, un, potI, cM, potNE, seqM, potPop, potSet, ifM, brwM, varM, Pot.setI, nilM, ifS, setM, retM, thaw, retNM, tstM, truD, vAndM, vOrM, vNotM, chainM, daM, slM, argsM, tupM, lstM, callM, argsS, idL, multM, argsF, setSs, compM, itSeq, seqD, wipeE, bindT, bindTs, yesM, isiD, itZip, zipD, itEnum, itRange1, idxD, lenD, tupleD, listD, setOM, appM, extM, itZip3, sliceM, partM, sliceD, dnewM, stoM, stoD, keyD, unpM], by omega, by omega, by simp [Kd.andM, Kd.orM, Kd.notM, blM, bin, un, potI, cM, potNE, seqM, potPop, potSet, ifM, brwM, varM, Pot.setI, nilM, ifS, setM, retM, thaw, retNM, tstM, truD, vAndM, vOrM, vNotM, chainM, daM, slM, argsM, tupM, lstM, callM, argsS, idL, multM, argsF, setSs, compM, itSeq, seqD, wipeE, bindT, bindTs, yesM, isiD, itZip, zipD, itEnum, itRange1, idxD, lenD, tupleD, listD, setOM, appM, extM, itZip3, sliceM, partM, sliceD, dnewM, stoM, stoD, keyD, unpM]⟩
      simp only [if_pos h2, Int.toNat_natCast]
    have e2 : (List.replicate (k + 2) [x]).flatten = List.replicate (k + 2) x := by
      generalize k + 2 = j
      induction j with
      | zero => rfl
      | succ j ih => rw [List.replicate_succ, List.flatten_cons, ih]; rfl
    show ((mulI (.tuple [x]) (.int ((k + 2 : Nat) : Int))).or ((mulT (.tuple [x]) (.int ((k + 2 : Nat) : Int))).or (mulL (.tuple [x]) (.int ((k + 2 : Nat) : Int))))).or (mulS (.tuple [x]) (.int ((k + 2 : Nat) : Int))) = _
    rw [e, e2]; rfl
abbrev Sz (x : D) : Prop := Nice 3 60 x
abbrev Nv (x : D) : Prop := Nice 8 18000 x
theorem sv {x : D} (h : Sz x) : Nv x := h.mono (by decide) (by decide)
theorem tupS {xs : List D} (h : ∀ x ∈ xs, Sz x) (hl : xs.length ≤ 200) : Nv (.tuple xs) := (Nice.tuple h hl).mono (by decide) (by decide)
theorem lstS {xs : List D} (h : ∀ x ∈ xs, Sz x) (hl : xs.length ≤ 200) : Nv (.list xs) := (Nice.list h hl).mono (by decide) (by decide)
theorem rep {x : D} (h : Sz x) {k : Nat} (hk : k ≤ 200) : Nv (.tuple (List.replicate k x)) := tupS (fun z hz => by rw [List.eq_of_mem_replicate hz]; exact h) (by rw [List.length_replicate]; exact hk)
def NG (k : Nat) (F : List D) : Prop := F.length ≤ k ∧ ∀ x ∈ F, Nv x
theorem NG.app {k j : Nat} {F E : List D} (a : NG k F) (b : NG j E) : NG (k + j) (F ++ E) := ⟨by rw [List.length_append]; have := a.1; have := b.1; omega, fun x hx => (List.mem_append.mp hx).elim (a.2 x) (b.2 x)⟩
abbrev rV (m : Nat) (C S U : D) (c : Nat) (F : List D) (o7 : Option Sv) (B L : D) : Kd.Env := [some .bag, some (.dat (.int (m : Nat))), some (.dat C), some (.dat S), some (.dat U), some (.dat (.int (c : Nat))), some (.own (.list F)), o7, some (.dat B), some (.dat L), none, none, none]
theorem extM_ok {i : Nat} {f : EM GG} {ρ : Kd.Env} {g g' : GG} {F E : List D} (h : ρ[i]? = some (some (.own (.list F)))) (e : f ρ g = some (.ok (.list E) g')) (hF : F.length + E.length ≤ 16777216) : extM i f ρ g = some (.nx (ρ.set i (some (.own (.list (F ++ E))))) g') := by
  unfold extM
  rw [h, e]
  exact if_pos hF
theorem compM_ok {it : Mn GG (List D)} {t : Tg} {c : Mn GG Bool} {e : EM GG} {vs : List Nat} {ρ : Kd.Env} {g g1 g2 : GG} {xs ys : List D} (a : it ρ g = some (.ok xs g1)) (b : compGo t c e (wipeE ρ vs) xs g1 = some (.ok ys g2)) : compM it t c e vs ρ g = some (.ok (.list ys) g2) := by
  unfold compM
  rw [a]
  show Rs.bind (compGo t c e (wipeE ρ vs) xs g1) _ = _
  rw [b]
  rfl
theorem values_tail {g : GG} (hg : Pk g) (m c : Nat) (C S B L b0 : D) (U F : List D) (hB : idxD B (.int 0) = some b0) (hC : Nv C) (hS : Sz S) (hsB : Sz B) (hsL : Sz L) (hb : Sz (.tuple [b0, .int (-1)])) (hU : ∀ x ∈ U, Sz x) (hUl : U.length ≤ 200) (hF : NG 100 F) :
    ∃ xs g', (seqM (extM 6 (lstM [tupM [varM 8, varM 9], tupM [varM 9, varM 8], tupM [varM 9, varM 9], tupM [varM 8, varM 8], tupM [varM 9, varM 3, varM 8], tupM [varM 3, varM 9, varM 8]])) <|
  seqM (extM 6 (lstM [tupM [varM 3, varM 3, varM 9], tupM [varM 3, varM 3, varM 8], tupM [varM 3, varM 8, varM 9], tupM [tupM [bin idxD (brwM 8) (cM (.int 0)), un negD (cM (.int 1))]]])) <|
  seqM (appM 6 (tupM [varM 9, tupM [bin idxD (brwM 8) (cM (.int 0)), un negD (cM (.int 1))]])) <|
  seqM (extM 6 (lstM [un listD (brwM 4), lstM [], tupM [], cM .none, cM (.bool true), cM (.int 0), cM (.str ""), cM (.str "caps"), dnewM, dispM [(cM (.int 0), varM 3)], varM 3, tupM [tupM []], tupM [tupM [], tupM []], cM (.int 3)])) <|
  seqM (extM 6 (compM (itSeq (lstM [cM (.int 1), cM (.int 2), cM (.int 3), cM (.int 4), cM (.int 5), cM (.int 12), cM (.int 200)])) (.nm 11) (yesM) (bin mulX (tupM [varM 3]) (brwM 11)) [11])) <|
  seqM (extM 6 (lstM [bin mulX (tupM [varM 8]) (cM (.int 4)), bin mulX (tupM [varM 9]) (cM (.int 4)), lstM [varM 8], tupM [varM 3, varM 3, varM 3, cM .none], bin mulX (tupM [cM .none]) (cM (.int 4))])) <|
  seqM (extM 6 (lstM [tupM [varM 3, cM .none], tupM [cM .none, varM 3]])) <|
  seqM (extM 6 (compM (itRange1 (cM (.int 3))) (.nm 12) (yesM) (callM (s__law_any 8) idL [slM 0, daM (cM (.int 3))]) [12])) <|
  seqM (setM 7 (callM s__law_draw idL [slM 0, daM (un lenD (brwM 6))])) <|
  seqM (retM (bin addD (bin addD (bin addD (lstM [varM 2]) (sliceM (brwM 6) (some (brwM 7)) none)) (sliceM (brwM 6) none (some (brwM 7)))) (lstM [varM 2]))) <|
  nilM) (rV m C S (.tuple U) c F none B L) g = some (.rt (.list xs) g') ∧ Pk g' ∧ ∀ x ∈ xs, Nv x := by
  have m4 : ∀ x : D, mulX (.tuple [x]) (.int 4) = some (.tuple (List.replicate 4 x)) := fun x => mulX1 x (k := 4) (by decide) (by decide)
  let E1 : List D := [.tuple [B, L], .tuple [L, B], .tuple [L, L], .tuple [B, B], .tuple [L, S, B], .tuple [S, L, B]]
  let E2 : List D := [.tuple [S, S, L], .tuple [S, S, B], .tuple [S, B, L], .tuple [.tuple [b0, .int (-1)]]]
  let E3 : List D := [.tuple [L, .tuple [b0, .int (-1)]]]
  let E4 : List D := [.list U, .list [], .tuple [], .none, .bool true, .int 0, .str "", .str "caps", .dict [], .dict [(.int 0, S)], S, .tuple [.tuple []], .tuple [.tuple [], .tuple []], .int 3]
  let E5 : List D := [1, 2, 3, 4, 5, 12, 200].map fun k => .tuple (List.replicate k S)
  let E6 : List D := [.tuple (List.replicate 4 B), .tuple (List.replicate 4 L), .list [B], .tuple [S, S, S, .none], .tuple (List.replicate 4 .none)]
  let E7 : List D := [.tuple [S, .none], .tuple [.none, S]]
  have nn0 : Sz .none := Nice.non
  have mm : ∀ {x : D} {xs : List D}, Sz x → (∀ z ∈ xs, Sz z) → ∀ z ∈ x :: xs, Sz z := fun a b z hz => (List.mem_cons.mp hz).elim (fun e => by rw [e]; exact a) (b z)
  have m0 : ∀ z ∈ ([] : List D), Sz z := fun z hz => nomatch hz
  have q1 : NG 6 E1 := ⟨Nat.le_refl 6, fun x hx => by
    simp only [E1, List.mem_cons, List.not_mem_nil, or_false] at hx
    rcases hx with rfl | rfl | rfl | rfl | rfl | rfl
    · exact tupS (mm hsB (mm hsL m0)) (by simp [Kd.andM, Kd.orM, Kd.notM, blM, bin, un, potI, cM, potNE, seqM, potPop, potSet, ifM, brwM, varM, Pot.setI, nilM, ifS, setM, retM, thaw, retNM, tstM, truD, vAndM, vOrM, vNotM, chainM, daM, slM, argsM, tupM, lstM, callM, argsS, idL, multM, argsF, setSs, compM, itSeq, seqD, wipeE, bindT, bindTs, yesM, isiD, itZip, zipD, itEnum, itRange1, idxD, lenD, tupleD, listD, setOM, appM, extM, itZip3, sliceM, partM, sliceD, dnewM, stoM, stoD, keyD, unpM])
    · exact tupS (mm hsL (mm hsB m0)) (by simp [Kd.andM, Kd.orM, Kd.notM, blM, bin, un, potI, cM, potNE, seqM, potPop, potSet, ifM, brwM, varM, Pot.setI, nilM, ifS, setM, retM, thaw, retNM, tstM, truD, vAndM, vOrM, vNotM, chainM, daM, slM, argsM, tupM, lstM, callM, argsS, idL, multM, argsF, setSs, compM, itSeq, seqD, wipeE, bindT, bindTs, yesM, isiD, itZip, zipD, itEnum, itRange1, idxD, lenD, tupleD, listD, setOM, appM, extM, itZip3, sliceM, partM, sliceD, dnewM, stoM, stoD, keyD, unpM])
    · exact tupS (mm hsL (mm hsL m0)) (by simp [Kd.andM, Kd.orM, Kd.notM, blM, bin, un, potI, cM, potNE, seqM, potPop, potSet, ifM, brwM, varM, Pot.setI, nilM, ifS, setM, retM, thaw, retNM, tstM, truD, vAndM, vOrM, vNotM, chainM, daM, slM, argsM, tupM, lstM, callM, argsS, idL, multM, argsF, setSs, compM, itSeq, seqD, wipeE, bindT, bindTs, yesM, isiD, itZip, zipD, itEnum, itRange1, idxD, lenD, tupleD, listD, setOM, appM, extM, itZip3, sliceM, partM, sliceD, dnewM, stoM, stoD, keyD, unpM])
    · exact tupS (mm hsB (mm hsB m0)) (by simp [Kd.andM, Kd.orM, Kd.notM, blM, bin, un, potI, cM, potNE, seqM, potPop, potSet, ifM, brwM, varM, Pot.setI, nilM, ifS, setM, retM, thaw, retNM, tstM, truD, vAndM, vOrM, vNotM, chainM, daM, slM, argsM, tupM, lstM, callM, argsS, idL, multM, argsF, setSs, compM, itSeq, seqD, wipeE, bindT, bindTs, yesM, isiD, itZip, zipD, itEnum, itRange1, idxD, lenD, tupleD, listD, setOM, appM, extM, itZip3, sliceM, partM, sliceD, dnewM, stoM, stoD, keyD, unpM])
    · exact tupS (mm hsL (mm hS (mm hsB m0))) (by simp [Kd.andM, Kd.orM, Kd.notM, blM, bin, un, potI, cM, potNE, seqM, potPop, potSet, ifM, brwM, varM, Pot.setI, nilM, ifS, setM, retM, thaw, retNM, tstM, truD, vAndM, vOrM, vNotM, chainM, daM, slM, argsM, tupM, lstM, callM, argsS, idL, multM, argsF, setSs, compM, itSeq, seqD, wipeE, bindT, bindTs, yesM, isiD, itZip, zipD, itEnum, itRange1, idxD, lenD, tupleD, listD, setOM, appM, extM, itZip3, sliceM, partM, sliceD, dnewM, stoM, stoD, keyD, unpM])
    · exact tupS (mm hS (mm hsL (mm hsB m0))) (by simp [Kd.andM, Kd.orM, Kd.notM, blM, bin, un, potI, cM, potNE, seqM, potPop, potSet, ifM, brwM, varM, Pot.setI, nilM, ifS, setM, retM, thaw, retNM, tstM, truD, vAndM, vOrM, vNotM, chainM, daM, slM, argsM, tupM, lstM, callM, argsS, idL, multM, argsF, setSs, compM, itSeq, seqD, wipeE, bindT, bindTs, yesM, isiD, itZip, zipD, itEnum, itRange1, idxD, lenD, tupleD, listD, setOM, appM, extM, itZip3, sliceM, partM, sliceD, dnewM, stoM, stoD, keyD, unpM])⟩
  have q2 : NG 4 E2 := ⟨Nat.le_refl 4, fun x hx => by
    simp only [E2, List.mem_cons, List.not_mem_nil, or_false] at hx
    rcases hx with rfl | rfl | rfl | rfl
    · exact tupS (mm hS (mm hS (mm hsL m0))) (by simp [Kd.andM, Kd.orM, Kd.notM, blM, bin, un, potI, cM, potNE, seqM, potPop, potSet, ifM, brwM, varM, Pot.setI, nilM, ifS, setM, retM, thaw, retNM, tstM, truD, vAndM, vOrM, vNotM, chainM, daM, slM, argsM, tupM, lstM, callM, argsS, idL, multM, argsF, setSs, compM, itSeq, seqD, wipeE, bindT, bindTs, yesM, isiD, itZip, zipD, itEnum, itRange1, idxD, lenD, tupleD, listD, setOM, appM, extM, itZip3, sliceM, partM, sliceD, dnewM, stoM, stoD, keyD, unpM])
    · exact tupS (mm hS (mm hS (mm hsB m0))) (by simp [Kd.andM, Kd.orM, Kd.notM, blM, bin, un, potI, cM, potNE, seqM, potPop, potSet, ifM, brwM, varM, Pot.setI, nilM, ifS, setM, retM, thaw, retNM, tstM, truD, vAndM, vOrM, vNotM, chainM, daM, slM, argsM, tupM, lstM, callM, argsS, idL, multM, argsF, setSs, compM, itSeq, seqD, wipeE, bindT, bindTs, yesM, isiD, itZip, zipD, itEnum, itRange1, idxD, lenD, tupleD, listD, setOM, appM, extM, itZip3, sliceM, partM, sliceD, dnewM, stoM, stoD, keyD, unpM])
    · exact tupS (mm hS (mm hsB (mm hsL m0))) (by simp [Kd.andM, Kd.orM, Kd.notM, blM, bin, un, potI, cM, potNE, seqM, potPop, potSet, ifM, brwM, varM, Pot.setI, nilM, ifS, setM, retM, thaw, retNM, tstM, truD, vAndM, vOrM, vNotM, chainM, daM, slM, argsM, tupM, lstM, callM, argsS, idL, multM, argsF, setSs, compM, itSeq, seqD, wipeE, bindT, bindTs, yesM, isiD, itZip, zipD, itEnum, itRange1, idxD, lenD, tupleD, listD, setOM, appM, extM, itZip3, sliceM, partM, sliceD, dnewM, stoM, stoD, keyD, unpM])
    · exact tupS (mm hb m0) (by simp [Kd.andM, Kd.orM, Kd.notM, blM, bin, un, potI, cM, potNE, seqM, potPop, potSet, ifM, brwM, varM, Pot.setI, nilM, ifS, setM, retM, thaw, retNM, tstM, truD, vAndM, vOrM, vNotM, chainM, daM, slM, argsM, tupM, lstM, callM, argsS, idL, multM, argsF, setSs, compM, itSeq, seqD, wipeE, bindT, bindTs, yesM, isiD, itZip, zipD, itEnum, itRange1, idxD, lenD, tupleD, listD, setOM, appM, extM, itZip3, sliceM, partM, sliceD, dnewM, stoM, stoD, keyD, unpM])⟩
  have q3 : NG 1 E3 := ⟨Nat.le_refl 1, fun x hx => by
    simp only [E3, List.mem_cons, List.not_mem_nil, or_false] at hx
    rw [hx]
    exact tupS (mm hsL (mm hb m0)) (by simp [Kd.andM, Kd.orM, Kd.notM, blM, bin, un, potI, cM, potNE, seqM, potPop, potSet, ifM, brwM, varM, Pot.setI, nilM, ifS, setM, retM, thaw, retNM, tstM, truD, vAndM, vOrM, vNotM, chainM, daM, slM, argsM, tupM, lstM, callM, argsS, idL, multM, argsF, setSs, compM, itSeq, seqD, wipeE, bindT, bindTs, yesM, isiD, itZip, zipD, itEnum, itRange1, idxD, lenD, tupleD, listD, setOM, appM, extM, itZip3, sliceM, partM, sliceD, dnewM, stoM, stoD, keyD, unpM])⟩
  have t0 : Sz (.tuple []) := (Nice.tuple (h := 0) (n := 0) (k := 0) (xs := []) (fun z hz => nomatch hz) (Nat.le_refl 0)).mono (by decide) (by decide)
  have q4 : NG 14 E4 := ⟨Nat.le_refl 14, fun x hx => by
    simp only [E4, List.mem_cons, List.not_mem_nil, or_false] at hx
    rcases hx with rfl | rfl | rfl | rfl | rfl | rfl | rfl | rfl | rfl | rfl | rfl | rfl | rfl | rfl
    · exact lstS hU hUl
    · exact lstS m0 (by simp [Kd.andM, Kd.orM, Kd.notM, blM, bin, un, potI, cM, potNE, seqM, potPop, potSet, ifM, brwM, varM, Pot.setI, nilM, ifS, setM, retM, thaw, retNM, tstM, truD, vAndM, vOrM, vNotM, chainM, daM, slM, argsM, tupM, lstM, callM, argsS, idL, multM, argsF, setSs, compM, itSeq, seqD, wipeE, bindT, bindTs, yesM, isiD, itZip, zipD, itEnum, itRange1, idxD, lenD, tupleD, listD, setOM, appM, extM, itZip3, sliceM, partM, sliceD, dnewM, stoM, stoD, keyD, unpM])
    · exact tupS m0 (by simp [Kd.andM, Kd.orM, Kd.notM, blM, bin, un, potI, cM, potNE, seqM, potPop, potSet, ifM, brwM, varM, Pot.setI, nilM, ifS, setM, retM, thaw, retNM, tstM, truD, vAndM, vOrM, vNotM, chainM, daM, slM, argsM, tupM, lstM, callM, argsS, idL, multM, argsF, setSs, compM, itSeq, seqD, wipeE, bindT, bindTs, yesM, isiD, itZip, zipD, itEnum, itRange1, idxD, lenD, tupleD, listD, setOM, appM, extM, itZip3, sliceM, partM, sliceD, dnewM, stoM, stoD, keyD, unpM])
    · exact Nice.non
    · exact Nice.bool _
    · exact niceSmall (by decide)
    · exact Nice.str (by decide +kernel) (by decide +kernel)
    · exact Nice.str (by decide +kernel) (by decide +kernel)
    · exact (Nice.dict (h := 0) (n := 0) (k := 0) (ps := []) (fun z hz => nomatch hz) (Nat.le_refl 0)).mono (by decide) (by decide)
    · exact (Nice.dict (h := 3) (n := 60) (k := 1) (ps := [(.int 0, S)]) (fun z hz => by rw [List.mem_singleton.mp hz]; exact ⟨niceSmall (by decide), hS⟩) (Nat.le_refl 1)).mono (by decide) (by decide)
    · exact sv hS
    · exact tupS (mm t0 m0) (by simp [Kd.andM, Kd.orM, Kd.notM, blM, bin, un, potI, cM, potNE, seqM, potPop, potSet, ifM, brwM, varM, Pot.setI, nilM, ifS, setM, retM, thaw, retNM, tstM, truD, vAndM, vOrM, vNotM, chainM, daM, slM, argsM, tupM, lstM, callM, argsS, idL, multM, argsF, setSs, compM, itSeq, seqD, wipeE, bindT, bindTs, yesM, isiD, itZip, zipD, itEnum, itRange1, idxD, lenD, tupleD, listD, setOM, appM, extM, itZip3, sliceM, partM, sliceD, dnewM, stoM, stoD, keyD, unpM])
    · exact tupS (mm t0 (mm t0 m0)) (by simp [Kd.andM, Kd.orM, Kd.notM, blM, bin, un, potI, cM, potNE, seqM, potPop, potSet, ifM, brwM, varM, Pot.setI, nilM, ifS, setM, retM, thaw, retNM, tstM, truD, vAndM, vOrM, vNotM, chainM, daM, slM, argsM, tupM, lstM, callM, argsS, idL, multM, argsF, setSs, compM, itSeq, seqD, wipeE, bindT, bindTs, yesM, isiD, itZip, zipD, itEnum, itRange1, idxD, lenD, tupleD, listD, setOM, appM, extM, itZip3, sliceM, partM, sliceD, dnewM, stoM, stoD, keyD, unpM])
    · exact niceSmall (by decide)⟩
  have q5 : NG 7 E5 := ⟨Nat.le_refl 7, fun x hx => by
    obtain ⟨k, hk, rfl⟩ := List.mem_map.mp hx
    refine rep hS ?_
    simp only [List.mem_cons, List.not_mem_nil, or_false] at hk
    omega⟩
  have q6 : NG 5 E6 := ⟨Nat.le_refl 5, fun x hx => by
    simp only [E6, List.mem_cons, List.not_mem_nil, or_false] at hx
    rcases hx with rfl | rfl | rfl | rfl | rfl
    · exact rep hsB (by decide)
    · exact rep hsL (by decide)
    · exact lstS (mm hsB m0) (by simp [Kd.andM, Kd.orM, Kd.notM, blM, bin, un, potI, cM, potNE, seqM, potPop, potSet, ifM, brwM, varM, Pot.setI, nilM, ifS, setM, retM, thaw, retNM, tstM, truD, vAndM, vOrM, vNotM, chainM, daM, slM, argsM, tupM, lstM, callM, argsS, idL, multM, argsF, setSs, compM, itSeq, seqD, wipeE, bindT, bindTs, yesM, isiD, itZip, zipD, itEnum, itRange1, idxD, lenD, tupleD, listD, setOM, appM, extM, itZip3, sliceM, partM, sliceD, dnewM, stoM, stoD, keyD, unpM])
    · exact tupS (mm hS (mm hS (mm hS (mm nn0 m0)))) (by simp [Kd.andM, Kd.orM, Kd.notM, blM, bin, un, potI, cM, potNE, seqM, potPop, potSet, ifM, brwM, varM, Pot.setI, nilM, ifS, setM, retM, thaw, retNM, tstM, truD, vAndM, vOrM, vNotM, chainM, daM, slM, argsM, tupM, lstM, callM, argsS, idL, multM, argsF, setSs, compM, itSeq, seqD, wipeE, bindT, bindTs, yesM, isiD, itZip, zipD, itEnum, itRange1, idxD, lenD, tupleD, listD, setOM, appM, extM, itZip3, sliceM, partM, sliceD, dnewM, stoM, stoD, keyD, unpM])
    · exact rep nn0 (by decide)⟩
  have q7 : NG 2 E7 := ⟨Nat.le_refl 2, fun x hx => by
    simp only [E7, List.mem_cons, List.not_mem_nil, or_false] at hx
    rcases hx with rfl | rfl
    · exact tupS (mm hS (mm nn0 m0)) (by simp [Kd.andM, Kd.orM, Kd.notM, blM, bin, un, potI, cM, potNE, seqM, potPop, potSet, ifM, brwM, varM, Pot.setI, nilM, ifS, setM, retM, thaw, retNM, tstM, truD, vAndM, vOrM, vNotM, chainM, daM, slM, argsM, tupM, lstM, callM, argsS, idL, multM, argsF, setSs, compM, itSeq, seqD, wipeE, bindT, bindTs, yesM, isiD, itZip, zipD, itEnum, itRange1, idxD, lenD, tupleD, listD, setOM, appM, extM, itZip3, sliceM, partM, sliceD, dnewM, stoM, stoD, keyD, unpM])
    · exact tupS (mm nn0 (mm hS m0)) (by simp [Kd.andM, Kd.orM, Kd.notM, blM, bin, un, potI, cM, potNE, seqM, potPop, potSet, ifM, brwM, varM, Pot.setI, nilM, ifS, setM, retM, thaw, retNM, tstM, truD, vAndM, vOrM, vNotM, chainM, daM, slM, argsM, tupM, lstM, callM, argsS, idL, multM, argsF, setSs, compM, itSeq, seqD, wipeE, bindT, bindTs, yesM, isiD, itZip, zipD, itEnum, itRange1, idxD, lenD, tupleD, listD, setOM, appM, extM, itZip3, sliceM, partM, sliceD, dnewM, stoM, stoD, keyD, unpM])⟩
  have st : ∀ {f : EM GG} {F E : List D} {k j : Nat}, NG k F → NG j E → k + j ≤ 1000 → f (rV m C S (.tuple U) c F none B L) g = some (.ok (.list E) g) → extM 6 f (rV m C S (.tuple U) c F none B L) g = some (.nx (rV m C S (.tuple U) c (F ++ E) none B L) g) := fun a b h e => extM_ok rfl e (by have := a.1; have := b.1; omega)
  have F1 := hF.app q1
  have s1 : extM 6 (lstM [tupM [varM 8, varM 9], tupM [varM 9, varM 8], tupM [varM 9, varM 9], tupM [varM 8, varM 8], tupM [varM 9, varM 3, varM 8], tupM [varM 3, varM 9, varM 8]]) _ g = _ := st hF q1 (by decide) rfl
  generalize F ++ E1 = G1 at s1 F1
  have F2 := F1.app q2
  have s2 : extM 6 (lstM [tupM [varM 3, varM 3, varM 9], tupM [varM 3, varM 3, varM 8], tupM [varM 3, varM 8, varM 9], tupM [tupM [bin idxD (brwM 8) (cM (.int 0)), un negD (cM (.int 1))]]]) _ g = _ := st F1 q2 (by decide) (by simp [Kd.andM, Kd.orM, Kd.notM, blM, bin, un, potI, cM, potNE, seqM, potPop, potSet, ifM, brwM, varM, Pot.setI, nilM, ifS, setM, retM, thaw, retNM, tstM, truD, vAndM, vOrM, vNotM, chainM, daM, slM, argsM, tupM, lstM, callM, argsS, idL, multM, argsF, setSs, compM, itSeq, seqD, wipeE, bindT, bindTs, yesM, isiD, itZip, zipD, itEnum, itRange1, lenD, tupleD, listD, setOM, appM, extM, itZip3, sliceM, partM, sliceD, dnewM, stoM, stoD, keyD, unpM, hB, E2])
  generalize G1 ++ E2 = G2 at s2 F2
  have F3 := F2.app q3
  have s3 : appM 6 (tupM [varM 9, tupM [bin idxD (brwM 8) (cM (.int 0)), un negD (cM (.int 1))]]) (rV m C S (.tuple U) c G2 none B L) g = some (.nx (rV m C S (.tuple U) c (G2 ++ E3) none B L) g) := appM_ok rfl (by simp [Kd.andM, Kd.orM, Kd.notM, blM, bin, un, potI, cM, potNE, seqM, potPop, potSet, ifM, brwM, varM, Pot.setI, nilM, ifS, setM, retM, thaw, retNM, tstM, truD, vAndM, vOrM, vNotM, chainM, daM, slM, argsM, tupM, lstM, callM, argsS, idL, multM, argsF, setSs, compM, itSeq, seqD, wipeE, bindT, bindTs, yesM, isiD, itZip, zipD, itEnum, itRange1, lenD, tupleD, listD, setOM, appM, extM, itZip3, sliceM, partM, sliceD, dnewM, stoM, stoD, keyD, unpM, hB, E3]) (by have := F2.1; omega)
  generalize G2 ++ E3 = G3 at s3 F3
  have F4 := F3.app q4
  have s4 : extM 6 (lstM [un listD (brwM 4), lstM [], tupM [], cM .none, cM (.bool true), cM (.int 0), cM (.str ""), cM (.str "caps"), dnewM, dispM [(cM (.int 0), varM 3)], varM 3, tupM [tupM []], tupM [tupM [], tupM []], cM (.int 3)]) _ g = _ := st F3 q4 (by decide) (by simp [Kd.andM, Kd.orM, Kd.notM, blM, bin, un, potI, cM, potNE, seqM, potPop, potSet, ifM, brwM, varM, Pot.setI, nilM, ifS, setM, retM, thaw, retNM, tstM, truD, vAndM, vOrM, vNotM, chainM, daM, slM, argsM, tupM, lstM, callM, argsS, idL, multM, argsF, setSs, compM, itSeq, seqD, wipeE, bindT, bindTs, yesM, isiD, itZip, zipD, itEnum, itRange1, idxD, lenD, tupleD, listD, setOM, appM, extM, itZip3, sliceM, partM, sliceD, dnewM, stoM, stoD, keyD, unpM, E4, dispM, pairsM, mergeP, putP, kD])
  generalize G3 ++ E4 = G4 at s4 F4
  have F5 := F4.app q5
  have s5 : extM 6 (compM (itSeq (lstM [cM (.int 1), cM (.int 2), cM (.int 3), cM (.int 4), cM (.int 5), cM (.int 12), cM (.int 200)])) (.nm 11) (yesM) (bin mulX (tupM [varM 3]) (brwM 11)) [11]) _ g = _ := st F4 q5 (by decide) (by
    have hc := compGo_all (t := .nm 11) (e := bin mulX (tupM [varM 3]) (brwM 11)) (ρ := rV m C S (.tuple U) c G4 none B L) (g := g) (fun (k : Nat) => .int (k : Nat)) (fun k => .tuple (List.replicate k S)) [1, 2, 3, 4, 5, 12, 200] fun k hk => ⟨_, rfl, by
      have h1 : 1 ≤ k ∧ k ≤ 1000 := by
        simp only [List.mem_cons, List.not_mem_nil, or_false] at hk
        omega
      simp [Kd.andM, Kd.orM, Kd.notM, blM, bin, un, potI, cM, potNE, seqM, potPop, potSet, ifM, brwM, varM, Pot.setI, nilM, ifS, setM, retM, thaw, retNM, tstM, truD, vAndM, vOrM, vNotM, chainM, daM, slM, argsM, tupM, lstM, callM, argsS, idL, multM, argsF, setSs, compM, itSeq, seqD, wipeE, bindT, bindTs, yesM, isiD, itZip, zipD, itEnum, itRange1, idxD, lenD, tupleD, listD, setOM, appM, extM, itZip3, sliceM, partM, sliceD, dnewM, stoM, stoD, keyD, unpM, mulX1 S h1.1 h1.2]⟩
    have : itSeq (lstM [cM (.int 1), cM (.int 2), cM (.int 3), cM (.int 4), cM (.int 5), cM (.int 12), cM (.int 200)]) (rV m C S (.tuple U) c G4 none B L) g = some (.ok (([1, 2, 3, 4, 5, 12, 200] : List Nat).map (fun (k : Nat) => PyData.int (k : Nat))) g) := rfl
    exact compM_ok this hc)
  generalize G4 ++ E5 = G5 at s5 F5
  have F6 := F5.app q6
  have s6 : extM 6 (lstM [bin mulX (tupM [varM 8]) (cM (.int 4)), bin mulX (tupM [varM 9]) (cM (.int 4)), lstM [varM 8], tupM [varM 3, varM 3, varM 3, cM .none], bin mulX (tupM [cM .none]) (cM (.int 4))]) _ g = _ := st F5 q6 (by decide) (by simp [Kd.andM, Kd.orM, Kd.notM, blM, bin, un, potI, cM, potNE, seqM, potPop, potSet, ifM, brwM, varM, Pot.setI, nilM, ifS, setM, retM, thaw, retNM, tstM, truD, vAndM, vOrM, vNotM, chainM, daM, slM, argsM, tupM, lstM, callM, argsS, idL, multM, argsF, setSs, compM, itSeq, seqD, wipeE, bindT, bindTs, yesM, isiD, itZip, zipD, itEnum, itRange1, idxD, lenD, tupleD, listD, setOM, appM, extM, itZip3, sliceM, partM, sliceD, dnewM, stoM, stoD, keyD, unpM, E6, m4])
  generalize G5 ++ E6 = G6 at s6 F6
  have F7 := F6.app q7
  have s7 : extM 6 (lstM [tupM [varM 3, cM .none], tupM [cM .none, varM 3]]) _ g = _ := st F6 q7 (by decide) rfl
  generalize G6 ++ E7 = G7 at s7 F7
  obtain ⟨E8, g1, c8, hg1, l8, n8⟩ := compGo_inv (t := .nm 12) (e := callM (s__law_any 8) idL [slM 0, daM (cM (.int 3))]) (ρ := rV m C S (.tuple U) c G7 none B L) Pk (fun y => Nice 4 2848 y) (rangeL 0 3) g hg fun x hx g hg => by
    obtain ⟨v, g', e, hg', nv⟩ := any_ok 3 8 (by decide) hg
    have e' : s__law_any 8 [.bag, .dat (.int 3)] g = _ := e
    exact ⟨_, v, g', rfl, by simp [Kd.andM, Kd.orM, Kd.notM, blM, bin, un, potI, cM, potNE, seqM, potPop, potSet, ifM, brwM, varM, Pot.setI, nilM, ifS, setM, retM, thaw, retNM, tstM, truD, vAndM, vOrM, vNotM, chainM, daM, slM, argsM, tupM, lstM, callM, argsS, idL, multM, argsF, setSs, compM, itSeq, seqD, wipeE, bindT, bindTs, yesM, isiD, itZip, zipD, itEnum, itRange1, idxD, lenD, tupleD, listD, setOM, appM, extM, itZip3, sliceM, partM, sliceD, dnewM, stoM, stoD, keyD, unpM, e'], hg', nv⟩
  have l3 : (rangeL 0 3).length = 3 := rangeL_len 3
  have q8 : NG 3 E8 := ⟨by omega, fun x hx => (n8 x hx).mono (by decide) (by decide)⟩
  have F8 := F7.app q8
  have s8 : extM 6 (compM (itRange1 (cM (.int 3))) (.nm 12) (yesM) (callM (s__law_any 8) idL [slM 0, daM (cM (.int 3))]) [12]) (rV m C S (.tuple U) c G7 none B L) g = some (.nx (rV m C S (.tuple U) c (G7 ++ E8) none B L) g1) := by
    refine extM_ok rfl ?_ (by have := F7.1; omega)
    have : itRange1 (cM (.int 3)) (rV m C S (.tuple U) c G7 none B L) g = some (.ok (rangeL 0 3) g) := rfl
    exact compM_ok this c8
  generalize hG8 : G7 ++ E8 = G8 at s8 F8
  have hG8p : 0 < G8.length := by rw [← hG8, List.length_append]; omega
  have hG8l : G8.length ≤ 1000 := Nat.le_trans F8.1 (by decide)
  obtain ⟨n, g2, e2, hg2, n0, n1⟩ := draw_ok hg1 (n := (G8.length : Nat)) (by omega) (by omega)
  obtain ⟨k, rfl⟩ : ∃ k : Nat, n = (k : Nat) := ⟨n.toNat, by omega⟩
  have s9 : setM 7 (callM s__law_draw idL [slM 0, daM (un lenD (brwM 6))]) (rV m C S (.tuple U) c G8 none B L) g1 = some (.nx (rV m C S (.tuple U) c G8 (some (.dat (.int (k : Nat)))) B L) g2) := by
    simp [Kd.andM, Kd.orM, Kd.notM, blM, bin, un, potI, cM, potNE, seqM, potPop, potSet, ifM, brwM, varM, Pot.setI, nilM, ifS, setM, retM, thaw, retNM, tstM, truD, vAndM, vOrM, vNotM, chainM, daM, slM, argsM, tupM, lstM, callM, argsS, idL, multM, argsF, setSs, compM, itSeq, seqD, wipeE, bindT, bindTs, yesM, isiD, itZip, zipD, itEnum, itRange1, idxD, lenD, tupleD, listD, setOM, appM, extM, itZip3, sliceM, partM, sliceD, dnewM, stoM, stoD, keyD, unpM, e2]
  have a1 : addD (.list [C]) (.list (G8.drop k)) = some (.list (C :: G8.drop k)) := addD_lst (by simp [Kd.andM, Kd.orM, Kd.notM, blM, bin, un, potI, cM, potNE, seqM, potPop, potSet, ifM, brwM, varM, Pot.setI, nilM, ifS, setM, retM, thaw, retNM, tstM, truD, vAndM, vOrM, vNotM, chainM, daM, slM, argsM, tupM, lstM, callM, argsS, idL, multM, argsF, setSs, compM, itSeq, seqD, wipeE, bindT, bindTs, yesM, isiD, itZip, zipD, itEnum, itRange1, idxD, lenD, tupleD, listD, setOM, appM, extM, itZip3, sliceM, partM, sliceD, dnewM, stoM, stoD, keyD, unpM]; omega)
  have a2 : addD (.list (C :: G8.drop k)) (.list (G8.take k)) = some (.list (C :: G8.drop k ++ G8.take k)) := addD_lst (by simp [Kd.andM, Kd.orM, Kd.notM, blM, bin, un, potI, cM, potNE, seqM, potPop, potSet, ifM, brwM, varM, Pot.setI, nilM, ifS, setM, retM, thaw, retNM, tstM, truD, vAndM, vOrM, vNotM, chainM, daM, slM, argsM, tupM, lstM, callM, argsS, idL, multM, argsF, setSs, compM, itSeq, seqD, wipeE, bindT, bindTs, yesM, isiD, itZip, zipD, itEnum, itRange1, idxD, lenD, tupleD, listD, setOM, appM, extM, itZip3, sliceM, partM, sliceD, dnewM, stoM, stoD, keyD, unpM]; omega)
  have a3 : addD (.list (C :: G8.drop k ++ G8.take k)) (.list [C]) = some (.list (C :: G8.drop k ++ G8.take k ++ [C])) := addD_lst (by simp [Kd.andM, Kd.orM, Kd.notM, blM, bin, un, potI, cM, potNE, seqM, potPop, potSet, ifM, brwM, varM, Pot.setI, nilM, ifS, setM, retM, thaw, retNM, tstM, truD, vAndM, vOrM, vNotM, chainM, daM, slM, argsM, tupM, lstM, callM, argsS, idL, multM, argsF, setSs, compM, itSeq, seqD, wipeE, bindT, bindTs, yesM, isiD, itZip, zipD, itEnum, itRange1, idxD, lenD, tupleD, listD, setOM, appM, extM, itZip3, sliceM, partM, sliceD, dnewM, stoM, stoD, keyD, unpM]; omega)
  refine ⟨C :: G8.drop k ++ G8.take k ++ [C], g2, ?_, hg2, fun x hx => ?_⟩
  · rw [seqM_nx s1, seqM_nx s2, seqM_nx s3, seqM_nx s4, seqM_nx s5, seqM_nx s6, seqM_nx s7, seqM_nx s8, seqM_nx s9]
    simp only [List.cons_append] at a2 a3
    simp [Kd.andM, Kd.orM, Kd.notM, blM, bin, un, potI, cM, potNE, seqM, potPop, potSet, ifM, brwM, varM, Pot.setI, nilM, ifS, setM, retM, thaw, retNM, tstM, truD, vAndM, vOrM, vNotM, chainM, daM, slM, argsM, tupM, lstM, callM, argsS, idL, multM, argsF, setSs, compM, itSeq, seqD, wipeE, bindT, bindTs, yesM, isiD, itZip, zipD, itEnum, itRange1, idxD, lenD, tupleD, listD, setOM, appM, extM, itZip3, sliceM, partM, sliceD, dnewM, stoM, stoD, keyD, unpM, cut_take, cut_drop, a1, a2, a3]
  · rcases List.mem_append.mp hx with hx | hx
    · rcases List.mem_append.mp hx with hx | hx
      · rcases List.mem_cons.mp hx with rfl | hx
        · exact hC
        · exact F8.2 x (List.mem_of_mem_drop hx)
      · exact F8.2 x (List.mem_of_mem_take hx)
    · rw [List.mem_singleton.mp hx]; exact hC
end K77

end part_K77L
section part_K77M
namespace K77
open PySem Kd
theorem sz_ints {xs : List Int} (h : Bd (10 ^ 30) xs) (hl : xs.length ≤ 12) : Nice 1 20 (tI xs) := nc_w (m := 12) (by decide) hl h
theorem sz_cap {m : Nat} (hm : m ≤ 8) {c : List Int × Int} (h : GC m c) : Sz (tCap c) := by
  obtain ⟨hl, hw, t0, t1⟩ := h
  refine (pair2 (h := 1) (n := 20) (sz_ints (bd9 hw (by decide +kernel)) (by omega)) (niceI ?_)).mono (by decide) (by decide)
  have : c.2.natAbs ≤ 10 ^ 9 := by omega
  exact Nat.le_trans this (by decide +kernel)
theorem values_ok {g : GG} (hg : Pk g) {m : Nat} {cs : List (List Int × Int)} (hm : m ≤ 8) (hl : cs.length ≤ 3) (hc : ∀ c ∈ cs, GC m c) :
    ∃ xs g', s__law_values [.bag, .dat (.int (m : Nat)), .dat (tCaps cs)] g = some (.ok (.list xs) g') ∧ Pk g' ∧ ∀ x ∈ xs, Nv x := by
  obtain ⟨r, g1, e1, hg1, lr, br⟩ := row_ok hg (m := m) (by omega)
  obtain ⟨d4, g2, e2, hg2, _, _⟩ := draw_ok hg1 (n := 4) (by decide) (by decide)
  obtain ⟨t, g3, e3, hg3, t0, t1⟩ := tokens_ok hg2 d4
  have hsp : GC m (r, t) := ⟨lr, br, t0, t1⟩
  obtain ⟨fs, hfs, gfs, lfs, lfs3⟩ : ∃ fs : List (List Int × Int), (if cs.isEmpty = true then [(r, t)] else cs) = fs ∧ (∀ c ∈ fs, GC m c) ∧ 0 < fs.length ∧ fs.length ≤ 3 := by
    cases cs with
    | nil => exact ⟨_, rfl, fun c h => by rw [List.mem_singleton.mp h]; exact hsp, by simp [Kd.andM, Kd.orM, Kd.notM, blM, bin, un, potI, cM, potNE, seqM, potPop, potSet, ifM, brwM, varM, Pot.setI, nilM, ifS, setM, retM, thaw, retNM, tstM, truD, vAndM, vOrM, vNotM, chainM, daM, slM, argsM, tupM, lstM, callM, argsS, idL, multM, argsF, setSs, compM, itSeq, seqD, wipeE, bindT, bindTs, yesM, isiD, itZip, zipD, itEnum, itRange1, idxD, lenD, tupleD, listD, setOM, appM, extM, itZip3, sliceM, partM, sliceD, dnewM, stoM, stoD, keyD, unpM], by simp [Kd.andM, Kd.orM, Kd.notM, blM, bin, un, potI, cM, potNE, seqM, potPop, potSet, ifM, brwM, varM, Pot.setI, nilM, ifS, setM, retM, thaw, retNM, tstM, truD, vAndM, vOrM, vNotM, chainM, daM, slM, argsM, tupM, lstM, callM, argsS, idL, multM, argsF, setSs, compM, itSeq, seqD, wipeE, bindT, bindTs, yesM, isiD, itZip, zipD, itEnum, itRange1, idxD, lenD, tupleD, listD, setOM, appM, extM, itZip3, sliceM, partM, sliceD, dnewM, stoM, stoD, keyD, unpM]⟩
    | cons a b => exact ⟨_, rfl, hc, by simp [Kd.andM, Kd.orM, Kd.notM, blM, bin, un, potI, cM, potNE, seqM, potPop, potSet, ifM, brwM, varM, Pot.setI, nilM, ifS, setM, retM, thaw, retNM, tstM, truD, vAndM, vOrM, vNotM, chainM, daM, slM, argsM, tupM, lstM, callM, argsS, idL, multM, argsF, setSs, compM, itSeq, seqD, wipeE, bindT, bindTs, yesM, isiD, itZip, zipD, itEnum, itRange1, idxD, lenD, tupleD, listD, setOM, appM, extM, itZip3, sliceM, partM, sliceD, dnewM, stoM, stoD, keyD, unpM], hl⟩
  have shp : SeqAt.shaped (tCaps cs) = true := by
    obtain ⟨a, b⟩ := layD (xs := cs.map tCap) fun x hx => by
      obtain ⟨s, _, rfl⟩ := List.mem_map.mp hx
      obtain ⟨a1, a2⟩ := lay_tI s.1
      exact ⟨by simp only [PyData.canLay0, PyData.canLayAll0] at a1 ⊢; rw [a1]; rfl, by simp only [PyData.depth, PyData.depthAll] at a2 ⊢; omega⟩
    exact shaped_tuple a (by omega)
  have hne := neX_tnil shp
  let p0 : Kd.Env := [some .bag, some (.dat (.int (m : Nat))), some (.dat (tCaps cs)), none, none, none, none, none, none, none, none, none, none]
  let p1 : Kd.Env := [some .bag, some (.dat (.int (m : Nat))), some (.dat (tCaps cs)), some (.dat (tCap (r, t))), none, none, none, none, none, none, none, none, none]
  let p2 : Kd.Env := [some .bag, some (.dat (.int (m : Nat))), some (.dat (tCaps cs)), some (.dat (tCap (r, t))), some (.dat (tCaps fs)), none, none, none, none, none, none, none, none]
  have s1 : setM 3 (tupM [callM s__law_row idL [slM 0, daM (varM 1)], callM s__law_tokens idL [slM 0, daM (callM s__law_draw idL [slM 0, daM (cM (.int 4))])]]) p0 g = some (.nx p1 g3) := by
    simp [Kd.andM, Kd.orM, Kd.notM, blM, bin, un, potI, cM, potNE, seqM, potPop, potSet, ifM, brwM, varM, Pot.setI, nilM, ifS, setM, retM, thaw, retNM, tstM, truD, vAndM, vOrM, vNotM, chainM, daM, slM, argsM, tupM, lstM, callM, argsS, idL, multM, argsF, setSs, compM, itSeq, seqD, wipeE, bindT, bindTs, yesM, isiD, itZip, zipD, itEnum, itRange1, idxD, lenD, tupleD, listD, setOM, appM, extM, itZip3, sliceM, partM, sliceD, dnewM, stoM, stoD, keyD, unpM, p0, p1, e1, e2, e3]
  have s2 : setM 4 (ifM (blM (bin neX (brwM 2) (tupM []))) (varM 2) (tupM [varM 3])) p1 g3 = some (.nx p2 g3) := by
    cases cs with
    | nil =>
      have hne' : neX (tCaps []) (.tuple []) = some (.bool false) := hne
      have : fs = [(r, t)] := hfs.symm
      subst this
      simp [Kd.andM, Kd.orM, Kd.notM, blM, bin, un, potI, cM, potNE, seqM, potPop, potSet, ifM, brwM, varM, Pot.setI, nilM, ifS, setM, retM, thaw, retNM, tstM, truD, vAndM, vOrM, vNotM, chainM, daM, slM, argsM, tupM, lstM, callM, argsS, idL, multM, argsF, setSs, compM, itSeq, seqD, wipeE, bindT, bindTs, yesM, isiD, itZip, zipD, itEnum, itRange1, idxD, lenD, tupleD, listD, setOM, appM, extM, itZip3, sliceM, partM, sliceD, dnewM, stoM, stoD, keyD, unpM, p1, p2, hne']
    | cons a b =>
      have : fs = a :: b := hfs.symm
      subst this
      have hne' : neX (tCaps (a :: b)) (.tuple []) = some (.bool true) := hne
      simp [Kd.andM, Kd.orM, Kd.notM, blM, bin, un, potI, cM, potNE, seqM, potPop, potSet, ifM, brwM, varM, Pot.setI, nilM, ifS, setM, retM, thaw, retNM, tstM, truD, vAndM, vOrM, vNotM, chainM, daM, slM, argsM, tupM, lstM, callM, argsS, idL, multM, argsF, setSs, compM, itSeq, seqD, wipeE, bindT, bindTs, yesM, isiD, itZip, zipD, itEnum, itRange1, idxD, lenD, tupleD, listD, setOM, appM, extM, itZip3, sliceM, partM, sliceD, dnewM, stoM, stoD, keyD, unpM, p1, p2, hne']
  obtain ⟨n, g4, e4, hg4, n0, n1⟩ := draw_ok hg3 (n := (fs.length : Nat)) (by omega) (by omega)
  obtain ⟨y, g5, e5, hg5, hy⟩ := pick_list hg4 (xs := [.int 0, .int ((fs.length : Int) - 1), .int n]) (by simp [Kd.andM, Kd.orM, Kd.notM, blM, bin, un, potI, cM, potNE, seqM, potPop, potSet, ifM, brwM, varM, Pot.setI, nilM, ifS, setM, retM, thaw, retNM, tstM, truD, vAndM, vOrM, vNotM, chainM, daM, slM, argsM, tupM, lstM, callM, argsS, idL, multM, argsF, setSs, compM, itSeq, seqD, wipeE, bindT, bindTs, yesM, isiD, itZip, zipD, itEnum, itRange1, idxD, lenD, tupleD, listD, setOM, appM, extM, itZip3, sliceM, partM, sliceD, dnewM, stoM, stoD, keyD, unpM]) (by simp [Kd.andM, Kd.orM, Kd.notM, blM, bin, un, potI, cM, potNE, seqM, potPop, potSet, ifM, brwM, varM, Pot.setI, nilM, ifS, setM, retM, thaw, retNM, tstM, truD, vAndM, vOrM, vNotM, chainM, daM, slM, argsM, tupM, lstM, callM, argsS, idL, multM, argsF, setSs, compM, itSeq, seqD, wipeE, bindT, bindTs, yesM, isiD, itZip, zipD, itEnum, itRange1, idxD, lenD, tupleD, listD, setOM, appM, extM, itZip3, sliceM, partM, sliceD, dnewM, stoM, stoD, keyD, unpM])
  have hy2 : ∃ k : Nat, y = .int (k : Nat) ∧ k < fs.length := by
    simp only [List.mem_cons, List.not_mem_nil, or_false] at hy
    rcases hy with rfl | rfl | rfl
    · exact ⟨0, rfl, lfs⟩
    · exact ⟨fs.length - 1, by rw [show ((fs.length - 1 : Nat) : Int) = (fs.length : Int) - 1 by omega], by omega⟩
    · exact ⟨n.toNat, by rw [show ((n.toNat : Nat) : Int) = n by omega], by omega⟩
  obtain ⟨k, rfl, hk⟩ := hy2
  let p3 : Kd.Env := [some .bag, some (.dat (.int (m : Nat))), some (.dat (tCaps cs)), some (.dat (tCap (r, t))), some (.dat (tCaps fs)), some (.dat (.int (k : Nat))), none, none, none, none, none, none, none]
  have s3 : setM 5 (callM s__law_pick idL [slM 0, daM (lstM [cM (.int 0), bin subD (un lenD (brwM 4)) (cM (.int 1)), callM s__law_draw idL [slM 0, daM (un lenD (brwM 4))]])]) p2 g3 = some (.nx p3 g5) := by
    simp [Kd.andM, Kd.orM, Kd.notM, blM, bin, un, potI, cM, potNE, seqM, potPop, potSet, ifM, brwM, varM, Pot.setI, nilM, ifS, setM, retM, thaw, retNM, tstM, truD, vAndM, vOrM, vNotM, chainM, daM, slM, argsM, tupM, lstM, callM, argsS, idL, multM, argsF, setSs, compM, itSeq, seqD, wipeE, bindT, bindTs, yesM, isiD, itZip, zipD, itEnum, itRange1, idxD, lenD, tupleD, listD, setOM, appM, extM, itZip3, sliceM, partM, sliceD, dnewM, stoM, stoD, keyD, unpM, p2, p3, e4, e5]
  obtain ⟨its, g6, e6, hg6, nits⟩ := items_ok hg5 hm (gfs fs[k] (List.getElem_mem hk))
  have hk2 : (fs.map tCap)[k]? = some (tCap fs[k]) := by rw [List.getElem?_map, List.getElem?_eq_getElem hk]; rfl
  let fI : D → D := fun x => .tuple ((fs.map tCap).take k ++ [x] ++ (fs.map tCap).drop (k + 1))
  have hcm := compGo_all (t := .nm 10) (e := bin addD (bin addD (sliceM (brwM 4) none (some (brwM 5))) (tupM [varM 10])) (sliceM (brwM 4) (some (bin addD (brwM 5) (cM (.int 1)))) none)) (ρ := p3) (g := g6) id fI its fun x hx => ⟨_, rfl, by
    obtain ⟨q1, q2⟩ := put_eq (xs := fs.map tCap) (k := k) (v := x) (by rw [List.length_map]; omega)
    simp [Kd.andM, Kd.orM, Kd.notM, blM, bin, un, potI, cM, potNE, seqM, potPop, potSet, ifM, brwM, varM, Pot.setI, nilM, ifS, setM, retM, thaw, retNM, tstM, truD, vAndM, vOrM, vNotM, chainM, daM, slM, argsM, tupM, lstM, callM, argsS, idL, multM, argsF, setSs, compM, itSeq, seqD, wipeE, bindT, bindTs, yesM, isiD, itZip, zipD, itEnum, itRange1, idxD, lenD, tupleD, listD, setOM, appM, extM, itZip3, sliceM, partM, sliceD, dnewM, stoM, stoD, keyD, unpM, p3, fI, q1, q2, -List.append_assoc, -List.map_take, -List.map_drop]⟩
  rw [List.map_id] at hcm
  have hit : itSeq (callM s__law_items idL [slM 0, daM (varM 1), daM (bin idxD (brwM 4) (brwM 5))]) p3 g5 = some (.ok its g6) := by
    have hk3 : L2.atI (fs.map tCap) (k : Nat) = some (tCap fs[k]) := by rw [atI_nat]; exact hk2
    have hk4 : idxD (tCaps fs) (.int (k : Nat)) = some (tCap fs[k]) := hk3
    simp [Kd.andM, Kd.orM, Kd.notM, blM, bin, un, potI, cM, potNE, seqM, potPop, potSet, ifM, brwM, varM, Pot.setI, nilM, ifS, setM, retM, thaw, retNM, tstM, truD, vAndM, vOrM, vNotM, chainM, daM, slM, argsM, tupM, lstM, callM, argsS, idL, multM, argsF, setSs, compM, itSeq, seqD, wipeE, bindT, bindTs, yesM, isiD, itZip, zipD, itEnum, itRange1, lenD, tupleD, listD, setOM, appM, extM, itZip3, sliceM, partM, sliceD, dnewM, stoM, stoD, keyD, unpM, p3, hk4, e6]
  let F : List D := its.map fI
  have s4 : setOM 6 (compM (itSeq (callM s__law_items idL [slM 0, daM (varM 1), daM (bin idxD (brwM 4) (brwM 5))])) (.nm 10) (yesM) (bin addD (bin addD (sliceM (brwM 4) none (some (brwM 5))) (tupM [varM 10])) (sliceM (brwM 4) (some (bin addD (brwM 5) (cM (.int 1)))) none)) [10]) p3 g5 = some (.nx [some .bag, some (.dat (.int (m : Nat))), some (.dat (tCaps cs)), some (.dat (tCap (r, t))), some (.dat (tCaps fs)), some (.dat (.int (k : Nat))), some (.own (.list F)), none, none, none, none, none, none] g6) := by
    have := compM_ok (vs := [10]) hit hcm
    unfold setOM
    rw [this]
    rfl
  have hcapI : ∀ c ∈ fs, Ni (tCap c) := fun c h => (sz_cap hm (gfs c h)).mono (by decide) (by decide)
  have hF : NG 100 F := by
    refine ⟨by rw [List.length_map]; exact nits.1, fun x hx => ?_⟩
    obtain ⟨z, hz, rfl⟩ := List.mem_map.mp hx
    refine (Nice.tuple (h := 6) (n := 2900) (k := 4) (fun w hw => ?_) ?_).mono (by decide) (by decide)
    · rcases List.mem_append.mp hw with hw | hw
      · rcases List.mem_append.mp hw with hw | hw
        · obtain ⟨i, hi, rfl⟩ := List.mem_map.mp (List.mem_of_mem_take hw)
          exact hcapI i hi
        · rw [List.mem_singleton.mp hw]; exact nits.2 z hz
      · obtain ⟨i, hi, rfl⟩ := List.mem_map.mp (List.mem_of_mem_drop hw)
        exact hcapI i hi
    · simp [Kd.andM, Kd.orM, Kd.notM, blM, bin, un, potI, cM, potNE, seqM, potPop, potSet, ifM, brwM, varM, Pot.setI, nilM, ifS, setM, retM, thaw, retNM, tstM, truD, vAndM, vOrM, vNotM, chainM, daM, slM, argsM, tupM, lstM, callM, argsS, idL, multM, argsF, setSs, compM, itSeq, seqD, wipeE, bindT, bindTs, yesM, isiD, itZip, zipD, itEnum, itRange1, idxD, lenD, tupleD, listD, setOM, appM, extM, itZip3, sliceM, partM, sliceD, dnewM, stoM, stoD, keyD, unpM]; omega
  obtain ⟨d3, g7, e7, hg7, d30, d31⟩ := draw_ok hg6 (n := 3) (by decide) (by decide)
  have a1 : addD (.tuple (r.map .int)) (.tuple [.int 1]) = some (.tuple (r.map .int ++ [.int 1])) := addD_tup (by simp [Kd.andM, Kd.orM, Kd.notM, blM, bin, un, potI, cM, potNE, seqM, potPop, potSet, ifM, brwM, varM, Pot.setI, nilM, ifS, setM, retM, thaw, retNM, tstM, truD, vAndM, vOrM, vNotM, chainM, daM, slM, argsM, tupM, lstM, callM, argsS, idL, multM, argsF, setSs, compM, itSeq, seqD, wipeE, bindT, bindTs, yesM, isiD, itZip, zipD, itEnum, itRange1, idxD, lenD, tupleD, listD, setOM, appM, extM, itZip3, sliceM, partM, sliceD, dnewM, stoM, stoD, keyD, unpM]; omega)
  let B : D := .tuple [.tuple (r.map .int ++ [.int 1]), .int t]
  let L : D := .tuple [tI r, .int (-1 - d3)]
  have s5 : multM [8, 9] [(false, tupM [bin addD (bin idxD (brwM 3) (cM (.int 0))) (tupM [cM (.int 1)]), bin idxD (brwM 3) (cM (.int 1))]), (false, tupM [bin idxD (brwM 3) (cM (.int 0)), bin subD (un negD (cM (.int 1))) (callM s__law_draw idL [slM 0, daM (cM (.int 3))])])] [some .bag, some (.dat (.int (m : Nat))), some (.dat (tCaps cs)), some (.dat (tCap (r, t))), some (.dat (tCaps fs)), some (.dat (.int (k : Nat))), some (.own (.list F)), none, none, none, none, none, none] g6 = some (.nx (rV m (tCaps cs) (tCap (r, t)) (tCaps fs) k F none B L) g7) := by
    clear hcm hit s4 hF
    generalize F = F
    have i0 : L2.atI [tI r, PyData.int t] 0 = some (tI r) := rfl
    have i1 : L2.atI [tI r, PyData.int t] 1 = some (.int t) := rfl
    simp [Kd.andM, Kd.orM, Kd.notM, blM, bin, un, potI, cM, potNE, seqM, potPop, potSet, ifM, brwM, varM, Pot.setI, nilM, ifS, setM, retM, thaw, retNM, tstM, truD, vAndM, vOrM, vNotM, chainM, daM, slM, argsM, tupM, lstM, callM, argsS, idL, multM, argsF, setSs, compM, itSeq, seqD, wipeE, bindT, bindTs, yesM, isiD, itZip, zipD, itEnum, itRange1, idxD, lenD, tupleD, listD, setOM, appM, extM, itZip3, sliceM, partM, sliceD, dnewM, stoM, stoD, keyD, unpM, B, L, a1, e7, i0, i1, -List.map_append]
  have bb : Bd (10 ^ 30) (r ++ [1]) := fun x hx => by
    rcases List.mem_append.mp hx with h | h
    · exact bd9 br (by decide +kernel) x h
    · rw [List.mem_singleton.mp h]; decide +kernel
  have eb : (r.map PyData.int ++ [.int 1]) = (r ++ [1]).map .int := by simp [Kd.andM, Kd.orM, Kd.notM, blM, bin, un, potI, cM, potNE, seqM, potPop, potSet, ifM, brwM, varM, Pot.setI, nilM, ifS, setM, retM, thaw, retNM, tstM, truD, vAndM, vOrM, vNotM, chainM, daM, slM, argsM, tupM, lstM, callM, argsS, idL, multM, argsF, setSs, compM, itSeq, seqD, wipeE, bindT, bindTs, yesM, isiD, itZip, zipD, itEnum, itRange1, idxD, lenD, tupleD, listD, setOM, appM, extM, itZip3, sliceM, partM, sliceD, dnewM, stoM, stoD, keyD, unpM]
  have nb0 : Nice 1 20 (.tuple (r.map PyData.int ++ [.int 1])) := by rw [eb]; exact sz_ints bb (by simp [Kd.andM, Kd.orM, Kd.notM, blM, bin, un, potI, cM, potNE, seqM, potPop, potSet, ifM, brwM, varM, Pot.setI, nilM, ifS, setM, retM, thaw, retNM, tstM, truD, vAndM, vOrM, vNotM, chainM, daM, slM, argsM, tupM, lstM, callM, argsS, idL, multM, argsF, setSs, compM, itSeq, seqD, wipeE, bindT, bindTs, yesM, isiD, itZip, zipD, itEnum, itRange1, idxD, lenD, tupleD, listD, setOM, appM, extM, itZip3, sliceM, partM, sliceD, dnewM, stoM, stoD, keyD, unpM]; omega)
  have nB : Sz B := (pair2 nb0 (niceI (by
    have : t.natAbs ≤ 10 ^ 9 := by omega
    exact Nat.le_trans this (by decide +kernel)))).mono (by decide) (by decide)
  have nL : Sz L := (pair2 (h := 1) (n := 20) (sz_ints (bd9 br (by decide +kernel)) (by omega)) (niceSmall (by omega))).mono (by decide) (by decide)
  have nb : Sz (.tuple [.tuple (r.map PyData.int ++ [.int 1]), .int (-1)]) := (pair2 nb0 (niceSmall (by decide))).mono (by decide) (by decide)
  have nC : Nv (tCaps cs) := tupS (fun x hx => by
    obtain ⟨c, h, rfl⟩ := List.mem_map.mp hx
    exact sz_cap hm (hc c h)) (by rw [List.length_map]; omega)
  obtain ⟨xs, g8, e8, hg8, nx⟩ := values_tail hg7 m k (tCaps cs) (tCap (r, t)) B L (.tuple (r.map PyData.int ++ [.int 1])) (fs.map tCap) F rfl nC (sz_cap hm hsp) nB nL nb (fun x hx => by
    obtain ⟨c, h, rfl⟩ := List.mem_map.mp hx
    exact sz_cap hm (gfs c h)) (by rw [List.length_map]; omega) hF
  refine ⟨xs, g8, fnSem_rt rfl rfl ?_, hg8, nx⟩
  show m__law_values p0 g = _
  unfold m__law_values
  rw [seqM_nx s1, seqM_nx s2, seqM_nx s3, seqM_nx s4, seqM_nx s5]
  exact e8
end K77

end part_K77M
section part_K77O
namespace K77
open PySem Kd
def pt (xs : List Int) (k : Nat) (v : Int) : List Int := xs.take k ++ [v] ++ xs.drop (k + 1)
theorem pt_map (xs : List Int) (k : Nat) (v : Int) : (pt xs k v).map PyData.int = (xs.map PyData.int).take k ++ [.int v] ++ (xs.map PyData.int).drop (k + 1) := by simp [Kd.andM, Kd.orM, Kd.notM, blM, bin, un, potI, cM, potNE, seqM, potPop, potSet, ifM, brwM, varM, Pot.setI, nilM, ifS, setM, retM, thaw, retNM, tstM, truD, vAndM, vOrM, vNotM, chainM, daM, slM, argsM, tupM, lstM, callM, argsS, idL, multM, argsF, setSs, compM, itSeq, seqD, wipeE, bindT, bindTs, yesM, isiD, itZip, zipD, itEnum, itRange1, idxD, lenD, tupleD, listD, setOM, appM, extM, itZip3, sliceM, partM, sliceD, dnewM, stoM, stoD, keyD, unpM, pt]
theorem put_run {a b e : EM GG} {ρ : Kd.Env} {g g1 : GG} {xs : List Int} {k : Nat} {v : Int} (hl : xs.length ≤ 1000) (ha : ∀ g, a ρ g = some (.ok (tI xs) g)) (hb : ∀ g, b ρ g = some (.ok (.int (k : Nat)) g)) (he : e ρ g = some (.ok (.int v) g1)) :
    bin addD (bin addD (sliceM a none (some b)) (tupM [e])) (sliceM a (some (bin addD b (cM (.int 1)))) none) ρ g = some (.ok (tI (pt xs k v)) g1) := by
  obtain ⟨q1, q2⟩ := put_eq (xs := xs.map PyData.int) (k := k) (v := .int v) (by rw [List.length_map]; exact hl)
  rw [show tI (pt xs k v) = .tuple ((xs.map PyData.int).take k ++ [.int v] ++ (xs.map PyData.int).drop (k + 1)) by rw [← pt_map]]
  simp [Kd.andM, Kd.orM, Kd.notM, blM, bin, un, potI, cM, potNE, seqM, potPop, potSet, ifM, brwM, varM, Pot.setI, nilM, ifS, setM, retM, thaw, retNM, tstM, truD, vAndM, vOrM, vNotM, chainM, daM, slM, argsM, tupM, lstM, callM, argsS, idL, multM, argsF, setSs, compM, itSeq, seqD, wipeE, bindT, bindTs, yesM, isiD, itZip, zipD, itEnum, itRange1, idxD, lenD, tupleD, listD, setOM, appM, extM, itZip3, sliceM, partM, sliceD, dnewM, stoM, stoD, keyD, unpM, ha, hb, he, q1, q2, -List.append_assoc, -List.map_take, -List.map_drop]
theorem pt_at {xs : List Int} {k : Nat} {v : Int} (hk : k < xs.length) : (pt xs k v)[k]? = some v := by
  unfold pt
  rw [List.append_assoc, List.getElem?_append_right (by simp [Kd.andM, Kd.orM, Kd.notM, blM, bin, un, potI, cM, potNE, seqM, potPop, potSet, ifM, brwM, varM, Pot.setI, nilM, ifS, setM, retM, thaw, retNM, tstM, truD, vAndM, vOrM, vNotM, chainM, daM, slM, argsM, tupM, lstM, callM, argsS, idL, multM, argsF, setSs, compM, itSeq, seqD, wipeE, bindT, bindTs, yesM, isiD, itZip, zipD, itEnum, itRange1, idxD, lenD, tupleD, listD, setOM, appM, extM, itZip3, sliceM, partM, sliceD, dnewM, stoM, stoD, keyD, unpM]; omega), List.length_take]
  simp [Kd.andM, Kd.orM, Kd.notM, blM, bin, un, potI, cM, potNE, seqM, potPop, potSet, ifM, brwM, varM, Pot.setI, nilM, ifS, setM, retM, thaw, retNM, tstM, truD, vAndM, vOrM, vNotM, chainM, daM, slM, argsM, tupM, lstM, callM, argsS, idL, multM, argsF, setSs, compM, itSeq, seqD, wipeE, bindT, bindTs, yesM, isiD, itZip, zipD, itEnum, itRange1, idxD, lenD, tupleD, listD, setOM, appM, extM, itZip3, sliceM, partM, sliceD, dnewM, stoM, stoD, keyD, unpM, show k - min k xs.length = 0 by omega]
theorem pt_ok {A : Nat} {xs : List Int} {k : Nat} (hk : k < xs.length) (hb : Bd A xs) {v : Int} (hv : v.natAbs ≤ A) : (pt xs k v).length = xs.length ∧ Bd A (pt xs k v) := put_ok hk hb hv
theorem idx_tI {xs : List Int} {k : Nat} {v : Int} (h : xs[k]? = some v) : idxD (tI xs) (.int (k : Nat)) = some (.int v) := by
  show L2.atI (xs.map PyData.int) (k : Nat) = _
  rw [atI_nat, List.getElem?_map, h]
  rfl
theorem min2_int (a b : Int) : min2D (.int a) (.int b) = some (.int (if b < a then b else a)) := rfl
def bodyM : SM GG := seqM (multM [10, 11] [(false, callM s__law_row idL [slM 0, daM (varM 1)]), (false, callM s__law_row idL [slM 0, daM (varM 1)])]) <|
  seqM (ifS (blM (bin gtI (callM s__law_draw idL [slM 0, daM (cM (.int 3))]) (cM (.int 0)))) (seqM (setM 10 (un tupleD (compM (itZip (brwM 10) (brwM 3)) (.tp (.cons (.nm 13) (.cons (.nm 14) (.nil)))) (yesM) (bin min2D (brwM 13) (brwM 14)) [13, 14]))) <|
  nilM) (nilM)) <|
  seqM (setM 10 (bin addD (bin addD (sliceM (brwM 10) none (some (brwM 7))) (tupM [bin min2D (brwM 2) (callM s__law_draw idL [slM 0, daM (cM (.int 4))])])) (sliceM (brwM 10) (some (bin addD (brwM 7) (cM (.int 1)))) none))) <|
  seqM (appM 9 (tupM [varM 10, bin addD (bin addD (sliceM (brwM 11) none (some (brwM 7))) (tupM [bin modD (un intD (bin addD (bin addD (bin idxD (brwM 10) (brwM 7)) (cM (.int 1))) (callM s__law_draw idL [slM 0, daM (cM (.int 9))]))) (cM (.int 10))])) (sliceM (brwM 11) (some (bin addD (brwM 7) (cM (.int 1)))) none)])) <|
  nilM
abbrev rM (m : Nat) (here : Int) (st : List Int) (i : Nat) (heavy : Int) (net : List (List Int × List Int)) (o4 o10 o11 : Option Sv) : Kd.Env := [some .bag, some (.dat (.int (m : Nat))), some (.dat (.int here)), some (.dat (tI st)), o4, none, none, some (.dat (.int (i : Nat))), some (.dat (.int heavy)), some (.own (.list (net.map tSt))), o10, o11, none, none, none]
theorem made_loop {g : GG} (hg : Pk g) {m i : Nat} {here heavy : Int} {st : List Int} (hm : m ≤ 8) (hi : i < m) (h0 : 0 ≤ here) (h1 : here ≤ 10 ^ 9) (hst : st.length = m) (hb : Bd (10 ^ 10) st) :
    ∃ (net : List (List Int × List Int)) (o4 o10 o11 : Option Sv) (g' : GG), forGo (.nm 4) bodyM (rangeL 0 12) (rM m here st i heavy [] none none none) g = some (.nx (rM m here st i heavy net o4 o10 o11) g') ∧ Pk g' ∧ net.length = 12 ∧ ∀ s ∈ net, GS m s := by
  let P : Nat → Kd.Env → GG → Prop := fun n ρ g => Pk g ∧ ∃ (net : List (List Int × List Int)) (o4 o10 o11 : Option Sv), ρ = rM m here st i heavy net o4 o10 o11 ∧ net.length = n ∧ ∀ s ∈ net, GS m s
  obtain ⟨ρ1, g1, e1, hg1, net, o4, o10, o11, rfl, hl, hn⟩ := forGo_nx (t := .nm 4) (m := bodyM) P (rangeL 0 12) 0 (rM m here st i heavy [] none none none) g ⟨hg, [], none, none, none, rfl, rfl, fun _ h => nomatch h⟩ fun n x ρ g hx hP => by
    obtain ⟨hg, net, o4, o10, o11, rfl, hl, hn⟩ := hP
    rw [Nat.zero_add] at hl ⊢
    have hi12 : n < 12 := by
      have := (List.getElem?_eq_some_iff.mp hx).1
      have l12 : (rangeL 0 12).length = 12 := rangeL_len 12
      omega
    obtain ⟨r1, g1, e1, hg1, l1, b1⟩ := row_ok hg (m := m) (by omega)
    obtain ⟨r2, g2, e2, hg2, l2, b2⟩ := row_ok hg1 (m := m) (by omega)
    obtain ⟨v, g3, e3, hg3, v0, v1⟩ := draw_ok hg2 (n := 3) (by decide) (by decide)
    have B1 : Bd (10 ^ 10) r1 := bd9 b1 (by decide)
    have B2 : Bd (10 ^ 10) r2 := bd9 b2 (by decide)
    have w1 : multM [10, 11] [(false, callM s__law_row idL [slM 0, daM (varM 1)]), (false, callM s__law_row idL [slM 0, daM (varM 1)])] (rM m here st i heavy net (some (.dat x)) o10 o11) g = some (.nx (rM m here st i heavy net (some (.dat x)) (some (.dat (tI r1))) (some (.dat (tI r2)))) g2) := by
      generalize net.map tSt = F
      simp [Kd.andM, Kd.orM, Kd.notM, blM, bin, un, potI, cM, potNE, seqM, potPop, potSet, ifM, brwM, varM, Pot.setI, nilM, ifS, setM, retM, thaw, retNM, tstM, truD, vAndM, vOrM, vNotM, chainM, daM, slM, argsM, tupM, lstM, callM, argsS, idL, multM, argsF, setSs, compM, itSeq, seqD, wipeE, bindT, bindTs, yesM, isiD, itZip, zipD, itEnum, itRange1, idxD, lenD, tupleD, listD, setOM, appM, extM, itZip3, sliceM, partM, sliceD, dnewM, stoM, stoD, keyD, unpM, e1, e2]
    obtain ⟨tk, w2, ltk, btk⟩ : ∃ tk : List Int, ifS (blM (bin gtI (callM s__law_draw idL [slM 0, daM (cM (.int 3))]) (cM (.int 0)))) (seqM (setM 10 (un tupleD (compM (itZip (brwM 10) (brwM 3)) (.tp (.cons (.nm 13) (.cons (.nm 14) (.nil)))) (yesM) (bin min2D (brwM 13) (brwM 14)) [13, 14]))) <| nilM) (nilM) (rM m here st i heavy net (some (.dat x)) (some (.dat (tI r1))) (some (.dat (tI r2)))) g2 = some (.nx (rM m here st i heavy net (some (.dat x)) (some (.dat (tI tk))) (some (.dat (tI r2)))) g3) ∧ tk.length = m ∧ Bd (10 ^ 10) tk := by
      by_cases hv : 0 < v
      · obtain ⟨m1, m2⟩ := mn_ok l1 hst B1 hb
        have hc := mn_comp (rM m here st i heavy net (some (.dat x)) (some (.dat (tI r1))) (some (.dat (tI r2)))) g3 r1 st 13 14 (by decide) (by simp [Kd.andM, Kd.orM, Kd.notM, blM, bin, un, potI, cM, potNE, seqM, potPop, potSet, ifM, brwM, varM, Pot.setI, nilM, ifS, setM, retM, thaw, retNM, tstM, truD, vAndM, vOrM, vNotM, chainM, daM, slM, argsM, tupM, lstM, callM, argsS, idL, multM, argsF, setSs, compM, itSeq, seqD, wipeE, bindT, bindTs, yesM, isiD, itZip, zipD, itEnum, itRange1, idxD, lenD, tupleD, listD, setOM, appM, extM, itZip3, sliceM, partM, sliceD, dnewM, stoM, stoD, keyD, unpM]) (by simp [Kd.andM, Kd.orM, Kd.notM, blM, bin, un, potI, cM, potNE, seqM, potPop, potSet, ifM, brwM, varM, Pot.setI, nilM, ifS, setM, retM, thaw, retNM, tstM, truD, vAndM, vOrM, vNotM, chainM, daM, slM, argsM, tupM, lstM, callM, argsS, idL, multM, argsF, setSs, compM, itSeq, seqD, wipeE, bindT, bindTs, yesM, isiD, itZip, zipD, itEnum, itRange1, idxD, lenD, tupleD, listD, setOM, appM, extM, itZip3, sliceM, partM, sliceD, dnewM, stoM, stoD, keyD, unpM])
        refine ⟨mn r1 st, ?_, m1, m2⟩
        generalize net.map tSt = F at hc ⊢
        simp only [tI] at hc
        simp [Kd.andM, Kd.orM, Kd.notM, blM, bin, un, potI, cM, potNE, seqM, potPop, potSet, ifM, brwM, varM, Pot.setI, nilM, ifS, setM, retM, thaw, retNM, tstM, truD, vAndM, vOrM, vNotM, chainM, daM, slM, argsM, tupM, lstM, callM, argsS, idL, multM, argsF, setSs, compM, itSeq, seqD, wipeE, bindT, bindTs, yesM, isiD, itZip, zipD, itEnum, itRange1, idxD, lenD, tupleD, listD, setOM, appM, extM, itZip3, sliceM, partM, sliceD, dnewM, stoM, stoD, keyD, unpM, e3, hv, hc]
      · refine ⟨r1, ?_, l1, B1⟩
        simp [Kd.andM, Kd.orM, Kd.notM, blM, bin, un, potI, cM, potNE, seqM, potPop, potSet, ifM, brwM, varM, Pot.setI, nilM, ifS, setM, retM, thaw, retNM, tstM, truD, vAndM, vOrM, vNotM, chainM, daM, slM, argsM, tupM, lstM, callM, argsS, idL, multM, argsF, setSs, compM, itSeq, seqD, wipeE, bindT, bindTs, yesM, isiD, itZip, zipD, itEnum, itRange1, idxD, lenD, tupleD, listD, setOM, appM, extM, itZip3, sliceM, partM, sliceD, dnewM, stoM, stoD, keyD, unpM, e3, hv]
    obtain ⟨d, g4, e4, hg4, d0, d1⟩ := draw_ok hg3 (n := 4) (by decide) (by decide)
    have hmin : ∃ u : Int, min2D (.int here) (.int d) = some (.int u) ∧ u.natAbs ≤ 10 ^ 10 := ⟨_, min2_int here d, by split <;> omega⟩
    obtain ⟨u, eu, hu⟩ := hmin
    have w3 : setM 10 (bin addD (bin addD (sliceM (brwM 10) none (some (brwM 7))) (tupM [bin min2D (brwM 2) (callM s__law_draw idL [slM 0, daM (cM (.int 4))])])) (sliceM (brwM 10) (some (bin addD (brwM 7) (cM (.int 1)))) none)) (rM m here st i heavy net (some (.dat x)) (some (.dat (tI tk))) (some (.dat (tI r2)))) g3 = some (.nx (rM m here st i heavy net (some (.dat x)) (some (.dat (tI (pt tk i u)))) (some (.dat (tI r2)))) g4) := by
      have := put_run (a := brwM 10) (b := brwM 7) (e := bin min2D (brwM 2) (callM s__law_draw idL [slM 0, daM (cM (.int 4))])) (ρ := rM m here st i heavy net (some (.dat x)) (some (.dat (tI tk))) (some (.dat (tI r2)))) (g := g3) (g1 := g4) (v := u) (xs := tk) (k := i) (by omega) (fun _ => rfl) (fun _ => rfl) (by simp [Kd.andM, Kd.orM, Kd.notM, blM, bin, un, potI, cM, potNE, seqM, potPop, potSet, ifM, brwM, varM, Pot.setI, nilM, ifS, setM, retM, thaw, retNM, tstM, truD, vAndM, vOrM, vNotM, chainM, daM, slM, argsM, tupM, lstM, callM, argsS, idL, multM, argsF, setSs, compM, itSeq, seqD, wipeE, bindT, bindTs, yesM, isiD, itZip, zipD, itEnum, itRange1, idxD, lenD, tupleD, listD, setOM, appM, extM, itZip3, sliceM, partM, sliceD, dnewM, stoM, stoD, keyD, unpM, e4, eu])
      unfold setM
      rw [this]
      rfl
    obtain ⟨p1, p2⟩ := pt_ok (k := i) (xs := tk) (by omega) btk hu
    obtain ⟨d9, g5, e5, hg5, d90, d91⟩ := draw_ok hg4 (n := 9) (by decide) (by decide)
    have hmod : modD (.int (u + 1 + d9)) (.int 10) = some (.int ((u + 1 + d9) % 10)) := modD_int (by decide)
    have hat := idx_tI (pt_at (xs := tk) (k := i) (v := u) (by omega))
    have w4 : appM 9 (tupM [varM 10, bin addD (bin addD (sliceM (brwM 11) none (some (brwM 7))) (tupM [bin modD (un intD (bin addD (bin addD (bin idxD (brwM 10) (brwM 7)) (cM (.int 1))) (callM s__law_draw idL [slM 0, daM (cM (.int 9))]))) (cM (.int 10))])) (sliceM (brwM 11) (some (bin addD (brwM 7) (cM (.int 1)))) none)]) (rM m here st i heavy net (some (.dat x)) (some (.dat (tI (pt tk i u)))) (some (.dat (tI r2)))) g4 = some (.nx (rM m here st i heavy (net ++ [(pt tk i u, pt r2 i ((u + 1 + d9) % 10))]) (some (.dat x)) (some (.dat (tI (pt tk i u)))) (some (.dat (tI r2)))) g5) := by
      have h3 := put_run (a := brwM 11) (b := brwM 7) (e := bin modD (un intD (bin addD (bin addD (bin idxD (brwM 10) (brwM 7)) (cM (.int 1))) (callM s__law_draw idL [slM 0, daM (cM (.int 9))]))) (cM (.int 10))) (ρ := rM m here st i heavy net (some (.dat x)) (some (.dat (tI (pt tk i u)))) (some (.dat (tI r2)))) (g := g4) (g1 := g5) (v := (u + 1 + d9) % 10) (xs := r2) (k := i) (by omega) (fun _ => rfl) (fun _ => rfl) (by
        generalize pt tk i u = z at hat
        simp [Kd.andM, Kd.orM, Kd.notM, blM, bin, un, potI, cM, potNE, seqM, potPop, potSet, ifM, brwM, varM, Pot.setI, nilM, ifS, setM, retM, thaw, retNM, tstM, truD, vAndM, vOrM, vNotM, chainM, daM, slM, argsM, tupM, lstM, callM, argsS, idL, multM, argsF, setSs, compM, itSeq, seqD, wipeE, bindT, bindTs, yesM, isiD, itZip, zipD, itEnum, itRange1, lenD, tupleD, listD, setOM, appM, extM, itZip3, sliceM, partM, sliceD, dnewM, stoM, stoD, keyD, unpM, hat, e5, hmod])
      have h4 := appM_ok (i := 9) (f := tupM [varM 10, bin addD (bin addD (sliceM (brwM 11) none (some (brwM 7))) (tupM [bin modD (un intD (bin addD (bin addD (bin idxD (brwM 10) (brwM 7)) (cM (.int 1))) (callM s__law_draw idL [slM 0, daM (cM (.int 9))]))) (cM (.int 10))])) (sliceM (brwM 11) (some (bin addD (brwM 7) (cM (.int 1)))) none)]) (ρ := rM m here st i heavy net (some (.dat x)) (some (.dat (tI (pt tk i u)))) (some (.dat (tI r2)))) (g := g4) (g' := g5) (F := net.map tSt) (y := tSt (pt tk i u, pt r2 i ((u + 1 + d9) % 10))) rfl (by
        show Rs.bind (argsM [varM 10, _] _ _) _ = _
        unfold argsM argsM argsM
        show Rs.bind (Rs.bind (some (.ok (tI (pt tk i u)) g4)) fun x g1 => Rs.bind (Rs.bind (bin addD _ _ _ g1) _) _) _ = _
        show Rs.bind (Rs.bind (Rs.bind (bin addD _ _ _ g4) _) _) _ = _
        rw [h3]
        rfl) (by rw [List.length_map]; omega)
      rw [h4, show net.map tSt ++ [tSt (pt tk i u, pt r2 i ((u + 1 + d9) % 10))] = (net ++ [(pt tk i u, pt r2 i ((u + 1 + d9) % 10))]).map tSt from (by simp [Kd.andM, Kd.orM, Kd.notM, blM, bin, un, potI, cM, potNE, seqM, potPop, potSet, ifM, brwM, varM, Pot.setI, nilM, ifS, setM, retM, thaw, retNM, tstM, truD, vAndM, vOrM, vNotM, chainM, daM, slM, argsM, tupM, lstM, callM, argsS, idL, multM, argsF, setSs, compM, itSeq, seqD, wipeE, bindT, bindTs, yesM, isiD, itZip, zipD, itEnum, itRange1, idxD, lenD, tupleD, listD, setOM, appM, extM, itZip3, sliceM, partM, sliceD, dnewM, stoM, stoD, keyD, unpM])]
      rfl
    refine ⟨_, rM m here st i heavy (net ++ [(pt tk i u, pt r2 i ((u + 1 + d9) % 10))]) (some (.dat x)) (some (.dat (tI (pt tk i u)))) (some (.dat (tI r2))), g5, rfl, .inl ?_, hg5, _, _, _, _, rfl, by simp [Kd.andM, Kd.orM, Kd.notM, blM, bin, un, potI, cM, potNE, seqM, potPop, potSet, ifM, brwM, varM, Pot.setI, nilM, ifS, setM, retM, thaw, retNM, tstM, truD, vAndM, vOrM, vNotM, chainM, daM, slM, argsM, tupM, lstM, callM, argsS, idL, multM, argsF, setSs, compM, itSeq, seqD, wipeE, bindT, bindTs, yesM, isiD, itZip, zipD, itEnum, itRange1, idxD, lenD, tupleD, listD, setOM, appM, extM, itZip3, sliceM, partM, sliceD, dnewM, stoM, stoD, keyD, unpM, hl], fun s hs => ?_⟩
    · show bodyM (rM m here st i heavy net (some (.dat x)) o10 o11) g = _
      unfold bodyM
      rw [seqM_nx w1, seqM_nx w2, seqM_nx w3, seqM_nx w4]
      rfl
    · rcases List.mem_append.mp hs with h | h
      · exact hn s h
      · rw [List.mem_singleton.mp h]
        obtain ⟨z1, z2⟩ := pt_ok (k := i) (xs := r2) (v := (u + 1 + d9) % 10) (by omega) B2 (by omega)
        exact ⟨p1.trans ltk, z1.trans l2, p2, z2⟩
  have l12 : (rangeL 0 12).length = 12 := rangeL_len 12
  exact ⟨net, o4, o10, o11, g1, e1, hg1, by omega, hn⟩
end K77

end part_K77O
section part_K77S
namespace K77
open PySem Kd
theorem made_ok {g : GG} (hg : Pk g) : ∃ (m : Nat) (net : List (List Int × List Int)) (w : List Int) (t : Int) (st : List Int) (g' : GG), s__law_made [.bag] g = some (.ok (.list [.int (m : Nat), tNet net, tCaps [(w, t)], tI st]) g') ∧ Pk g' ∧ WF m net st [(w, t)] := by
  obtain ⟨d1, g1, e1, hg1, d10, d11⟩ := draw_ok hg (n := 8) (by decide) (by decide)
  obtain ⟨m, hmd⟩ : ∃ m : Nat, (1 : Int) + d1 = (m : Nat) := ⟨(1 + d1).toNat, by omega⟩
  have hm1 : 1 ≤ m := by omega
  have hm : m ≤ 8 := by omega
  obtain ⟨d2, g2, e2, hg2, d20, d21⟩ := draw_ok hg1 (n := (m : Nat)) (by omega) (by omega)
  obtain ⟨i, rfl⟩ : ∃ k : Nat, d2 = (k : Nat) := ⟨d2.toNat, by omega⟩
  have hi : i < m := by omega
  obtain ⟨d3, g3, e3, hg3, d30, d31⟩ := draw_ok hg2 (n := 9) (by decide) (by decide)
  obtain ⟨st0, g4, e4, hg4, ls0, bs0⟩ := state_ok hg3 hm
  obtain ⟨hv, hhv⟩ : ∃ h : Int, 1 + d3 = h := ⟨_, rfl⟩
  have s1 : setM 1 (bin addD (cM (.int 1)) (callM s__law_draw idL [slM 0, daM (cM (.int 8))])) [some .bag, none, none, none, none, none, none, none, none, none, none, none, none, none, none] g = some (.nx [some .bag, some (.dat (.int (m : Nat))), none, none, none, none, none, none, none, none, none, none, none, none, none] g1) := by
    simp [Kd.andM, Kd.orM, Kd.notM, blM, bin, un, potI, cM, potNE, seqM, potPop, potSet, ifM, brwM, varM, Pot.setI, nilM, ifS, setM, retM, thaw, retNM, tstM, truD, vAndM, vOrM, vNotM, chainM, daM, slM, argsM, tupM, lstM, callM, argsS, idL, multM, argsF, setSs, compM, itSeq, seqD, wipeE, bindT, bindTs, yesM, isiD, itZip, zipD, itEnum, itRange1, idxD, lenD, tupleD, listD, setOM, appM, extM, itZip3, sliceM, partM, sliceD, dnewM, stoM, stoD, keyD, unpM, e1, hmd]
  have s2 : multM [7, 8, 3, 9] [(false, callM s__law_draw idL [slM 0, daM (varM 1)]), (false, bin addD (cM (.int 1)) (callM s__law_draw idL [slM 0, daM (cM (.int 9))])), (false, callM s__law_state idL [slM 0, daM (varM 1)]), (true, lstM [])] [some .bag, some (.dat (.int (m : Nat))), none, none, none, none, none, none, none, none, none, none, none, none, none] g1 = some (.nx [some .bag, some (.dat (.int (m : Nat))), none, some (.dat (tI st0)), none, none, none, some (.dat (.int (i : Nat))), some (.dat (.int hv)), some (.own (.list [])), none, none, none, none, none] g4) := by
    simp [Kd.andM, Kd.orM, Kd.notM, blM, bin, un, potI, cM, potNE, seqM, potPop, potSet, ifM, brwM, varM, Pot.setI, nilM, ifS, setM, retM, thaw, retNM, tstM, truD, vAndM, vOrM, vNotM, chainM, daM, slM, argsM, tupM, lstM, callM, argsS, idL, multM, argsF, setSs, compM, itSeq, seqD, wipeE, bindT, bindTs, yesM, isiD, itZip, zipD, itEnum, itRange1, idxD, lenD, tupleD, listD, setOM, appM, extM, itZip3, sliceM, partM, sliceD, dnewM, stoM, stoD, keyD, unpM, e2, e3, e4, hhv]
  obtain ⟨d5, g5, e5, hg5, d50, d51⟩ := draw_ok hg4 (n := 9) (by decide) (by decide)
  obtain ⟨d6, g6, e6, hg6, d60, d61⟩ := draw_ok hg5 (n := 60) (by decide) (by decide)
  have hfd : fdivD (.int 1000000000) (.int hv) = some (.int (1000000000 / hv)) := fdivD_int (by omega) (by omega)
  obtain ⟨y, g7, e7, hg7, hy⟩ := pick_list hg6 (xs := [.int (1 + d5), .int (9 + d6), .int (1000000000 / hv)]) (by simp [Kd.andM, Kd.orM, Kd.notM, blM, bin, un, potI, cM, potNE, seqM, potPop, potSet, ifM, brwM, varM, Pot.setI, nilM, ifS, setM, retM, thaw, retNM, tstM, truD, vAndM, vOrM, vNotM, chainM, daM, slM, argsM, tupM, lstM, callM, argsS, idL, multM, argsF, setSs, compM, itSeq, seqD, wipeE, bindT, bindTs, yesM, isiD, itZip, zipD, itEnum, itRange1, idxD, lenD, tupleD, listD, setOM, appM, extM, itZip3, sliceM, partM, sliceD, dnewM, stoM, stoD, keyD, unpM]) (by simp [Kd.andM, Kd.orM, Kd.notM, blM, bin, un, potI, cM, potNE, seqM, potPop, potSet, ifM, brwM, varM, Pot.setI, nilM, ifS, setM, retM, thaw, retNM, tstM, truD, vAndM, vOrM, vNotM, chainM, daM, slM, argsM, tupM, lstM, callM, argsS, idL, multM, argsF, setSs, compM, itSeq, seqD, wipeE, bindT, bindTs, yesM, isiD, itZip, zipD, itEnum, itRange1, idxD, lenD, tupleD, listD, setOM, appM, extM, itZip3, sliceM, partM, sliceD, dnewM, stoM, stoD, keyD, unpM])
  obtain ⟨h1, rfl, h10, h11⟩ : ∃ h1 : Int, y = .int h1 ∧ 0 ≤ h1 ∧ h1 ≤ 10 ^ 9 := by
    simp only [List.mem_cons, List.not_mem_nil, or_false] at hy
    rcases hy with rfl | rfl | rfl
    · exact ⟨_, rfl, by omega, by omega⟩
    · exact ⟨_, rfl, by omega, by omega⟩
    · exact ⟨_, rfl, Int.ediv_nonneg (by decide) (by omega), Int.le_trans (Int.ediv_le_self _ (by decide)) (by decide)⟩
  have s3 : setM 2 (callM s__law_pick idL [slM 0, daM (lstM [bin addD (cM (.int 1)) (callM s__law_draw idL [slM 0, daM (cM (.int 9))]), bin addD (cM (.int 9)) (callM s__law_draw idL [slM 0, daM (cM (.int 60))]), bin fdivD (bin powD (cM (.int 10)) (cM (.int 9))) (brwM 8)])]) [some .bag, some (.dat (.int (m : Nat))), none, some (.dat (tI st0)), none, none, none, some (.dat (.int (i : Nat))), some (.dat (.int hv)), some (.own (.list [])), none, none, none, none, none] g4 = some (.nx (rM m h1 st0 i hv [] none none none) g7) := by
    simp [Kd.andM, Kd.orM, Kd.notM, blM, bin, un, potI, cM, potNE, seqM, potPop, potSet, ifM, brwM, varM, Pot.setI, nilM, ifS, setM, retM, thaw, retNM, tstM, truD, vAndM, vOrM, vNotM, chainM, daM, slM, argsM, tupM, lstM, callM, argsS, idL, multM, argsF, setSs, compM, itSeq, seqD, wipeE, bindT, bindTs, yesM, isiD, itZip, zipD, itEnum, itRange1, idxD, lenD, tupleD, listD, setOM, appM, extM, itZip3, sliceM, partM, sliceD, dnewM, stoM, stoD, keyD, unpM, e5, e6, hfd, e7]
  obtain ⟨h2, v2, g8, s4, hg8, h20, h21, v20, v21⟩ : ∃ (h2 v2 : Int) (g8 : GG), ifS (blM (bin eqX (callM s__law_draw idL [slM 0, daM (cM (.int 3))]) (cM (.int 0)))) (seqM (multM [8, 2] [(false, cM (.int 1)), (false, bin subD (bin powD (cM (.int 10)) (cM (.int 9))) (callM s__law_draw idL [slM 0, daM (cM (.int 3))]))]) <| nilM) (nilM) (rM m h1 st0 i hv [] none none none) g7 = some (.nx (rM m h2 st0 i v2 [] none none none) g8) ∧ Pk g8 ∧ 0 ≤ h2 ∧ h2 ≤ 10 ^ 9 ∧ 1 ≤ v2 ∧ v2 ≤ 9 := by
    obtain ⟨d8, g8, e8, hg8, d80, d81⟩ := draw_ok hg7 (n := 3) (by decide) (by decide)
    by_cases hz : d8 = 0
    · obtain ⟨d9, g9, e9, hg9, d90, d91⟩ := draw_ok hg8 (n := 3) (by decide) (by decide)
      exact ⟨1000000000 - d9, 1, g9, by simp [Kd.andM, Kd.orM, Kd.notM, blM, bin, un, potI, cM, potNE, seqM, potPop, potSet, ifM, brwM, varM, Pot.setI, nilM, ifS, setM, retM, thaw, retNM, tstM, truD, vAndM, vOrM, vNotM, chainM, daM, slM, argsM, tupM, lstM, callM, argsS, idL, multM, argsF, setSs, compM, itSeq, seqD, wipeE, bindT, bindTs, yesM, isiD, itZip, zipD, itEnum, itRange1, idxD, lenD, tupleD, listD, setOM, appM, extM, itZip3, sliceM, partM, sliceD, dnewM, stoM, stoD, keyD, unpM, e8, hz, e9], hg9, by omega, by omega, by decide, by decide⟩
    · have hz' : (d8 == 0) = false := by simp [Kd.andM, Kd.orM, Kd.notM, blM, bin, un, potI, cM, potNE, seqM, potPop, potSet, ifM, brwM, varM, Pot.setI, nilM, ifS, setM, retM, thaw, retNM, tstM, truD, vAndM, vOrM, vNotM, chainM, daM, slM, argsM, tupM, lstM, callM, argsS, idL, multM, argsF, setSs, compM, itSeq, seqD, wipeE, bindT, bindTs, yesM, isiD, itZip, zipD, itEnum, itRange1, idxD, lenD, tupleD, listD, setOM, appM, extM, itZip3, sliceM, partM, sliceD, dnewM, stoM, stoD, keyD, unpM, hz]
      exact ⟨h1, hv, g8, by simp [Kd.andM, Kd.orM, Kd.notM, blM, bin, un, potI, cM, potNE, seqM, potPop, potSet, ifM, brwM, varM, Pot.setI, nilM, ifS, setM, retM, thaw, retNM, tstM, truD, vAndM, vOrM, vNotM, chainM, daM, slM, argsM, tupM, lstM, callM, argsS, idL, multM, argsF, setSs, compM, itSeq, seqD, wipeE, bindT, bindTs, yesM, isiD, itZip, zipD, itEnum, itRange1, idxD, lenD, tupleD, listD, setOM, appM, extM, itZip3, sliceM, partM, sliceD, dnewM, stoM, stoD, keyD, unpM, e8, hz'], hg8, h10, h11, by omega, by omega⟩
  have b0 : Bd (10 ^ 10) st0 := fun x hx => by have := bs0 x hx; omega
  obtain ⟨lp, bp⟩ := pt_ok (k := i) (xs := st0) (v := h2) (by omega) b0 (by omega)
  have s5 : setM 3 (bin addD (bin addD (sliceM (brwM 3) none (some (brwM 7))) (tupM [varM 2])) (sliceM (brwM 3) (some (bin addD (brwM 7) (cM (.int 1)))) none)) (rM m h2 st0 i v2 [] none none none) g8 = some (.nx (rM m h2 (pt st0 i h2) i v2 [] none none none) g8) := by
    have := put_run (a := brwM 3) (b := brwM 7) (e := varM 2) (ρ := rM m h2 st0 i v2 [] none none none) (g := g8) (g1 := g8) (v := h2) (xs := st0) (k := i) (by omega) (fun _ => rfl) (fun _ => rfl) rfl
    unfold setM
    rw [this]
    rfl
  generalize pt st0 i h2 = st at lp bp s5
  obtain ⟨net, o4, o10, o11, g9, e9, hg9, ln, hn⟩ := made_loop hg8 (m := m) (i := i) (here := h2) (heavy := v2) (st := st) hm hi h20 h21 (by omega) bp
  have s6 : Kd.forM (itRange1 (cM (.int 12))) (.nm 4) bodyM (rM m h2 st i v2 [] none none none) g8 = some (.nx (rM m h2 st i v2 net o4 o10 o11) g9) := by
    have : itRange1 (cM (.int 12)) (rM m h2 st i v2 [] none none none) g8 = some (.ok (rangeL 0 12) g8) := rfl
    unfold Kd.forM
    rw [this]
    exact e9
  let w : List Int := (List.range m).map fun j => if j = i then v2 else 0
  let rN : Option Sv → Kd.Env := fun o6 => [some .bag, some (.dat (.int (m : Nat))), some (.dat (.int h2)), some (.dat (tI st)), o4, some (.dat (tI w)), o6, some (.dat (.int (i : Nat))), some (.dat (.int v2)), some (.own (.list (net.map tSt))), o10, o11, none, none, none]
  have s7 : setM 5 (un tupleD (compM (itRange1 (brwM 1)) (.nm 12) (yesM) (ifM (blM (bin eqX (brwM 12) (brwM 7))) (varM 8) (cM (.int 0))) [12])) (rM m h2 st i v2 net o4 o10 o11) g9 = some (.nx (rN none) g9) := by
    have hc := compGo_all (t := .nm 12) (e := ifM (blM (bin eqX (brwM 12) (brwM 7))) (varM 8) (cM (.int 0))) (ρ := rM m h2 st i v2 net o4 o10 o11) (g := g9) (fun (j : Nat) => .int (j : Nat)) (fun j => .int (if j = i then v2 else 0)) (List.range m) fun j _ => ⟨_, rfl, by
      by_cases hj : j = i
      · subst hj; simp [Kd.andM, Kd.orM, Kd.notM, blM, bin, un, potI, cM, potNE, seqM, potPop, potSet, ifM, brwM, varM, Pot.setI, nilM, ifS, setM, retM, thaw, retNM, tstM, truD, vAndM, vOrM, vNotM, chainM, daM, slM, argsM, tupM, lstM, callM, argsS, idL, multM, argsF, setSs, compM, itSeq, seqD, wipeE, bindT, bindTs, yesM, isiD, itZip, zipD, itEnum, itRange1, idxD, lenD, tupleD, listD, setOM, appM, extM, itZip3, sliceM, partM, sliceD, dnewM, stoM, stoD, keyD, unpM]
      · have : ((j : Int) == (i : Int)) = false := by simp [Kd.andM, Kd.orM, Kd.notM, blM, bin, un, potI, cM, potNE, seqM, potPop, potSet, ifM, brwM, varM, Pot.setI, nilM, ifS, setM, retM, thaw, retNM, tstM, truD, vAndM, vOrM, vNotM, chainM, daM, slM, argsM, tupM, lstM, callM, argsS, idL, multM, argsF, setSs, compM, itSeq, seqD, wipeE, bindT, bindTs, yesM, isiD, itZip, zipD, itEnum, itRange1, idxD, lenD, tupleD, listD, setOM, appM, extM, itZip3, sliceM, partM, sliceD, dnewM, stoM, stoD, keyD, unpM]; omega
        simp [Kd.andM, Kd.orM, Kd.notM, blM, bin, un, potI, cM, potNE, seqM, potPop, potSet, ifM, brwM, varM, Pot.setI, nilM, ifS, setM, retM, thaw, retNM, tstM, truD, vAndM, vOrM, vNotM, chainM, daM, slM, argsM, tupM, lstM, callM, argsS, idL, multM, argsF, setSs, compM, itSeq, seqD, wipeE, bindT, bindTs, yesM, isiD, itZip, zipD, itEnum, itRange1, idxD, lenD, tupleD, listD, setOM, appM, extM, itZip3, sliceM, partM, sliceD, dnewM, stoM, stoD, keyD, unpM, this, hj]⟩
    rw [← rangeL_eq] at hc
    have hr : itRange1 (brwM 1) (rM m h2 st i v2 net o4 o10 o11) g9 = some (.ok (rangeL 0 (m : Nat)) g9) := by
      have := range1_ok (n := m) (by omega)
      simp [Kd.andM, Kd.orM, Kd.notM, blM, bin, un, potI, cM, potNE, seqM, potPop, potSet, ifM, brwM, varM, Pot.setI, nilM, ifS, setM, retM, thaw, retNM, tstM, truD, vAndM, vOrM, vNotM, chainM, daM, slM, argsM, tupM, lstM, callM, argsS, idL, multM, argsF, setSs, compM, itSeq, seqD, wipeE, bindT, bindTs, yesM, isiD, itZip, zipD, itEnum, itRange1, idxD, lenD, tupleD, listD, setOM, appM, extM, itZip3, sliceM, partM, sliceD, dnewM, stoM, stoD, keyD, unpM, this]
    have := compM_ok (vs := [12]) hr hc
    unfold setM un
    rw [this]
    have e : (List.range m).map (fun j => PyData.int (if j = i then v2 else 0)) = w.map .int := by
      show _ = List.map _ (List.map _ _)
      rw [List.map_map]; rfl
    rw [e]
    rfl
  have mx1 : mulX (.int v2) (.int h2) = some (.int (v2 * h2)) := mulX_int (mulOkL (by omega) (by omega))
  have mx2 : mulX (.int 3) (.int v2) = some (.int (3 * v2)) := mulX_int (mulOkL (by decide) (by decide))
  obtain ⟨y, g10, e10, hg10, hy⟩ := pick_list hg9 (xs := [.int (-1), .int 0, .int 0, .int (v2 - 1), .int v2, .int (3 * v2), .int (3 * v2 - 1)]) (by simp [Kd.andM, Kd.orM, Kd.notM, blM, bin, un, potI, cM, potNE, seqM, potPop, potSet, ifM, brwM, varM, Pot.setI, nilM, ifS, setM, retM, thaw, retNM, tstM, truD, vAndM, vOrM, vNotM, chainM, daM, slM, argsM, tupM, lstM, callM, argsS, idL, multM, argsF, setSs, compM, itSeq, seqD, wipeE, bindT, bindTs, yesM, isiD, itZip, zipD, itEnum, itRange1, idxD, lenD, tupleD, listD, setOM, appM, extM, itZip3, sliceM, partM, sliceD, dnewM, stoM, stoD, keyD, unpM]) (by simp [Kd.andM, Kd.orM, Kd.notM, blM, bin, un, potI, cM, potNE, seqM, potPop, potSet, ifM, brwM, varM, Pot.setI, nilM, ifS, setM, retM, thaw, retNM, tstM, truD, vAndM, vOrM, vNotM, chainM, daM, slM, argsM, tupM, lstM, callM, argsS, idL, multM, argsF, setSs, compM, itSeq, seqD, wipeE, bindT, bindTs, yesM, isiD, itZip, zipD, itEnum, itRange1, idxD, lenD, tupleD, listD, setOM, appM, extM, itZip3, sliceM, partM, sliceD, dnewM, stoM, stoD, keyD, unpM])
  obtain ⟨z, rfl, z0, z1⟩ : ∃ z : Int, y = .int z ∧ -1 ≤ z ∧ z ≤ 30 := by
    simp only [List.mem_cons, List.not_mem_nil, or_false] at hy
    rcases hy with rfl | rfl | rfl | rfl | rfl | rfl | rfl <;> exact ⟨_, rfl, by omega, by omega⟩
  obtain ⟨p, hp⟩ : ∃ p : Int, v2 * h2 = p := ⟨_, rfl⟩
  have hp0 : 0 ≤ p := by rw [← hp]; exact Int.mul_nonneg (by omega) h20
  rw [hp] at mx1
  have s8 : setM 6 (bin addD (bin mulX (brwM 8) (brwM 2)) (callM s__law_pick idL [slM 0, daM (lstM [un negD (cM (.int 1)), cM (.int 0), cM (.int 0), bin subD (brwM 8) (cM (.int 1)), varM 8, bin mulX (cM (.int 3)) (brwM 8), bin subD (bin mulX (cM (.int 3)) (brwM 8)) (cM (.int 1))])])) (rN none) g9 = some (.nx (rN (some (.dat (.int (p + z))))) g10) := by
    simp only [rN]
    generalize tI w = W
    simp [Kd.andM, Kd.orM, Kd.notM, blM, bin, un, potI, cM, potNE, seqM, potPop, potSet, ifM, brwM, varM, Pot.setI, nilM, ifS, setM, retM, thaw, retNM, tstM, truD, vAndM, vOrM, vNotM, chainM, daM, slM, argsM, tupM, lstM, callM, argsS, idL, multM, argsF, setSs, compM, itSeq, seqD, wipeE, bindT, bindTs, yesM, isiD, itZip, zipD, itEnum, itRange1, idxD, lenD, tupleD, listD, setOM, appM, extM, itZip3, sliceM, partM, sliceD, dnewM, stoM, stoD, keyD, unpM, mx1, mx2, e10]
  obtain ⟨t, ht, t0, t1⟩ : ∃ t : Int, min2D (.int 1000000000) (.int (p + z)) = some (.int t) ∧ -1 ≤ t ∧ t ≤ 10 ^ 9 := ⟨_, min2_int _ _, by split <;> omega, by split <;> omega⟩
  have hw : Bd (10 ^ 3) w := fun x hx => by
    obtain ⟨j, _, rfl⟩ := List.mem_map.mp hx
    split <;> omega
  refine ⟨m, net, w, t, st, g10, fnSem_rt rfl rfl ?_, hg10, ⟨hm, by omega, by simp [Kd.andM, Kd.orM, Kd.notM, blM, bin, un, potI, cM, potNE, seqM, potPop, potSet, ifM, brwM, varM, Pot.setI, nilM, ifS, setM, retM, thaw, retNM, tstM, truD, vAndM, vOrM, vNotM, chainM, daM, slM, argsM, tupM, lstM, callM, argsS, idL, multM, argsF, setSs, compM, itSeq, seqD, wipeE, bindT, bindTs, yesM, isiD, itZip, zipD, itEnum, itRange1, idxD, lenD, tupleD, listD, setOM, appM, extM, itZip3, sliceM, partM, sliceD, dnewM, stoM, stoD, keyD, unpM], hn, ⟨by omega, fun x hx => Nat.le_trans (bp x hx) (by decide)⟩, fun c hc => ?_⟩⟩
  · show m__law_made [some .bag, none, none, none, none, none, none, none, none, none, none, none, none, none, none] g = _
    unfold m__law_made
    unfold bodyM at s6
    rw [seqM_nx s1, seqM_nx s2, seqM_nx s3, seqM_nx s4, seqM_nx s5, seqM_nx s6, seqM_nx s7, seqM_nx s8]
    simp only [rN]
    simp [Kd.andM, Kd.orM, Kd.notM, blM, bin, un, potI, cM, potNE, seqM, potPop, potSet, ifM, brwM, varM, Pot.setI, nilM, ifS, setM, retM, thaw, retNM, tstM, truD, vAndM, vOrM, vNotM, chainM, daM, slM, argsM, tupM, lstM, callM, argsS, idL, multM, argsF, setSs, compM, itSeq, seqD, wipeE, bindT, bindTs, yesM, isiD, itZip, zipD, itEnum, itRange1, idxD, lenD, tupleD, listD, setOM, appM, extM, itZip3, sliceM, partM, sliceD, dnewM, stoM, stoD, keyD, unpM, ht]
  · rw [List.mem_singleton.mp hc]
    exact ⟨by simp [Kd.andM, Kd.orM, Kd.notM, blM, bin, un, potI, cM, potNE, seqM, potPop, potSet, ifM, brwM, varM, Pot.setI, nilM, ifS, setM, retM, thaw, retNM, tstM, truD, vAndM, vOrM, vNotM, chainM, daM, slM, argsM, tupM, lstM, callM, argsS, idL, multM, argsF, setSs, compM, itSeq, seqD, wipeE, bindT, bindTs, yesM, isiD, itZip, zipD, itEnum, itRange1, idxD, lenD, tupleD, listD, setOM, appM, extM, itZip3, sliceM, partM, sliceD, dnewM, stoM, stoD, keyD, unpM, w], hw, by show t.natAbs ≤ _; omega⟩
end K77

end part_K77S
section part_K77T
namespace K77
open PySem Kd
def ab (i : Int) : Int := if i < 0 then -i else i
theorem potOf_ok (ns : List Int) (h : ns.length ≤ 63) : ∃ pot, potOf ns = some pot ∧ pot.cells.length < 100000 := by
  let cs : List Int := ns.map ab
  have hcut : cutG (ns.map PyData.int) none (some 63) = ns.map .int := by
    have := cut_take (ns.map PyData.int) 63
    rw [show (some ((63 : Nat) : Int)) = some (63 : Int) from rfl] at this
    rw [this, List.take_of_length_le (by rw [List.length_map]; exact h)]
  have hc := compGo_all (t := .nm 3) (e := un absD (brwM 3)) (ρ := [some .scr, none, none, none]) (g := (none : GG)) PyData.int (fun i => .int (ab i)) ns fun z _ => ⟨_, rfl, rfl⟩
  have ecs : (ns.map fun i => PyData.int (ab i)) = cs.map .int := by
    show _ = List.map _ (List.map _ _)
    rw [List.map_map]; rfl
  rw [ecs] at hc
  have hi : itSeq (scrM ns 0 63) [some .scr, none, none, none] none = some (.ok (ns.map .int) none) := by
    have : scrM ns 0 63 [some .scr, none, none, none] none = some (.ok (.list (ns.map .int)) none) := by
      show (if ns.length ≤ 16777216 then _ else _) = _
      rw [if_pos (by omega), hcut]
    simp [Kd.andM, Kd.orM, Kd.notM, blM, bin, un, potI, cM, potNE, seqM, potPop, potSet, ifM, brwM, varM, Pot.setI, nilM, ifS, setM, retM, thaw, retNM, tstM, truD, vAndM, vOrM, vNotM, chainM, daM, slM, argsM, tupM, lstM, callM, argsS, idL, multM, argsF, setSs, compM, itSeq, seqD, wipeE, bindT, bindTs, yesM, isiD, itZip, zipD, itEnum, itRange1, idxD, lenD, tupleD, listD, setOM, appM, extM, itZip3, sliceM, partM, sliceD, dnewM, stoM, stoD, keyD, unpM, this]
  have s1 : setM 1 (compM (itSeq (scrM ns 0 63)) (.nm 3) (yesM) (un absD (brwM 3)) [3]) [some .scr, none, none, none] none = some (.nx [some .scr, some (.dat (.list (cs.map .int))), none, none] none) := by
    have := compM_ok (vs := [3]) hi hc
    unfold setM
    rw [this]; rfl
  have lcs : cs.length = ns.length := List.length_map _
  have s2 : setM 2 (bin addD (cM (.int 5177)) (un lenD (brwM 1))) [some .scr, some (.dat (.list (cs.map .int))), none, none] (none : GG) = some (.nx [some .scr, some (.dat (.list (cs.map .int))), some (.dat (.int (5177 + (cs.length : Nat)))), none] none) := by
    simp [Kd.andM, Kd.orM, Kd.notM, blM, bin, un, potI, cM, potNE, seqM, potPop, potSet, ifM, brwM, varM, Pot.setI, nilM, ifS, setM, retM, thaw, retNM, tstM, truD, vAndM, vOrM, vNotM, chainM, daM, slM, argsM, tupM, lstM, callM, argsS, idL, multM, argsF, setSs, compM, itSeq, seqD, wipeE, bindT, bindTs, yesM, isiD, itZip, zipD, itEnum, itRange1, idxD, lenD, tupleD, listD, setOM, appM, extM, itZip3, sliceM, partM, sliceD, dnewM, stoM, stoD, keyD, unpM]
  let body : SM GG := seqM (setM 2 (bin modD (un intD (bin addD (bin addD (bin mulX (brwM 2) (cM (.int 48271))) (bin modD (un intD (brwM 3)) (cM (.int 2147483629)))) (cM (.int 7)))) (cM (.int 2147483647)))) <| nilM
  let P : Nat → Kd.Env → GG → Prop := fun _ ρ g => g = none ∧ ∃ (mx : Int) (o3 : Option Sv), ρ = [some .scr, some (.dat (.list (cs.map .int))), some (.dat (.int mx)), o3] ∧ 0 ≤ mx ∧ mx < 2147483647
  obtain ⟨ρ1, g1, e1, rfl, mx, o3, rfl, m0, m1⟩ := forGo_nx (t := .nm 3) (m := body) P (cs.map .int) 0 [some .scr, some (.dat (.list (cs.map .int))), some (.dat (.int (5177 + (cs.length : Nat)))), none] none ⟨rfl, _, none, rfl, by omega, by omega⟩ fun i x ρ g hx hP => by
    obtain ⟨rfl, mx, o3, rfl, m0, m1⟩ := hP
    obtain ⟨c, _, rfl⟩ := List.mem_map.mp (List.mem_of_getElem? hx)
    have e1 : mulX (.int mx) (.int 48271) = some (.int (mx * 48271)) := mulX_int (mulOkR (by decide) (by decide))
    have e2 : modD (.int c) (.int 2147483629) = some (.int (c % 2147483629)) := modD_int (by decide)
    have e3 : modD (.int (mx * 48271 + c % 2147483629 + 7)) (.int 2147483647) = some (.int ((mx * 48271 + c % 2147483629 + 7) % 2147483647)) := modD_int (by decide)
    refine ⟨_, [some .scr, some (.dat (.list (cs.map .int))), some (.dat (.int ((mx * 48271 + c % 2147483629 + 7) % 2147483647))), some (.dat (.int c))], none, rfl, .inl ?_, rfl, _, _, rfl, by omega, by omega⟩
    generalize cs.map PyData.int = F
    simp [Kd.andM, Kd.orM, Kd.notM, blM, bin, un, potI, cM, potNE, seqM, potPop, potSet, ifM, brwM, varM, Pot.setI, nilM, ifS, setM, retM, thaw, retNM, tstM, truD, vAndM, vOrM, vNotM, chainM, daM, slM, argsM, tupM, lstM, callM, argsS, idL, multM, argsF, setSs, compM, itSeq, seqD, wipeE, bindT, bindTs, yesM, isiD, itZip, zipD, itEnum, itRange1, idxD, lenD, tupleD, listD, setOM, appM, extM, itZip3, sliceM, partM, sliceD, dnewM, stoM, stoD, keyD, unpM, body, e1, e2, e3]
  have s3 : Kd.forM (itSeq (varM 1)) (.nm 3) body [some .scr, some (.dat (.list (cs.map .int))), some (.dat (.int (5177 + (cs.length : Nat)))), none] none = some (.nx [some .scr, some (.dat (.list (cs.map .int))), some (.dat (.int mx)), o3] none) := by
    have : itSeq (varM 1) [some .scr, some (.dat (.list (cs.map .int))), some (.dat (.int (5177 + (cs.length : Nat)))), none] (none : GG) = some (.ok (cs.map .int) none) := rfl
    unfold Kd.forM
    rw [this]
    exact e1
  have hb : m__law_bag ns [some .scr, none, none, none] none = some (.nx [some .scr, some (.dat (.list (cs.map .int))), some (.dat (.int mx)), o3] none) := by
    unfold m__law_bag
    simp only [body] at s3
    rw [seqM_nx s1, seqM_nx s2, seqM_nx s3]
    rfl
  have pf : (∀ c ∈ cs.reverse, 0 ≤ c) ∧ (0 : Int) ≤ 0 ∧ 0 ≤ mx ∧ mx < 2147483647 := ⟨fun c hc => by
    obtain ⟨i, _, rfl⟩ := List.mem_map.mp (List.mem_reverse.mp hc)
    unfold ab
    split <;> omega, Int.le_refl 0, m0, m1⟩
  have hm : mkPot cs.reverse mx = some ⟨cs.reverse, 0, mx, pf⟩ := dif_pos pf
  refine ⟨⟨cs.reverse, 0, mx, pf⟩, ?_, by show cs.reverse.length < 100000; rw [List.length_reverse]; omega⟩
  unfold potOf
  rw [show (some Sv.scr :: List.replicate 3 none) = [some .scr, none, none, none] from rfl, hb]
  show (match ints? (cs.map PyData.int) with | some cs => mkPot cs.reverse mx | none => none) = _
  rw [ints?_map]
  exact hm
end K77

end part_K77T
section part_K77U
namespace K77
open PySem Kd
theorem nice_WF {m : Nat} {net : List (List Int × List Int)} {st : List Int} {cs : List (List Int × Int)} (W : WF m net st cs) : Nice 3 900 (tNet net) ∧ Nice 3 900 (tCaps cs) ∧ Nice 3 900 (tI st) := by
  have hm := W.hm
  have nI : ∀ {xs : List Int} {A : Nat}, A ≤ 10 ^ 30 → xs.length = m → Bd A xs → Nice 1 20 (tI xs) := fun hA hl hb => sz_ints (fun x hx => Nat.le_trans (hb x hx) hA) (by omega)
  refine ⟨(Nice.tuple (h := 2) (n := 42) (k := 20) (fun x hx => ?_) (by rw [List.length_map]; exact W.ln)).mono (by decide) (by decide), (Nice.tuple (h := 2) (n := 42) (k := 10) (fun x hx => ?_) (by rw [List.length_map]; exact W.lc)).mono (by decide) (by decide), (nI (by decide +kernel) W.st.1 W.st.2).mono (by decide) (by decide)⟩
  · obtain ⟨s, hs, rfl⟩ := List.mem_map.mp hx
    obtain ⟨a, b, c, d⟩ := W.net s hs
    exact pair2 (h := 1) (n := 20) (nI (by decide +kernel) a c) (nI (by decide +kernel) b d)
  · obtain ⟨c, hc, rfl⟩ := List.mem_map.mp hx
    obtain ⟨a, b, d⟩ := W.cs c hc
    exact pair2 (h := 1) (n := 20) (nI (by decide +kernel) a b) (niceI (Nat.le_trans d (by decide +kernel)))
theorem loop_skip {body : SM GG} {j : Nat} (ρ0 : Option Sv → Kd.Env) (hset : ∀ o x, bindT (.nm j) x (ρ0 o) = some (ρ0 (some (.dat x)))) (xs : List D) (g : GG) (h : ∀ x ∈ xs, body (ρ0 (some (.dat x))) g = some (.nx (ρ0 (some (.dat x))) g)) (o : Option Sv) : ∃ o', forGo (.nm j) body xs (ρ0 o) g = some (.nx (ρ0 o') g) := by
  let P : Nat → Kd.Env → GG → Prop := fun i ρ g' => g' = g ∧ ∃ o, ρ = ρ0 o
  obtain ⟨ρ1, g1, e1, eg, o', rfl⟩ := forGo_nx (t := .nm j) (m := body) P xs 0 (ρ0 o) g ⟨rfl, o, rfl⟩ fun i x ρ g' hxi hP => by
    obtain ⟨rfl, o, rfl⟩ := hP
    exact ⟨_, _, g', hset o x, .inl (h x (List.mem_of_getElem? hxi)), rfl, _, rfl⟩
  subst eg
  exact ⟨o', e1⟩
theorem forM_ok {it : Mn GG (List D)} {t : Tg} {body : SM GG} {ρ ρ1 : Kd.Env} {g g1 g2 : GG} {xs : List D} (a : it ρ g = some (.ok xs g1)) (b : forGo t body xs ρ g1 = some (.nx ρ1 g2)) : Kd.forM it t body ρ g = some (.nx ρ1 g2) := by
  unfold Kd.forM
  rw [a]
  exact b
theorem ifSk {f : EM GG} {h : SM GG} {ρ : Kd.Env} {g : GG} (e : f ρ g = some (.ok (.bool true) g)) : ifS (notM (tstM f)) h nilM ρ g = some (.nx ρ g) := by simp [Kd.andM, Kd.orM, Kd.notM, blM, bin, un, potI, cM, potNE, seqM, potPop, potSet, ifM, brwM, varM, Pot.setI, nilM, ifS, setM, retM, thaw, retNM, tstM, truD, vAndM, vOrM, vNotM, chainM, daM, slM, argsM, tupM, lstM, callM, argsS, idL, multM, argsF, setSs, compM, itSeq, seqD, wipeE, bindT, bindTs, yesM, isiD, itZip, zipD, itEnum, itRange1, idxD, lenD, tupleD, listD, setOM, appM, extM, itZip3, sliceM, partM, sliceD, dnewM, stoM, stoD, keyD, unpM, e]
theorem ifSk2 {f f2 : EM GG} {h : SM GG} {ρ : Kd.Env} {g : GG} (e : f ρ g = some (.ok (.bool true) g)) (e2 : f2 ρ g = some (.ok (.bool true) g)) : ifS (Kd.orM (notM (tstM f)) (notM (tstM f2))) h nilM ρ g = some (.nx ρ g) := by simp [Kd.andM, Kd.orM, Kd.notM, blM, bin, un, potI, cM, potNE, seqM, potPop, potSet, ifM, brwM, varM, Pot.setI, nilM, ifS, setM, retM, thaw, retNM, tstM, truD, vAndM, vOrM, vNotM, chainM, daM, slM, argsM, tupM, lstM, callM, argsS, idL, multM, argsF, setSs, compM, itSeq, seqD, wipeE, bindT, bindTs, yesM, isiD, itZip, zipD, itEnum, itRange1, idxD, lenD, tupleD, listD, setOM, appM, extM, itZip3, sliceM, partM, sliceD, dnewM, stoM, stoD, keyD, unpM, e, e2]
theorem nil_ok (ρ : Kd.Env) (g : GG) : (nilM : SM GG) ρ g = some (.nx ρ g) := rfl
theorem wf_of {m : Nat} {net : List (List Int × List Int)} {st : List Int} {cs : List (List Int × Int)} (hm : m ≤ 8) (hl : net.length ≤ 12) (hn : ∀ s ∈ net, GS m s) (hst : st.length = m) (hb : Bd (10 ^ 11) st) (hc : ∀ c ∈ cs, GC m c) (lc : cs.length ≤ 10) : WF m net st cs := ⟨hm, by omega, lc, hn, ⟨hst, hb⟩, fun c h => by
  obtain ⟨a, b, t0, t1⟩ := hc c h
  exact ⟨a, bd9 b (by decide), by omega⟩⟩
theorem mul0 : ∀ m : Nat, m ≤ 8 → mulX (.tuple [.int 0]) (.int (m : Nat)) = some (tI (List.replicate m 0))
  | 0, _ => rfl
  | m + 1, h => by
    rw [mulX1 _ (by omega) (by omega)]
    simp [Kd.andM, Kd.orM, Kd.notM, blM, bin, un, potI, cM, potNE, seqM, potPop, potSet, ifM, brwM, varM, Pot.setI, nilM, ifS, setM, retM, thaw, retNM, tstM, truD, vAndM, vOrM, vNotM, chainM, daM, slM, argsM, tupM, lstM, callM, argsS, idL, multM, argsF, setSs, compM, itSeq, seqD, wipeE, bindT, bindTs, yesM, isiD, itZip, zipD, itEnum, itRange1, idxD, lenD, tupleD, listD, setOM, appM, extM, itZip3, sliceM, partM, sliceD, dnewM, stoM, stoD, keyD, unpM]
abbrev rL (m : Nat) (st : List Int) (net : List (List Int × List Int)) (cs : List (List Int × Int)) (mk pl : D) (x8 x9 : Str) (o10 o11 o12 : Option Sv) : Kd.Env := [some .scr, some .bag, some (.dat (.int (m : Nat))), some (.dat (tI st)), some (.dat (tNet net)), some (.dat (tCaps cs)), some (.dat mk), some (.dat pl), some (.dat (.str x8)), some (.dat (.str x9)), o10, o11, o12, none]
end K77

end part_K77U
section part_K77V
namespace K77
open PySem Kd
section
variable {m : Nat} {ST N C MK PL BR : D} {x8 x9 : Str} {g : GG} {o10 o11 o12 : Option Sv}
abbrev E8 (m : Nat) (ST N C MK PL : D) (x8 : Str) : Kd.Env := [some .scr, some .bag, some (.dat (.int (m : Nat))), some (.dat ST), some (.dat N), some (.dat C), some (.dat MK), some (.dat PL), some (.dat (.str x8)), none, none, none, none, none]
abbrev E9 (m : Nat) (ST N C MK PL : D) (x8 x9 : Str) (o10 o11 o12 : Option Sv) : Kd.Env := [some .scr, some .bag, some (.dat (.int (m : Nat))), some (.dat ST), some (.dat N), some (.dat C), some (.dat MK), some (.dat PL), some (.dat (.str x8)), some (.dat (.str x9)), o10, o11, o12, none]
theorem tail8 (e : rpD (.list [N, C, ST, MK]) = some (.str x8)) : setM 8 (un rpD (lstM [varM 4, varM 5, varM 3, varM 6])) [some .scr, some .bag, some (.dat (.int (m : Nat))), some (.dat ST), some (.dat N), some (.dat C), some (.dat MK), some (.dat PL), none, none, none, none, none, none] g = some (.nx (E8 m ST N C MK PL x8) g) := by simp [Kd.andM, Kd.orM, Kd.notM, blM, bin, un, potI, cM, potNE, seqM, potPop, potSet, ifM, brwM, varM, Pot.setI, nilM, ifS, setM, retM, thaw, retNM, tstM, truD, vAndM, vOrM, vNotM, chainM, daM, slM, argsM, tupM, lstM, callM, argsS, idL, multM, argsF, setSs, compM, itSeq, seqD, wipeE, bindT, bindTs, yesM, isiD, itZip, zipD, itEnum, itRange1, idxD, lenD, tupleD, listD, setOM, appM, extM, itZip3, sliceM, partM, sliceD, dnewM, stoM, stoD, keyD, unpM, e]
theorem tail9 (hb : s__law_breaking [.dat N, .dat C, .dat ST] g = some (.ok BR g)) (e : rpD BR = some (.str x9)) : setM 9 (un rpD (callM s__law_breaking idL [daM (varM 4), daM (varM 5), daM (varM 3)])) (E8 m ST N C MK PL x8) g = some (.nx (E9 m ST N C MK PL x8 x9 none none none) g) := by simp [Kd.andM, Kd.orM, Kd.notM, blM, bin, un, potI, cM, potNE, seqM, potPop, potSet, ifM, brwM, varM, Pot.setI, nilM, ifS, setM, retM, thaw, retNM, tstM, truD, vAndM, vOrM, vNotM, chainM, daM, slM, argsM, tupM, lstM, callM, argsS, idL, multM, argsF, setSs, compM, itSeq, seqD, wipeE, bindT, bindTs, yesM, isiD, itZip, zipD, itEnum, itRange1, idxD, lenD, tupleD, listD, setOM, appM, extM, itZip3, sliceM, partM, sliceD, dnewM, stoM, stoD, keyD, unpM, hb, e]
theorem tail10 {h : SM GG} (hb : s_breaking_steps [.dat N, .dat C, .dat ST] g = some (.ok BR g)) (e : rpD BR = some (.str x9)) : ifS (blM (bin neX (un rpD (callM s_breaking_steps idL [daM (varM 4), daM (varM 5), daM (varM 3)])) (brwM 9))) h nilM (E9 m ST N C MK PL x8 x9 o10 o11 o12) g = some (.nx (E9 m ST N C MK PL x8 x9 o10 o11 o12) g) := by simp [Kd.andM, Kd.orM, Kd.notM, blM, bin, un, potI, cM, potNE, seqM, potPop, potSet, ifM, brwM, varM, Pot.setI, nilM, ifS, setM, retM, thaw, retNM, tstM, truD, vAndM, vOrM, vNotM, chainM, daM, slM, argsM, tupM, lstM, callM, argsS, idL, multM, argsF, setSs, compM, itSeq, seqD, wipeE, bindT, bindTs, yesM, isiD, itZip, zipD, itEnum, itRange1, idxD, lenD, tupleD, listD, setOM, appM, extM, itZip3, sliceM, partM, sliceD, dnewM, stoM, stoD, keyD, unpM, hb, e]
theorem tail17 (hmod : modD (.int ((m : Int) + 1)) (.int 9) = some (.int (((m : Int) + 1) % 9))) (q : s__law_is_word_right [.dat (.int (((m : Int) + 1) % 9)), .dat C] g = some (.ok (.bool true) g)) : callM s__law_is_word_right idL [daM (bin modD (un intD (bin addD (brwM 2) (cM (.int 1)))) (cM (.int 9))), daM (varM 5)] (E9 m ST N C MK PL x8 x9 o10 o11 o12) g = some (.ok (.bool true) g) := by simp [Kd.andM, Kd.orM, Kd.notM, blM, bin, un, potI, cM, potNE, seqM, potPop, potSet, ifM, brwM, varM, Pot.setI, nilM, ifS, setM, retM, thaw, retNM, tstM, truD, vAndM, vOrM, vNotM, chainM, daM, slM, argsM, tupM, lstM, callM, argsS, idL, multM, argsF, setSs, compM, itSeq, seqD, wipeE, bindT, bindTs, yesM, isiD, itZip, zipD, itEnum, itRange1, idxD, lenD, tupleD, listD, setOM, appM, extM, itZip3, sliceM, partM, sliceD, dnewM, stoM, stoD, keyD, unpM, hmod, q]
theorem tailR (hb : s_breaking_steps [.dat N, .dat C, .dat ST] g = some (.ok BR g)) (e : rpD BR = some (.str x9)) (e8 : rpD (.list [N, C, ST, MK]) = some (.str x8)) : retM (vAndM (bin eqX (un rpD (lstM [varM 4, varM 5, varM 3, varM 6])) (brwM 8)) (bin eqX (un rpD (callM s_breaking_steps idL [daM (varM 4), daM (varM 5), daM (varM 3)])) (brwM 9))) (E9 m ST N C MK PL x8 x9 o10 o11 o12) g = some (.rt (.bool true) g) := by simp [Kd.andM, Kd.orM, Kd.notM, blM, bin, un, potI, cM, potNE, seqM, potPop, potSet, ifM, brwM, varM, Pot.setI, nilM, ifS, setM, retM, thaw, retNM, tstM, truD, vAndM, vOrM, vNotM, chainM, daM, slM, argsM, tupM, lstM, callM, argsS, idL, multM, argsF, setSs, compM, itSeq, seqD, wipeE, bindT, bindTs, yesM, isiD, itZip, zipD, itEnum, itRange1, idxD, lenD, tupleD, listD, setOM, appM, extM, itZip3, sliceM, partM, sliceD, dnewM, stoM, stoD, keyD, unpM, hb, e, e8]
end
theorem law_true (ns : List Int) (hns : ns.length ≤ 63) : (∃ pot, potOf ns = some pot) ∧ ∃ g', s_law ns [.scr] none = some (.ok (.bool true) g') := by
  obtain ⟨pot, hpot, hcl⟩ := potOf_ok ns hns
  refine ⟨⟨pot, hpot⟩, ?_⟩
  have hg : Pk (some pot) := ⟨pot, rfl, hcl⟩
  have s1 : bagM (potOf ns) 1 0 [some .scr, none, none, none, none, none, none, none, none, none, none, none, none, none] none = some (.nx [some .scr, some .bag, none, none, none, none, none, none, none, none, none, none, none, none] (some pot)) := by
    rw [hpot]; rfl
  obtain ⟨y, g1, e1, hg1, hy⟩ := pick_list hg (xs := [.int 0, .int 1, .int 2, .int 3, .int 4, .int 5, .int 6, .int 7, .int 8, .int 8]) (by simp [Kd.andM, Kd.orM, Kd.notM, blM, bin, un, potI, cM, potNE, seqM, potPop, potSet, ifM, brwM, varM, Pot.setI, nilM, ifS, setM, retM, thaw, retNM, tstM, truD, vAndM, vOrM, vNotM, chainM, daM, slM, argsM, tupM, lstM, callM, argsS, idL, multM, argsF, setSs, compM, itSeq, seqD, wipeE, bindT, bindTs, yesM, isiD, itZip, zipD, itEnum, itRange1, idxD, lenD, tupleD, listD, setOM, appM, extM, itZip3, sliceM, partM, sliceD, dnewM, stoM, stoD, keyD, unpM]) (by simp [Kd.andM, Kd.orM, Kd.notM, blM, bin, un, potI, cM, potNE, seqM, potPop, potSet, ifM, brwM, varM, Pot.setI, nilM, ifS, setM, retM, thaw, retNM, tstM, truD, vAndM, vOrM, vNotM, chainM, daM, slM, argsM, tupM, lstM, callM, argsS, idL, multM, argsF, setSs, compM, itSeq, seqD, wipeE, bindT, bindTs, yesM, isiD, itZip, zipD, itEnum, itRange1, idxD, lenD, tupleD, listD, setOM, appM, extM, itZip3, sliceM, partM, sliceD, dnewM, stoM, stoD, keyD, unpM])
  obtain ⟨m, rfl, hm⟩ : ∃ m : Nat, y = .int (m : Nat) ∧ m ≤ 8 := by
    simp only [List.mem_cons, List.not_mem_nil, or_false] at hy
    rcases hy with rfl | rfl | rfl | rfl | rfl | rfl | rfl | rfl | rfl | rfl
    · exact ⟨0, rfl, by decide⟩
    · exact ⟨1, rfl, by decide⟩
    · exact ⟨2, rfl, by decide⟩
    · exact ⟨3, rfl, by decide⟩
    · exact ⟨4, rfl, by decide⟩
    · exact ⟨5, rfl, by decide⟩
    · exact ⟨6, rfl, by decide⟩
    · exact ⟨7, rfl, by decide⟩
    · exact ⟨8, rfl, by decide⟩
    · exact ⟨8, rfl, by decide⟩
  have s2 : setM 2 (callM s__law_pick idL [slM 1, daM (lstM [cM (.int 0), cM (.int 1), cM (.int 2), cM (.int 3), cM (.int 4), cM (.int 5), cM (.int 6), cM (.int 7), cM (.int 8), cM (.int 8)])]) [some .scr, some .bag, none, none, none, none, none, none, none, none, none, none, none, none] (some pot) = some (.nx [some .scr, some .bag, some (.dat (.int (m : Nat))), none, none, none, none, none, none, none, none, none, none, none] g1) := by
    simp [Kd.andM, Kd.orM, Kd.notM, blM, bin, un, potI, cM, potNE, seqM, potPop, potSet, ifM, brwM, varM, Pot.setI, nilM, ifS, setM, retM, thaw, retNM, tstM, truD, vAndM, vOrM, vNotM, chainM, daM, slM, argsM, tupM, lstM, callM, argsS, idL, multM, argsF, setSs, compM, itSeq, seqD, wipeE, bindT, bindTs, yesM, isiD, itZip, zipD, itEnum, itRange1, idxD, lenD, tupleD, listD, setOM, appM, extM, itZip3, sliceM, partM, sliceD, dnewM, stoM, stoD, keyD, unpM, e1]
  obtain ⟨st, g2, e2, hg2, lst, bst⟩ := state_ok hg1 hm
  have s3 : setM 3 (callM s__law_state idL [slM 1, daM (varM 2)]) [some .scr, some .bag, some (.dat (.int (m : Nat))), none, none, none, none, none, none, none, none, none, none, none] g1 = some (.nx [some .scr, some .bag, some (.dat (.int (m : Nat))), some (.dat (tI st)), none, none, none, none, none, none, none, none, none, none] g2) := by
    simp [Kd.andM, Kd.orM, Kd.notM, blM, bin, un, potI, cM, potNE, seqM, potPop, potSet, ifM, brwM, varM, Pot.setI, nilM, ifS, setM, retM, thaw, retNM, tstM, truD, vAndM, vOrM, vNotM, chainM, daM, slM, argsM, tupM, lstM, callM, argsS, idL, multM, argsF, setSs, compM, itSeq, seqD, wipeE, bindT, bindTs, yesM, isiD, itZip, zipD, itEnum, itRange1, idxD, lenD, tupleD, listD, setOM, appM, extM, itZip3, sliceM, partM, sliceD, dnewM, stoM, stoD, keyD, unpM, e2]
  have b10 : Bd (10 ^ 10) st := fun x hx => by have := bst x hx; omega
  have b11 : Bd (10 ^ 11) st := fun x hx => by have := bst x hx; omega
  obtain ⟨y, g3, e3, hg3, hy⟩ := pick_list hg2 (xs := [.int 0, .int 1, .int 2, .int 3, .int 4, .int 6, .int 9, .int 12, .int 12]) (by simp [Kd.andM, Kd.orM, Kd.notM, blM, bin, un, potI, cM, potNE, seqM, potPop, potSet, ifM, brwM, varM, Pot.setI, nilM, ifS, setM, retM, thaw, retNM, tstM, truD, vAndM, vOrM, vNotM, chainM, daM, slM, argsM, tupM, lstM, callM, argsS, idL, multM, argsF, setSs, compM, itSeq, seqD, wipeE, bindT, bindTs, yesM, isiD, itZip, zipD, itEnum, itRange1, idxD, lenD, tupleD, listD, setOM, appM, extM, itZip3, sliceM, partM, sliceD, dnewM, stoM, stoD, keyD, unpM]) (by simp [Kd.andM, Kd.orM, Kd.notM, blM, bin, un, potI, cM, potNE, seqM, potPop, potSet, ifM, brwM, varM, Pot.setI, nilM, ifS, setM, retM, thaw, retNM, tstM, truD, vAndM, vOrM, vNotM, chainM, daM, slM, argsM, tupM, lstM, callM, argsS, idL, multM, argsF, setSs, compM, itSeq, seqD, wipeE, bindT, bindTs, yesM, isiD, itZip, zipD, itEnum, itRange1, idxD, lenD, tupleD, listD, setOM, appM, extM, itZip3, sliceM, partM, sliceD, dnewM, stoM, stoD, keyD, unpM])
  obtain ⟨q, rfl, hq⟩ : ∃ m : Nat, y = .int (m : Nat) ∧ m ≤ 12 := by
    simp only [List.mem_cons, List.not_mem_nil, or_false] at hy
    rcases hy with rfl | rfl | rfl | rfl | rfl | rfl | rfl | rfl | rfl
    · exact ⟨0, rfl, by decide⟩
    · exact ⟨1, rfl, by decide⟩
    · exact ⟨2, rfl, by decide⟩
    · exact ⟨3, rfl, by decide⟩
    · exact ⟨4, rfl, by decide⟩
    · exact ⟨6, rfl, by decide⟩
    · exact ⟨9, rfl, by decide⟩
    · exact ⟨12, rfl, by decide⟩
    · exact ⟨12, rfl, by decide⟩
  obtain ⟨net, g4, e4, hg4, lnet, hnet⟩ := net_ok hg3 hm lst b10 hq
  have s4 : setM 4 (callM s__law_net idL [slM 1, daM (varM 2), daM (varM 3), daM (callM s__law_pick idL [slM 1, daM (lstM [cM (.int 0), cM (.int 1), cM (.int 2), cM (.int 3), cM (.int 4), cM (.int 6), cM (.int 9), cM (.int 12), cM (.int 12)])])]) [some .scr, some .bag, some (.dat (.int (m : Nat))), some (.dat (tI st)), none, none, none, none, none, none, none, none, none, none] g2 = some (.nx [some .scr, some .bag, some (.dat (.int (m : Nat))), some (.dat (tI st)), some (.dat (tNet net)), none, none, none, none, none, none, none, none, none] g4) := by
    generalize tNet net = N at e4 ⊢
    simp [Kd.andM, Kd.orM, Kd.notM, blM, bin, un, potI, cM, potNE, seqM, potPop, potSet, ifM, brwM, varM, Pot.setI, nilM, ifS, setM, retM, thaw, retNM, tstM, truD, vAndM, vOrM, vNotM, chainM, daM, slM, argsM, tupM, lstM, callM, argsS, idL, multM, argsF, setSs, compM, itSeq, seqD, wipeE, bindT, bindTs, yesM, isiD, itZip, zipD, itEnum, itRange1, idxD, lenD, tupleD, listD, setOM, appM, extM, itZip3, sliceM, partM, sliceD, dnewM, stoM, stoD, keyD, unpM, e3, e4]
  obtain ⟨y, g5, e5, hg5, hy⟩ := pick_list hg4 (xs := [.int 0, .int 1, .int 2, .int 3, .int 3]) (by simp [Kd.andM, Kd.orM, Kd.notM, blM, bin, un, potI, cM, potNE, seqM, potPop, potSet, ifM, brwM, varM, Pot.setI, nilM, ifS, setM, retM, thaw, retNM, tstM, truD, vAndM, vOrM, vNotM, chainM, daM, slM, argsM, tupM, lstM, callM, argsS, idL, multM, argsF, setSs, compM, itSeq, seqD, wipeE, bindT, bindTs, yesM, isiD, itZip, zipD, itEnum, itRange1, idxD, lenD, tupleD, listD, setOM, appM, extM, itZip3, sliceM, partM, sliceD, dnewM, stoM, stoD, keyD, unpM]) (by simp [Kd.andM, Kd.orM, Kd.notM, blM, bin, un, potI, cM, potNE, seqM, potPop, potSet, ifM, brwM, varM, Pot.setI, nilM, ifS, setM, retM, thaw, retNM, tstM, truD, vAndM, vOrM, vNotM, chainM, daM, slM, argsM, tupM, lstM, callM, argsS, idL, multM, argsF, setSs, compM, itSeq, seqD, wipeE, bindT, bindTs, yesM, isiD, itZip, zipD, itEnum, itRange1, idxD, lenD, tupleD, listD, setOM, appM, extM, itZip3, sliceM, partM, sliceD, dnewM, stoM, stoD, keyD, unpM])
  obtain ⟨q2, rfl, hq2⟩ : ∃ m : Nat, y = .int (m : Nat) ∧ m ≤ 3 := by
    simp only [List.mem_cons, List.not_mem_nil, or_false] at hy
    rcases hy with rfl | rfl | rfl | rfl | rfl
    · exact ⟨0, rfl, by decide⟩
    · exact ⟨1, rfl, by decide⟩
    · exact ⟨2, rfl, by decide⟩
    · exact ⟨3, rfl, by decide⟩
    · exact ⟨3, rfl, by decide⟩
  obtain ⟨cs, g6, e6, hg6, lcs, hcs⟩ := caps_ok hg5 (m := m) (many := q2) (net := net) (st := st) hm (by omega) hq2
  have s5 : setM 5 (callM s__law_caps idL [slM 1, daM (varM 2), daM (varM 4), daM (varM 3), daM (callM s__law_pick idL [slM 1, daM (lstM [cM (.int 0), cM (.int 1), cM (.int 2), cM (.int 3), cM (.int 3)])])]) [some .scr, some .bag, some (.dat (.int (m : Nat))), some (.dat (tI st)), some (.dat (tNet net)), none, none, none, none, none, none, none, none, none] g4 = some (.nx [some .scr, some .bag, some (.dat (.int (m : Nat))), some (.dat (tI st)), some (.dat (tNet net)), some (.dat (tCaps cs)), none, none, none, none, none, none, none, none] g6) := by
    generalize tNet net = N at e6 ⊢
    generalize tCaps cs = C at e6 ⊢
    simp [Kd.andM, Kd.orM, Kd.notM, blM, bin, un, potI, cM, potNE, seqM, potPop, potSet, ifM, brwM, varM, Pot.setI, nilM, ifS, setM, retM, thaw, retNM, tstM, truD, vAndM, vOrM, vNotM, chainM, daM, slM, argsM, tupM, lstM, callM, argsS, idL, multM, argsF, setSs, compM, itSeq, seqD, wipeE, bindT, bindTs, yesM, isiD, itZip, zipD, itEnum, itRange1, idxD, lenD, tupleD, listD, setOM, appM, extM, itZip3, sliceM, partM, sliceD, dnewM, stoM, stoD, keyD, unpM, e5, e6]
  obtain ⟨m2, net2, w2, t2, st2, g7, e7, hg7, W2⟩ := made_ok hg6
  let mk : D := .list [.int (m2 : Nat), tNet net2, tCaps [(w2, t2)], tI st2]
  have s6 : setM 6 (callM s__law_made idL [slM 1]) [some .scr, some .bag, some (.dat (.int (m : Nat))), some (.dat (tI st)), some (.dat (tNet net)), some (.dat (tCaps cs)), none, none, none, none, none, none, none, none] g6 = some (.nx [some .scr, some .bag, some (.dat (.int (m : Nat))), some (.dat (tI st)), some (.dat (tNet net)), some (.dat (tCaps cs)), some (.dat mk), none, none, none, none, none, none, none] g7) := by
    have e7' : s__law_made [.bag] g6 = some (.ok mk g7) := e7
    generalize mk = M at e7' ⊢
    simp [Kd.andM, Kd.orM, Kd.notM, blM, bin, un, potI, cM, potNE, seqM, potPop, potSet, ifM, brwM, varM, Pot.setI, nilM, ifS, setM, retM, thaw, retNM, tstM, truD, vAndM, vOrM, vNotM, chainM, daM, slM, argsM, tupM, lstM, callM, argsS, idL, multM, argsF, setSs, compM, itSeq, seqD, wipeE, bindT, bindTs, yesM, isiD, itZip, zipD, itEnum, itRange1, idxD, lenD, tupleD, listD, setOM, appM, extM, itZip3, sliceM, partM, sliceD, dnewM, stoM, stoD, keyD, unpM, e7']
  have W : WF m net st cs := wf_of hm (by omega) hnet lst b11 hcs (by omega)
  -- plain
  let pcs : List (List Int × Int) := cs.map fun c => (List.replicate m 0, c.2)
  let E7 : Kd.Env := [some .scr, some .bag, some (.dat (.int (m : Nat))), some (.dat (tI st)), some (.dat (tNet net)), some (.dat (tCaps cs)), some (.dat mk), none, none, none, none, none, none, none]
  have s7 : setM 7 (un tupleD (compM (itSeq (brwM 5)) (.nm 13) (yesM) (tupM [bin mulX (tupM [cM (.int 0)]) (brwM 2), bin idxD (brwM 13) (cM (.int 1))]) [13])) E7 g7 = some (.nx [some .scr, some .bag, some (.dat (.int (m : Nat))), some (.dat (tI st)), some (.dat (tNet net)), some (.dat (tCaps cs)), some (.dat mk), some (.dat (tCaps pcs)), none, none, none, none, none, none] g7) := by
    have hc := compGo_all (t := .nm 13) (e := tupM [bin mulX (tupM [cM (.int 0)]) (brwM 2), bin idxD (brwM 13) (cM (.int 1))]) (ρ := E7) (g := g7) tCap (fun c => tCap (List.replicate m 0, c.2)) cs fun c _ => ⟨_, rfl, by
      have i1 : L2.atI [tI c.1, PyData.int c.2] 1 = some (.int c.2) := rfl
      have hmm := mul0 m hm
      show tupM [bin mulX (tupM [cM (.int 0)]) (brwM 2), bin idxD (brwM 13) (cM (.int 1))] _ g7 = some (.ok (.tuple [tI (List.replicate m 0), .int c.2]) g7)
      generalize tI (List.replicate m 0) = Z at hmm ⊢
      simp [Kd.andM, Kd.orM, Kd.notM, blM, bin, un, potI, cM, potNE, seqM, potPop, potSet, ifM, brwM, varM, Pot.setI, nilM, ifS, setM, retM, thaw, retNM, tstM, truD, vAndM, vOrM, vNotM, chainM, daM, slM, argsM, tupM, lstM, callM, argsS, idL, multM, argsF, setSs, compM, itSeq, seqD, wipeE, bindT, bindTs, yesM, isiD, itZip, zipD, itEnum, itRange1, idxD, lenD, tupleD, listD, setOM, appM, extM, itZip3, sliceM, partM, sliceD, dnewM, stoM, stoD, keyD, unpM, E7, hmm, i1]⟩
    have e : cs.map (fun c => tCap (List.replicate m 0, c.2)) = pcs.map tCap := by
      show _ = List.map _ (List.map _ _)
      rw [List.map_map]; rfl
    rw [e] at hc
    have := compM_ok (it := itSeq (brwM 5)) (vs := [13]) (ρ := E7) (g := g7) rfl hc
    unfold setM un
    rw [this]
    rfl
  obtain ⟨n1, n2, n3⟩ := nice_WF W
  obtain ⟨n4, n5, n6⟩ := nice_WF W2
  have hm2 := W2.hm
  have nMk : Nice 4 3604 mk := Nice.list (h := 3) (n := 900) (k := 4) (fun x hx => by
    simp only [List.mem_cons, List.not_mem_nil, or_false] at hx
    rcases hx with rfl | rfl | rfl | rfl
    · exact niceSmall (by omega)
    · exact n4
    · exact n5
    · exact n6) (Nat.le_refl 4)
  have nKp : Nice 5 14420 (.list [tNet net, tCaps cs, tI st, mk]) := Nice.list (h := 4) (n := 3604) (k := 4) (fun x hx => by
    simp only [List.mem_cons, List.not_mem_nil, or_false] at hx
    rcases hx with rfl | rfl | rfl | rfl
    · exact n1.mono (by decide) (by decide)
    · exact n2.mono (by decide) (by decide)
    · exact n3.mono (by decide) (by decide)
    · exact nMk) (Nat.le_refl 4)
  obtain ⟨x8, ex8⟩ : ∃ x, rpD (.list [tNet net, tCaps cs, tI st, mk]) = some (.str x) := ⟨_, nKp.rp (by decide) (by decide)⟩
  let br : D := .tuple ((brk net cs st).map fun (k : Nat) => .int (k : Nat))
  have ln20 : net.length ≤ 20 := W.ln
  have hbr : (brk net cs st).length ≤ 20 ∧ ∀ k ∈ brk net cs st, k < 20 := by
    rw [brk_eq W]
    refine ⟨Nat.le_trans (List.length_filter_le _ _) (by rw [List.length_range]; exact ln20), fun k hk => ?_⟩
    have := List.mem_range.mp (List.mem_filter.mp hk).1
    omega
  have nbr : Nice 1 40 br := (Nice.tuple (h := 0) (n := 0) (k := 20) (fun x hx => by
    obtain ⟨k, hk, rfl⟩ := List.mem_map.mp hx
    have := hbr.2 k hk
    exact niceSmall (by omega)) (by rw [List.length_map]; exact hbr.1)).mono (by decide) (by decide)
  obtain ⟨x9, ex9⟩ : ∃ x, rpD br = some (.str x) := ⟨_, nbr.rp (by decide) (by decide)⟩
  have hb1 : s_breaking_steps [.dat (tNet net), .dat (tCaps cs), .dat (tI st)] g7 = some (.ok br g7) := breaking_steps_ok (by omega) W.sm st g7
  have hb2 : s__law_breaking [.dat (tNet net), .dat (tCaps cs), .dat (tI st)] g7 = some (.ok br g7) := by
    have := law_breaking_ok (net := net) (by omega) W.sm st g7
    rw [← brk_eq W] at this
    exact this
  have s8 := tail8 (m := m) (PL := tCaps pcs) (g := g7) ex8
  have s9 := tail9 (m := m) (MK := mk) (PL := tCaps pcs) (x8 := x8) hb2 ex9
  have s10 := fun h : SM GG => tail10 (m := m) (MK := mk) (PL := tCaps pcs) (x8 := x8) (o10 := none) (o11 := none) (o12 := none) (h := h) hb1 ex9
  let ρ : Option Sv → Option Sv → Option Sv → Kd.Env := fun o10 o11 o12 => E9 m (tI st) (tNet net) (tCaps cs) mk (tCaps pcs) x8 x9 o10 o11 o12
  obtain ⟨xs, g8, e8, hg8, hxs⟩ := some_states_ok hg7 hm lst bst hnet (by omega)
  have wfR : ∀ s : List Int, s.length = m → Bd (10 ^ 11) s → WF m net s cs.reverse := fun s a b => wf_of hm (by omega) hnet a b (fun c h => hcs c (List.mem_reverse.mp h)) (by rw [List.length_reverse]; omega)
  have erev : (cs.map tCap).reverse = cs.reverse.map tCap := List.map_reverse.symm
  obtain ⟨o10, l11⟩ := loop_skip (j := 10) (body := seqM (ifS (notM (tstM (callM s__law_are_sums_right idL [daM (varM 4), daM (varM 5), daM (varM 10)]))) (seqM (retM (cM (.bool false))) <|
  nilM) (nilM)) <|
  seqM (ifS (notM (tstM (callM s__law_are_sums_right idL [daM (varM 4), daM (un tupleD (un revD (un listD (brwM 5)))), daM (varM 10)]))) (seqM (retM (cM (.bool false))) <|
  nilM) (nilM)) <|
  nilM) (fun o => ρ o none none) (fun o x => rfl) xs g8 (fun x hx => by
    obtain ⟨s, rfl, a, b⟩ := hxs x hx
    have q1 : callM s__law_are_sums_right idL [daM (varM 4), daM (varM 5), daM (varM 10)] (ρ (some (.dat (tI s))) none none) g8 = some (.ok (.bool true) g8) := sums_right_ok (wf_of hm (by omega) hnet a b hcs (by omega)) g8
    have q2 : callM s__law_are_sums_right idL [daM (varM 4), daM (un tupleD (un revD (un listD (brwM 5)))), daM (varM 10)] (ρ (some (.dat (tI s))) none none) g8 = some (.ok (.bool true) g8) := by
      show s__law_are_sums_right [.dat (tNet net), .dat (.tuple (cs.map tCap).reverse), .dat (tI s)] g8 = _
      rw [erev]
      exact sums_right_ok (wfR s a b) g8
    rw [seqM_nx (ifSk q1), seqM_nx (ifSk q2)]
    rfl) none
  have s11 := forM_ok (it := itSeq (callM s__law_some_states idL [slM 1, daM (varM 2), daM (varM 4), daM (varM 3)])) (ρ := ρ none none none) (g := g7) (by
    show Rs.bind (s__law_some_states [.bag, .dat (.int (m : Nat)), .dat (tNet net), .dat (tI st)] g7) _ = _
    rw [e8]; rfl) l11
  -- the second loop
  have wfl : ∀ c1 : List (List Int × Int), (∀ c ∈ c1, GC m c) → c1.length ≤ 10 → WF m net st c1 := fun c1 a b => wf_of hm (by omega) hnet lst b11 a b
  have gp : ∀ c ∈ pcs, GC m c := fun c hc => by
    obtain ⟨d, hd, rfl⟩ := List.mem_map.mp hc
    obtain ⟨_, _, t0, t1⟩ := hcs d hd
    exact ⟨List.length_replicate, fun x hx => by rw [List.eq_of_mem_replicate hx]; decide, t0, t1⟩
  let LL : List D := [.tuple [], tCaps pcs] ++ cs.map fun c => .tuple [tCap c]
  have hLL : ∀ x ∈ LL, ∃ c1, x = tCaps c1 ∧ WF m net st c1 := fun x hx => by
    rcases List.mem_append.mp hx with hx | hx
    · simp only [List.mem_cons, List.not_mem_nil, or_false] at hx
      rcases hx with rfl | rfl
      · exact ⟨[], rfl, wfl [] (fun _ h => nomatch h) (by decide)⟩
      · exact ⟨pcs, rfl, wfl pcs gp (by rw [List.length_map]; omega)⟩
    · obtain ⟨c, hc, rfl⟩ := List.mem_map.mp hx
      exact ⟨[c], rfl, wfl [c] (fun d hd => by rw [List.mem_singleton.mp hd]; exact hcs c hc) (by simp [Kd.andM, Kd.orM, Kd.notM, blM, bin, un, potI, cM, potNE, seqM, potPop, potSet, ifM, brwM, varM, Pot.setI, nilM, ifS, setM, retM, thaw, retNM, tstM, truD, vAndM, vOrM, vNotM, chainM, daM, slM, argsM, tupM, lstM, callM, argsS, idL, multM, argsF, setSs, compM, itSeq, seqD, wipeE, bindT, bindTs, yesM, isiD, itZip, zipD, itEnum, itRange1, idxD, lenD, tupleD, listD, setOM, appM, extM, itZip3, sliceM, partM, sliceD, dnewM, stoM, stoD, keyD, unpM])⟩
  have i12 : itSeq (bin addD (lstM [tupM [], varM 7]) (compM (itSeq (brwM 5)) (.nm 13) (yesM) (tupM [varM 13]) [13])) (ρ o10 none none) g8 = some (.ok LL g8) := by
    have hc := compGo_all (t := .nm 13) (e := tupM [varM 13]) (ρ := ρ o10 none none) (g := g8) tCap (fun c => .tuple [tCap c]) cs fun c _ => ⟨_, rfl, rfl⟩
    have hq := compM_ok (it := itSeq (brwM 5)) (vs := [13]) (ρ := ρ o10 none none) (g := g8) rfl hc
    have ha : addD (.list [.tuple [], tCaps pcs]) (.list (cs.map fun c => .tuple [tCap c])) = some (.list LL) := addD_lst (by simp [Kd.andM, Kd.orM, Kd.notM, blM, bin, un, potI, cM, potNE, seqM, potPop, potSet, ifM, brwM, varM, Pot.setI, nilM, ifS, setM, retM, thaw, retNM, tstM, truD, vAndM, vOrM, vNotM, chainM, daM, slM, argsM, tupM, lstM, callM, argsS, idL, multM, argsF, setSs, compM, itSeq, seqD, wipeE, bindT, bindTs, yesM, isiD, itZip, zipD, itEnum, itRange1, idxD, lenD, tupleD, listD, setOM, appM, extM, itZip3, sliceM, partM, sliceD, dnewM, stoM, stoD, keyD, unpM]; omega)
    have hl : lstM [tupM [], varM 7] (ρ o10 none none) g8 = some (.ok (.list [.tuple [], tCaps pcs]) g8) := rfl
    show Rs.bind (bin addD _ _ _ g8) _ = _
    unfold bin
    rw [hl]
    show Rs.bind (Rs.bind (compM _ _ _ _ _ _ g8) _) _ = _
    rw [hq]
    show Rs.bind (match addD (.list [.tuple [], tCaps pcs]) (.list (cs.map fun c => .tuple [tCap c])) with | some z => _ | none => _) _ = _
    rw [ha]
    rfl
  obtain ⟨o11, l12⟩ := loop_skip (j := 11) (body := seqM (ifS (Kd.orM (notM (tstM (callM s__law_are_sums_right idL [daM (varM 4), daM (varM 11), daM (varM 3)]))) (notM (tstM (callM s__law_are_changes_right idL [daM (varM 4), daM (varM 11)])))) (seqM (retM (cM (.bool false))) <|
  nilM) (nilM)) <|
  nilM) (fun o => ρ o10 o none) (fun o x => rfl) LL g8 (fun x hx => by
    obtain ⟨c1, rfl, W1⟩ := hLL x hx
    have q1 : callM s__law_are_sums_right idL [daM (varM 4), daM (varM 11), daM (varM 3)] (ρ o10 (some (.dat (tCaps c1))) none) g8 = some (.ok (.bool true) g8) := sums_right_ok W1 g8
    have q2 : callM s__law_are_changes_right idL [daM (varM 4), daM (varM 11)] (ρ o10 (some (.dat (tCaps c1))) none) g8 = some (.ok (.bool true) g8) := changes_right_ok W1 g8
    rw [seqM_nx (ifSk2 q1 q2)]
    rfl) none
  have s12 := forM_ok i12 l12
  have s13 := fun h : SM GG => ifSk2 (h := h) (f := callM s__law_are_changes_right idL [daM (varM 4), daM (varM 5)]) (f2 := callM s__law_are_changes_right idL [daM (varM 4), daM (un tupleD (un revD (un listD (brwM 5))))]) (ρ := ρ o10 o11 none) (g := g8) (changes_right_ok W g8) (by
    show s__law_are_changes_right [.dat (tNet net), .dat (.tuple (cs.map tCap).reverse)] g8 = _
    rw [erev]
    exact changes_right_ok (wfR st lst b11) g8)
  have s14 := fun h : SM GG => ifSk2 (h := h) (f := callM s__law_are_sums_right idL [daM (bin idxD (brwM 6) (cM (.int 1))), daM (bin idxD (brwM 6) (cM (.int 2))), daM (bin idxD (brwM 6) (cM (.int 3)))]) (f2 := callM s__law_are_changes_right idL [daM (bin idxD (brwM 6) (cM (.int 1))), daM (bin idxD (brwM 6) (cM (.int 2)))]) (ρ := ρ o10 o11 none) (g := g8) (sums_right_ok W2 g8) (changes_right_ok W2 g8)
  obtain ⟨vs, g9, e9, hg9, hvs⟩ := values_ok hg8 hm (by omega) hcs
  obtain ⟨o12, l15⟩ := loop_skip (j := 12) (body := seqM (ifS (notM (tstM (callM s__law_is_word_right idL [daM (varM 2), daM (varM 12)]))) (seqM (retM (cM (.bool false))) <|
  nilM) (nilM)) <|
  nilM) (fun o => ρ o10 o11 o) (fun o x => rfl) vs g9 (fun x hx => by
    have q1 : callM s__law_is_word_right idL [daM (varM 2), daM (varM 12)] (ρ o10 o11 (some (.dat x))) g9 = some (.ok (.bool true) g9) := is_word_right_ok m (hvs x hx) (by decide) (by decide) g9
    rw [seqM_nx (ifSk q1)]
    rfl) none
  have s15 := forM_ok (it := itSeq (callM s__law_values idL [slM 1, daM (varM 2), daM (varM 5)])) (ρ := ρ o10 o11 none) (g := g8) (by
    show Rs.bind (s__law_values [.bag, .dat (.int (m : Nat)), .dat (tCaps cs)] g8) _ = _
    rw [e9]; rfl) l15
  have s16 := fun h : SM GG => ifSk2 (h := h) (f := callM s__law_is_word_right idL [daM (bin subD (cM (.int 8)) (brwM 2)), daM (varM 5)]) (f2 := callM s__law_is_word_right idL [daM (bin idxD (brwM 6) (cM (.int 0))), daM (bin idxD (brwM 6) (cM (.int 2)))]) (ρ := ρ o10 o11 o12) (g := g9) (is_word_right_ok _ n2 (by decide) (by decide) g9) (is_word_right_ok _ n5 (by decide) (by decide) g9)
  have hmod : modD (.int ((m : Int) + 1)) (.int 9) = some (.int (((m : Int) + 1) % 9)) := modD_int (by decide)
  have s17 := fun h : SM GG => ifSk (h := h) (f := callM s__law_is_word_right idL [daM (bin modD (un intD (bin addD (brwM 2) (cM (.int 1)))) (cM (.int 9))), daM (varM 5)]) (ρ := ρ o10 o11 o12) (g := g9) (tail17 hmod (is_word_right_ok (((m : Int) + 1) % 9) n2 (by decide) (by decide) g9))
  have hb3 : s_breaking_steps [.dat (tNet net), .dat (tCaps cs), .dat (tI st)] g9 = some (.ok br g9) := breaking_steps_ok (by omega) W.sm st g9
  have s18 := tailR (m := m) (PL := tCaps pcs) (o10 := o10) (o11 := o11) (o12 := o12) hb3 ex9 ex8
  refine ⟨g9, fnSem_rt rfl rfl ?_⟩
  show m_law ns [some .scr, none, none, none, none, none, none, none, none, none, none, none, none, none] none = _
  unfold m_law
  rw [seqM_nx s1, seqM_nx s2, seqM_nx s3, seqM_nx s4, seqM_nx s5, seqM_nx s6, seqM_nx s7, seqM_nx s8, seqM_nx s9, seqM_nx (s10 _), seqM_nx s11, seqM_nx s12, seqM_nx (s13 _), seqM_nx (s14 _), seqM_nx s15, seqM_nx (s16 _), seqM_nx (s17 _), seqM_rt s18]
end K77

end part_K77V
section part_K77B
namespace K77
open PySem PySem.Spec PyProof.Rows L2 Kd
def dd (x : Str) (st : Stmt) : He.DefD := ⟨(x, none), x, x, defArgs st, defBody st, defScope st, [], []⟩
def fn0 : List He.DefD := [dd "_law_bag" st__law_bag, dd "is_number" st_is_number, dd "is_within" st_is_within, dd "are_numbers" st_are_numbers, dd "is_let" st_is_let, dd "let_steps" st_let_steps, dd "change_of" st_change_of, dd "moved_state" st_moved_state, dd "is_weights_item" st_is_weights_item, dd "caps_error" st_caps_error, dd "watched_sum" st_watched_sum, dd "cap_slack" st_cap_slack, dd "does_keep" st_does_keep, dd "cap_changes" st_cap_changes, dd "breaking_steps" st_breaking_steps, dd "_law_draw" st__law_draw, dd "_law_pick" st__law_pick, dd "_law_sum" st__law_sum, dd "_law_change" st__law_change, dd "_law_is_let" st__law_is_let]
def fg0 : List He.Fa := [.glo "_law_bag", .glo "is_number", .glo "is_within", .glo "are_numbers", .glo "is_let", .glo "let_steps", .glo "change_of", .glo "moved_state", .glo "is_weights_item", .glo "caps_error", .glo "watched_sum", .glo "cap_slack", .glo "does_keep", .glo "cap_changes", .glo "breaking_steps", .glo "_law_draw", .glo "_law_pick", .glo "_law_sum", .glo "_law_change", .glo "_law_is_let"]
def fn1 : List He.DefD := [dd "_law_done" st__law_done, dd "_law_keeps" st__law_keeps, dd "_law_tokens" st__law_tokens, dd "_law_state" st__law_state, dd "_law_row" st__law_row, dd "_law_net" st__law_net, dd "_law_caps" st__law_caps, dd "_law_breaking" st__law_breaking, dd "_law_are_sums_right" st__law_are_sums_right, dd "_law_are_changes_right" st__law_are_changes_right, dd "_law_some_states" st__law_some_states, dd "_law_whole" st__law_whole, dd "_law_word" st__law_word, dd "_law_is_word_right" st__law_is_word_right, dd "_law_any" st__law_any, dd "_law_items" st__law_items, dd "_law_values" st__law_values, dd "_law_made" st__law_made, dd "law" st_law]
def fg1 : List He.Fa := [.glo "_law_done", .glo "_law_keeps", .glo "_law_tokens", .glo "_law_state", .glo "_law_row", .glo "_law_net", .glo "_law_caps", .glo "_law_breaking", .glo "_law_are_sums_right", .glo "_law_are_changes_right", .glo "_law_some_states", .glo "_law_whole", .glo "_law_word", .glo "_law_is_word_right", .glo "_law_any", .glo "_law_items", .glo "_law_values", .glo "_law_made", .glo "law"]
def fn : List He.DefD := fn0 ++ fn1
def fc : List He.Fa := [.int "MAX_WEIGHT" 9, .int "MAX_TOKENS" 1000000000, .int "MAX_CAPS" 3]
def fr : List He.Fa := FR.map He.Fa.free
def fa : List He.Fa := fg0 ++ fg1 ++ (fc ++ fr)
def lo0 : List Str := ["MAX_WEIGHT", "MAX_TOKENS", "MAX_CAPS", "is_number", "is_within", "are_numbers", "is_let", "let_steps", "change_of", "moved_state", "is_weights_item", "caps_error", "watched_sum", "cap_slack", "does_keep", "cap_changes", "breaking_steps", "_law_bag", "_law_draw", "_law_pick"]
def lo1 : List Str := ["_law_sum", "_law_change", "_law_is_let", "_law_done", "_law_keeps", "_law_tokens", "_law_state", "_law_row", "_law_net", "_law_caps", "_law_breaking", "_law_are_sums_right", "_law_are_changes_right", "_law_some_states", "_law_whole", "_law_word", "_law_is_word_right", "_law_any", "_law_items", "_law_values"]
def lo2 : List Str := ["_law_made"]
def lo : List Str := lo0 ++ lo1 ++ lo2
abbrev R : PySem.W.OpenRow := PySem.W.OpenLaw.row PySem.Challenge.rw_tokensteps_k77_whole_watched_sums
abbrev hk : PySem.W.Hook := hook2 4 fa fn
def ob (s : PySem.W.SharedT) : He.AlD × Bool := obs2 4 fa fn (HandSHeadRun.getT s)
theorem ob_eq (s : PySem.W.SharedT) : ob s = hk.obs s.abs := obs2_eq (HandSHeadRun.getT_eq s)
theorem run (w : World) : HandSHeadRun.RunEq R (PySem.W.view R.prog [44]) hk ob 4000 lo w := by
  intro os
  kernel_rfl
/-- what the top has left -/
structure Kk (W : Wd) : Prop where
  c : He.SaysD fa fn W.K
  h : ∃ h : Heap, W.K.In h ∧ h.Ns mainGlobals W.mg
  wk : Wk W
theorem dn {W : Wd} (k : Kk W) (i : Nat) (x : Str) (st : Stmt) (h1 : fn[i]? = some (dd x st)) (h2 : fa[i]? = some (.glo x)) : ∃ fd, Dn W x st (He.ga W.K x) fd := by
  obtain ⟨h, kin, gns⟩ := k.h
  obtain ⟨fd, F⟩ := k.c.def_ i h1
  exact ⟨fd, F, He.glo_ok kin gns (k.c.fact i h2)⟩
theorem gi_MAX_WEIGHT {W : Wd} (k : Kk W) : ∃ t, W.mg "MAX_WEIGHT" = some (.int 9 t) := by
  obtain ⟨h, kin, gns⟩ := k.h
  exact He.int_ok kin gns (k.c.fact 39 (f := .int "MAX_WEIGHT" 9) (by kernel_rfl))
theorem gi_MAX_TOKENS {W : Wd} (k : Kk W) : ∃ t, W.mg "MAX_TOKENS" = some (.int 1000000000 t) := by
  obtain ⟨h, kin, gns⟩ := k.h
  exact He.int_ok kin gns (k.c.fact 40 (f := .int "MAX_TOKENS" 1000000000) (by kernel_rfl))
theorem gi_MAX_CAPS {W : Wd} (k : Kk W) : ∃ t, W.mg "MAX_CAPS" = some (.int 3 t) := by
  obtain ⟨h, kin, gns⟩ := k.h
  exact He.int_ok kin gns (k.c.fact 41 (f := .int "MAX_CAPS" 3) (by kernel_rfl))
theorem sc__law_bag : FnScope N__law_bag ["script"] (defScope st__law_bag) := ⟨rfl, rfl, rfl, by decide +kernel, rfl, by decide +kernel, by decide +kernel⟩
theorem c__law_bag {W : Wd} {ns : List Int} (k : Kk W) (hp : ∃ pot, potOf ns = some pot) : CalBag W ns (potOf ns) 1 := by
  obtain ⟨pot, hp⟩ := hp
  obtain ⟨fd, D⟩ := dn k 0 "_law_bag" st__law_bag (by kernel_rfl) (by kernel_rfl)
  rw [hp]
  refine CalBag.of D.F D.hm (FunD.bindsN D.F fun _ _ _ _ _ _ us hl => match us, hl with | [_], _ => rfl) sc__law_bag k.wk (fun X q => b__law_bag q) ?_
  unfold potOf at hp
  split at hp
  · rename_i ρ hr
    exact ⟨ρ, hr, hp⟩
  · cases hp
theorem sc_is_number : FnScope N_is_number ["value"] (defScope st_is_number) := ⟨rfl, rfl, rfl, by decide +kernel, rfl, by decide +kernel, by decide +kernel⟩
theorem c_is_number {W : Wd} {ns : List Int} (k : Kk W) : Cal (BB W ns) W.P W.w W.K W.mg W.bs 1 "is_number" ["value"] s_is_number := by
  obtain ⟨fd, D⟩ := dn k 1 "is_number" st_is_number (by kernel_rfl) (by kernel_rfl)
  exact Cal.of D.F D.hm (FunD.bindsN D.F fun _ _ _ _ _ _ us hl => match us, hl with | [_], _ => rfl) sc_is_number k.wk fun X q => b_is_number q 
theorem sc_is_within : FnScope N_is_within ["value", "low", "high"] (defScope st_is_within) := ⟨rfl, rfl, rfl, by decide +kernel, rfl, by decide +kernel, by decide +kernel⟩
theorem c_is_within {W : Wd} {ns : List Int} (k : Kk W) : Cal (BB W ns) W.P W.w W.K W.mg W.bs 2 "is_within" ["value", "low", "high"] s_is_within := by
  obtain ⟨fd, D⟩ := dn k 2 "is_within" st_is_within (by kernel_rfl) (by kernel_rfl)
  exact Cal.of D.F D.hm (FunD.bindsN D.F fun _ _ _ _ _ _ us hl => match us, hl with | [_, _, _], _ => rfl) sc_is_within k.wk fun X q => b_is_within q (c_is_number k)
theorem sc_are_numbers : FnScope N_are_numbers ["value", "many", "low", "high"] (defScope st_are_numbers) := ⟨rfl, rfl, rfl, by decide +kernel, rfl, by decide +kernel, by decide +kernel⟩
theorem c_are_numbers {W : Wd} {ns : List Int} (k : Kk W) : Cal (BB W ns) W.P W.w W.K W.mg W.bs 3 "are_numbers" ["value", "many", "low", "high"] s_are_numbers := by
  obtain ⟨fd, D⟩ := dn k 3 "are_numbers" st_are_numbers (by kernel_rfl) (by kernel_rfl)
  exact Cal.of D.F D.hm (FunD.bindsN D.F fun _ _ _ _ _ _ us hl => match us, hl with | [_, _, _, _], _ => rfl) sc_are_numbers k.wk fun X q => b_are_numbers q (c_is_within k)
theorem sc_is_let : FnScope N_is_let ["net", "state", "k"] (defScope st_is_let) := ⟨rfl, rfl, rfl, by decide +kernel, rfl, by decide +kernel, by decide +kernel⟩
theorem c_is_let {W : Wd} {ns : List Int} (k : Kk W) : Cal (BB W ns) W.P W.w W.K W.mg W.bs 1 "is_let" ["net", "state", "k"] s_is_let := by
  obtain ⟨fd, D⟩ := dn k 4 "is_let" st_is_let (by kernel_rfl) (by kernel_rfl)
  exact Cal.of D.F D.hm (FunD.bindsN D.F fun _ _ _ _ _ _ us hl => match us, hl with | [_, _, _], _ => rfl) sc_is_let k.wk fun X q => b_is_let q 
theorem sc_let_steps : FnScope N_let_steps ["net", "state"] (defScope st_let_steps) := ⟨rfl, rfl, rfl, by decide +kernel, rfl, by decide +kernel, by decide +kernel⟩
theorem c_let_steps {W : Wd} {ns : List Int} (k : Kk W) : Cal (BB W ns) W.P W.w W.K W.mg W.bs 2 "let_steps" ["net", "state"] s_let_steps := by
  obtain ⟨fd, D⟩ := dn k 5 "let_steps" st_let_steps (by kernel_rfl) (by kernel_rfl)
  exact Cal.of D.F D.hm (FunD.bindsN D.F fun _ _ _ _ _ _ us hl => match us, hl with | [_, _], _ => rfl) sc_let_steps k.wk fun X q => b_let_steps q (c_is_let k)
theorem sc_change_of : FnScope N_change_of ["net", "k"] (defScope st_change_of) := ⟨rfl, rfl, rfl, by decide +kernel, rfl, by decide +kernel, by decide +kernel⟩
theorem c_change_of {W : Wd} {ns : List Int} (k : Kk W) : Cal (BB W ns) W.P W.w W.K W.mg W.bs 1 "change_of" ["net", "k"] s_change_of := by
  obtain ⟨fd, D⟩ := dn k 6 "change_of" st_change_of (by kernel_rfl) (by kernel_rfl)
  exact Cal.of D.F D.hm (FunD.bindsN D.F fun _ _ _ _ _ _ us hl => match us, hl with | [_, _], _ => rfl) sc_change_of k.wk fun X q => b_change_of q 
theorem sc_moved_state : FnScope N_moved_state ["state", "change"] (defScope st_moved_state) := ⟨rfl, rfl, rfl, by decide +kernel, rfl, by decide +kernel, by decide +kernel⟩
theorem c_moved_state {W : Wd} {ns : List Int} (k : Kk W) : Cal (BB W ns) W.P W.w W.K W.mg W.bs 1 "moved_state" ["state", "change"] s_moved_state := by
  obtain ⟨fd, D⟩ := dn k 7 "moved_state" st_moved_state (by kernel_rfl) (by kernel_rfl)
  exact Cal.of D.F D.hm (FunD.bindsN D.F fun _ _ _ _ _ _ us hl => match us, hl with | [_, _], _ => rfl) sc_moved_state k.wk fun X q => b_moved_state q 
theorem sc_is_weights_item : FnScope N_is_weights_item ["m", "value"] (defScope st_is_weights_item) := ⟨rfl, rfl, rfl, by decide +kernel, rfl, by decide +kernel, by decide +kernel⟩
theorem c_is_weights_item {W : Wd} {ns : List Int} (k : Kk W) : Cal (BB W ns) W.P W.w W.K W.mg W.bs 4 "is_weights_item" ["m", "value"] s_is_weights_item := by
  obtain ⟨fd, D⟩ := dn k 8 "is_weights_item" st_is_weights_item (by kernel_rfl) (by kernel_rfl)
  exact Cal.of D.F D.hm (FunD.bindsN D.F fun _ _ _ _ _ _ us hl => match us, hl with | [_, _], _ => rfl) sc_is_weights_item k.wk fun X q => b_is_weights_item q (gi_MAX_WEIGHT k) (c_are_numbers k)
theorem sc_caps_error : FnScope N_caps_error ["m", "value"] (defScope st_caps_error) := ⟨rfl, rfl, rfl, by decide +kernel, rfl, by decide +kernel, by decide +kernel⟩
theorem c_caps_error {W : Wd} {ns : List Int} (k : Kk W) : Cal (BB W ns) W.P W.w W.K W.mg W.bs 5 "caps_error" ["m", "value"] s_caps_error := by
  obtain ⟨fd, D⟩ := dn k 9 "caps_error" st_caps_error (by kernel_rfl) (by kernel_rfl)
  exact Cal.of D.F D.hm (FunD.bindsN D.F fun _ _ _ _ _ _ us hl => match us, hl with | [_, _], _ => rfl) sc_caps_error k.wk fun X q => b_caps_error q (gi_MAX_TOKENS k) (gi_MAX_CAPS k) (c_is_within k) (c_is_weights_item k)
theorem k_caps_error__value_m {W : Wd} {ns : List Int} (k : Kk W) : CalK (BB W ns) W.P W.w W.K W.mg W.bs 5 "caps_error" ["m", "value"] ["value", "m"] gp_caps_error__value_m s_caps_error := by
  obtain ⟨fd, D⟩ := dn k 9 "caps_error" st_caps_error (by kernel_rfl) (by kernel_rfl)
  exact ⟨⟨_, fd, fn_keep D.F sc_caps_error k.wk (fun X q => b_caps_error q (gi_MAX_TOKENS k) (gi_MAX_CAPS k) (c_is_within k) (c_is_weights_item k)), D.hm, D.F.kp, kbnd D (fun r => gpAt_vals [1, 0] r) fun _ _ _ _ _ _ ws hl => match ws, hl with | [_, _], _ => rfl⟩, fun l z h => gpAt_mem [1, 0] l z h, fun l h => gpAt_len [1, 0] rfl l h, fun _ r => gpAt_slots [1, 0] r⟩
theorem sc_watched_sum : FnScope N_watched_sum ["weights", "row"] (defScope st_watched_sum) := ⟨rfl, rfl, rfl, by decide +kernel, rfl, by decide +kernel, by decide +kernel⟩
theorem c_watched_sum {W : Wd} {ns : List Int} (k : Kk W) : Cal (BB W ns) W.P W.w W.K W.mg W.bs 1 "watched_sum" ["weights", "row"] s_watched_sum := by
  obtain ⟨fd, D⟩ := dn k 10 "watched_sum" st_watched_sum (by kernel_rfl) (by kernel_rfl)
  exact Cal.of D.F D.hm (FunD.bindsN D.F fun _ _ _ _ _ _ us hl => match us, hl with | [_, _], _ => rfl) sc_watched_sum k.wk fun X q => b_watched_sum q 
theorem sc_cap_slack : FnScope N_cap_slack ["caps", "state"] (defScope st_cap_slack) := ⟨rfl, rfl, rfl, by decide +kernel, rfl, by decide +kernel, by decide +kernel⟩
theorem c_cap_slack {W : Wd} {ns : List Int} (k : Kk W) : Cal (BB W ns) W.P W.w W.K W.mg W.bs 2 "cap_slack" ["caps", "state"] s_cap_slack := by
  obtain ⟨fd, D⟩ := dn k 11 "cap_slack" st_cap_slack (by kernel_rfl) (by kernel_rfl)
  exact Cal.of D.F D.hm (FunD.bindsN D.F fun _ _ _ _ _ _ us hl => match us, hl with | [_, _], _ => rfl) sc_cap_slack k.wk fun X q => b_cap_slack q (c_watched_sum k)
theorem k_cap_slack__state_caps {W : Wd} {ns : List Int} (k : Kk W) : CalK (BB W ns) W.P W.w W.K W.mg W.bs 2 "cap_slack" ["caps", "state"] ["state", "caps"] gp_cap_slack__state_caps s_cap_slack := by
  obtain ⟨fd, D⟩ := dn k 11 "cap_slack" st_cap_slack (by kernel_rfl) (by kernel_rfl)
  exact ⟨⟨_, fd, fn_keep D.F sc_cap_slack k.wk (fun X q => b_cap_slack q (c_watched_sum k)), D.hm, D.F.kp, kbnd D (fun r => gpAt_vals [1, 0] r) fun _ _ _ _ _ _ ws hl => match ws, hl with | [_, _], _ => rfl⟩, fun l z h => gpAt_mem [1, 0] l z h, fun l h => gpAt_len [1, 0] rfl l h, fun _ r => gpAt_slots [1, 0] r⟩
theorem sc_does_keep : FnScope N_does_keep ["caps", "state"] (defScope st_does_keep) := ⟨rfl, rfl, rfl, by decide +kernel, rfl, by decide +kernel, by decide +kernel⟩
theorem c_does_keep {W : Wd} {ns : List Int} (k : Kk W) : Cal (BB W ns) W.P W.w W.K W.mg W.bs 3 "does_keep" ["caps", "state"] s_does_keep := by
  obtain ⟨fd, D⟩ := dn k 12 "does_keep" st_does_keep (by kernel_rfl) (by kernel_rfl)
  exact Cal.of D.F D.hm (FunD.bindsN D.F fun _ _ _ _ _ _ us hl => match us, hl with | [_, _], _ => rfl) sc_does_keep k.wk fun X q => b_does_keep q (c_cap_slack k)
theorem k_does_keep__state_caps {W : Wd} {ns : List Int} (k : Kk W) : CalK (BB W ns) W.P W.w W.K W.mg W.bs 3 "does_keep" ["caps", "state"] ["state", "caps"] gp_does_keep__state_caps s_does_keep := by
  obtain ⟨fd, D⟩ := dn k 12 "does_keep" st_does_keep (by kernel_rfl) (by kernel_rfl)
  exact ⟨⟨_, fd, fn_keep D.F sc_does_keep k.wk (fun X q => b_does_keep q (c_cap_slack k)), D.hm, D.F.kp, kbnd D (fun r => gpAt_vals [1, 0] r) fun _ _ _ _ _ _ ws hl => match ws, hl with | [_, _], _ => rfl⟩, fun l z h => gpAt_mem [1, 0] l z h, fun l h => gpAt_len [1, 0] rfl l h, fun _ r => gpAt_slots [1, 0] r⟩
theorem sc_cap_changes : FnScope N_cap_changes ["net", "caps", "k"] (defScope st_cap_changes) := ⟨rfl, rfl, rfl, by decide +kernel, rfl, by decide +kernel, by decide +kernel⟩
theorem c_cap_changes {W : Wd} {ns : List Int} (k : Kk W) : Cal (BB W ns) W.P W.w W.K W.mg W.bs 2 "cap_changes" ["net", "caps", "k"] s_cap_changes := by
  obtain ⟨fd, D⟩ := dn k 13 "cap_changes" st_cap_changes (by kernel_rfl) (by kernel_rfl)
  exact Cal.of D.F D.hm (FunD.bindsN D.F fun _ _ _ _ _ _ us hl => match us, hl with | [_, _, _], _ => rfl) sc_cap_changes k.wk fun X q => b_cap_changes q (c_watched_sum k) (c_change_of k)
theorem k_cap_changes__k_caps_net {W : Wd} {ns : List Int} (k : Kk W) : CalK (BB W ns) W.P W.w W.K W.mg W.bs 2 "cap_changes" ["net", "caps", "k"] ["k", "caps", "net"] gp_cap_changes__k_caps_net s_cap_changes := by
  obtain ⟨fd, D⟩ := dn k 13 "cap_changes" st_cap_changes (by kernel_rfl) (by kernel_rfl)
  exact ⟨⟨_, fd, fn_keep D.F sc_cap_changes k.wk (fun X q => b_cap_changes q (c_watched_sum k) (c_change_of k)), D.hm, D.F.kp, kbnd D (fun r => gpAt_vals [2, 1, 0] r) fun _ _ _ _ _ _ ws hl => match ws, hl with | [_, _, _], _ => rfl⟩, fun l z h => gpAt_mem [2, 1, 0] l z h, fun l h => gpAt_len [2, 1, 0] rfl l h, fun _ r => gpAt_slots [2, 1, 0] r⟩
theorem sc_breaking_steps : FnScope N_breaking_steps ["net", "caps", "state"] (defScope st_breaking_steps) := ⟨rfl, rfl, rfl, by decide +kernel, rfl, by decide +kernel, by decide +kernel⟩
theorem c_breaking_steps {W : Wd} {ns : List Int} (k : Kk W) : Cal (BB W ns) W.P W.w W.K W.mg W.bs 4 "breaking_steps" ["net", "caps", "state"] s_breaking_steps := by
  obtain ⟨fd, D⟩ := dn k 14 "breaking_steps" st_breaking_steps (by kernel_rfl) (by kernel_rfl)
  exact Cal.of D.F D.hm (FunD.bindsN D.F fun _ _ _ _ _ _ us hl => match us, hl with | [_, _, _], _ => rfl) sc_breaking_steps k.wk fun X q => b_breaking_steps q (c_does_keep k) (c_moved_state k) (c_change_of k) (c_let_steps k)
theorem k_breaking_steps__state_caps_net {W : Wd} {ns : List Int} (k : Kk W) : CalK (BB W ns) W.P W.w W.K W.mg W.bs 4 "breaking_steps" ["net", "caps", "state"] ["state", "caps", "net"] gp_breaking_steps__state_caps_net s_breaking_steps := by
  obtain ⟨fd, D⟩ := dn k 14 "breaking_steps" st_breaking_steps (by kernel_rfl) (by kernel_rfl)
  exact ⟨⟨_, fd, fn_keep D.F sc_breaking_steps k.wk (fun X q => b_breaking_steps q (c_does_keep k) (c_moved_state k) (c_change_of k) (c_let_steps k)), D.hm, D.F.kp, kbnd D (fun r => gpAt_vals [2, 1, 0] r) fun _ _ _ _ _ _ ws hl => match ws, hl with | [_, _, _], _ => rfl⟩, fun l z h => gpAt_mem [2, 1, 0] l z h, fun l h => gpAt_len [2, 1, 0] rfl l h, fun _ r => gpAt_slots [2, 1, 0] r⟩
theorem sc__law_draw : FnScope N__law_draw ["bag", "below"] (defScope st__law_draw) := ⟨rfl, rfl, rfl, by decide +kernel, rfl, by decide +kernel, by decide +kernel⟩
theorem c__law_draw {W : Wd} {ns : List Int} (k : Kk W) : Cal (BB W ns) W.P W.w W.K W.mg W.bs 1 "_law_draw" ["bag", "below"] s__law_draw := by
  obtain ⟨fd, D⟩ := dn k 15 "_law_draw" st__law_draw (by kernel_rfl) (by kernel_rfl)
  exact Cal.of D.F D.hm (FunD.bindsN D.F fun _ _ _ _ _ _ us hl => match us, hl with | [_, _], _ => rfl) sc__law_draw k.wk fun X q => b__law_draw q 
theorem sc__law_pick : FnScope N__law_pick ["bag", "some"] (defScope st__law_pick) := ⟨rfl, rfl, rfl, by decide +kernel, rfl, by decide +kernel, by decide +kernel⟩
theorem c__law_pick {W : Wd} {ns : List Int} (k : Kk W) : Cal (BB W ns) W.P W.w W.K W.mg W.bs 2 "_law_pick" ["bag", "some"] s__law_pick := by
  obtain ⟨fd, D⟩ := dn k 16 "_law_pick" st__law_pick (by kernel_rfl) (by kernel_rfl)
  exact Cal.of D.F D.hm (FunD.bindsN D.F fun _ _ _ _ _ _ us hl => match us, hl with | [_, _], _ => rfl) sc__law_pick k.wk fun X q => b__law_pick q (c__law_draw k)
theorem sc__law_sum : FnScope N__law_sum ["weights", "row"] (defScope st__law_sum) := ⟨rfl, rfl, rfl, by decide +kernel, rfl, by decide +kernel, by decide +kernel⟩
theorem c__law_sum {W : Wd} {ns : List Int} (k : Kk W) : Cal (BB W ns) W.P W.w W.K W.mg W.bs 1 "_law_sum" ["weights", "row"] s__law_sum := by
  obtain ⟨fd, D⟩ := dn k 17 "_law_sum" st__law_sum (by kernel_rfl) (by kernel_rfl)
  exact Cal.of D.F D.hm (FunD.bindsN D.F fun _ _ _ _ _ _ us hl => match us, hl with | [_, _], _ => rfl) sc__law_sum k.wk fun X q => b__law_sum q 
theorem sc__law_change : FnScope N__law_change ["step", "weights"] (defScope st__law_change) := ⟨rfl, rfl, rfl, by decide +kernel, rfl, by decide +kernel, by decide +kernel⟩
theorem c__law_change {W : Wd} {ns : List Int} (k : Kk W) : Cal (BB W ns) W.P W.w W.K W.mg W.bs 2 "_law_change" ["step", "weights"] s__law_change := by
  obtain ⟨fd, D⟩ := dn k 18 "_law_change" st__law_change (by kernel_rfl) (by kernel_rfl)
  exact Cal.of D.F D.hm (FunD.bindsN D.F fun _ _ _ _ _ _ us hl => match us, hl with | [_, _], _ => rfl) sc__law_change k.wk fun X q => b__law_change q (c__law_sum k)
theorem sc__law_is_let : FnScope N__law_is_let ["step", "state"] (defScope st__law_is_let) := ⟨rfl, rfl, rfl, by decide +kernel, rfl, by decide +kernel, by decide +kernel⟩
theorem c__law_is_let {W : Wd} {ns : List Int} (k : Kk W) : Cal (BB W ns) W.P W.w W.K W.mg W.bs 1 "_law_is_let" ["step", "state"] s__law_is_let := by
  obtain ⟨fd, D⟩ := dn k 19 "_law_is_let" st__law_is_let (by kernel_rfl) (by kernel_rfl)
  exact Cal.of D.F D.hm (FunD.bindsN D.F fun _ _ _ _ _ _ us hl => match us, hl with | [_, _], _ => rfl) sc__law_is_let k.wk fun X q => b__law_is_let q 
theorem sc__law_done : FnScope N__law_done ["step", "state"] (defScope st__law_done) := ⟨rfl, rfl, rfl, by decide +kernel, rfl, by decide +kernel, by decide +kernel⟩
theorem c__law_done {W : Wd} {ns : List Int} (k : Kk W) : Cal (BB W ns) W.P W.w W.K W.mg W.bs 1 "_law_done" ["step", "state"] s__law_done := by
  obtain ⟨fd, D⟩ := dn k 20 "_law_done" st__law_done (by kernel_rfl) (by kernel_rfl)
  exact Cal.of D.F D.hm (FunD.bindsN D.F fun _ _ _ _ _ _ us hl => match us, hl with | [_, _], _ => rfl) sc__law_done k.wk fun X q => b__law_done q 
theorem sc__law_keeps : FnScope N__law_keeps ["caps", "state"] (defScope st__law_keeps) := ⟨rfl, rfl, rfl, by decide +kernel, rfl, by decide +kernel, by decide +kernel⟩
theorem c__law_keeps {W : Wd} {ns : List Int} (k : Kk W) : Cal (BB W ns) W.P W.w W.K W.mg W.bs 2 "_law_keeps" ["caps", "state"] s__law_keeps := by
  obtain ⟨fd, D⟩ := dn k 21 "_law_keeps" st__law_keeps (by kernel_rfl) (by kernel_rfl)
  exact Cal.of D.F D.hm (FunD.bindsN D.F fun _ _ _ _ _ _ us hl => match us, hl with | [_, _], _ => rfl) sc__law_keeps k.wk fun X q => b__law_keeps q (c__law_sum k)
theorem sc__law_tokens : FnScope N__law_tokens ["bag", "kind"] (defScope st__law_tokens) := ⟨rfl, rfl, rfl, by decide +kernel, rfl, by decide +kernel, by decide +kernel⟩
theorem c__law_tokens {W : Wd} {ns : List Int} (k : Kk W) : Cal (BB W ns) W.P W.w W.K W.mg W.bs 2 "_law_tokens" ["bag", "kind"] s__law_tokens := by
  obtain ⟨fd, D⟩ := dn k 22 "_law_tokens" st__law_tokens (by kernel_rfl) (by kernel_rfl)
  exact Cal.of D.F D.hm (FunD.bindsN D.F fun _ _ _ _ _ _ us hl => match us, hl with | [_, _], _ => rfl) sc__law_tokens k.wk fun X q => b__law_tokens q (c__law_draw k)
theorem sc__law_state : FnScope N__law_state ["bag", "m"] (defScope st__law_state) := ⟨rfl, rfl, rfl, by decide +kernel, rfl, by decide +kernel, by decide +kernel⟩
theorem c__law_state {W : Wd} {ns : List Int} (k : Kk W) : Cal (BB W ns) W.P W.w W.K W.mg W.bs 3 "_law_state" ["bag", "m"] s__law_state := by
  obtain ⟨fd, D⟩ := dn k 23 "_law_state" st__law_state (by kernel_rfl) (by kernel_rfl)
  exact Cal.of D.F D.hm (FunD.bindsN D.F fun _ _ _ _ _ _ us hl => match us, hl with | [_, _], _ => rfl) sc__law_state k.wk fun X q => b__law_state q (c__law_tokens k) (c__law_draw k)
theorem sc__law_row : FnScope N__law_row ["bag", "m"] (defScope st__law_row) := ⟨rfl, rfl, rfl, by decide +kernel, rfl, by decide +kernel, by decide +kernel⟩
theorem c__law_row {W : Wd} {ns : List Int} (k : Kk W) : Cal (BB W ns) W.P W.w W.K W.mg W.bs 3 "_law_row" ["bag", "m"] s__law_row := by
  obtain ⟨fd, D⟩ := dn k 24 "_law_row" st__law_row (by kernel_rfl) (by kernel_rfl)
  exact Cal.of D.F D.hm (FunD.bindsN D.F fun _ _ _ _ _ _ us hl => match us, hl with | [_, _], _ => rfl) sc__law_row k.wk fun X q => b__law_row q (c__law_draw k) (c__law_pick k)
theorem sc__law_net : FnScope N__law_net ["bag", "m", "state", "many"] (defScope st__law_net) := ⟨rfl, rfl, rfl, by decide +kernel, rfl, by decide +kernel, by decide +kernel⟩
theorem c__law_net {W : Wd} {ns : List Int} (k : Kk W) : Cal (BB W ns) W.P W.w W.K W.mg W.bs 4 "_law_net" ["bag", "m", "state", "many"] s__law_net := by
  obtain ⟨fd, D⟩ := dn k 25 "_law_net" st__law_net (by kernel_rfl) (by kernel_rfl)
  exact Cal.of D.F D.hm (FunD.bindsN D.F fun _ _ _ _ _ _ us hl => match us, hl with | [_, _, _, _], _ => rfl) sc__law_net k.wk fun X q => b__law_net q (c__law_draw k) (c__law_row k)
theorem sc__law_caps : FnScope N__law_caps ["bag", "m", "net", "state", "many"] (defScope st__law_caps) := ⟨rfl, rfl, rfl, by decide +kernel, rfl, by decide +kernel, by decide +kernel⟩
theorem c__law_caps {W : Wd} {ns : List Int} (k : Kk W) : Cal (BB W ns) W.P W.w W.K W.mg W.bs 4 "_law_caps" ["bag", "m", "net", "state", "many"] s__law_caps := by
  obtain ⟨fd, D⟩ := dn k 26 "_law_caps" st__law_caps (by kernel_rfl) (by kernel_rfl)
  exact Cal.of D.F D.hm (FunD.bindsN D.F fun _ _ _ _ _ _ us hl => match us, hl with | [_, _, _, _, _], _ => rfl) sc__law_caps k.wk fun X q => b__law_caps q (c__law_change k) (c__law_pick k) (c__law_draw k) (c__law_tokens k) (c__law_sum k) (c__law_row k)
theorem sc__law_breaking : FnScope N__law_breaking ["net", "caps", "state"] (defScope st__law_breaking) := ⟨rfl, rfl, rfl, by decide +kernel, rfl, by decide +kernel, by decide +kernel⟩
theorem c__law_breaking {W : Wd} {ns : List Int} (k : Kk W) : Cal (BB W ns) W.P W.w W.K W.mg W.bs 3 "_law_breaking" ["net", "caps", "state"] s__law_breaking := by
  obtain ⟨fd, D⟩ := dn k 27 "_law_breaking" st__law_breaking (by kernel_rfl) (by kernel_rfl)
  exact Cal.of D.F D.hm (FunD.bindsN D.F fun _ _ _ _ _ _ us hl => match us, hl with | [_, _, _], _ => rfl) sc__law_breaking k.wk fun X q => b__law_breaking q (c__law_keeps k) (c__law_done k) (c__law_is_let k)
theorem sc__law_are_sums_right : FnScope N__law_are_sums_right ["net", "caps", "state"] (defScope st__law_are_sums_right) := ⟨rfl, rfl, rfl, by decide +kernel, rfl, by decide +kernel, by decide +kernel⟩
theorem c__law_are_sums_right {W : Wd} {ns : List Int} (k : Kk W) : Cal (BB W ns) W.P W.w W.K W.mg W.bs 5 "_law_are_sums_right" ["net", "caps", "state"] s__law_are_sums_right := by
  obtain ⟨fd, D⟩ := dn k 28 "_law_are_sums_right" st__law_are_sums_right (by kernel_rfl) (by kernel_rfl)
  exact Cal.of D.F D.hm (FunD.bindsN D.F fun _ _ _ _ _ _ us hl => match us, hl with | [_, _, _], _ => rfl) sc__law_are_sums_right k.wk fun X q => b__law_are_sums_right q (c_breaking_steps k) (c_cap_slack k) (c_does_keep k) (c__law_breaking k) (c__law_keeps k) (c__law_sum k) (k_breaking_steps__state_caps_net k) (k_cap_slack__state_caps k) (k_does_keep__state_caps k)
theorem sc__law_are_changes_right : FnScope N__law_are_changes_right ["net", "caps"] (defScope st__law_are_changes_right) := ⟨rfl, rfl, rfl, by decide +kernel, rfl, by decide +kernel, by decide +kernel⟩
theorem c__law_are_changes_right {W : Wd} {ns : List Int} (k : Kk W) : Cal (BB W ns) W.P W.w W.K W.mg W.bs 3 "_law_are_changes_right" ["net", "caps"] s__law_are_changes_right := by
  obtain ⟨fd, D⟩ := dn k 29 "_law_are_changes_right" st__law_are_changes_right (by kernel_rfl) (by kernel_rfl)
  exact Cal.of D.F D.hm (FunD.bindsN D.F fun _ _ _ _ _ _ us hl => match us, hl with | [_, _], _ => rfl) sc__law_are_changes_right k.wk fun X q => b__law_are_changes_right q (c_cap_changes k) (c__law_change k) (k_cap_changes__k_caps_net k)
theorem sc__law_some_states : FnScope N__law_some_states ["bag", "m", "net", "state"] (defScope st__law_some_states) := ⟨rfl, rfl, rfl, by decide +kernel, rfl, by decide +kernel, by decide +kernel⟩
theorem c__law_some_states {W : Wd} {ns : List Int} (k : Kk W) : Cal (BB W ns) W.P W.w W.K W.mg W.bs 4 "_law_some_states" ["bag", "m", "net", "state"] s__law_some_states := by
  obtain ⟨fd, D⟩ := dn k 30 "_law_some_states" st__law_some_states (by kernel_rfl) (by kernel_rfl)
  exact Cal.of D.F D.hm (FunD.bindsN D.F fun _ _ _ _ _ _ us hl => match us, hl with | [_, _, _, _], _ => rfl) sc__law_some_states k.wk fun X q => b__law_some_states q (c__law_state k) (c__law_draw k) (c__law_pick k) (c__law_done k) (c__law_is_let k)
theorem sc__law_whole : FnScope N__law_whole ["value", "most"] (defScope st__law_whole) := ⟨rfl, rfl, rfl, by decide +kernel, rfl, by decide +kernel, by decide +kernel⟩
theorem c__law_whole {W : Wd} {ns : List Int} (k : Kk W) : Cal (BB W ns) W.P W.w W.K W.mg W.bs 1 "_law_whole" ["value", "most"] s__law_whole := by
  obtain ⟨fd, D⟩ := dn k 31 "_law_whole" st__law_whole (by kernel_rfl) (by kernel_rfl)
  exact Cal.of D.F D.hm (FunD.bindsN D.F fun _ _ _ _ _ _ us hl => match us, hl with | [_, _], _ => rfl) sc__law_whole k.wk fun X q => b__law_whole q 
theorem sc__law_word : FnScope N__law_word ["m", "value"] (defScope st__law_word) := ⟨rfl, rfl, rfl, by decide +kernel, rfl, by decide +kernel, by decide +kernel⟩
theorem c__law_word {W : Wd} {ns : List Int} (k : Kk W) : Cal (BB W ns) W.P W.w W.K W.mg W.bs 2 "_law_word" ["m", "value"] s__law_word := by
  obtain ⟨fd, D⟩ := dn k 32 "_law_word" st__law_word (by kernel_rfl) (by kernel_rfl)
  exact Cal.of D.F D.hm (FunD.bindsN D.F fun _ _ _ _ _ _ us hl => match us, hl with | [_, _], _ => rfl) sc__law_word k.wk fun X q => b__law_word q (c__law_whole k)
theorem sc__law_is_word_right : FnScope N__law_is_word_right ["m", "value"] (defScope st__law_is_word_right) := ⟨rfl, rfl, rfl, by decide +kernel, rfl, by decide +kernel, by decide +kernel⟩
theorem c__law_is_word_right {W : Wd} {ns : List Int} (k : Kk W) : Cal (BB W ns) W.P W.w W.K W.mg W.bs 6 "_law_is_word_right" ["m", "value"] s__law_is_word_right := by
  obtain ⟨fd, D⟩ := dn k 33 "_law_is_word_right" st__law_is_word_right (by kernel_rfl) (by kernel_rfl)
  exact Cal.of D.F D.hm (FunD.bindsN D.F fun _ _ _ _ _ _ us hl => match us, hl with | [_, _], _ => rfl) sc__law_is_word_right k.wk fun X q => b__law_is_word_right q (c_caps_error k) (c__law_word k) (k_caps_error__value_m k)
theorem sc__law_any : FnScope N__law_any ["bag", "deep"] (defScope st__law_any) := ⟨rfl, rfl, rfl, by decide +kernel, rfl, by decide +kernel, by decide +kernel⟩
theorem c__law_any {W : Wd} {ns : List Int} (k : Kk W) : Cal (BB W ns) W.P W.w W.K W.mg W.bs 10 "_law_any" ["bag", "deep"] (s__law_any 8) := by
  obtain ⟨fd, D⟩ := dn k 34 "_law_any" st__law_any (by kernel_rfl) (by kernel_rfl)
  exact Cal.recur (k := 2) D.F D.hm (FunD.bindsN D.F fun _ _ _ _ _ _ us hl => match us, hl with | [_, _], _ => rfl) sc__law_any k.wk (fun j self X hj C q => b__law_any q hj (c__law_draw k) (c__law_pick k) C) 8
theorem sc__law_items : FnScope N__law_items ["bag", "m", "cap"] (defScope st__law_items) := ⟨rfl, rfl, rfl, by decide +kernel, rfl, by decide +kernel, by decide +kernel⟩
theorem c__law_items {W : Wd} {ns : List Int} (k : Kk W) : Cal (BB W ns) W.P W.w W.K W.mg W.bs 11 "_law_items" ["bag", "m", "cap"] s__law_items := by
  obtain ⟨fd, D⟩ := dn k 35 "_law_items" st__law_items (by kernel_rfl) (by kernel_rfl)
  exact Cal.of D.F D.hm (FunD.bindsN D.F fun _ _ _ _ _ _ us hl => match us, hl with | [_, _, _], _ => rfl) sc__law_items k.wk fun X q => b__law_items q (c__law_any k) (c__law_pick k) (c__law_draw k)
theorem sc__law_values : FnScope N__law_values ["bag", "m", "caps"] (defScope st__law_values) := ⟨rfl, rfl, rfl, by decide +kernel, rfl, by decide +kernel, by decide +kernel⟩
theorem c__law_values {W : Wd} {ns : List Int} (k : Kk W) : Cal (BB W ns) W.P W.w W.K W.mg W.bs 12 "_law_values" ["bag", "m", "caps"] s__law_values := by
  obtain ⟨fd, D⟩ := dn k 36 "_law_values" st__law_values (by kernel_rfl) (by kernel_rfl)
  exact Cal.of D.F D.hm (FunD.bindsN D.F fun _ _ _ _ _ _ us hl => match us, hl with | [_, _, _], _ => rfl) sc__law_values k.wk fun X q => b__law_values q (c__law_draw k) (c__law_any k) (c__law_items k) (c__law_pick k) (c__law_tokens k) (c__law_row k)
theorem sc__law_made : FnScope N__law_made ["bag"] (defScope st__law_made) := ⟨rfl, rfl, rfl, by decide +kernel, rfl, by decide +kernel, by decide +kernel⟩
theorem c__law_made {W : Wd} {ns : List Int} (k : Kk W) : Cal (BB W ns) W.P W.w W.K W.mg W.bs 4 "_law_made" ["bag"] s__law_made := by
  obtain ⟨fd, D⟩ := dn k 37 "_law_made" st__law_made (by kernel_rfl) (by kernel_rfl)
  exact Cal.of D.F D.hm (FunD.bindsN D.F fun _ _ _ _ _ _ us hl => match us, hl with | [_], _ => rfl) sc__law_made k.wk fun X q => b__law_made q (c__law_pick k) (c__law_draw k) (c__law_row k) (c__law_state k)
theorem sc_law : FnScope N_law ["script"] (defScope st_law) := ⟨rfl, rfl, rfl, by decide +kernel, rfl, by decide +kernel, by decide +kernel⟩
theorem c_law {W : Wd} {ns : List Int} (k : Kk W) (hp : ∃ pot, potOf ns = some pot) : Cal (BB W ns) W.P W.w W.K W.mg W.bs 13 "law" ["script"] (s_law ns) := by
  obtain ⟨fd, D⟩ := dn k 38 "law" st_law (by kernel_rfl) (by kernel_rfl)
  exact Cal.of D.F D.hm (FunD.bindsN D.F fun _ _ _ _ _ _ us hl => match us, hl with | [_], _ => rfl) sc_law k.wk fun X q => b_law q (c_breaking_steps k) (c__law_is_word_right k) (c__law_values k) (c__law_are_changes_right k) (c__law_are_sums_right k) (c__law_some_states k) (c__law_breaking k) (c__law_made k) (c__law_caps k) (c__law_pick k) (c__law_net k) (c__law_state k) (c__law_bag k hp)
theorem g_law {W : Wd} {ns : List Int} {f : Addr} {fd : FuncData} (k : Kk W) (hp : ∃ pot, potOf ns = some pot) (F : FunD W.K "law" "law" (defArgs st_law) (defBody st_law) (defScope st_law) [] [] f fd) : FnG W.P W.w W.K W.mg W.bs 13 f fd ["script"] (spOf (BB W ns) 1 (s_law ns)) := fn_keep F sc_law k.wk fun X q => b_law q (c_breaking_steps k) (c__law_is_word_right k) (c__law_values k) (c__law_are_changes_right k) (c__law_are_sums_right k) (c__law_some_states k) (c__law_breaking k) (c__law_made k) (c__law_caps k) (c__law_pick k) (c__law_net k) (c__law_state k) (c__law_bag k hp)
theorem free_of {K : PySem.W.Frag} {h : Heap} {mg : Str → Option Value} (c : He.SaysD fa fn K) (X : K.In h) (G : h.Ns mainGlobals mg) {x : Str} (hx : x ∈ FR) : mg x = none := by
  have hm : He.Fa.free x ∈ fa := List.mem_append_right _ (List.mem_append_right _ (List.mem_map_of_mem hx))
  obtain ⟨i, hi⟩ := List.getElem?_of_mem hm
  exact He.free_ok X G (c.fact i hi)
end K77
open PySem PySem.W PySem.Calls PyProof.Rows
theorem K77.holds_of (plain : ∀ ns : List Int, ns.length ≤ 63 → (∃ pot, K77.potOf ns = some pot) ∧ ∃ g', K77.s_law ns [.scr] none = some (.ok (.bool true) g')) : PySem.Challenge.rw_tokensteps_k77_whole_watched_sums.Holds := by
  w_on; o_law
  refine HandSHeadRun.head_any (r := OpenLaw.row PySem.Challenge.rw_tokensteps_k77_whole_watched_sums) (q := view (OpenLaw.row PySem.Challenge.rw_tokensteps_k77_whole_watched_sums).prog [44]) (H := K77.hk) (ob := K77.ob) (M := 4000) (loose := K77.lo) (d := HandSHeadRun.topDef (OpenLaw.row PySem.Challenge.rw_tokensteps_k77_whole_watched_sums).prog 44) (kwd := []) K77.ob_eq
    (by kernel_rfl) (fun s => by kernel_rfl) K77.run (by kernel_rfl) (by kernel_rfl) (by kernel_rfl) (by rfl) (by first | assumption | decide +kernel) (by decide +kernel) ⟨rfl, rfl, rfl, rfl, rfl, by decide +kernel⟩ ?hw ?hc
  case hw => w_witness2
  case hc =>
    refine Kd.walkG (l := PySem.Challenge.rw_tokensteps_k77_whole_watched_sums) (n := 63) (k := 13) (x := "script") rfl (by decide) (by kernel_rfl) ⟨rfl, by decide, by decide⟩ (fun w h ⟨K, hK, c, r⟩ => r) ?F
    intro w mg fa h ns hlen Y G hmg0
    obtain ⟨K, KX, c, _⟩ := Y
    have hmg : mg ("law" : PySem.Str) = some (.ref fa) := by
      have e : (HandSHeadRun.topDef (OpenLaw.row PySem.Challenge.rw_tokensteps_k77_whole_watched_sums).prog 44).name = ("law" : PySem.Str) := by kernel_rfl
      rw [← e]
      exact hmg0
    obtain ⟨hp, g', hg'⟩ := plain ns hlen
    obtain ⟨fd0, F0⟩ := c.def_ 38 (d := K77.dd "law" K77.st_law) (by kernel_rfl)
    have eg := hmg.symm.trans (He.glo_ok KX G (c.fact 38 (f := .glo "law") (by kernel_rfl)))
    cases eg
    have hb := L2.FunD.bindsA (ps := ["script"]) F0 fun _ _ _ _ _ _ us hl => match us, hl with | [_], _ => rfl
    refine ⟨K, fd0, Kd.spOf (Kd.BB ⟨PySem.Challenge.rw_tokensteps_k77_whole_watched_sums.prog, w, K, mg, h⟩ ns) 1 (K77.s_law ns), KX, fun s u => hb s [u] rfl, fun H a hO hS => Kd.spScr (W := ⟨PySem.Challenge.rw_tokensteps_k77_whole_watched_sums.prog, w, K, mg, h⟩) hO hS hg', fun bs KB GB sy => ?_⟩
    exact K77.g_law (W := ⟨PySem.Challenge.rw_tokensteps_k77_whole_watched_sums.prog, w, K, mg, bs⟩) ⟨c, ⟨h, KX, G⟩, ⟨fun x hx => K77.free_of c KX G hx, sy⟩⟩ hp F0

end part_K77B
theorem PySem.Challenge.cw_tokensteps_k77_whole_watched_sums_holds : PySem.Challenge.rw_tokensteps_k77_whole_watched_sums.Holds :=
  K77.holds_of K77.law_true
