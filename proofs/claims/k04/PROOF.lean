import PyProof.Rows.All
import Wide.All
import OpenK.AllK
import Wide.FinOn
import HandS.ForMost
import HandS.Deep
import HandS.IsInst
import HandS.More
import HandS.RevRange
import HandS.Strs
import PySem.Challenge.RW_regionsay_k04_choices_led
set_option Elab.async false
set_option linter.all false
set_option maxRecDepth 100000
set_option maxHeartbeats 4000000
namespace RG
open PySem PySem.Spec PyProof.Rows L2

/-! deep values, and how a value of the heap stands for one; F: the cells of its lists, dicts and instances -/
inductive D where
  | non
  | bl (b : Bool)
  | int (i : Int)
  | str (x : Str)
  | tup (xs : List D)
  | lst (xs : List D)
  | scr (ns : List Int)
  | dK (kvs : List (Key × D))
  | dT (kvs : List (List Key × D))
  | ins (C : Addr) (fs : List (Str × D))

def MutO : HO → Prop
  | .lst _ => True
  | .dK _ => True
  | .dT _ => True
  | .ins _ _ _ => True
  | _ => False

/-- a list that is never written: the script, or one of the written part -/
def Scr (K : PySem.W.Frag) (H : Hp) (a : Addr) (xs : List V) : Prop :=
  (∃ o, H a = some (.frz o (.lst xs))) ∨
    ∃ (o : Obj) (its : Array Value) (n : Nat), K.lookup a = some o ∧ o.cls = .type "list" ∧ o.dict = none ∧ o.data = .seq its n ∧ its.size ≤ sizeLine ∧ Vals xs its.toList
theorem Scr.sq {K : PySem.W.Frag} {H : Hp} {a : Addr} {xs : List V} (h : Scr K H a xs) : SqL K H a xs := by
  rcases h with ⟨o, h⟩ | h
  · exact .inl (.inr ⟨o, h⟩)
  · exact .inr h

mutual
inductive Rep (K : PySem.W.Frag) (H : Hp) : V → D → List Addr → Prop
  | non : Rep K H .non .non []
  | bl (b : Bool) : Rep K H (.bl b) (.bl b) []
  | int (i : Int) : Rep K H (.int i) (.int i) []
  | str (x : Str) : Rep K H (.str x) (.str x) []
  | tup {a : Addr} {vs : List V} {ds : List D} {F : List Addr} : SqT K H a vs → (vs.length = 8 ∨ H a = some (.tup vs)) → vs.length ≤ sizeLine → RepL K H vs ds F → Rep K H (.ref a) (.tup ds) F
  | lst {a : Addr} {vs : List V} {ds : List D} {F : List Addr} : H a = some (.lst vs) → vs.length ≤ sizeLine → RepL K H vs ds F → Rep K H (.ref a) (.lst ds) (a :: F)
  | scr {a : Addr} {ns : List Int} : Scr K H a (ns.map V.int) → ns.length ≤ sizeLine → Rep K H (.ref a) (.scr ns) []
  | dK {a : Addr} {kvs : List (Key × V)} {ds : List (Key × D)} : H a = some (.dK kvs) → kvs.length ≤ sizeLine → kvs.map (·.1) = ds.map (·.1) →
      RepL K H (kvs.map (·.2)) (ds.map (·.2)) [] → Rep K H (.ref a) (.dK ds) [a]
  | dT {a : Addr} {kvs : List (List Key × V)} {ds : List (List Key × D)} : H a = some (.dT kvs) → kvs.length ≤ sizeLine → kvs.map (·.1) = ds.map (·.1) →
      RepL K H (kvs.map (·.2)) (ds.map (·.2)) [] → Rep K H (.ref a) (.dT ds) [a]
  | ins {a C dx : Addr} {kvs : List (Str × V)} {ds : List (Str × D)} {F : List Addr} : H a = some (.ins C dx kvs) → kvs.map (·.1) = ds.map (·.1) →
      RepL K H (kvs.map (·.2)) (ds.map (·.2)) F → Rep K H (.ref a) (.ins C ds) (a :: F)
inductive RepL (K : PySem.W.Frag) (H : Hp) : List V → List D → List Addr → Prop
  | nil : RepL K H [] [] []
  | cons {v : V} {vs : List V} {d : D} {ds : List D} {F F' : List Addr} : Rep K H v d F → RepL K H vs ds F' → RepL K H (v :: vs) (d :: ds) (F ++ F')
end

/-- all that stood stands, but for what may be written at the cells of S -/
def Ext (S : Addr → Prop) (H H' : Hp) : Prop := ∀ a o, H a = some o → (¬ S a ∨ ¬ MutO o) → H' a = some o
theorem Ext.mono {S S' : Addr → Prop} {H H' : Hp} (x : Ext S H H') (h : ∀ a, S a → S' a) : Ext S' H H' := fun a o e n =>
  x a o e (n.elim (fun z => .inl fun q => z (h a q)) .inr)
theorem Ext.trans {S : Addr → Prop} {H H' H'' : Hp} (x : Ext S H H') (y : Ext S H' H'') : Ext S H H'' := fun a o e n => y a o (x a o e n) n
theorem ext_same {S : Addr → Prop} {H H' : Hp} (h : Same H H') : Ext S H H' := fun a o e _ => h a o e
theorem same_upd {H : Hp} {p : Addr} {o : HO} (hp : H p = none) : Same H (upd H p o) := fun b u e => by
  rw [upd_ne (ne_of_none e hp)]; exact e
theorem ext_upd {H : Hp} {p : Addr} {o : HO} {S : Addr → Prop} (hp : S p) {u : HO} (hu : H p = some u) (hm : MutO u) : Ext S H (upd H p o) := fun b w e n => by
  by_cases hb : b = p
  · subst hb
    rw [hu] at e; cases e
    rcases n with n | n
    · exact absurd hp n
    · exact absurd hm n
  · rw [upd_ne hb]; exact e

section
variable {K : PySem.W.Frag} {H H' : Hp}
theorem Ext.sqT {S : Addr → Prop} (x : Ext S H H') {a : Addr} {vs : List V} (h : SqT K H a vs) : SqT K H' a vs := by
  rcases h with (h | ⟨o, h⟩) | h
  · exact .inl (.inl (x a _ h (.inr id)))
  · exact .inl (.inr ⟨o, x a _ h (.inr id)⟩)
  · exact .inr h
theorem Ext.scr {S : Addr → Prop} (x : Ext S H H') {a : Addr} {vs : List V} (h : Scr K H a vs) : Scr K H' a vs := by
  rcases h with ⟨o, h⟩ | h
  · exact .inl ⟨o, x a _ h (.inr id)⟩
  · exact .inr h
mutual
theorem Rep.ext {S : Addr → Prop} (x : Ext S H H') : ∀ {v : V} {d : D} {F : List Addr}, Rep K H v d F → (∀ a ∈ F, ¬ S a) → Rep K H' v d F
  | _, _, _, .non, _ => .non
  | _, _, _, .bl b, _ => .bl b
  | _, _, _, .int b, _ => .int b
  | _, _, _, .str b, _ => .str b
  | _, _, _, .tup h y z r, n => .tup (x.sqT h) (y.imp_right fun q => x _ _ q (.inr id)) z (RepL.ext x r n)
  | _, _, _, .lst h z r, n => .lst (x _ _ h (.inl (n _ List.mem_cons_self))) z (RepL.ext x r fun a m => n a (List.mem_cons_of_mem _ m))
  | _, _, _, .scr h z, _ => .scr (x.scr h) z
  | _, _, _, .dK h z k r, n => .dK (x _ _ h (.inl (n _ List.mem_cons_self))) z k (RepL.ext x r fun a m => (nomatch m))
  | _, _, _, .dT h z k r, n => .dT (x _ _ h (.inl (n _ List.mem_cons_self))) z k (RepL.ext x r fun a m => (nomatch m))
  | _, _, _, .ins h k r, n => .ins (x _ _ h (.inl (n _ List.mem_cons_self))) k (RepL.ext x r fun a m => n a (List.mem_cons_of_mem _ m))
theorem RepL.ext {S : Addr → Prop} (x : Ext S H H') : ∀ {v : List V} {d : List D} {F : List Addr}, RepL K H v d F → (∀ a ∈ F, ¬ S a) → RepL K H' v d F
  | _, _, _, .nil, _ => .nil
  | _, _, _, .cons h r, n => .cons (Rep.ext x h fun a m => n a (List.mem_append_left _ m)) (RepL.ext x r fun a m => n a (List.mem_append_right _ m))
end
theorem Rep.same (x : Same H H') {v : V} {d : D} {F : List Addr} (r : Rep K H v d F) : Rep K H' v d F := r.ext (S := fun _ => False) (ext_same x) fun _ _ z => z
theorem RepL.same (x : Same H H') {v : List V} {d : List D} {F : List Addr} (r : RepL K H v d F) : RepL K H' v d F := r.ext (S := fun _ => False) (ext_same x) fun _ _ z => z
mutual
theorem Rep.dom : ∀ {v : V} {d : D} {F : List Addr}, Rep K H v d F → ∀ a ∈ F, ∃ o, H a = some o ∧ MutO o
  | _, _, _, .non, _, m => nomatch m
  | _, _, _, .bl b, _, m => nomatch m
  | _, _, _, .int b, _, m => nomatch m
  | _, _, _, .str b, _, m => nomatch m
  | _, _, _, .tup h y z r, a, m => RepL.dom r a m
  | _, _, _, .lst h z r, a, m => by
    rcases List.mem_cons.mp m with rfl | m
    · exact ⟨_, h, trivial⟩
    · exact RepL.dom r a m
  | _, _, _, .scr h z, _, m => nomatch m
  | _, _, _, .dK h z k r, a, m => by
    rcases List.mem_cons.mp m with rfl | m
    · exact ⟨_, h, trivial⟩
    · cases m
  | _, _, _, .dT h z k r, a, m => by
    rcases List.mem_cons.mp m with rfl | m
    · exact ⟨_, h, trivial⟩
    · cases m
  | _, _, _, .ins h k r, a, m => by
    rcases List.mem_cons.mp m with rfl | m
    · exact ⟨_, h, trivial⟩
    · exact RepL.dom r a m
theorem RepL.dom : ∀ {v : List V} {d : List D} {F : List Addr}, RepL K H v d F → ∀ a ∈ F, ∃ o, H a = some o ∧ MutO o
  | _, _, _, .nil, _, m => nomatch m
  | _, _, _, .cons h r, a, m => by
    rcases List.mem_append.mp m with m | m
    · exact Rep.dom h a m
    · exact RepL.dom r a m
end
theorem RepL.length : ∀ {v : List V} {d : List D} {F : List Addr}, RepL K H v d F → v.length = d.length
  | _, _, _, .nil => rfl
  | _, _, _, .cons _ r => congrArg (· + 1) r.length
theorem RepL.append : ∀ {v v' : List V} {d d' : List D} {F F' : List Addr}, RepL K H v d F → RepL K H v' d' F' → RepL K H (v ++ v') (d ++ d') (F ++ F')
  | _, _, _, _, _, _, .nil, s => s
  | _, _, _, _, _, _, .cons h r, s => by rw [List.append_assoc]; exact .cons h (r.append s)
theorem RepL.one {v : V} {d : D} {F : List Addr} (h : Rep K H v d F) : RepL K H [v] [d] F := by
  have := RepL.cons h (.nil (K := K) (H := H))
  rwa [List.append_nil] at this
/-- an item, and what stands before and behind it -/
theorem RepL.split : ∀ {vs : List V} {ds : List D} {F : List Addr} {i : Nat} {d : D}, RepL K H vs ds F → ds[i]? = some d →
    ∃ v F1 F2 F3, F = F1 ++ F2 ++ F3 ∧ vs[i]? = some v ∧ Rep K H v d F2 ∧ RepL K H (vs.take i) (ds.take i) F1 ∧ RepL K H (vs.drop (i + 1)) (ds.drop (i + 1)) F3
  | _, _, _, _, _, .nil, e => by simp at e
  | _, _, _, 0, _, .cons (v := v) (F := F) (F' := F') h r, e => by
    simp at e; subst e
    exact ⟨v, [], F, F', by simp, rfl, h, .nil, r⟩
  | _, _, _, i + 1, _, .cons (v := v) (F := F) (F' := F') h r, e => by
    obtain ⟨u, F1, F2, F3, e1, e2, e3, e4, e5⟩ := r.split (i := i) (by simpa using e)
    exact ⟨u, F ++ F1, F2, F3, by rw [e1]; simp, by simpa using e2, e3, by simpa using RepL.cons h e4, by simpa using e5⟩
theorem RepL.get {vs : List V} {ds : List D} {F : List Addr} {i : Nat} {d : D} (h : RepL K H vs ds F) (e : ds[i]? = some d) :
    ∃ v F2, (∀ a ∈ F2, a ∈ F) ∧ (F.Nodup → F2.Nodup) ∧ vs[i]? = some v ∧ Rep K H v d F2 := by
  obtain ⟨v, F1, F2, F3, e1, e2, e3, _, _⟩ := h.split e
  subst e1
  refine ⟨v, F2, fun a m => by simp [m], fun n => ?_, e2, e3⟩
  exact (List.nodup_append.mp (List.nodup_append.mp n).1).2.1
theorem RepL.getV {vs : List V} {ds : List D} {F : List Addr} {i : Nat} {v : V} (h : RepL K H vs ds F) (e : vs[i]? = some v) :
    ∃ d F2, (∀ a ∈ F2, a ∈ F) ∧ (F.Nodup → F2.Nodup) ∧ ds[i]? = some d ∧ Rep K H v d F2 := by
  have hi : i < vs.length := (List.getElem?_eq_some_iff.mp e).1
  have hi' : i < ds.length := by rw [← h.length]; exact hi
  obtain ⟨u, F2, h1, h2, h3, h4⟩ := h.get (i := i) (d := ds[i]) (by simp [hi'])
  rw [e] at h3; cases h3
  exact ⟨_, F2, h1, h2, by simp [hi'], h4⟩
theorem RepL.take : ∀ {vs : List V} {ds : List D} {F : List Addr} (i : Nat), RepL K H vs ds F → ∃ F1, F1.Sublist F ∧ RepL K H (vs.take i) (ds.take i) F1
  | _, _, _, 0, h => ⟨[], List.nil_sublist _, .nil⟩
  | _, _, _, i + 1, .nil => ⟨[], List.nil_sublist _, .nil⟩
  | _, _, _, i + 1, .cons h r => by
    obtain ⟨F1, s, q⟩ := r.take i
    exact ⟨_, (List.Sublist.refl _).append s, .cons h q⟩
theorem RepL.drop : ∀ {vs : List V} {ds : List D} {F : List Addr} (i : Nat), RepL K H vs ds F → ∃ F1, F1.Sublist F ∧ RepL K H (vs.drop i) (ds.drop i) F1
  | _, _, _, 0, h => ⟨_, List.Sublist.refl _, h⟩
  | _, _, _, i + 1, .nil => ⟨[], List.nil_sublist _, .nil⟩
  | _, _, _, i + 1, .cons h r => by
    obtain ⟨F1, s, q⟩ := r.drop i
    exact ⟨F1, s.trans (List.sublist_append_right _ _), q⟩
end

mutual
/-- no list, dict, instance within -/
def D.flat : D → Bool
  | .non => true
  | .bl _ => true
  | .int _ => true
  | .str _ => true
  | .tup xs => D.flats xs
  | .scr _ => true
  | _ => false
def D.flats : List D → Bool
  | [] => true
  | d :: ds => d.flat && D.flats ds
end
section
variable {K : PySem.W.Frag} {H H' : Hp}
mutual
theorem Rep.flat : ∀ {v : V} {d : D} {F : List Addr}, Rep K H v d F → d.flat = true → F = []
  | _, _, _, .non, _ => rfl
  | _, _, _, .bl b, _ => rfl
  | _, _, _, .int b, _ => rfl
  | _, _, _, .str b, _ => rfl
  | _, _, _, .tup h y z r, e => RepL.flats r (by unfold D.flat at e; exact e)
  | _, _, _, .lst h z r, e => by unfold D.flat at e; cases e
  | _, _, _, .scr h z, _ => rfl
  | _, _, _, .dK h z k r, e => by unfold D.flat at e; cases e
  | _, _, _, .dT h z k r, e => by unfold D.flat at e; cases e
  | _, _, _, .ins h k r, e => by unfold D.flat at e; cases e
theorem RepL.flats : ∀ {v : List V} {d : List D} {F : List Addr}, RepL K H v d F → D.flats d = true → F = []
  | _, _, _, .nil, _ => rfl
  | _, _, _, .cons h r, e => by
    unfold D.flats at e
    rw [Bool.and_eq_true] at e
    rw [Rep.flat h e.1, RepL.flats r e.2, List.append_nil]
end
end
theorem D.flats_iff : ∀ {ds : List D}, D.flats ds = true ↔ ∀ d ∈ ds, d.flat = true
  | [] => by simp [D.flats]
  | d :: ds => by
    unfold D.flats
    rw [Bool.and_eq_true, D.flats_iff]
    simp

/-! ### the state: slots and temporaries -/
inductive Tk where
  /-- its cells are new, none twice, and nobody else's -/
  | own
  /-- its cells are new, none twice, nobody's who writes -/
  | frz
  /-- its cells stood at the entry, nobody's who writes -/
  | old
  /-- its cells are nobody's who writes -/
  | val
  /-- its cells are no cells of the slots that expressions write -/
  | bor
  deriving DecidableEq
def Tk.nf : Tk → Bool
  | .own => true
  | .frz => true
  | _ => false
inductive S where
  | gone
  | io (d : D)
  | t (k : Tk) (d : D)
def S.d? : S → Option D
  | .gone => none
  | .io d => some d
  | .t _ d => some d
/-- its cells may be written through it -/
def S.wr : S → Bool
  | .io _ => true
  | .t .own _ => true
  | _ => false
def S.isBor : S → Bool
  | .t .bor _ => true
  | _ => false
def S.tree : S → Bool
  | .io _ => true
  | .t .own _ => true
  | .t .frz _ => true
  | _ => false

/-- no borrowed temporary -/
def NoBor (L : List S) : Prop := ∀ (j : Nat) (s : S), L[j]? = some s → s.isBor = false
/-- where one stands: the heap at the entry, the cells that each parameter handed in to be written had, the slots that expressions write, the number of slots -/
structure G where
  K : PySem.W.Frag
  H0 : Hp
  A0 : Nat → Addr → Prop
  W : List Nat
  n : Nat
  /-- what was handed in -/
  P : List V

structure Sim (g : G) (FS : Nat → List Addr) (L : List S) (VS : List (Option V)) (H : Hp) : Prop where
  len : L.length = VS.length
  rep : ∀ i s d, L[i]? = some s → s.d? = some d → ∃ v, VS[i]? = some (some v) ∧ Rep g.K H v d (FS i)
  nod : ∀ i s, L[i]? = some s → s.tree = true → (FS i).Nodup
  fr : ∀ (i : Nat) (k : Tk) (d : D), L[i]? = some (S.t k d) → k.nf = true → ∀ a ∈ FS i, g.H0 a = none
  od : ∀ (i : Nat) (d : D), L[i]? = some (S.t .old d) → ∀ a ∈ FS i, g.H0 a ≠ none
  fio : ∀ (i : Nat) (d : D), L[i]? = some (S.io d) → ∀ a ∈ FS i, g.A0 i a ∨ g.H0 a = none
  dis : ∀ i j s s', i ≠ j → L[i]? = some s → L[j]? = some s' → s.wr = true → s'.d?.isSome = true → (s'.isBor = true → i ∈ g.W ∨ g.n ≤ i) → ∀ a ∈ FS i, a ∉ FS j
  base : ∀ a o, g.H0 a = some o → ((∀ i, ¬ g.A0 i a) ∨ ¬ MutO o) → H a = some o
  dom : ∀ a, g.H0 a ≠ none → H a ≠ none
  sb : ∀ i s, L[i]? = some s → s.isBor = true → g.n ≤ i
  pv : ∀ (i : Nat) (d : D), L[i]? = some (S.io d) → ∃ v, g.P[i]? = some v ∧ VS[i]? = some (some v)
  wlt : ∀ i ∈ g.W, i < g.n

/-- F is fit for a new temporary of that kind -/
structure TOk (g : G) (FS : Nat → List Addr) (L : List S) (k : Tk) (F : List Addr) : Prop where
  tree : k.nf = true → F.Nodup ∧ ∀ a ∈ F, g.H0 a = none
  old : k = .old → ∀ a ∈ F, g.H0 a ≠ none
  excl : k = .own → ∀ j s, L[j]? = some s → s.d?.isSome = true → ∀ a ∈ F, a ∉ FS j
  shar : k ≠ .bor → ∀ j s, L[j]? = some s → s.wr = true → ∀ a ∈ F, a ∉ FS j
  bor : ∀ j s, L[j]? = some s → s.wr = true → j ∈ g.W ∨ g.n ≤ j → ∀ a ∈ F, a ∉ FS j

def setF (FS : Nat → List Addr) (i : Nat) (F : List Addr) : Nat → List Addr := fun j => if j = i then F else FS j
theorem setF_same {FS : Nat → List Addr} {i : Nat} {F : List Addr} : setF FS i F i = F := by unfold setF; rw [if_pos rfl]
theorem setF_ne {FS : Nat → List Addr} {i j : Nat} {F : List Addr} (h : j ≠ i) : setF FS i F j = FS j := by unfold setF; rw [if_neg h]

section
variable {g : G} {FS : Nat → List Addr} {L : List S} {VS : List (Option V)} {H H' : Hp}
theorem S.some_of_wr {s : S} (h : s.wr = true) : s.d?.isSome = true := by
  cases s with
  | gone => cases h
  | io d => rfl
  | t k d => rfl
theorem S.nb_of_wr {s : S} (h : s.wr = true) : s.isBor = false := by
  cases s with
  | gone => cases h
  | io d => rfl
  | t k d => cases k <;> first | rfl | cases h
theorem S.tree_of_wr {s : S} (h : s.wr = true) : s.tree = true := by
  cases s with
  | gone => cases h
  | io d => rfl
  | t k d => cases k <;> first | rfl | cases h
theorem S.some_of_tree {s : S} (h : s.tree = true) : s.d?.isSome = true := by
  cases s with
  | gone => cases h
  | io d => rfl
  | t k d => rfl
theorem TOk.nil (k : Tk) : TOk g FS L k [] := ⟨fun _ => ⟨.nil, fun _ m => (nomatch m)⟩, fun _ _ m => (nomatch m), fun _ _ _ _ _ _ m => (nomatch m), fun _ _ _ _ _ _ m => (nomatch m), fun _ _ _ _ _ _ m => (nomatch m)⟩
theorem TOk.sub {k : Tk} {F F' : List Addr} (t : TOk g FS L k F) (s : ∀ a ∈ F', a ∈ F) (n : F.Nodup → F'.Nodup) : TOk g FS L k F' :=
  ⟨fun e => ⟨n (t.tree e).1, fun a m => (t.tree e).2 a (s a m)⟩, fun e a m => t.old e a (s a m), fun e j u h1 h2 a m => t.excl e j u h1 h2 a (s a m), fun e j u h1 h2 a m => t.shar e j u h1 h2 a (s a m), fun j u h1 h2 h3 a m => t.bor j u h1 h2 h3 a (s a m)⟩
/-- a lesser kind -/
def Tk.le : Tk → Tk → Bool
  | .own, .old => false
  | .own, _ => true
  | .frz, .frz => true
  | .frz, .val => true
  | .frz, .bor => true
  | .old, .old => true
  | .old, .val => true
  | .old, .bor => true
  | .val, .val => true
  | .val, .bor => true
  | .bor, .bor => true
  | _, _ => false
theorem TOk.to {k k' : Tk} {F : List Addr} (t : TOk g FS L k F) (h : k.le k' = true) : TOk g FS L k' F := by
  refine ⟨fun e => t.tree ?_, fun e => t.old ?_, fun e => t.excl ?_, fun e => t.shar ?_, t.bor⟩
  all_goals (cases k <;> cases k' <;> first | rfl | exact absurd h (by decide) | exact absurd e (by decide) | decide)
theorem TOk.ofOwn {F : List Addr} (t : TOk g FS L .own F) (k : Tk) (hk : k ≠ .old) : TOk g FS L k F := t.to (by cases k <;> first | rfl | exact absurd rfl hk)
/-- cells that are new to the heap -/
theorem Sim.cells (h : Sim g FS L VS H) {j : Nat} {s : S} (e : L[j]? = some s) (hs : s.d?.isSome = true) : ∀ a ∈ FS j, ∃ o, H a = some o ∧ MutO o := by
  obtain ⟨d, hd⟩ := Option.isSome_iff_exists.mp hs
  obtain ⟨v, _, r⟩ := h.rep j s d e hd
  exact r.dom
theorem Sim.fr0 (h : Sim g FS L VS H) {a : Addr} (e : H a = none) : g.H0 a = none := by
  cases q : g.H0 a with
  | none => rfl
  | some o => exact absurd e (h.dom a (by rw [q]; exact fun z => (nomatch z)))
theorem Sim.new_ne (h : Sim g FS L VS H) {j : Nat} {s : S} {a : Addr} (e : H a = none) (ej : L[j]? = some s) (hs : s.d?.isSome = true) : a ∉ FS j := fun m => by
  obtain ⟨o, eo, _⟩ := h.cells ej hs a m
  rw [e] at eo; cases eo
theorem Sim.tokNew (h : Sim g FS L VS H) {F : List Addr} (hn : F.Nodup) (hF : ∀ a ∈ F, H a = none) : TOk g FS L .own F :=
  ⟨fun _ => ⟨hn, fun a m => h.fr0 (hF a m)⟩, fun z => (nomatch z), fun _ j s e hs a m => h.new_ne (hF a m) e hs, fun _ j s e hw a m => h.new_ne (hF a m) e (S.some_of_wr hw), fun j s e hw _ a m => h.new_ne (hF a m) e (S.some_of_wr hw)⟩
theorem Sim.same (h : Sim g FS L VS H) (x : Same H H') : Sim g FS L VS H' := by
  refine ⟨h.len, fun i s d e1 e2 => ?_, h.nod, h.fr, h.od, h.fio, h.dis, fun a o e n => x a o (h.base a o e n), fun a n => ?_, h.sb, h.pv, h.wlt⟩
  · obtain ⟨v, e, r⟩ := h.rep i s d e1 e2
    exact ⟨v, e, r.same x⟩
  · cases q : H a with
    | none => exact absurd q (h.dom a n)
    | some o => rw [x a o q]; exact fun z => nomatch z

theorem get_snoc {α : Type} {l : List α} {a s : α} {i : Nat} (e : (l ++ [a])[i]? = some s) : (i < l.length ∧ l[i]? = some s) ∨ (i = l.length ∧ s = a) := by
  by_cases h : i < l.length
  · rw [List.getElem?_append_left h] at e; exact .inl ⟨h, e⟩
  · rw [List.getElem?_append_right (Nat.le_of_not_lt h)] at e
    have : i - l.length = 0 := by
      cases q : i - l.length with
      | zero => rfl
      | succ k => rw [q] at e; simp at e
    rw [this] at e
    simp at e
    exact .inr ⟨by omega, e.symm⟩
theorem lt_of_get {α : Type} {l : List α} {s : α} {i : Nat} (e : l[i]? = some s) : i < l.length := (List.getElem?_eq_some_iff.mp e).1

/-- a temporary is put on top -/
theorem Sim.push (h : Sim g FS L VS H) {k : Tk} {d : D} {v : V} {F : List Addr} (r : Rep g.K H v d F) (t : TOk g FS L k F) (hl : k = .bor → g.n ≤ L.length) : Sim g (setF FS L.length F) (L ++ [.t k d]) (VS ++ [some v]) H := by
  have old : ∀ {i : Nat}, i < L.length → setF FS L.length F i = FS i := fun q => setF_ne (Nat.ne_of_lt q)
  refine ⟨by simp [h.len], fun i s d' e1 e2 => ?_, fun i s e1 e2 => ?_, fun i k' d' e hk => ?_, fun i d' e => ?_, fun i d' e => ?_, fun i j s s' hij e1 e2 w1 w2 w3 => ?_, h.base, h.dom, fun i s e1 e2 => ?_, fun i d' e => ?_, h.wlt⟩
  · rcases get_snoc e1 with ⟨q, e1⟩ | ⟨q, e1⟩
    · obtain ⟨u, e, r'⟩ := h.rep i s d' e1 e2
      exact ⟨u, by rw [List.getElem?_append_left (by rw [← h.len]; exact q)]; exact e, by rw [old q]; exact r'⟩
    · subst e1; subst q
      cases e2
      refine ⟨v, ?_, by rw [setF_same]; exact r⟩
      rw [h.len]; simp
  · rcases get_snoc e1 with ⟨q, e1⟩ | ⟨q, e1⟩
    · rw [old q]; exact h.nod i s e1 e2
    · subst e1; subst q
      rw [setF_same]
      exact (t.tree (by cases k <;> first | rfl | exact Bool.noConfusion e2)).1
  · rcases get_snoc e with ⟨q, e1⟩ | ⟨q, e1⟩
    · rw [old q]; exact h.fr i k' d' e1 hk
    · subst q
      cases e1
      rw [setF_same]; exact (t.tree hk).2
  · rcases get_snoc e with ⟨q, e1⟩ | ⟨q, e1⟩
    · rw [old q]; exact h.od i d' e1
    · subst q
      cases e1
      rw [setF_same]; exact t.old rfl
  · rcases get_snoc e with ⟨q, e1⟩ | ⟨q, e1⟩
    · rw [old q]; exact h.fio i d' e1
    · cases e1
  · rcases get_snoc e1 with ⟨q1, f1⟩ | ⟨q1, f1⟩ <;> rcases get_snoc e2 with ⟨q2, f2⟩ | ⟨q2, f2⟩
    · rw [old q1, old q2]; exact h.dis i j s s' hij f1 f2 w1 w2 w3
    · subst q2
      rw [old q1, setF_same]
      intro a m m'
      subst f2
      by_cases hb : k = .bor
      · subst hb
        exact t.bor i s f1 w1 (w3 rfl) a m' m
      · exact t.shar hb i s f1 w1 a m' m
    · subst q1
      rw [old q2, setF_same]
      intro a m
      subst f1
      cases k with
      | own => exact t.excl rfl j s' f2 w2 a m
      | _ => cases w1
    · exact absurd (q1.trans q2.symm) hij
  · rcases get_snoc e1 with ⟨q, e1⟩ | ⟨q, e1⟩
    · exact h.sb i s e1 e2
    · subst e1; subst q
      cases k with
      | bor => exact hl rfl
      | _ => cases e2
  · rcases get_snoc e with ⟨q, e1⟩ | ⟨q, e1⟩
    · obtain ⟨u, e2, e3⟩ := h.pv i d' e1
      exact ⟨u, e2, by rw [List.getElem?_append_left (by rw [← h.len]; exact q)]; exact e3⟩
    · cases e1
theorem Sim.pop {s : S} {x : Option V} (h : Sim g FS (L ++ [s]) (VS ++ [x]) H) : Sim g FS L VS H := by
  have hl : L.length = VS.length := by simpa using h.len
  have up : ∀ {i : Nat} {s' : S}, L[i]? = some s' → (L ++ [s])[i]? = some s' := fun e => by rw [List.getElem?_append_left (lt_of_get e)]; exact e
  refine ⟨hl, fun i s' d e1 e2 => ?_, fun i s' e1 => h.nod i s' (up e1), fun i k d e => h.fr i k d (up e), fun i d e => h.od i d (up e), fun i d e => h.fio i d (up e), fun i j s' s'' hij e1 e2 => h.dis i j s' s'' hij (up e1) (up e2), h.base, h.dom, fun i s' e1 => h.sb i s' (up e1), fun i d e1 => ?_, h.wlt⟩
  · obtain ⟨v, e, r⟩ := h.rep i s' d (up e1) e2
    refine ⟨v, ?_, r⟩
    rw [List.getElem?_append_left (by rw [← hl]; exact lt_of_get e1)] at e
    exact e
  · obtain ⟨v, e2, e3⟩ := h.pv i d (up e1)
    rw [List.getElem?_append_left (by rw [← hl]; exact lt_of_get e1)] at e3
    exact ⟨v, e2, e3⟩
theorem Tk.tree {k : Tk} {d : D} (h : k.nf = true) : (S.t k d).tree = true := by cases k <;> first | rfl | cases h
/-- an entry that is no slot handed in, against the others -/
theorem Sim.tok (h : Sim g FS L VS H) {i : Nat} {k : Tk} {d : D} (e : L[i]? = some (.t k d)) (hb : k ≠ .own ∨ NoBor L ∨ i ∈ g.W ∨ g.n ≤ i) {L' : List S} (up : ∀ {j : Nat} {s : S}, L'[j]? = some s → s.d?.isSome = true → j ≠ i ∧ L[j]? = some s) : TOk g FS L' k (FS i) := by
  refine ⟨fun z => ⟨h.nod i _ e (Tk.tree z), h.fr i k d e z⟩, fun z => ?_, fun z j s ej hs a m => ?_, fun z j s ej hw a m m' => ?_, fun j s ej hw hj a m m' => ?_⟩
  · subst z; exact h.od i d e
  · subst z
    obtain ⟨n, ej⟩ := up ej hs
    refine h.dis i j _ s (Ne.symm n) e ej rfl hs (fun q => ?_) a m
    rcases hb with z | z | z
    · exact absurd rfl z
    · rw [z j s ej] at q; cases q
    · exact z
  · obtain ⟨n, ej⟩ := up ej (S.some_of_wr hw)
    exact h.dis j i s _ n ej e hw rfl (fun q => by cases k <;> first | exact absurd rfl z | exact Bool.noConfusion q) a m' m
  · obtain ⟨n, ej⟩ := up ej (S.some_of_wr hw)
    exact h.dis j i s _ n ej e hw rfl (fun _ => hj) a m' m
theorem Sim.top {k : Tk} {d : D} {x : Option V} (h : Sim g FS (L ++ [.t k d]) (VS ++ [x]) H) (hn : g.n ≤ L.length) : ∃ v, x = some v ∧ Rep g.K H v d (FS L.length) ∧ TOk g FS L k (FS L.length) := by
  have hl : L.length = VS.length := by simpa using h.len
  have et : (L ++ [S.t k d])[L.length]? = some (.t k d) := by simp
  have hb : k ≠ .own ∨ NoBor (L ++ [S.t k d]) ∨ L.length ∈ g.W ∨ g.n ≤ L.length := .inr (.inr (.inr hn))
  obtain ⟨v, e, r⟩ := h.rep _ _ d et rfl
  refine ⟨v, ?_, r, h.tok et hb fun ej _ => ⟨Nat.ne_of_lt (lt_of_get ej), by rw [List.getElem?_append_left (lt_of_get ej)]; exact ej⟩⟩
  rw [hl] at e
  simpa using e
end

/-! ### several temporaries -/
def Tk.join : Tk → Tk → Tk
  | .own, .own => .own
  | .old, .old => .old
  | .bor, _ => .bor
  | _, .bor => .bor
  | _, _ => .val
abbrev T := Tk × D
def T.s (t : T) : S := .t t.1 t.2
def kJoin : List T → Tk
  | [] => .own
  | [t] => t.1
  | t :: ts => t.1.join (kJoin ts)
def Tk.apart : Tk → Tk → Bool
  | .own, .own => true
  | _, _ => false
section
variable {g : G} {FS : Nat → List Addr} {L : List S} {VS : List (Option V)} {H H' : Hp}
theorem TOk.join {k k' : Tk} {F F' : List Addr} (t : TOk g FS L k F) (t' : TOk g FS L k' F') (hd : k.apart k' = true → ∀ a ∈ F', a ∉ F) : TOk g FS L (k.join k') (F ++ F') := by
  refine ⟨fun e => ?_, fun e a m => ?_, fun e j s e1 e2 a m => ?_, fun e j s e1 e2 a m => ?_, fun j s e1 e2 e3 a m => ?_⟩
  · have h1 : k.nf = true := by cases k <;> cases k' <;> first | rfl | exact absurd e (by decide)
    have h2 : k'.nf = true := by cases k <;> cases k' <;> first | rfl | exact absurd e (by decide)
    have h3 : k.apart k' = true := by cases k <;> cases k' <;> first | rfl | exact absurd e (by decide)
    obtain ⟨n, f⟩ := t.tree h1
    obtain ⟨n', f'⟩ := t'.tree h2
    refine ⟨List.nodup_append.mpr ⟨n, n', fun a m b m' q => hd h3 b m' (q ▸ m)⟩, fun a m => ?_⟩
    rcases List.mem_append.mp m with m | m
    · exact f a m
    · exact f' a m
  · have h1 : k = .old := by cases k <;> cases k' <;> first | rfl | exact absurd e (by decide)
    have h2 : k' = .old := by cases k <;> cases k' <;> first | rfl | exact absurd e (by decide)
    rcases List.mem_append.mp m with m | m
    · exact t.old h1 a m
    · exact t'.old h2 a m
  · have h1 : k = .own := by cases k <;> cases k' <;> first | rfl | exact absurd e (by decide)
    have h2 : k' = .own := by cases k <;> cases k' <;> first | rfl | exact absurd e (by decide)
    rcases List.mem_append.mp m with m | m
    · exact t.excl h1 j s e1 e2 a m
    · exact t'.excl h2 j s e1 e2 a m
  · have h1 : k ≠ .bor := fun z => e (by subst z; rfl)
    have h2 : k' ≠ .bor := fun z => e (by subst z; cases k <;> rfl)
    rcases List.mem_append.mp m with m | m
    · exact t.shar h1 j s e1 e2 a m
    · exact t'.shar h2 j s e1 e2 a m
  · rcases List.mem_append.mp m with m | m
    · exact t.bor j s e1 e2 e3 a m
    · exact t'.bor j s e1 e2 e3 a m
theorem Sim.tops : ∀ {ts : List T} {vs : List V} {L : List S} {VS : List (Option V)}, Sim g FS (L ++ ts.map T.s) (VS ++ vs.map some) H → ts.length = vs.length → g.n ≤ L.length →
    ∃ F, Sim g FS L VS H ∧ RepL g.K H vs (ts.map (·.2)) F ∧ TOk g FS L (kJoin ts) F
  | [], [], L, VS, h, _, _ => ⟨[], by simpa using h, .nil, TOk.nil _⟩
  | [t], [v], L, VS, h, e, hn => by
    have h' : Sim g FS (L ++ [S.t t.1 t.2]) (VS ++ [some v]) H := by simpa [T.s] using h
    obtain ⟨u, eu, r, tk⟩ := Sim.top h' hn
    cases eu
    exact ⟨_, h'.pop, RepL.one r, tk⟩
  | t :: t1 :: ts, v :: vs, L, VS, h, e, hn => by
    have h' : Sim g FS ((L ++ [t.s]) ++ (t1 :: ts).map T.s) ((VS ++ [some v]) ++ vs.map some) H := by simpa using h
    obtain ⟨F', h1, r', t'⟩ := Sim.tops h' (by simpa using e) (by rw [List.length_append]; omega)
    obtain ⟨u, eu, r, tk⟩ := Sim.top (k := t.1) (d := t.2) h1 hn
    cases eu
    have up : ∀ {i : Nat} {s' : S}, L[i]? = some s' → (L ++ [t.s])[i]? = some s' := fun e => by rw [List.getElem?_append_left (lt_of_get e)]; exact e
    have tw : TOk g FS L (kJoin (t1 :: ts)) F' := ⟨t'.tree, t'.old, fun e j s ej => t'.excl e j s (up ej), fun e j s ej => t'.shar e j s (up ej), fun j s ej => t'.bor j s (up ej)⟩
    have et : (L ++ [t.s])[L.length]? = some t.s := by simp
    refine ⟨FS L.length ++ F', h1.pop, .cons r r', tk.join tw fun hap => ?_⟩
    obtain ⟨z1, z2⟩ : t.1 = .own ∧ kJoin (t1 :: ts) = .own := by
      revert hap
      cases t.1 <;> cases kJoin (t1 :: ts) <;> intro hap <;> first | exact ⟨rfl, rfl⟩ | exact Bool.noConfusion hap
    exact t'.excl z2 _ _ et rfl
end

/-! ### slots -/
section
variable {g : G} {FS : Nat → List Addr} {L : List S} {VS : List (Option V)} {H H' : Hp}
theorem get_set {α : Type} {l : List α} {a s : α} {i j : Nat} (e : (l.set i a)[j]? = some s) : (j = i ∧ s = a ∧ i < l.length) ∨ (j ≠ i ∧ l[j]? = some s) := by
  by_cases h : j = i
  · subst h
    have hl : j < l.length := by have := lt_of_get e; simpa using this
    rw [List.getElem?_set_self hl] at e
    exact .inl ⟨rfl, (Option.some.inj e).symm, hl⟩
  · rw [List.getElem?_set_ne (Ne.symm h)] at e
    exact .inr ⟨h, e⟩
/-- a slot is forgotten -/
theorem Sim.drop (h : Sim g FS L VS H) (i : Nat) (x : Option V) : Sim g FS (L.set i .gone) (VS.set i x) H := by
  have up : ∀ {j : Nat} {s : S}, (L.set i .gone)[j]? = some s → s.d?.isSome = true → j ≠ i ∧ L[j]? = some s := fun e z => by
    rcases get_set e with ⟨_, e, _⟩ | e
    · subst e; cases z
    · exact e
  have vs : ∀ {j : Nat}, j ≠ i → (VS.set i x)[j]? = VS[j]? := fun n => List.getElem?_set_ne (Ne.symm n)
  refine ⟨by simp [h.len], fun j s d e1 e2 => ?_, fun j s e1 e2 => h.nod j s (up e1 (S.some_of_tree e2)).2 e2, fun j k d e => h.fr j k d (up e rfl).2, fun j d e => h.od j d (up e rfl).2, fun j d e => h.fio j d (up e rfl).2,
    fun j k s s' hij e1 e2 w1 w2 => h.dis j k s s' hij (up e1 (S.some_of_wr w1)).2 (up e2 w2).2 w1 w2, h.base, h.dom, fun j s e1 e2 => h.sb j s (up e1 ?_).2 e2, fun j d e => ?_, h.wlt⟩
  · obtain ⟨n, e⟩ := up e1 (by rw [e2]; rfl)
    rw [vs n]; exact h.rep j s d e e2
  · cases s with
    | gone => cases e2
    | io d => rfl
    | t k d => rfl
  · obtain ⟨n, e⟩ := up e rfl
    rw [vs n]; exact h.pv j d e
/-- an empty slot is filled -/
theorem Sim.fill (h : Sim g FS L VS H) {i : Nat} {k : Tk} {d : D} {v : V} {F : List Addr} (hi : i < L.length) (he : L[i]? = some .gone) (r : Rep g.K H v d F) (t : TOk g FS L k F) (hk : k ≠ .bor) (nb : NoBor L ∨ i ∉ g.W) : Sim g (setF FS i F) (L.set i (.t k d)) (VS.set i (some v)) H := by
  have hv : i < VS.length := by rw [← h.len]; exact hi
  have vs : ∀ {j : Nat}, j ≠ i → (VS.set i (some v))[j]? = VS[j]? := fun n => List.getElem?_set_ne (Ne.symm n)
  refine ⟨by simp [h.len], fun j s d' e1 e2 => ?_, fun j s e1 e2 => ?_, fun j k' d' e hk' => ?_, fun j d' e => ?_, fun j d' e => ?_, fun j l s s' hij e1 e2 w1 w2 w3 => ?_, h.base, h.dom, fun j s e1 e2 => ?_, fun j d' e => ?_, h.wlt⟩
  · rcases get_set e1 with ⟨q, f, _⟩ | ⟨q, f⟩
    · subst q; subst f; cases e2
      exact ⟨v, by rw [List.getElem?_set_self hv], by rw [setF_same]; exact r⟩
    · rw [vs q, setF_ne q]; exact h.rep j s d' f e2
  · rcases get_set e1 with ⟨q, f, _⟩ | ⟨q, f⟩
    · subst q; subst f
      rw [setF_same]
      exact (t.tree (by cases k <;> first | rfl | exact Bool.noConfusion e2)).1
    · rw [setF_ne q]; exact h.nod j s f e2
  · rcases get_set e with ⟨q, f, _⟩ | ⟨q, f⟩
    · subst q; cases f; rw [setF_same]; exact (t.tree hk').2
    · rw [setF_ne q]; exact h.fr j k' d' f hk'
  · rcases get_set e with ⟨q, f, _⟩ | ⟨q, f⟩
    · subst q; cases f; rw [setF_same]; exact t.old rfl
    · rw [setF_ne q]; exact h.od j d' f
  · rcases get_set e with ⟨q, f, _⟩ | ⟨q, f⟩
    · cases f
    · rw [setF_ne q]; exact h.fio j d' f
  · rcases get_set e1 with ⟨q1, f1, _⟩ | ⟨q1, f1⟩ <;> rcases get_set e2 with ⟨q2, f2, _⟩ | ⟨q2, f2⟩
    · exact absurd (q1.trans q2.symm) hij
    · subst q1; subst f1
      rw [setF_same, setF_ne q2]
      cases k with
      | own =>
        exact t.excl rfl l s' f2 w2
      | _ => cases w1
    · subst q2; subst f2
      rw [setF_same, setF_ne q1]
      exact fun a m m' => t.shar hk j s f1 w1 a m' m
    · rw [setF_ne q1, setF_ne q2]; exact h.dis j l s s' hij f1 f2 w1 w2 w3
  · rcases get_set e1 with ⟨q, f, _⟩ | ⟨q, f⟩
    · subst f
      cases k with
      | bor => exact absurd rfl hk
      | _ => cases e2
    · exact h.sb j s f e2
  · rcases get_set e with ⟨q, f, _⟩ | ⟨q, f⟩
    · cases f
    · rw [vs q]; exact h.pv j d' f
theorem TOk.drop {k : Tk} {F : List Addr} (t : TOk g FS L k F) (i : Nat) : TOk g FS (L.set i .gone) k F := by
  have up : ∀ {j : Nat} {s : S}, (L.set i .gone)[j]? = some s → s.d?.isSome = true → L[j]? = some s := fun e z => by
    rcases get_set e with ⟨_, e, _⟩ | e
    · subst e; cases z
    · exact e.2
  exact ⟨t.tree, t.old, fun e j s ej hs => t.excl e j s (up ej hs) hs, fun e j s ej hw => t.shar e j s (up ej (S.some_of_wr hw)) hw, fun j s ej hw => t.bor j s (up ej (S.some_of_wr hw)) hw⟩
theorem Sim.nobor_drop {i : Nat} (nb : NoBor L ∨ i ∉ g.W) : NoBor (L.set i .gone) ∨ i ∉ g.W := by
  rcases nb with nb | nb
  · refine .inl fun j s e => ?_
    rcases get_set e with ⟨_, e, _⟩ | e
    · subst e; rfl
    · exact nb j s e.2
  · exact .inr nb
/-- a slot gets another content -/
theorem Sim.put (h : Sim g FS L VS H) {i : Nat} {k : Tk} {d : D} {v : V} {F : List Addr} (hi : i < L.length) (r : Rep g.K H v d F) (t : TOk g FS (L.set i .gone) k F) (hk : k ≠ .bor)
    (nb : NoBor L ∨ i ∉ g.W) : Sim g (setF FS i F) (L.set i (.t k d)) (VS.set i (some v)) H := by
  have h1 := (h.drop i none).fill (i := i) (by simpa using hi) (by rw [List.getElem?_set_self hi]) r t hk (Sim.nobor_drop nb)
  simpa using h1
/-- what a slot holds, taken out -/
theorem Sim.take (h : Sim g FS L VS H) {i : Nat} {k : Tk} {d : D} (e : L[i]? = some (.t k d)) (hb : k ≠ .own ∨ NoBor L ∨ i ∈ g.W ∨ g.n ≤ i) (x : Option V) :
    ∃ v, VS[i]? = some (some v) ∧ Rep g.K H v d (FS i) ∧ TOk g FS (L.set i .gone) k (FS i) ∧ Sim g FS (L.set i .gone) (VS.set i x) H := by
  obtain ⟨v, ev, r⟩ := h.rep i _ d e rfl
  have up : ∀ {j : Nat} {s : S}, (L.set i .gone)[j]? = some s → s.d?.isSome = true → j ≠ i ∧ L[j]? = some s := fun e z => by
    rcases get_set e with ⟨_, e, _⟩ | e
    · subst e; cases z
    · exact e
  exact ⟨v, ev, r, h.tok e hb up, h.drop i x⟩
def S.with : S → D → S
  | .gone, _ => .gone
  | .io _, d => .io d
  | .t k _, d => .t k d
theorem S.with_wr {s : S} {d : D} : (s.with d).wr = s.wr := by
  cases s with
  | gone => rfl
  | io _ => rfl
  | t k _ => cases k <;> rfl
theorem S.with_isBor {s : S} {d : D} : (s.with d).isBor = s.isBor := by
  cases s with
  | gone => rfl
  | io _ => rfl
  | t k _ => cases k <;> rfl
theorem S.with_d {s : S} {d d' : D} (h : (s.with d').d? = some d) : d' = d := by
  cases s with
  | gone => cases h
  | io _ => exact Option.some.inj h
  | t k _ => exact Option.some.inj h
/-- what a slot holds is written -/
theorem Sim.modify (h : Sim g FS L VS H) {i : Nat} {s : S} {d' : D} {v : V} {F' F2 : List Addr} (e : L[i]? = some s) (hw : s.wr = true) (ev : VS[i]? = some (some v)) (x : Ext (fun a => a ∈ FS i) H H') (dm : ∀ a, H a ≠ none → H' a ≠ none)
    (r : Rep g.K H' v d' F') (nd : F'.Nodup) (t : TOk g FS L .own F2) (nb : NoBor L ∨ i ∈ g.W ∨ g.n ≤ i) (sub : ∀ a ∈ F', a ∈ FS i ∨ a ∈ F2 ∨ H a = none) : Sim g (setF FS i F') (L.set i (s.with d')) VS H' := by
  have hi := lt_of_get e
  have fr0 : ∀ a, H a = none → g.H0 a = none := fun a e => by
    cases q : g.H0 a with
    | none => rfl
    | some o => exact absurd e (h.dom a (by rw [q]; exact fun z => (nomatch z)))
  have ds : ∀ {j : Nat} {s' : S}, j ≠ i → L[j]? = some s' → s'.d?.isSome = true → ∀ a ∈ FS i, a ∉ FS j := fun {j s'} n ej hs => h.dis i j s s' (Ne.symm n) e ej hw hs fun z => by
    rcases nb with nb | nb
    · rw [nb j s' ej] at z; cases z
    · exact nb
  have cl : ∀ {m : Nat} {s' : S}, m ≠ i → L[m]? = some s' → s'.d?.isSome = true → ∀ a ∈ F', a ∉ FS m := fun {m s'} n em hs a ha => by
    rcases sub a ha with z | z | z
    · exact ds n em hs a z
    · exact t.excl rfl m s' em hs a z
    · intro q
      obtain ⟨o, eo, _⟩ := h.cells em hs a q
      rw [z] at eo; cases eo
  refine ⟨by simp [h.len], fun j s' d e1 e2 => ?_, fun j s' e1 e2 => ?_, fun j k' d e1 hk' => ?_, fun j d e1 => ?_, fun j d e1 => ?_, fun j l s1 s2 hij e1 e2 w1 w2 w3 => ?_, fun a o eo n => ?_, fun a n => dm a (h.dom a n), fun j s' e1 e2 => ?_, fun j d e1 => ?_, h.wlt⟩
  · rcases get_set e1 with ⟨q, f, _⟩ | ⟨q, f⟩
    · subst q; subst f
      cases S.with_d e2
      exact ⟨v, ev, by rw [setF_same]; exact r⟩
    · obtain ⟨u, eu, ru⟩ := h.rep j s' d f e2
      exact ⟨u, eu, by rw [setF_ne q]; exact ru.ext x fun a m m' => ds q f (by rw [e2]; rfl) a m' m⟩
  · rcases get_set e1 with ⟨q, f, _⟩ | ⟨q, f⟩
    · subst q; rw [setF_same]; exact nd
    · rw [setF_ne q]; exact h.nod j s' f e2
  · rcases get_set e1 with ⟨q, f, _⟩ | ⟨q, f⟩
    · subst q
      rw [setF_same]
      intro a m
      rcases sub a m with z | z | z
      · cases s with
        | gone => cases hw
        | io _ => cases f
        | t k d0 =>
          cases f
          exact h.fr j _ d0 e hk' a z
      · exact (t.tree rfl).2 a z
      · exact fr0 a z
    · rw [setF_ne q]; exact h.fr j k' d f hk'
  · rcases get_set e1 with ⟨q, f, _⟩ | ⟨q, f⟩
    · subst q
      cases s with
      | gone => cases hw
      | io _ => cases f
      | t k d0 => cases f; cases hw
    · rw [setF_ne q]; exact h.od j d f
  · rcases get_set e1 with ⟨q, f, _⟩ | ⟨q, f⟩
    · subst q
      rw [setF_same]
      intro a m
      rcases sub a m with z | z | z
      · cases s with
        | gone => cases hw
        | t k d0 => cases f
        | io d0 => exact h.fio j d0 e a z
      · exact .inr ((t.tree rfl).2 a z)
      · exact .inr (fr0 a z)
    · rw [setF_ne q]; exact h.fio j d f
  · rcases get_set e1 with ⟨q1, f1, _⟩ | ⟨q1, f1⟩ <;> rcases get_set e2 with ⟨q2, f2, _⟩ | ⟨q2, f2⟩
    · exact absurd (q1.trans q2.symm) hij
    · subst q1
      rw [setF_same, setF_ne q2]
      exact cl q2 f2 w2
    · subst q2
      rw [setF_same, setF_ne q1]
      exact fun a m m' => cl q1 f1 (S.some_of_wr w1) a m' m
    · rw [setF_ne q1, setF_ne q2]; exact h.dis j l s1 s2 hij f1 f2 w1 w2 w3
  · refine x a o (h.base a o eo n) ?_
    rcases n with n | n
    · refine .inl fun m => ?_
      cases s with
      | gone => cases hw
      | io d0 => exact (h.fio i d0 e a m).elim (n i) fun q => by rw [q] at eo; cases eo
      | t k d0 =>
        cases k with
        | own => have := h.fr i _ d0 e rfl a m; rw [this] at eo; cases eo
        | _ => cases hw
    · exact .inr n
  · rcases get_set e1 with ⟨q, f, _⟩ | ⟨q, f⟩
    · subst f
      rw [S.with_isBor, S.nb_of_wr hw] at e2; cases e2
    · exact h.sb j s' f e2
  · rcases get_set e1 with ⟨q, f, _⟩ | ⟨q, f⟩
    · subst q
      cases s with
      | gone => cases hw
      | io d0 => exact h.pv j d0 e
      | t k d0 => cases f
    · exact h.pv j d f
end
end RG

set_option maxRecDepth 100000
set_option maxHeartbeats 4000000
namespace RG
open PySem PySem.Spec PyProof.Rows L2

/-! ### readings: pure expressions (no slot is written) -/
/-- none: nothing is known of the cells -/
abbrev Pk := Option Tk
structure POk (g : G) (FS : Nat → List Addr) (L : List S) (H : Hp) (k : Pk) (F : List Addr) : Prop where
  own : k = some .own → F.Nodup ∧ ∀ a ∈ F, H a = none
  oth : ∀ k', k = some k' → k' ≠ .own → TOk g FS L k' F
def RP (K : PySem.W.Frag) (n : Nat) (W : List Nat) (t : TE) (f : List S → Option (Pk × D)) : Prop :=
  ∀ (g : G) (FS : Nat → List Addr) (env τ : List S) (σ : L2.St) (tv : List (Option V)) (H : Hp) (Q : VK) (r : Pk × D), g.K = K → g.n = n → g.W = W → env.length = n → σ.length = n → Sim g FS (env ++ τ) (σ ++ tv) H → f env = some r →
    (∀ v H' F, Same H H' → Rep K H' v r.2 F → POk g FS (env ++ τ) H r.1 F → Q v H') → t σ H Q
def pJoin : List (Pk × D) → Pk
  | [] => some .own
  | [t] => t.1
  | (none, _) :: _ => none
  | (some k, _) :: ts => (pJoin ts).map k.join
def RPA (K : PySem.W.Frag) (n : Nat) (W : List Nat) (t : TA) (f : List S → Option (List (Pk × D))) : Prop :=
  ∀ (g : G) (FS : Nat → List Addr) (env τ : List S) (σ : L2.St) (tv : List (Option V)) (H : Hp) (Q : List V → Hp → Prop) (r : List (Pk × D)), g.K = K → g.n = n → g.W = W → env.length = n → σ.length = n → Sim g FS (env ++ τ) (σ ++ tv) H → f env = some r →
    (∀ vs H' F, Same H H' → RepL K H' vs (r.map (·.2)) F → POk g FS (env ++ τ) H (pJoin r) F → Q vs H') → t σ H Q
/-- .. and such as write slots -/
def RE (K : PySem.W.Frag) (n : Nat) (W : List Nat) (Y : Bool) (t : TE) (f : List S → Option (T × List S)) : Prop :=
  ∀ (g : G) (FS : Nat → List Addr) (env τ : List S) (σ : L2.St) (tv : List (Option V)) (H : Hp) (Q : VK) (r : T) (env' : List S), g.K = K → g.n = n → g.W = W → env.length = n → σ.length = n → Sim g FS (env ++ τ) (σ ++ tv) H → (Y = true → NoBor τ) → f env = some (r, env') →
    (∀ v H' FS', env'.length = n → Sim g FS' ((env' ++ τ) ++ [r.s]) ((σ ++ tv) ++ [some v]) H' → Q v H') → t σ H Q
/-- an argument: a temporary, or a slot that is written by who gets it -/
inductive Ar where
  | tmp (t : T)
  | ptr (i : Nat)
def Ar.s : Ar → S
  | .tmp t => t.s
  | .ptr _ => .gone
def Ptrs (σ : L2.St) (as : List Ar) (vs : List V) : Prop := ∀ (j i : Nat), as[j]? = some (.ptr i) → ∃ v, σ[i]? = some (some v) ∧ vs[j]? = some v
def RA (K : PySem.W.Frag) (n : Nat) (W : List Nat) (Y : Bool) (t : TA) (f : List S → Option (List Ar × List S)) : Prop :=
  ∀ (g : G) (FS : Nat → List Addr) (env τ : List S) (σ : L2.St) (tv : List (Option V)) (H : Hp) (Q : List V → Hp → Prop) (r : List Ar) (env' : List S), g.K = K → g.n = n → g.W = W → env.length = n → σ.length = n → Sim g FS (env ++ τ) (σ ++ tv) H → (Y = true → NoBor τ) → f env = some (r, env') →
    (∀ vs H' FS', env'.length = n → vs.length = r.length → Ptrs σ r vs → Sim g FS' ((env' ++ τ) ++ r.map Ar.s) ((σ ++ tv) ++ vs.map some) H' → Q vs H') → t σ H Q

/-! ### operations by values -/
inductive Rk where
  | imm
  | fresh
  | mix
  | sub
  deriving DecidableEq
/-- what is made of parts of that kind and new cells -/
def Tk.mix : Tk → Tk
  | .old => .val
  | k => k
def Rk.kind : Rk → Tk → Tk
  | .mix, k => k.mix
  | .sub, k => k
  | _, _ => .own
def Rk.pk : Rk → Pk → Pk
  | .mix, k => k.map Tk.mix
  | .sub, k => k
  | _, _ => some .own
def Rk.Ok (k : Rk) (H : Hp) (F F' : List Addr) : Prop := match k with
  | .imm => F' = []
  | .fresh => F'.Nodup ∧ ∀ a ∈ F', H a = none
  | .mix => (∀ a ∈ F', a ∈ F ∨ H a = none) ∧ (F.Nodup → F'.Nodup)
  | .sub => (∀ a ∈ F', a ∈ F) ∧ (F.Nodup → F'.Nodup)
def VOp (K : PySem.W.Frag) (r : List V → Hp → VK → Prop) (o : List D → Option (Rk × D)) : Prop :=
  ∀ (H : Hp) (vs : List V) (ds : List D) (F : List Addr) (Q : VK) (k : Rk) (d : D), RepL K H vs ds F → o ds = some (k, d) → (∀ v H' F', Same H H' → Rep K H' v d F' → k.Ok H F F' → Q v H') → r vs H Q
def tArg (ta : TA) (r : List V → Hp → VK → Prop) : TE := fun σ H Q => ta σ H fun vs H1 => r vs H1 Q
def rl2 (r : R2) : List V → Hp → VK → Prop := fun vs H Q => match vs with
  | [x, y] => r x y H Q
  | _ => False
def rl1 (r : V → Hp → VK → Prop) : List V → Hp → VK → Prop := fun vs H Q => match vs with
  | [x] => r x H Q
  | _ => False

section
variable {K : PySem.W.Frag} {n : Nat} {W : List Nat} {Y Y' : Bool}
theorem Same.dom {H H' : Hp} (x : Same H H') {a : Addr} (h : H' a = none) : H a = none := x.free h
theorem POk.tok {g : G} {FS : Nat → List Addr} {L : List S} {VS : List (Option V)} {H H' : Hp} {k : Tk} {F : List Addr} (p : POk g FS L H (some k) F) (s : Sim g FS L VS H) : TOk g FS L k F := by
  by_cases h : k = .own
  · subst h; exact s.tokNew (p.own rfl).1 (p.own rfl).2
  · exact p.oth k rfl h
theorem POk.nil {g : G} {FS : Nat → List Addr} {L : List S} {H : Hp} {k : Pk} : POk g FS L H k [] := ⟨fun _ => ⟨.nil, fun _ m => (nomatch m)⟩, fun _ _ _ => TOk.nil _⟩
theorem POk.no {g : G} {FS : Nat → List Addr} {L : List S} {H : Hp} {F : List Addr} : POk g FS L H none F := ⟨fun z => (nomatch z), fun _ z => (nomatch z)⟩
theorem POk.mono {g : G} {FS : Nat → List Addr} {L : List S} {H H' : Hp} {k : Pk} {F : List Addr} (x : Same H H') (p : POk g FS L H' k F) : POk g FS L H k F :=
  ⟨fun e => ⟨(p.own e).1, fun a m => x.free ((p.own e).2 a m)⟩, p.oth⟩

/-! #### pure arguments -/
theorem rpa_nil : RPA K n W tNil fun _ => some [] := by
  intro g FS env τ σ tv H Q r hK hn hW he hs Sm e h
  cases e
  exact h [] H [] (Same.refl _) .nil POk.nil
theorem rpa_cons {ta : TE} {tr : TA} {fa : List S → Option (Pk × D)} {fr : List S → Option (List (Pk × D))} (ha : RP K n W ta fa) (hr : RPA K n W tr fr) :
    RPA K n W (tCons ta tr) fun env => (fa env).bind fun x => (fr env).map fun xs => x :: xs := by
  intro g FS env τ σ tv H Q r hK hn hW he hs Sm e h
  dsimp only at e
  cases e1 : fa env with
  | none => rw [e1] at e; cases e
  | some x =>
    rw [e1] at e
    cases e2 : fr env with
    | none => rw [e2] at e; cases e
    | some xs =>
      rw [e2] at e; cases e
      refine ha g FS env τ σ tv H _ x hK hn hW he hs Sm e1 fun v H1 F1 s1 r1 p1 => ?_
      refine hr g FS env τ σ tv H1 _ xs hK hn hW he hs (Sm.same s1) e2 fun vs H2 F2 s2 r2 p2 => ?_
      obtain ⟨k, d⟩ := x
      cases xs with
      | nil =>
        cases r2
        exact h [v] H2 F1 (s1.trans s2) (RepL.one (r1.same s2)) p1
      | cons y ys =>
      refine h (v :: vs) H2 (F1 ++ F2) (s1.trans s2) (.cons (r1.same s2) r2) ?_
      cases k with
      | none => exact POk.no
      | some k =>
        cases e3 : pJoin (y :: ys) with
        | none => simp only [pJoin, e3]; exact POk.no
        | some k' =>
          have S1 := Sm.same s1
          rw [e3] at p2
          have hd : k.apart k' = true → ∀ a ∈ F2, a ∉ F1 := fun hap a m m' => by
            have z2 : k' = .own := by cases k <;> cases k' <;> first | rfl | exact Bool.noConfusion hap
            subst z2
            obtain ⟨o, eo, _⟩ := r1.dom a m'
            have := (p2.own rfl).2 a m
            rw [eo] at this; cases this
          have tk := (p1.tok (H' := H) Sm).join (p2.tok (H' := H) S1) hd
          simp only [pJoin, e3, Option.map_some]
          refine ⟨fun z => ?_, fun kk z hne => ?_⟩
          · obtain ⟨rfl, rfl⟩ : k = .own ∧ k' = .own := by
              cases k <;> cases k' <;> first | exact ⟨rfl, rfl⟩ | exact absurd z (by decide)
            refine ⟨(tk.tree rfl).1, fun a m => ?_⟩
            rcases List.mem_append.mp m with m | m
            · exact (p1.own rfl).2 a m
            · exact s1.free ((p2.own rfl).2 a m)
          · cases z
            exact tk

/-! #### arguments -/
theorem ra_nil : RA K n W false tNil fun env => some ([], env) := by
  intro g FS env τ σ tv H Q r env' hK hn hW he hs Sm yb e h
  cases e
  exact h [] H FS he rfl (fun j i z => by simp at z) (by simpa using Sm)
theorem NoBor.snoc {τ : List S} {s : S} (h : NoBor τ) (hs : s.isBor = false) : NoBor (τ ++ [s]) := fun j x e => by
  rcases get_snoc e with ⟨_, q⟩ | ⟨_, q⟩
  · exact h j x q
  · subst q; exact hs
def aCons (Y' : Bool) (fa : List S → Option (T × List S)) (fr : List S → Option (List Ar × List S)) : List S → Option (List Ar × List S) := fun env => match fa env with
  | none => none
  | some (x, env1) => if Y' = true ∧ x.1 = .bor then none else (fr env1).map fun xs => (.tmp x :: xs.1, xs.2)
theorem ra_cons {ta : TE} {tr : TA} {fa : List S → Option (T × List S)} {fr : List S → Option (List Ar × List S)} (ha : RE K n W Y ta fa) (hr : RA K n W Y' tr fr) :
    RA K n W (Y || Y') (tCons ta tr) (aCons Y' fa fr) := by
  intro g FS env τ σ tv H Q r env' hK hn hW he hs Sm yb e h
  unfold aCons at e
  cases e1 : fa env with
  | none => rw [e1] at e; cases e
  | some x =>
    rw [e1] at e
    obtain ⟨x, env1⟩ := x
    dsimp only at e
    split at e
    · cases e
    · rename_i hbor
      cases e2 : fr env1 with
      | none => rw [e2] at e; cases e
      | some xs =>
        obtain ⟨xs, env2⟩ := xs
        simp only [e2, Option.map_some, Option.some.injEq, Prod.mk.injEq] at e
        obtain ⟨rfl, rfl⟩ := e
        refine ha g FS env τ σ tv H _ x env1 hK hn hW he hs Sm (fun q => yb (by rw [q]; rfl)) e1 fun v H1 FS1 l1 S1 => ?_
        rw [List.append_assoc, List.append_assoc] at S1
        refine hr g FS1 env1 (τ ++ [x.s]) σ (tv ++ [some v]) H1 _ xs env2 hK hn hW l1 hs S1 (fun q => (yb (by rw [q]; cases Y <;> rfl)).snoc ?_) e2 fun vs H2 FS2 l2 lv pt S2 => ?_
        · obtain ⟨k, d⟩ := x
          cases k <;> first | rfl | exact absurd ⟨q, rfl⟩ hbor
        refine h (v :: vs) H2 FS2 l2 (by simp [lv]) (fun j i z => ?_) ?_
        · cases j with
          | zero => simp at z
          | succ j => exact pt j i (by simpa using z)
        · simpa [Ar.s] using S2
def aPtr (i : Nat) (fr : List S → Option (List Ar × List S)) : List S → Option (List Ar × List S) := fun env => match env[i]? with
  | some s => if s.wr then (fr env).map fun xs => (.ptr i :: xs.1, xs.2) else none
  | none => none
theorem ra_ptr {i : Nat} {tr : TA} {fr : List S → Option (List Ar × List S)} (hr : RA K n W Y tr fr) (hi : i < n) : RA K n W Y (tCons (tVar i) tr) (aPtr i fr) := by
  intro g FS env τ σ tv H Q r env' hK hn hW he hs Sm yb e h
  unfold aPtr at e
  cases e0 : env[i]? with
  | none => rw [e0] at e; cases e
  | some s =>
    rw [e0] at e
    by_cases hw : s.wr = true
    · simp only [hw, if_true] at e
      cases e2 : fr env with
      | none => rw [e2] at e; cases e
      | some xs =>
        obtain ⟨xs, env2⟩ := xs
        rw [e2] at e
        simp only [Option.map_some, Option.some.injEq, Prod.mk.injEq] at e
        obtain ⟨rfl, rfl⟩ := e
        obtain ⟨d, hd⟩ := Option.isSome_iff_exists.mp (S.some_of_wr hw)
        have e0' : (env ++ τ)[i]? = some s := by rw [List.getElem?_append_left (by rw [he]; exact hi)]; exact e0
        obtain ⟨v, ev, rv⟩ := Sm.rep i s d e0' hd
        have ev' : σ[i]? = some (some v) := by rw [List.getElem?_append_left (by rw [hs]; exact hi)] at ev; exact ev
        refine ⟨v, ev', ?_⟩
        have S1 : Sim g FS (env ++ (τ ++ [S.gone])) (σ ++ (tv ++ [some v])) H := by
          rw [← List.append_assoc, ← List.append_assoc]
          have up : ∀ {i : Nat} {s' : S}, ((env ++ τ) ++ [S.gone])[i]? = some s' → s'.d?.isSome = true ∨ s'.tree = true ∨ s'.isBor = true → (env ++ τ)[i]? = some s' := fun e z => by
            rcases get_snoc e with ⟨_, e⟩ | ⟨_, e⟩
            · exact e
            · subst e; rcases z with z | z | z <;> cases z
          refine ⟨by have := Sm.len; simp only [List.length_append, List.length_cons, List.length_nil] at this ⊢; omega, fun i s d e1 e2 => ?_, fun i s e1 e2 => Sm.nod i s (up e1 (.inr (.inl e2))) e2, fun i k d e => Sm.fr i k d (up e (.inl rfl)), fun i d e => Sm.od i d (up e (.inl rfl)), fun i d e => Sm.fio i d (up e (.inl rfl)),
            fun i j s s' hij e1 e2 w1 w2 => Sm.dis i j s s' hij (up e1 (.inl (S.some_of_wr w1))) (up e2 (.inl w2)) w1 w2, Sm.base, Sm.dom, fun i s e1 e2 => Sm.sb i s (up e1 (.inr (.inr e2))) e2, fun i d e => ?_, Sm.wlt⟩
          · have e1' := up e1 (.inl (by rw [e2]; rfl))
            obtain ⟨u, eu, ru⟩ := Sm.rep i s d e1' e2
            exact ⟨u, by rw [List.getElem?_append_left (by rw [← Sm.len]; exact lt_of_get e1')]; exact eu, ru⟩
          · obtain ⟨u, e2, e3⟩ := Sm.pv i d (up e (.inl rfl))
            exact ⟨u, e2, by rw [List.getElem?_append_left (by rw [← Sm.len]; exact lt_of_get (up e (.inl rfl)))]; exact e3⟩
        refine hr g FS env (τ ++ [S.gone]) σ (tv ++ [some v]) H _ xs env2 hK hn hW he hs S1 (fun q => (yb q).snoc rfl) e2 fun vs H2 FS2 l2 lv pt S2 => ?_
        refine h (v :: vs) H2 FS2 l2 (by simp [lv]) (fun j i' z => ?_) ?_
        · cases j with
          | zero => simp at z; subst z; exact ⟨v, ev', rfl⟩
          | succ j => exact pt j i' (by simpa using z)
        · simpa [Ar.s] using S2
    · simp only [hw] at e; cases e

/-- all arguments are temporaries -/
def tmps : List Ar → Option (List T)
  | [] => some []
  | .tmp t :: as => (tmps as).map (t :: ·)
  | .ptr _ :: _ => none
theorem tmps_map : ∀ {as : List Ar} {ts : List T}, tmps as = some ts → as = ts.map .tmp
  | [], ts, e => by simp [tmps] at e; subst e; rfl
  | .tmp t :: as, ts, e => by
    simp only [tmps] at e
    cases e1 : tmps as with
    | none => rw [e1] at e; cases e
    | some us =>
      rw [e1] at e
      simp at e
      subst e
      rw [tmps_map e1]
      rfl
  | .ptr _ :: _, ts, e => by simp [tmps] at e

/-! #### what is got of the values -/
theorem TOk.rk {g : G} {FS : Nat → List Addr} {L : List S} {VS : List (Option V)} {H : Hp} {k : Rk} {tk : Tk} {F F' : List Addr} (s : Sim g FS L VS H) (t : TOk g FS L tk F) (h : k.Ok H F F') : TOk g FS L (k.kind tk) F' := by
  cases k with
  | imm => cases h; exact TOk.nil _
  | fresh => exact s.tokNew h.1 h.2
  | mix =>
    refine ⟨fun e => ⟨h.2 (t.tree (by cases tk <;> first | rfl | exact Bool.noConfusion e)).1, fun a m => ?_⟩, fun e a m => ?_, fun e j s' ej hs a m => ?_, fun e j s' ej hw a m => ?_, fun j s' ej hw hj a m => ?_⟩
    · exact (h.1 a m).elim (fun z => (t.tree (by cases tk <;> first | rfl | exact Bool.noConfusion e)).2 a z) s.fr0
    · cases tk <;> exact absurd e (by decide)
    · have e' : tk = .own := by cases tk <;> first | rfl | exact absurd e (by decide)
      exact (h.1 a m).elim (fun z => t.excl e' j s' ej hs a z) fun z => s.new_ne z ej hs
    · have e' : tk ≠ .bor := fun z => e (by subst z; rfl)
      exact (h.1 a m).elim (fun z => t.shar e' j s' ej hw a z) fun z => s.new_ne z ej (S.some_of_wr hw)
    · exact (h.1 a m).elim (fun z => t.bor j s' ej hw hj a z) fun z => s.new_ne z ej (S.some_of_wr hw)
  | sub => exact t.sub h.1 h.2
def eOp (o : List D → Option (Rk × D)) (fa : List S → Option (List Ar × List S)) : List S → Option (T × List S) := fun env =>
  (fa env).bind fun as => (tmps as.1).bind fun ts => (o (ts.map (·.2))).map fun kd => ((kd.1.kind (kJoin ts), kd.2), as.2)
theorem re_op {ta : TA} {r : List V → Hp → VK → Prop} {o : List D → Option (Rk × D)} {fa : List S → Option (List Ar × List S)} (ha : RA K n W Y ta fa) (hr : VOp K r o) : RE K n W Y (tArg ta r) (eOp o fa) := by
  intro g FS env τ σ tv H Q rr env' hK hn hW he hs Sm yb e h
  unfold eOp at e
  cases e1 : fa env with
  | none => rw [e1] at e; cases e
  | some as =>
    obtain ⟨as, env1⟩ := as
    cases e2 : tmps as with
    | none => simp only [e1, Option.bind_some, e2] at e; cases e
    | some ts =>
      cases e3 : o (ts.map (·.2)) with
      | none => simp only [e1, Option.bind_some, e2, e3] at e; cases e
      | some kd =>
        obtain ⟨k, d⟩ := kd
        simp only [e1, Option.bind_some, e2, e3, Option.map_some, Option.some.injEq, Prod.mk.injEq] at e
        obtain ⟨rfl, rfl⟩ := e
        refine ha g FS env τ σ tv H _ as env1 hK hn hW he hs Sm yb e1 fun vs H1 FS1 l1 lv pt S1 => ?_
        have ea := tmps_map e2
        subst ea
        have em : (ts.map Ar.tmp).map Ar.s = ts.map T.s := by rw [List.map_map]; rfl
        rw [em] at S1
        obtain ⟨F, S2, rl, tk⟩ := Sim.tops S1 (by simpa using lv.symm) (by rw [List.length_append, l1, hn]; exact Nat.le_add_right _ _)
        subst hK
        refine hr H1 vs _ F Q k d rl e3 fun v H2 F' s2 rv ok => ?_
        have tk2 := TOk.rk S2 tk ok
        refine h v H2 _ l1 ((S2.same s2).push rv tk2 fun _ => ?_)
        rw [List.length_append, l1, hn]; exact Nat.le_add_right _ _
def pOp (o : List D → Option (Rk × D)) (fa : List S → Option (List (Pk × D))) : List S → Option (Pk × D) := fun env =>
  (fa env).bind fun ts => (o (ts.map (·.2))).map fun kd => (kd.1.pk (pJoin ts), kd.2)
theorem rp_op {ta : TA} {r : List V → Hp → VK → Prop} {o : List D → Option (Rk × D)} {fa : List S → Option (List (Pk × D))} (ha : RPA K n W ta fa) (hr : VOp K r o) : RP K n W (tArg ta r) (pOp o fa) := by
  intro g FS env τ σ tv H Q rr hK hn hW he hs Sm e h
  unfold pOp at e
  cases e1 : fa env with
  | none => rw [e1] at e; cases e
  | some ts =>
    cases e3 : o (ts.map (·.2)) with
    | none => simp only [e1, Option.bind_some, e3] at e; cases e
    | some kd =>
      obtain ⟨k, d⟩ := kd
      simp only [e1, Option.bind_some, e3, Option.map_some, Option.some.injEq] at e
      subst e
      refine ha g FS env τ σ tv H _ ts hK hn hW he hs Sm e1 fun vs H1 F s1 rl p => ?_
      refine hr H1 vs _ F Q k d rl e3 fun v H2 F' s2 rv ok => ?_
      refine h v H2 F' (s1.trans s2) rv ?_
      have S1 := Sm.same s1
      cases k with
      | imm => cases ok; exact POk.nil
      | fresh => exact ⟨fun _ => ⟨ok.1, fun a m => s1.free (ok.2 a m)⟩, fun k' z hne => by cases z; exact absurd rfl hne⟩
      | mix =>
        show POk g FS (env ++ τ) H ((pJoin ts).map Tk.mix) F'
        cases q : pJoin ts with
        | none => exact POk.no
        | some k' =>
          rw [q] at p
          refine ⟨fun z => ?_, fun k2 z hne => ?_⟩
          · have e' : k' = .own := by
              have z : k'.mix = .own := Option.some.inj z
              cases k' <;> first | rfl | exact absurd z (by decide)
            subst e'
            exact ⟨ok.2 (p.own rfl).1, fun a m => (ok.1 a m).elim ((p.own rfl).2 a) fun q => s1.free q⟩
          · have z : k'.mix = k2 := Option.some.inj z
            subst z
            have hk : k' ≠ .own := fun z => hne (by subst z; rfl)
            exact TOk.rk (k := .mix) (tk := k') S1 (p.oth k' rfl hk) ok
      | sub =>
        show POk g FS (env ++ τ) H (pJoin ts) F'
        exact ⟨fun z => ⟨ok.2 (p.own z).1, fun a m => (p.own z).2 a (ok.1 a m)⟩, fun k' z hne => (p.oth k' z hne).sub ok.1 ok.2⟩
/-- a pure expression where slots may be written -/
def lift (f : List S → Option (Pk × D)) : List S → Option (T × List S) := fun env =>
  (f env).bind fun r => match r.1 with
    | some k => some ((k, r.2), env)
    | none => if r.2.flat then some ((.own, r.2), env) else none
theorem re_lift {t : TE} {f : List S → Option (Pk × D)} (h : RP K n W t f) : RE K n W false t (lift f) := by
  intro g FS env τ σ tv H Q r env' hK hn hW he hs Sm yb e q
  unfold lift at e
  cases e1 : f env with
  | none => rw [e1] at e; cases e
  | some kd =>
    obtain ⟨k, d⟩ := kd
    rw [e1] at e
    refine h g FS env τ σ tv H Q (k, d) hK hn hW he hs Sm e1 fun v H' F s rv p => ?_
    subst hK
    have fin : ∀ k : Tk, TOk g FS (env ++ τ) k F → Q v H' ∨ True := fun _ _ => .inr trivial
    have lb : ∀ k : Tk, k = .bor → g.n ≤ (env ++ τ).length := fun _ _ => by rw [List.length_append, he, hn]; exact Nat.le_add_right _ _
    cases k with
    | some k =>
      simp only [Option.bind_some, Option.some.injEq, Prod.mk.injEq] at e
      obtain ⟨rfl, rfl⟩ := e
      exact q v H' _ he ((Sm.same s).push rv (p.tok (H' := H) Sm) (lb k))
    | none =>
      simp only [Option.bind_some] at e
      by_cases hf : d.flat = true
      · rw [if_pos hf] at e
        simp only [Option.some.injEq, Prod.mk.injEq] at e
        obtain ⟨rfl, rfl⟩ := e
        have eF := rv.flat hf
        subst eF
        exact q v H' _ he ((Sm.same s).push rv (TOk.nil _) (lb _))
      · rw [if_neg hf] at e; cases e

/-! ### names and constants -/
def dV : D → Option V
  | .non => some .non
  | .bl b => some (.bl b)
  | .int i => some (.int i)
  | .str x => some (.str x)
  | _ => none
theorem rp_c {v : V} {d : D} (h : ∀ H, Rep K H v d []) : RP K n W (tC v) fun _ => some (some .own, d) := by
  intro g FS env τ σ tv H Q r hK hn hW he hs Sm e q
  cases e
  exact q v H [] (Same.refl _) (h H) POk.nil
/-- a name that is read; W: the slots that expressions write -/
def pVar (W : List Nat) (i : Nat) : List S → Option (Pk × D) := fun env => match env[i]? with
  | some (.t .val d) => some (some .val, d)
  | some (.t .old d) => some (some .old, d)
  | some (.t .frz d) => some (some .frz, d)
  | some (.t .own d) => some (if W.contains i then none else some .bor, d)
  | some (.io d) => some (if W.contains i then none else some .bor, d)
  | _ => none

theorem rp_var {i : Nat} (hi : i < n) : RP K n W (tVar i) (pVar W i) := by
  intro g FS env τ σ tv H Q r hK hn hW he hs Sm e q
  have up : ∀ {s}, env[i]? = some s → (env ++ τ)[i]? = some s := fun e0 => by rw [List.getElem?_append_left (by rw [he]; exact hi)]; exact e0
  have dn : ∀ {v : V}, (σ ++ tv)[i]? = some (some v) → σ[i]? = some (some v) := fun ev => by rw [List.getElem?_append_left (by rw [hs]; exact hi)] at ev; exact ev
  subst hK
  have wr : ∀ {s : S} {d : D}, env[i]? = some s → s.wr = true → s.d? = some d → r = (if W.contains i then none else some .bor, d) → tVar i σ H Q := fun {s d} e0 hw hd er => by
    obtain ⟨v, ev, rv⟩ := Sm.rep i _ d (up e0) hd
    subst er
    refine ⟨v, dn ev, q v H _ (Same.refl _) rv ?_⟩
    by_cases hc : W.contains i = true
    · simp only [hc, if_true]
      exact POk.no
    · simp only [hc]
      refine ⟨fun z => (nomatch z), fun k' z _ => ?_⟩
      cases z
      refine ⟨fun z => (nomatch z), fun z => (nomatch z), fun z => (nomatch z), fun z => absurd rfl z, fun j s' ej hw' hj a m m' => ?_⟩
      have hij : j ≠ i := fun z => by
        subst z
        rcases hj with hj | hj
        · exact hc (by rw [hW] at hj; simpa using hj)
        · omega
      exact Sm.dis j i s' _ hij ej (up e0) hw' (S.some_of_wr hw) (fun z => by rw [S.nb_of_wr hw] at z; cases z) a m' m
  have rd : ∀ {k : Tk} {d : D}, env[i]? = some (.t k d) → k ≠ .own → k ≠ .bor → r = (some k, d) → tVar i σ H Q := fun {k d} e0 h1 h2 er => by
    subst er
    obtain ⟨v, ev, rv⟩ := Sm.rep i _ d (up e0) rfl
    refine ⟨v, dn ev, q v H _ (Same.refl _) rv ⟨fun z => absurd (Option.some.inj z) h1, fun k' z _ => ?_⟩⟩
    cases z
    have t0 := Sm.tok (up e0) (.inl h1) (L' := (env ++ τ).set i .gone) fun {j s} ej hs => by
      rcases get_set ej with ⟨_, f, _⟩ | f
      · subst f; cases hs
      · exact f
    have inv : ∀ {j : Nat} {s : S}, (env ++ τ)[j]? = some s → s.wr = true → ((env ++ τ).set i .gone)[j]? = some s := fun {j s} ej hw => by
      have hij : j ≠ i := fun z => by
        subst z
        rw [up e0] at ej; cases ej
        cases k <;> first | exact Bool.noConfusion hw | exact absurd rfl h1
      rw [List.getElem?_set_ne (Ne.symm hij)]; exact ej
    exact ⟨t0.tree, t0.old, fun z => absurd z h1, fun z j s ej hw => t0.shar z j s (inv ej hw) hw, fun j s ej hw => t0.bor j s (inv ej hw) hw⟩
  unfold pVar at e
  cases e0 : env[i]? with
  | none => rw [e0] at e; cases e
  | some s =>
    rw [e0] at e
    cases s with
    | gone => cases e
    | io d => exact wr e0 rfl rfl (Option.some.inj e).symm
    | t k d =>
      cases k with
      | own => exact wr e0 rfl rfl (Option.some.inj e).symm
      | bor => cases e
      | val => exact rd e0 (by decide) (by decide) (Option.some.inj e).symm
      | old => exact rd e0 (by decide) (by decide) (Option.some.inj e).symm
      | frz => exact rd e0 (by decide) (by decide) (Option.some.inj e).symm
end
end RG

set_option maxRecDepth 100000
set_option maxHeartbeats 4000000
namespace RG
open PySem PySem.Spec PyProof.Rows L2

theorem Rep.blV {K : PySem.W.Frag} {H : Hp} {v : V} {b : Bool} {F : List Addr} (h : Rep K H v (.bl b) F) : v = .bl b := by cases h; rfl
theorem Rep.intV {K : PySem.W.Frag} {H : Hp} {v : V} {b : Int} {F : List Addr} (h : Rep K H v (.int b) F) : v = .int b := by cases h; rfl
theorem Rep.strV {K : PySem.W.Frag} {H : Hp} {v : V} {b : Str} {F : List Addr} (h : Rep K H v (.str b) F) : v = .str b := by cases h; rfl
theorem Rep.nonV {K : PySem.W.Frag} {H : Hp} {v : V} {F : List Addr} (h : Rep K H v .non F) : v = .non := by cases h; rfl
theorem Rep.tupV {K : PySem.W.Frag} {H : Hp} {v : V} {ds : List D} {F : List Addr} (h : Rep K H v (.tup ds) F) : ∃ a vs, v = .ref a ∧ SqT K H a vs ∧ RepL K H vs ds F ∧ vs.length ≤ sizeLine := by cases h with | tup h1 hy hz h2 => exact ⟨_, _, rfl, h1, h2, hz⟩
theorem Rep.tupK {K : PySem.W.Frag} {H : Hp} {v : V} {ds : List D} {F : List Addr} (h : Rep K H v (.tup ds) F) (hl : ds.length ≠ 8) : ∃ a vs, v = .ref a ∧ H a = some (.tup vs) ∧ RepL K H vs ds F := by
  cases h with | tup h1 hy hz h2 => exact ⟨_, _, rfl, hy.resolve_left (by rw [h2.length]; exact hl), h2⟩
theorem Rep.lstV {K : PySem.W.Frag} {H : Hp} {v : V} {ds : List D} {F : List Addr} (h : Rep K H v (.lst ds) F) : ∃ a vs F', v = .ref a ∧ F = a :: F' ∧ H a = some (.lst vs) ∧ RepL K H vs ds F' ∧ vs.length ≤ sizeLine := by cases h with | lst h1 hz h2 => exact ⟨_, _, _, rfl, rfl, h1, h2, hz⟩

inductive Fl where
  | nx (L : List S)
  | rt (r : T) (L : List S)
  | bk (L : List S)
  | ct (L : List S)
/-- the slots that are not named are as they were -/
def Keep (A : List Nat) (σ σ' : L2.St) : Prop := ∀ j, j ∉ A → σ'[j]? = σ[j]?
theorem Keep.refl {A : List Nat} {σ : L2.St} : Keep A σ σ := fun _ _ => rfl
theorem Keep.mono {A B : List Nat} {σ σ' : L2.St} (k : Keep A σ σ') (h : ∀ j ∈ A, j ∈ B) : Keep B σ σ' := fun j n => k j fun m => n (h j m)
theorem Keep.trans {A : List Nat} {σ σ' σ'' : L2.St} (k : Keep A σ σ') (k' : Keep A σ' σ'') : Keep A σ σ'' := fun j n => (k' j n).trans (k j n)
def Post (g : G) (n : Nat) (A : List Nat) (τ : List S) (tv : List (Option V)) (σ : L2.St) (D : Ends) : Fl → Prop
  | .nx env' => ∀ (σ' : L2.St) (H' : Hp) (FS' : Nat → List Addr), env'.length = n → σ'.length = n → Keep A σ σ' → Sim g FS' (env' ++ τ) (σ' ++ tv) H' → D.nx σ' H'
  | .bk env' => ∀ (σ' : L2.St) (H' : Hp) (FS' : Nat → List Addr), env'.length = n → σ'.length = n → Keep A σ σ' → Sim g FS' (env' ++ τ) (σ' ++ tv) H' → D.bk σ' H'
  | .ct env' => ∀ (σ' : L2.St) (H' : Hp) (FS' : Nat → List Addr), env'.length = n → σ'.length = n → Keep A σ σ' → Sim g FS' (env' ++ τ) (σ' ++ tv) H' → D.ct σ' H'
  | .rt r env' => ∀ (v : V) (σ' : L2.St) (H' : Hp) (FS' : Nat → List Addr), env'.length = n → σ'.length = n → Keep A σ σ' → Sim g FS' ((env' ++ τ) ++ [r.s]) ((σ' ++ tv) ++ [some v]) H' → D.rt v H'
theorem Post.mono {g : G} {n : Nat} {A B : List Nat} {τ : List S} {tv : List (Option V)} {σ : L2.St} {D : Ends} (h : ∀ j ∈ A, j ∈ B) {r : Fl} (p : Post g n B τ tv σ D r) : Post g n A τ tv σ D r := by
  cases r with
  | nx L => exact fun σ' H' FS' l1 l2 k s => p σ' H' FS' l1 l2 (k.mono h) s
  | bk L => exact fun σ' H' FS' l1 l2 k s => p σ' H' FS' l1 l2 (k.mono h) s
  | ct L => exact fun σ' H' FS' l1 l2 k s => p σ' H' FS' l1 l2 (k.mono h) s
  | rt r L => exact fun v σ' H' FS' l1 l2 k s => p v σ' H' FS' l1 l2 (k.mono h) s
theorem Post.from {g : G} {n : Nat} {A : List Nat} {τ : List S} {tv : List (Option V)} {σ σ1 : L2.St} {D : Ends} (k : Keep A σ σ1) {r : Fl} (p : Post g n A τ tv σ D r) : Post g n A τ tv σ1 D r := by
  cases r with
  | nx L => exact fun σ' H' FS' l1 l2 k' s => p σ' H' FS' l1 l2 (k.trans k') s
  | bk L => exact fun σ' H' FS' l1 l2 k' s => p σ' H' FS' l1 l2 (k.trans k') s
  | ct L => exact fun σ' H' FS' l1 l2 k' s => p σ' H' FS' l1 l2 (k.trans k') s
  | rt r L => exact fun v σ' H' FS' l1 l2 k' s => p v σ' H' FS' l1 l2 (k.trans k') s
/-- no entry that may share its new cells -/
def Clean (τ : List S) : Prop := ∀ (j : Nat) (k : Tk) (d : D), τ[j]? = some (S.t k d) → k = .own ∨ k = .old
structure Tau (Z : Bool) (τ : List S) : Prop where
  nb : NoBor τ
  cl : Z = true → Clean τ
theorem Tau.l {Z Z' : Bool} {τ : List S} (t : Tau (Z || Z') τ) : Tau Z τ := ⟨t.nb, fun e => t.cl (by rw [e]; rfl)⟩
theorem Tau.r {Z Z' : Bool} {τ : List S} (t : Tau (Z || Z') τ) : Tau Z' τ := ⟨t.nb, fun e => t.cl (by rw [e]; cases Z <;> rfl)⟩
theorem Tau.f {Z : Bool} {τ : List S} (t : Tau Z τ) : Tau false τ := ⟨t.nb, fun e => (nomatch e)⟩
def RS (K : PySem.W.Frag) (n : Nat) (W A : List Nat) (Z : Bool) (t : TS) (f : List S → Option Fl) : Prop :=
  ∀ (g : G) (FS : Nat → List Addr) (env τ : List S) (σ : L2.St) (tv : List (Option V)) (H : Hp) (D : Ends) (r : Fl), g.K = K → g.n = n → g.W = W → env.length = n → σ.length = n → Sim g FS (env ++ τ) (σ ++ tv) H → Tau Z τ → f env = some r → Post g n A τ tv σ D r → t D σ H
def RB (K : PySem.W.Frag) (n : Nat) (W : List Nat) (Y : Bool) (t : TT) (f : List S → Option (Bool × List S)) : Prop :=
  ∀ (g : G) (FS : Nat → List Addr) (env τ : List S) (σ : L2.St) (tv : List (Option V)) (H : Hp) (Q : Bool → Hp → Prop) (b : Bool) (env' : List S), g.K = K → g.n = n → g.W = W → env.length = n → σ.length = n → Sim g FS (env ++ τ) (σ ++ tv) H → (Y = true → NoBor τ) → f env = some (b, env') →
    (∀ H' FS', env'.length = n → Sim g FS' (env' ++ τ) (σ ++ tv) H' → Q b H') → t σ H Q
/-- a target: what it gets stands on top -/
def RT (K : PySem.W.Frag) (n : Nat) (W A : List Nat) (t : TG) (f : T → List S → Option (List S)) : Prop :=
  ∀ (g : G) (FS : Nat → List Addr) (env τ : List S) (σ : L2.St) (tv : List (Option V)) (H : Hp) (v : V) (Q : L2.St → Hp → Prop) (r : T) (env' : List S), g.K = K → g.n = n → g.W = W → env.length = n → σ.length = n →
    Sim g FS ((env ++ τ) ++ [r.s]) ((σ ++ tv) ++ [some v]) H → (NoBor τ ∨ ∀ i ∈ A, i ∉ W) → f r env = some env' →
    (∀ (σ' : L2.St) (H' : Hp) (FS' : Nat → List Addr), env'.length = n → σ'.length = n → Keep A σ σ' → Sim g FS' (env' ++ τ) (σ' ++ tv) H' → Q σ' H') → t v σ H Q

section
variable {K : PySem.W.Frag} {n : Nat} {W A B : List Nat} {Z Z' Y Y' Y2 : Bool} {t u : TS} {f h : List S → Option Fl}
theorem Sim.nobor {g : G} {FS : Nat → List Addr} {env τ : List S} {VS : List (Option V)} {H : Hp} (s : Sim g FS (env ++ τ) VS H) (he : env.length = g.n) (nb : NoBor τ) : NoBor (env ++ τ) := by
  intro j x e
  cases q : x.isBor with
  | false => rfl
  | true =>
    have hl := s.sb j x e q
    rw [List.getElem?_append_right (by rw [he]; exact hl)] at e
    rw [nb _ x e] at q; cases q
theorem RS.mono (hf : RS K n W A Z t f) (s : ∀ j ∈ A, j ∈ B) : RS K n W B Z t f := fun g FS env τ σ tv H D r h1 h2 h3 h4 h5 h6 h7 h8 p => hf g FS env τ σ tv H D r h1 h2 h3 h4 h5 h6 h7 h8 (p.mono s)
def sSeq (f h : List S → Option Fl) : List S → Option Fl := fun env => match f env with
  | some (.nx env') => h env'
  | r => r
theorem rs_nil : RS K n W [] false tNext fun env => some (.nx env) := by
  intro g FS env τ σ tv H D r hK hn hW he hs Sm nb e p
  cases e
  exact p σ H FS he hs Keep.refl Sm
theorem rs_seq (hf : RS K n W A Z t f) (hh : RS K n W B Z' u h) : RS K n W (A ++ B) (Z || Z') (tSeq t u) (sSeq f h) := by
  intro g FS env τ σ tv H D r hK hn hW he hs Sm nb e p
  unfold sSeq at e
  have ml : ∀ j ∈ A, j ∈ A ++ B := fun j m => List.mem_append_left _ m
  have mr : ∀ j ∈ B, j ∈ A ++ B := fun j m => List.mem_append_right _ m
  cases e1 : f env with
  | none => rw [e1] at e; cases e
  | some r1 =>
    rw [e1] at e
    refine hf g FS env τ σ tv H _ r1 hK hn hW he hs Sm nb.l e1 ?_
    cases r1 with
    | nx env1 => exact fun σ' H' FS' l1 l2 k s => hh g FS' env1 τ σ' tv H' D r hK hn hW l1 l2 s nb.r e ((p.from (k.mono ml)).mono mr)
    | bk L => cases e; exact p.mono ml
    | ct L => cases e; exact p.mono ml
    | rt r' L => cases e; exact p.mono ml
theorem rs_pass : RS K n W [] false tNext fun env => some (.nx env) := rs_nil
theorem rs_break : RS K n W [] false tBreak fun env => some (.bk env) := by
  intro g FS env τ σ tv H D r hK hn hW he hs Sm nb e p
  cases e
  exact p σ H FS he hs Keep.refl Sm
theorem rs_cont : RS K n W [] false tCont fun env => some (.ct env) := by
  intro g FS env τ σ tv H D r hK hn hW he hs Sm nb e p
  cases e
  exact p σ H FS he hs Keep.refl Sm
theorem rs_never : RS K n W [] false tNever fun _ => none := by
  intro g FS env τ σ tv H D r hK hn hW he hs Sm nb e p
  cases e
def sRet (fe : List S → Option (T × List S)) : List S → Option Fl := fun env => (fe env).map fun r => .rt r.1 r.2
theorem rs_ret {te : TE} {fe : List S → Option (T × List S)} (ht : RE K n W Y te fe) : RS K n W [] false (tRet te) (sRet fe) := by
  intro g FS env τ σ tv H D r hK hn hW he hs Sm nb e p
  unfold sRet at e
  cases e1 : fe env with
  | none => rw [e1] at e; cases e
  | some r1 =>
    rw [e1] at e; cases e
    exact ht g FS env τ σ tv H D.rt r1.1 r1.2 hK hn hW he hs Sm (fun _ => nb.nb) e1 fun v H' FS' l s => p v σ H' FS' l hs Keep.refl s
theorem rs_retN : RS K n W [] false tRetN fun env => some (.rt (.own, .non) env) := by
  intro g FS env τ σ tv H D r hK hn hW he hs Sm nb e p
  cases e
  exact p .non σ H _ he hs Keep.refl (Sm.push .non (TOk.nil _) fun z => (nomatch z))
def sExpr (fe : List S → Option (T × List S)) : List S → Option Fl := fun env => (fe env).map fun r => .nx r.2
theorem rs_expr {te : TE} {fe : List S → Option (T × List S)} (ht : RE K n W Y te fe) : RS K n W [] false (tDrop te) (sExpr fe) := by
  intro g FS env τ σ tv H D r hK hn hW he hs Sm nb e p
  unfold sExpr at e
  cases e1 : fe env with
  | none => rw [e1] at e; cases e
  | some r1 =>
    rw [e1] at e; cases e
    exact ht g FS env τ σ tv H _ r1.1 r1.2 hK hn hW he hs Sm (fun _ => nb.nb) e1 fun v H' FS' l s => p σ H' FS' l hs Keep.refl s.pop
def sIf (fc : List S → Option (Bool × List S)) (f h : List S → Option Fl) : List S → Option Fl := fun env => match fc env with
  | some (true, env') => f env'
  | some (false, env') => h env'
  | none => none
theorem rs_if {tc : TT} {fc : List S → Option (Bool × List S)} (hc : RB K n W Y tc fc) (hf : RS K n W A Z t f) (hh : RS K n W B Z' u h) : RS K n W (A ++ B) (Z || Z') (tIfS tc t u) (sIf fc f h) := by
  intro g FS env τ σ tv H D r hK hn hW he hs Sm nb e p
  unfold sIf at e
  cases e1 : fc env with
  | none => rw [e1] at e; cases e
  | some r1 =>
    obtain ⟨b, env1⟩ := r1
    rw [e1] at e
    refine hc g FS env τ σ tv H _ b env1 hK hn hW he hs Sm (fun _ => nb.nb) e1 fun H' FS' l s => ?_
    cases b with
    | true =>
      rw [if_pos rfl]
      exact hf g FS' env1 τ σ tv H' D r hK hn hW l hs s nb.l e (p.mono fun j m => List.mem_append_left _ m)
    | false =>
      rw [if_neg Bool.false_ne_true]
      exact hh g FS' env1 τ σ tv H' D r hK hn hW l hs s nb.r e (p.mono fun j m => List.mem_append_right _ m)

/-! ### tests -/
def bE (fe : List S → Option (T × List S)) : List S → Option (Bool × List S) := fun env => match fe env with
  | some ((_, .bl b), env') => some (b, env')
  | _ => none
theorem rb_e {te : TE} {fe : List S → Option (T × List S)} (ht : RE K n W Y te fe) : RB K n W Y (tTest te) (bE fe) := by
  intro g FS env τ σ tv H Q b env' hK hn hW he hs Sm yb e h
  unfold bE at e
  split at e
  · rename_i k b' env1 e1
    cases e
    refine ht g FS env τ σ tv H _ _ _ hK hn hW he hs Sm yb e1 fun v H' FS' l s => ?_
    obtain ⟨v', ev, r, _⟩ := Sim.top s (by rw [List.length_append, l, hn]; exact Nat.le_add_right _ _)
    cases ev
    cases r.blV
    exact ⟨_, rfl, h H' FS' l s.pop⟩
  · cases e
def bNot (fc : List S → Option (Bool × List S)) : List S → Option (Bool × List S) := fun env => (fc env).map fun r => (!r.1, r.2)
theorem rb_not {tc : TT} {fc : List S → Option (Bool × List S)} (hc : RB K n W Y tc fc) : RB K n W Y (tNot tc) (bNot fc) := by
  intro g FS env τ σ tv H Q b env' hK hn hW he hs Sm yb e h
  unfold bNot at e
  cases e1 : fc env with
  | none => rw [e1] at e; cases e
  | some r1 =>
    obtain ⟨b1, env1⟩ := r1
    rw [e1] at e; cases e
    exact hc g FS env τ σ tv H _ b1 env1 hK hn hW he hs Sm yb e1 h
def bAnd (f1 f2 : List S → Option (Bool × List S)) : List S → Option (Bool × List S) := fun env => match f1 env with
  | some (true, env') => f2 env'
  | some (false, env') => some (false, env')
  | none => none
def bOr (f1 f2 : List S → Option (Bool × List S)) : List S → Option (Bool × List S) := fun env => match f1 env with
  | some (false, env') => f2 env'
  | some (true, env') => some (true, env')
  | none => none
theorem rb_and {t1 t2 : TT} {f1 f2 : List S → Option (Bool × List S)} (h1 : RB K n W Y t1 f1) (h2 : RB K n W Y' t2 f2) : RB K n W (Y || Y') (tAnd t1 t2) (bAnd f1 f2) := by
  intro g FS env τ σ tv H Q b env' hK hn hW he hs Sm yb e h
  unfold bAnd at e
  cases e1 : f1 env with
  | none => rw [e1] at e; cases e
  | some r1 =>
    obtain ⟨b1, env1⟩ := r1
    rw [e1] at e
    refine h1 g FS env τ σ tv H _ b1 env1 hK hn hW he hs Sm (fun q => yb (by simp [q])) e1 fun H' FS' l s => ?_
    cases b1 with
    | true => rw [if_pos rfl]; exact h2 g FS' env1 τ σ tv H' Q b env' hK hn hW l hs s (fun q => yb (by simp [q])) e h
    | false =>
      cases e
      rw [if_neg Bool.false_ne_true]; exact h H' FS' l s
theorem rb_or {t1 t2 : TT} {f1 f2 : List S → Option (Bool × List S)} (h1 : RB K n W Y t1 f1) (h2 : RB K n W Y' t2 f2) : RB K n W (Y || Y') (tOr t1 t2) (bOr f1 f2) := by
  intro g FS env τ σ tv H Q b env' hK hn hW he hs Sm yb e h
  unfold bOr at e
  cases e1 : f1 env with
  | none => rw [e1] at e; cases e
  | some r1 =>
    obtain ⟨b1, env1⟩ := r1
    rw [e1] at e
    refine h1 g FS env τ σ tv H _ b1 env1 hK hn hW he hs Sm (fun q => yb (by simp [q])) e1 fun H' FS' l s => ?_
    cases b1 with
    | false => rw [if_neg Bool.false_ne_true]; exact h2 g FS' env1 τ σ tv H' Q b env' hK hn hW l hs s (fun q => yb (by simp [q])) e h
    | true =>
      cases e
      rw [if_pos rfl]; exact h H' FS' l s
/-- .. as values -/
def eB (fc : List S → Option (Bool × List S)) : List S → Option (T × List S) := fun env => (fc env).map fun r => ((.own, .bl r.1), r.2)
theorem re_b {tc : TT} {fc : List S → Option (Bool × List S)} (hc : RB K n W Y tc fc) : RE K n W Y (fun σ H Q => tc σ H fun b H1 => Q (.bl b) H1) (eB fc) := by
  intro g FS env τ σ tv H Q r env' hK hn hW he hs Sm yb e h
  unfold eB at e
  cases e1 : fc env with
  | none => rw [e1] at e; cases e
  | some r1 =>
    obtain ⟨b1, env1⟩ := r1
    rw [e1] at e; cases e
    exact hc g FS env τ σ tv H _ b1 env1 hK hn hW he hs Sm yb e1 fun H' FS' l s => h (.bl b1) H' _ l (s.push (.bl b1) (TOk.nil _) fun z => (nomatch z))
theorem re_andV {ta tb : TE} {fa fb : List S → Option (T × List S)} (ha : RE K n W Y ta fa) (hb : RE K n W Y' tb fb) : RE K n W (Y || Y') (tAndV ta tb) (eB (bAnd (bE fa) (bE fb))) := by
  intro g FS env τ σ tv H Q r env' hK hn hW he hs Sm yb e h
  unfold eB bAnd bE at e
  cases e1 : fa env with
  | none => simp [e1] at e
  | some r1 =>
    obtain ⟨⟨k, d⟩, env1⟩ := r1
    refine ha g FS env τ σ tv H _ (k, d) env1 hK hn hW he hs Sm (fun q => yb (by simp [q])) e1 fun v H1 FS1 l s => ?_
    cases d with
    | bl b =>
      obtain ⟨v', ev, rv, _⟩ := Sim.top s (by rw [List.length_append, l, hn]; exact Nat.le_add_right _ _)
      cases ev
      cases rv.blV
      refine ⟨b, rfl, ?_⟩
      cases b with
      | false =>
        simp only [e1, Option.map_some, Option.some.injEq, Prod.mk.injEq] at e
        obtain ⟨rfl, rfl⟩ := e
        rw [if_neg Bool.false_ne_true]
        exact h _ H1 _ l (s.pop.push (.bl false) (TOk.nil _) fun z => (nomatch z))
      | true =>
        simp only [e1] at e
        rw [if_pos rfl]
        cases e2 : fb env1 with
        | none => simp [e2] at e
        | some r2 =>
          obtain ⟨⟨k2, d2⟩, env2⟩ := r2
          simp only [e2] at e
          refine hb g FS1 env1 τ σ tv H1 Q (k2, d2) env2 hK hn hW l hs s.pop (fun q => yb (by simp [q])) e2 fun v2 H2 FS2 l2 s2 => ?_
          cases d2 with
          | bl b2 =>
            simp only [Option.map_some, Option.some.injEq, Prod.mk.injEq] at e
            obtain ⟨rfl, rfl⟩ := e
            obtain ⟨v', ev, rv, _⟩ := Sim.top s2 (by rw [List.length_append, l2, hn]; exact Nat.le_add_right _ _)
            cases ev
            cases rv.blV
            exact h _ H2 _ l2 (s2.pop.push (.bl b2) (TOk.nil _) fun z => (nomatch z))
          | _ => simp at e
    | _ => simp [e1] at e
theorem re_orV {ta tb : TE} {fa fb : List S → Option (T × List S)} (ha : RE K n W Y ta fa) (hb : RE K n W Y' tb fb) : RE K n W (Y || Y') (tOrV ta tb) (eB (bOr (bE fa) (bE fb))) := by
  intro g FS env τ σ tv H Q r env' hK hn hW he hs Sm yb e h
  unfold eB bOr bE at e
  cases e1 : fa env with
  | none => simp [e1] at e
  | some r1 =>
    obtain ⟨⟨k, d⟩, env1⟩ := r1
    refine ha g FS env τ σ tv H _ (k, d) env1 hK hn hW he hs Sm (fun q => yb (by simp [q])) e1 fun v H1 FS1 l s => ?_
    cases d with
    | bl b =>
      obtain ⟨v', ev, rv, _⟩ := Sim.top s (by rw [List.length_append, l, hn]; exact Nat.le_add_right _ _)
      cases ev
      cases rv.blV
      refine ⟨b, rfl, ?_⟩
      cases b with
      | true =>
        simp only [e1, Option.map_some, Option.some.injEq, Prod.mk.injEq] at e
        obtain ⟨rfl, rfl⟩ := e
        rw [if_pos rfl]
        exact h _ H1 _ l (s.pop.push (.bl true) (TOk.nil _) fun z => (nomatch z))
      | false =>
        simp only [e1] at e
        rw [if_neg Bool.false_ne_true]
        cases e2 : fb env1 with
        | none => simp [e2] at e
        | some r2 =>
          obtain ⟨⟨k2, d2⟩, env2⟩ := r2
          simp only [e2] at e
          refine hb g FS1 env1 τ σ tv H1 Q (k2, d2) env2 hK hn hW l hs s.pop (fun q => yb (by simp [q])) e2 fun v2 H2 FS2 l2 s2 => ?_
          cases d2 with
          | bl b2 =>
            simp only [Option.map_some, Option.some.injEq, Prod.mk.injEq] at e
            obtain ⟨rfl, rfl⟩ := e
            obtain ⟨v', ev, rv, _⟩ := Sim.top s2 (by rw [List.length_append, l2, hn]; exact Nat.le_add_right _ _)
            cases ev
            cases rv.blV
            exact h _ H2 _ l2 (s2.pop.push (.bl b2) (TOk.nil _) fun z => (nomatch z))
          | _ => simp at e
    | _ => simp [e1] at e
theorem re_notV {ta : TE} {fa : List S → Option (T × List S)} (ha : RE K n W Y ta fa) : RE K n W Y (tNotV ta) (eB (bNot (bE fa))) := by
  intro g FS env τ σ tv H Q r env' hK hn hW he hs Sm yb e h
  unfold eB bNot bE at e
  cases e1 : fa env with
  | none => simp [e1] at e
  | some r1 =>
    obtain ⟨⟨k, d⟩, env1⟩ := r1
    refine ha g FS env τ σ tv H _ (k, d) env1 hK hn hW he hs Sm (fun q => yb (by simp [q])) e1 fun v H1 FS1 l s => ?_
    cases d with
    | bl b =>
      obtain ⟨v', ev, rv, _⟩ := Sim.top s (by rw [List.length_append, l, hn]; exact Nat.le_add_right _ _)
      cases ev
      cases rv.blV
      simp only [e1, Option.map_some, Option.some.injEq, Prod.mk.injEq] at e
      obtain ⟨rfl, rfl⟩ := e
      exact ⟨b, rfl, h _ H1 _ l (s.pop.push (.bl _) (TOk.nil _) fun z => (nomatch z))⟩
    | _ => simp [e1] at e
def eIf (fc : List S → Option (Bool × List S)) (f h : List S → Option (T × List S)) : List S → Option (T × List S) := fun env => match fc env with
  | some (true, env') => f env'
  | some (false, env') => h env'
  | none => none
theorem re_if {tc : TT} {ta tb : TE} {fc : List S → Option (Bool × List S)} {fa fb : List S → Option (T × List S)} (hc : RB K n W Y tc fc) (ha : RE K n W Y' ta fa) (hb : RE K n W Y2 tb fb) : RE K n W (Y || Y' || Y2) (tIf tc ta tb) (eIf fc fa fb) := by
  intro g FS env τ σ tv H Q r env' hK hn hW he hs Sm yb e h
  unfold eIf at e
  cases e1 : fc env with
  | none => rw [e1] at e; cases e
  | some r1 =>
    obtain ⟨b, env1⟩ := r1
    rw [e1] at e
    refine hc g FS env τ σ tv H _ b env1 hK hn hW he hs Sm (fun q => yb (by simp [q])) e1 fun H' FS' l s => ?_
    cases b with
    | true => rw [if_pos rfl]; exact ha g FS' env1 τ σ tv H' Q r env' hK hn hW l hs s (fun q => yb (by simp [q])) e h
    | false => rw [if_neg Bool.false_ne_true]; exact hb g FS' env1 τ σ tv H' Q r env' hK hn hW l hs s (fun q => yb (by simp [q])) e h

/-! ### targets, assignments -/
/-- what a slot may hold -/
def T.sl (r : T) : Option Tk := match r.1 with
  | .bor => if r.2.flat then some .own else none
  | k => some k
theorem TOk.sl {g : G} {FS : Nat → List Addr} {L : List S} {r : T} {k : Tk} {F : List Addr} {K : PySem.W.Frag} {H : Hp} {v : V} (rv : Rep K H v r.2 F) (tk : TOk g FS L r.1 F) (e : r.sl = some k) : TOk g FS L k F ∧ k ≠ .bor := by
  obtain ⟨k0, d⟩ := r
  cases k0 with
  | bor =>
    simp only [T.sl] at e
    by_cases hf : d.flat = true
    · rw [if_pos hf] at e; cases e
      rw [rv.flat hf]
      exact ⟨TOk.nil _, fun z => Tk.noConfusion z⟩
    · rw [if_neg hf] at e; cases e
  | _ => cases e; exact ⟨tk, fun z => Tk.noConfusion z⟩
theorem Sim.topSl {g : G} {FS : Nat → List Addr} {L : List S} {VS : List (Option V)} {H : Hp} {r : T} {v : V} {k : Tk} (s : Sim g FS (L ++ [r.s]) (VS ++ [some v]) H) (hn : g.n ≤ L.length) (e : r.sl = some k) :
    Rep g.K H v r.2 (FS L.length) ∧ TOk g FS L k (FS L.length) ∧ k ≠ .bor := by
  obtain ⟨v', ev, rv, tk⟩ := Sim.top (k := r.1) (d := r.2) s hn
  rw [← Option.some.inj ev] at rv
  exact ⟨rv, TOk.sl rv tk e⟩
def gSet (i : Nat) : T → List S → Option (List S) := fun r env => r.sl.map fun k => env.set i (.t k r.2)
theorem rt_name {i : Nat} (hi : i < n) : RT K n W [i] (gName i) (gSet i) := by
  intro g FS env τ σ tv H v Q r env' hK hn hW he hs Sm nb e h
  unfold gSet at e
  cases e1 : r.sl with
  | none => rw [e1] at e; cases e
  | some k =>
    rw [e1] at e; cases e
    obtain ⟨rv, tk, hk⟩ := Sim.topSl Sm (by rw [List.length_append, he, hn]; exact Nat.le_add_right _ _) e1
    have s1 := Sm.pop
    have s2 := s1.put (i := i) (by rw [List.length_append, he]; omega) rv (tk.drop i) hk (by
      rcases nb with nb | nb
      · exact .inl (s1.nobor (by rw [he, hn]) nb)
      · exact .inr (by rw [hW]; exact nb i (by simp)))
    rw [List.set_append_left _ _ (by rw [he]; exact hi), List.set_append_left _ _ (by rw [hs]; exact hi)] at s2
    refine h (σ.set i (some v)) H _ (by simpa using he) (by simpa using hs) (fun j hj => ?_) s2
    exact List.getElem?_set_ne (by intro z; subst z; simp at hj)
def sAsg (fe : List S → Option (T × List S)) (gt : T → List S → Option (List S)) : List S → Option Fl := fun env => (fe env).bind fun r => (gt r.1 r.2).map .nx
theorem rs_asg {te : TE} {gt : TG} {fe : List S → Option (T × List S)} {ft : T → List S → Option (List S)} (ht : RE K n W Y te fe) (hg : RT K n W A gt ft) : RS K n W A false (tAsg te gt) (sAsg fe ft) := by
  intro g FS env τ σ tv H D r hK hn hW he hs Sm nb e p
  unfold sAsg at e
  cases e1 : fe env with
  | none => rw [e1] at e; cases e
  | some r1 =>
    obtain ⟨r1, env1⟩ := r1
    cases e2 : ft r1 env1 with
    | none => simp only [e1, Option.bind_some, e2] at e; cases e
    | some env2 =>
      simp only [e1, Option.bind_some, e2, Option.map_some, Option.some.injEq] at e
      subst e
      exact ht g FS env τ σ tv H _ r1 env1 hK hn hW he hs Sm (fun _ => nb.nb) e1 fun v H' FS' l s => hg g FS' env1 τ σ tv H' v _ r1 env2 hK hn hW l hs s (.inl nb.nb) e2 p
/-- a tuple's parts to names -/
def gSets (k : Tk) : List Nat → List D → List S → Option (List S)
  | [], [], env => some env
  | i :: is, d :: ds, env => (gSet i (k, d) env).bind fun env' => gSets k is ds env'
  | _, _, _ => none
def gTups (is : List Nat) : T → List S → Option (List S) := fun r env => match r.2 with
  | .tup ds => gSets r.1 is ds env
  | _ => none
def gNames : List Nat → TGs
  | [] => gNil
  | i :: is => gCons (gName i) (gNames is)
theorem gNames_ok {is : List Nat} (hi : ∀ i ∈ is, i < n) : ∀ {ds : List D} {vs : List V} {F : List Addr} {k : Tk} {g : G} {FS : Nat → List Addr} {env τ : List S} {σ : L2.St} {tv : List (Option V)} {H : Hp} {Q : L2.St → Hp → Prop} {env' : List S}, g.K = K → g.n = n → g.W = W → env.length = n → σ.length = n →
    Sim g FS (env ++ τ) (σ ++ tv) H → (NoBor τ ∨ ∀ i ∈ is, i ∉ W) → RepL K H vs ds F → TOk g FS (env ++ τ) k F → F.Nodup ∨ k ≠ .own → gSets k is ds env = some env' →
    (∀ (σ' : L2.St) (H' : Hp) (FS' : Nat → List Addr), env'.length = n → σ'.length = n → Keep is σ σ' → Sim g FS' (env' ++ τ) (σ' ++ tv) H' → Q σ' H') → gNames is vs σ H Q := by
  induction is with
  | nil =>
    intro ds vs F k g FS env τ σ tv H Q env' hK hn hW he hs Sm nb rl tk nd e h
    cases ds with
    | nil =>
      cases rl
      cases e
      exact ⟨rfl, h σ H FS he hs Keep.refl Sm⟩
    | cons d ds => simp [gSets] at e
  | cons i is ih =>
    intro ds vs F k g FS env τ σ tv H Q env' hK hn hW he hs Sm nb rl tk nd e h
    cases ds with
    | nil => simp [gSets] at e
    | cons d ds =>
      cases rl with
      | cons rv rl =>
        rename_i v vs F1 F2
        simp only [gSets] at e
        cases e1 : gSet i (k, d) env with
        | none => rw [e1] at e; cases e
        | some env1 =>
          rw [e1] at e
          refine ⟨v, vs, rfl, ?_⟩
          -- the first part on top
          have tk1 : TOk g FS (env ++ τ) k F1 := tk.sub (fun a m => List.mem_append_left _ m) fun q => (List.nodup_append.mp q).1
          subst hK
          have sp : Sim g _ ((env ++ τ) ++ [T.s (k, d)]) ((σ ++ tv) ++ [some v]) H := Sm.push rv tk1 fun _ => by rw [List.length_append, he, hn]; exact Nat.le_add_right _ _
          unfold gSet at e1
          cases e2 : T.sl (k, d) with
          | none => rw [e2] at e1; cases e1
          | some k1 =>
            rw [e2] at e1; cases e1
            obtain ⟨tk2', hk⟩ := TOk.sl (r := (k, d)) rv tk1 e2
            have hil : i < n := hi i (by simp)
            have nb2 : NoBor (env ++ τ) ∨ i ∉ g.W := by
              rcases nb with nb | nb
              · exact .inl (Sm.nobor (by rw [he, hn]) nb)
              · exact .inr (by rw [hW]; exact nb i (by simp))
            have s2 := Sm.put (i := i) (by rw [List.length_append, he]; omega) rv (tk2'.drop i) hk nb2
            rw [List.set_append_left _ _ (by rw [he]; exact hil), List.set_append_left _ _ (by rw [hs]; exact hil)] at s2
            have own1 : S.wr (.t k1 d) = true → ∀ a ∈ F2, a ∉ F1 := fun hw a m m' => by
              have z1 : k1 = .own := by cases k1 <;> first | rfl | exact Bool.noConfusion hw
              subst z1
              by_cases hk1 : k = .own
              · rcases nd with nd | nd
                · exact (List.nodup_append.mp nd).2.2 a m' a m rfl
                · exact nd hk1
              · have : k = .bor := by
                  cases k <;> first | rfl | exact absurd rfl hk1 | exact absurd e2 (by simp [T.sl])
                subst this
                simp only [T.sl] at e2
                by_cases hf : d.flat = true
                · rw [rv.flat hf] at m'; cases m'
                · rw [if_neg hf] at e2; cases e2
            have tk3 : TOk g (setF FS i F1) (env.set i (.t k1 d) ++ τ) k F2 := by
              have t0 : TOk g FS (env ++ τ) k F2 := tk.sub (fun a m => List.mem_append_right _ m) fun q => (List.nodup_append.mp q).2.1
              have es : env.set i (.t k1 d) ++ τ = (env ++ τ).set i (.t k1 d) := by rw [List.set_append_left _ _ (by rw [he]; exact hil)]
              rw [es]
              refine ⟨t0.tree, t0.old, fun z j s ej hs a m => ?_, fun z j s ej hw a m => ?_, fun j s ej hw hj a m => ?_⟩
              · rcases get_set ej with ⟨q, f, _⟩ | ⟨q, f⟩
                · subst q; rw [setF_same]
                  rcases nd with nd | nd
                  · exact fun m' => (List.nodup_append.mp nd).2.2 a m' a m rfl
                  · exact absurd z nd
                · rw [setF_ne q]; exact t0.excl z j s f hs a m
              · rcases get_set ej with ⟨q, f, _⟩ | ⟨q, f⟩
                · subst q; subst f; rw [setF_same]
                  exact own1 hw a m
                · rw [setF_ne q]; exact t0.shar z j s f hw a m
              · rcases get_set ej with ⟨q, f, _⟩ | ⟨q, f⟩
                · subst q; subst f; rw [setF_same]
                  exact own1 hw a m
                · rw [setF_ne q]; exact t0.bor j s f hw hj a m
            refine ih (fun j m => hi j (List.mem_cons_of_mem _ m)) rfl hn hW (by simpa using he) (by simpa using hs) s2 (nb.imp_right fun q j m => q j (List.mem_cons_of_mem _ m)) rl tk3 (nd.imp_left fun q => (List.nodup_append.mp q).2.1) e fun σ' H' FS' l1 l2 kp s => ?_
            refine h σ' H' FS' l1 l2 (fun j hj => ?_) s
            rw [kp j fun m => hj (List.mem_cons_of_mem _ m)]
            exact List.getElem?_set_ne fun z => hj (by subst z; simp)
theorem rt_tup {is : List Nat} {m : Nat} (hi : ∀ i ∈ is, i < n) (hm : is.length = m) : RT K n W is (gTup K m (gNames is)) (gTups is) := by
  intro g FS env τ σ tv H v Q r env' hK hn hW he hs Sm nb e h
  unfold gTups at e
  obtain ⟨k, d⟩ := r
  cases d with
  | tup ds =>
    obtain ⟨v', ev, rv, tk⟩ := Sim.top (k := k) (d := .tup ds) Sm (by rw [List.length_append, he, hn]; exact Nat.le_add_right _ _)
    cases ev
    cases rv with
    | tup hq hy hz rl =>
      rename_i a vs
      have lens : ∀ {is : List Nat} {ds : List D} {env env' : List S}, gSets k is ds env = some env' → is.length = ds.length := by
        intro is
        induction is with
        | nil => intro ds env env' e; cases ds with
          | nil => rfl
          | cons d ds => simp [gSets] at e
        | cons i is ih => intro ds env env' e; cases ds with
          | nil => simp [gSets] at e
          | cons d ds =>
            simp only [gSets] at e
            cases e1 : gSet i (k, d) env with
            | none => rw [e1] at e; cases e
            | some env1 => rw [e1] at e; exact congrArg (· + 1) (ih e)
      subst hK
      refine ⟨a, vs, rfl, hq, by rw [rl.length, ← lens e]; exact hm, ?_⟩
      exact gNames_ok hi rfl hn hW he hs Sm.pop nb rl tk (by
        by_cases hk : k = .own
        · exact .inl (tk.tree (by rw [hk]; rfl)).1
        · exact .inr hk) e h
  | _ => cases e
end
end RG

set_option maxRecDepth 100000
set_option maxHeartbeats 4000000
namespace RG
open PySem PySem.Spec PyProof.Rows L2

section
variable {g : G} {FS : Nat → List Addr} {L : List S} {VS : List (Option V)} {H H' : Hp}
/-- where nothing is borrowed, the written slots don't matter -/
theorem Sim.reW (h : Sim g FS L VS H) (nb : NoBor L) (W : List Nat) (n : Nat) (hw : ∀ i ∈ W, i < n) : Sim { g with W := W, n := n } FS L VS H :=
  ⟨h.len, h.rep, h.nod, h.fr, h.od, h.fio, fun i j s s' hij e1 e2 w1 w2 w3 => h.dis i j s s' hij e1 e2 w1 w2 (fun q => by rw [nb j s' e2] at q; cases q), h.base, h.dom, (fun i s e q => by rw [nb i s e] at q; cases q), h.pv, hw⟩
/-- the first entries alone -/
theorem Sim.pre {M : List S} {WS : List (Option V)} (h : Sim g FS (L ++ M) (VS ++ WS) H) (hl : L.length = VS.length) : Sim g FS L VS H := by
  have up : ∀ {i : Nat} {s' : S}, L[i]? = some s' → (L ++ M)[i]? = some s' := fun e => by rw [List.getElem?_append_left (lt_of_get e)]; exact e
  refine ⟨hl, fun i s' d e1 e2 => ?_, fun i s' e1 => h.nod i s' (up e1), fun i k d e => h.fr i k d (up e), fun i d e => h.od i d (up e), fun i d e => h.fio i d (up e), fun i j s' s'' hij e1 e2 => h.dis i j s' s'' hij (up e1) (up e2), h.base, h.dom, fun i s' e1 => h.sb i s' (up e1), fun i d e1 => ?_, h.wlt⟩
  · obtain ⟨v, e, r⟩ := h.rep i s' d (up e1) e2
    refine ⟨v, ?_, r⟩
    rw [List.getElem?_append_left (by rw [← hl]; exact lt_of_get e1)] at e
    exact e
  · obtain ⟨v, e2, e3⟩ := h.pv i d (up e1)
    rw [List.getElem?_append_left (by rw [← hl]; exact lt_of_get e1)] at e3
    exact ⟨v, e2, e3⟩
/-- empty slots behind -/
theorem get_pad {α : Type} {l : List α} {a s : α} {i m : Nat} (e : (l ++ List.replicate m a)[i]? = some s) : l[i]? = some s ∨ (l.length ≤ i ∧ s = a) := by
  by_cases h : i < l.length
  · rw [List.getElem?_append_left h] at e; exact .inl e
  · rw [List.getElem?_append_right (Nat.le_of_not_lt h), List.getElem?_replicate] at e
    split at e
    · exact .inr ⟨Nat.le_of_not_lt h, (Option.some.inj e).symm⟩
    · cases e
theorem Sim.pad (h : Sim g FS L VS H) (m : Nat) (x : Option V) : Sim g FS (L ++ List.replicate m .gone) (VS ++ List.replicate m x) H := by
  have up : ∀ {i : Nat} {s : S}, (L ++ List.replicate m .gone)[i]? = some s → s.d?.isSome = true ∨ s.tree = true ∨ s.isBor = true → L[i]? = some s := fun e z => by
    rcases get_pad e with e | ⟨_, e⟩
    · exact e
    · subst e; rcases z with z | z | z <;> cases z
  have vs : ∀ {i : Nat} {s : S} {y : Option V}, L[i]? = some s → VS[i]? = some y → (VS ++ List.replicate m x)[i]? = some y := fun e q => by
    rw [List.getElem?_append_left (by rw [← h.len]; exact lt_of_get e)]; exact q
  refine ⟨by simp [h.len], fun i s d e1 e2 => ?_, fun i s e1 e2 => h.nod i s (up e1 (.inr (.inl e2))) e2, fun i k d e => h.fr i k d (up e (.inl rfl)), fun i d e => h.od i d (up e (.inl rfl)), fun i d e => h.fio i d (up e (.inl rfl)),
    fun i j s s' hij e1 e2 w1 w2 => h.dis i j s s' hij (up e1 (.inl (S.some_of_wr w1))) (up e2 (.inl w2)) w1 w2, h.base, h.dom, fun i s e1 e2 => h.sb i s (up e1 (.inr (.inr e2))) e2, fun i d e => ?_, h.wlt⟩
  · have e1' := up e1 (.inl (by rw [e2]; rfl))
    obtain ⟨v, ev, rv⟩ := h.rep i s d e1' e2
    exact ⟨v, vs e1' ev, rv⟩
  · have e' := up e (.inl rfl)
    obtain ⟨v, e1, e2⟩ := h.pv i d e'
    exact ⟨v, e1, vs e' e2⟩
end

/-! ### a def's promise -/
def g0 (K : PySem.W.Frag) (H : Hp) (vs : List V) (L0 : List S) (FS : Nat → List Addr) : G := ⟨K, H, fun i a => (∃ d, L0[i]? = some (S.io d)) ∧ a ∈ FS i, [], 0, vs⟩
def ArgS (L0 : List S) : Prop := ∀ (i : Nat) (s : S), L0[i]? = some s → (∃ d, s = .io d) ∨ (∃ d, s = .t .old d)
abbrev Fn := List S → Option (D × List S)
def spOf (K : PySem.W.Frag) (m : Nat) (f : Fn) : Sp := fun vs H Q _ => ∃ (L0 : List S) (FS : Nat → List Addr) (d : D) (L1 : List S), L0.length = m ∧ ArgS L0 ∧ Sim (g0 K H vs L0 FS) FS L0 (vs.map some) H ∧ f L0 = some (d, L1) ∧
  ∀ v H' FS', Sim (g0 K H vs L0 FS) FS' (L1 ++ [.t .own d]) (vs.map some ++ [some v]) H' → Q v H'
def S.only : S → S
  | .io d => .io d
  | _ => .gone
def outs (m : Nat) (env : List S) : List S := (env.take m).map S.only
/-- what a body of that meaning hands back -/
def fnOf (n : Nat) (fb : List S → Option Fl) : Fn := fun L0 => match fb (L0 ++ List.replicate (n - L0.length) .gone) with
  | some (.rt r env') => match r.sl with
    | some .own => some (r.2, outs L0.length env')
    | some .frz => some (r.2, outs L0.length env')
    | _ => if r.2.flat then some (r.2, outs L0.length env') else none
  | some (.nx env') => some (.non, outs L0.length env')
  | _ => none
section
variable {g : G} {FS : Nat → List Addr} {L : List S} {VS WS : List (Option V)} {H H' : Hp}
theorem outs_get {m : Nat} {env : List S} {i : Nat} {s : S} (e : (outs m env)[i]? = some s) (hs : s ≠ .gone) : ∃ d, s = .io d ∧ env[i]? = some (.io d) ∧ i < m := by
  unfold outs at e
  rw [List.getElem?_map, List.getElem?_take] at e
  split at e
  · rename_i hi
    cases q : env[i]? with
    | none => rw [q] at e; cases e
    | some s' =>
      rw [q] at e
      cases s' with
      | gone => cases e; exact absurd rfl hs
      | io d => cases e; exact ⟨d, rfl, rfl, hi⟩
      | t k d => cases e; exact absurd rfl hs
  · cases e
theorem Sim.done {n m : Nat} {k : Tk} {W : List Nat} {vs : List V} {env' : List S} {σ' : L2.St} {d : D} {v : V} {FS' : Nat → List Addr} {F : List Addr} {H0 : Hp} {L0 : List S} {K : PySem.W.Frag} (h : Sim { (g0 K H0 vs L0 FS) with W := W, n := n } FS' env' σ' H') (hm : L0.length = m) (he : m ≤ env'.length) (hvs : vs.length = m)
    (r : Rep K H' v d F) (hk : k.nf = true) (tk : TOk { (g0 K H0 vs L0 FS) with W := W, n := n } FS' env' k F) : Sim (g0 K H0 vs L0 FS) (setF FS' m F) (outs m env' ++ [.t .own d]) (vs.map some ++ [some v]) H' := by
  have ol : (outs m env').length = m := by unfold outs; rw [List.length_map, List.length_take]; omega
  have h1 : Sim (g0 K H0 vs L0 FS) FS' (outs m env') (vs.map some) H' := by
    refine ⟨by rw [ol, List.length_map, hvs], fun i s d e1 e2 => ?_, fun i s e1 e2 => ?_, fun i k d e hk' => ?_, fun i d e => ?_, fun i d e => ?_, fun i j s s' hij e1 e2 w1 w2 w3 => ?_, h.base, h.dom, fun i s e1 e2 => ?_, fun i d e => ?_, fun i z => (nomatch z)⟩
    · obtain ⟨d', rfl, e', _⟩ := outs_get e1 (fun z => by subst z; cases e2)
      cases e2
      obtain ⟨u, eu, ru⟩ := h.rep i _ d e' rfl
      obtain ⟨w, e3, e4⟩ := h.pv i d e'
      rw [eu] at e4
      cases e4
      exact ⟨u, by rw [List.getElem?_map]; exact (congrArg (Option.map some) e3), ru⟩
    · obtain ⟨d', rfl, e', _⟩ := outs_get e1 (fun z => by subst z; cases e2)
      exact h.nod i _ e' rfl
    · obtain ⟨d', z, _⟩ := outs_get e (fun z => by cases z)
      cases z
    · obtain ⟨d', z, _⟩ := outs_get e (fun z => by cases z)
      cases z
    · obtain ⟨d', z, e', _⟩ := outs_get e (fun z => by cases z)
      cases z
      exact h.fio i d e'
    · obtain ⟨d1, rfl, e1', _⟩ := outs_get e1 (fun z => by subst z; cases w1)
      obtain ⟨d2, rfl, e2', _⟩ := outs_get e2 (fun z => by subst z; cases w2)
      exact h.dis i j _ _ hij e1' e2' rfl rfl fun z => by cases z
    · obtain ⟨d1, rfl, _⟩ := outs_get e1 (fun z => by subst z; cases e2)
      cases e2
    · obtain ⟨d', z, e', _⟩ := outs_get e (fun z => by cases z)
      cases z
      obtain ⟨w, e3, e4⟩ := h.pv i d e'
      exact ⟨w, e3, by rw [List.getElem?_map]; exact (congrArg (Option.map some) e3)⟩
  have sh : ∀ j s, (outs m env')[j]? = some s → s.d?.isSome = true → ∀ a ∈ F, a ∉ FS' j := fun j s ej hs a ma => by
    obtain ⟨d1, rfl, e1', _⟩ := outs_get ej (fun z => by subst z; cases hs)
    exact tk.shar (fun z => by subst z; cases hk) j _ e1' rfl a ma
  have := h1.push (k := .own) (d := d) (v := v) (F := F) r ⟨fun _ => tk.tree hk, fun z => (nomatch z), fun _ j s ej hs => sh j s ej hs, fun _ j s ej hw => sh j s ej (S.some_of_wr hw), fun j s ej hw _ => sh j s ej (S.some_of_wr hw)⟩ fun z => (nomatch z)
  rwa [ol] at this
end

section
variable {P : Program} {w : World} {K : PySem.W.Frag} {mg : Str → Option Value} {base : Heap}
/-- THE RULE for a def -/
theorem fn_ok {x qual : Str} {st : Stmt} {f : Addr} {fd : FuncData} {N ps : List Str} {k m n : Nat} {W A : List Nat} {Z : Bool} {fb : List S → Option Fl} (F : Fun K x qual st f fd) (S' : FnScope N ps (defScope st)) (hm : ps.length = m) (hn : N.length = n) (hmn : m ≤ n) (hW : ∀ i ∈ W, i < n)
    (hbody : ∀ (cdv : Value) (A' : Around) (outer : List Env) (s : Shared) (H : Hp) (E : XK), Room k (A'.deeper (envOfC qual (defScope st) s.heap.objs.size f cdv)) →
      ∃ t, PSs (cxOf CX0 P w K mg base N qual (defScope st) f cdv A' outer s H E).nox (defBody st) t ∧ RS K n W A Z t fb) : FnOk P w K mg base CX0 (k + 1) f fd ps (spOf K m (fnOf n fb)) := by
  refine F.ok S' (fun vs H Q E h => ?_) (fun cdv A' outer s H vs Q E hr h => ?_)
  · obtain ⟨L0, FS, d, L1, h1, _, h3, _⟩ := h
    have := h3.len
    rw [List.length_map] at this
    omega
  · obtain ⟨t, ht, hs⟩ := hbody cdv A' outer s H E hr
    refine ⟨t, ht, ?_⟩
    obtain ⟨L0, FS, d, L1, h1, h2, h3, h4, h5⟩ := h
    have hl := h3.len
    rw [List.length_map] at hl
    have hvs : vs.length = m := by omega
    have nb : NoBor L0 := fun i s e => by
      rcases h2 i s e with ⟨d, rfl⟩ | ⟨d, rfl⟩ <;> rfl
    have h3' := (h3.reW nb W n hW).pad (n - m) none
    have est : L2.start N vs = vs.map some ++ List.replicate (n - m) none := by unfold L2.start; rw [hn, hvs]
    rw [est]
    have q1 : Sim { (g0 K H vs L0 FS) with W := W, n := n } FS ((L0 ++ List.replicate (n - m) .gone) ++ []) ((vs.map some ++ List.replicate (n - m) none) ++ []) H := by simpa using h3'
    have lenE : (L0 ++ List.replicate (n - m) S.gone).length = n := by rw [List.length_append, List.length_replicate]; omega
    have lenV : (vs.map some ++ List.replicate (n - m) (none : Option V)).length = n := by rw [List.length_append, List.length_replicate, List.length_map]; omega
    unfold fnOf at h4
    rw [h1] at h4
    cases e1 : fb (L0 ++ List.replicate (n - m) .gone) with
    | none => rw [e1] at h4; cases h4
    | some r =>
      rw [e1] at h4
      refine hs _ FS (L0 ++ List.replicate (n - m) .gone) [] (vs.map some ++ List.replicate (n - m) none) [] H _ r rfl rfl rfl lenE lenV q1 ⟨fun j s e => by simp at e, fun _ j k d e => by simp at e⟩ e1 ?_
      cases r with
      | bk L => cases h4
      | ct L => cases h4
      | nx env' =>
        cases h4
        intro σ' H' FS' l1 l2 kp s'
        rw [List.append_nil, List.append_nil] at s'
        refine h5 .non H' _ (Sim.done (k := .own) (F := []) s' h1 (by omega) hvs .non rfl (TOk.nil _))
      | rt r env' =>
        intro v σ' H' FS' l1 l2 kp s'
        rw [List.append_nil, List.append_nil] at s'
        obtain ⟨k0, d0⟩ := r
        obtain ⟨v', ev, rv, tk⟩ := Sim.top (k := k0) (d := d0) s' (by show n ≤ _; omega)
        rw [← Option.some.inj ev] at rv
        have viaFlat : D.flat d0 = true → (d0, outs m env') = (d, L1) → Q v H' := fun hf e => by
          cases e
          have := rv.flat hf
          exact h5 v H' _ (Sim.done (k := .own) (F := []) s'.pop h1 (by omega) hvs (by rw [this] at rv; exact rv) rfl (TOk.nil _))
        dsimp only at h4
        split at h4
        · rename_i e2
          cases k0 with
          | own => cases h4; exact h5 v H' _ (Sim.done s'.pop h1 (by omega) hvs rv rfl tk)
          | bor =>
            simp only [T.sl] at e2
            by_cases hf : D.flat d0 = true
            · exact viaFlat hf (Option.some.inj h4)
            · rw [if_neg hf] at e2; cases e2
          | _ => cases e2
        · rename_i e2
          cases k0 with
          | frz => cases h4; exact h5 v H' _ (Sim.done s'.pop h1 (by omega) hvs rv rfl tk)
          | bor =>
            simp only [T.sl] at e2
            by_cases hf : D.flat d0 = true
            · rw [if_pos hf] at e2; cases e2
            · rw [if_neg hf] at e2; cases e2
          | _ => cases e2
        · split at h4
          · rename_i hf
            exact viaFlat hf (Option.some.inj h4)
          · cases h4
end

/-! ### calls -/
def ptrs : List Ar → List Nat
  | [] => []
  | .ptr i :: as => i :: ptrs as
  | .tmp _ :: as => ptrs as
def argS (env : List S) : List Ar → Option (List S)
  | [] => some []
  | .tmp t :: as => (argS env as).map fun r => .t .old t.2 :: r
  | .ptr i :: as => match env[i]? with
    | some (.io d) => (argS env as).map fun r => .io d :: r
    | some (.t .own d) => (argS env as).map fun r => .io d :: r
    | _ => none
def S.back (s o : S) : S := match o with
  | .io d => s.with d
  | _ => .gone
def wb : List Ar → List S → List S → List S
  | .ptr i :: as, o :: os, env => wb as os (match env[i]? with
    | some s => env.set i (s.back o)
    | none => env)
  | .tmp _ :: as, _ :: os, env => wb as os env
  | _, _, env => env
theorem mem_ptrs : ∀ {as : List Ar} {i : Nat}, i ∈ ptrs as ↔ ∃ j : Nat, as[j]? = some (Ar.ptr i)
  | [], i => by simp [ptrs]
  | .ptr k :: as, i => by
    simp only [ptrs, List.mem_cons, mem_ptrs (as := as)]
    constructor
    · rintro (rfl | ⟨j, e⟩)
      · exact ⟨0, rfl⟩
      · exact ⟨j + 1, by simpa using e⟩
    · rintro ⟨j, e⟩
      cases j with
      | zero => simp at e; exact .inl e.symm
      | succ j => exact .inr ⟨j, by simpa using e⟩
  | .tmp t :: as, i => by
    simp only [ptrs, mem_ptrs (as := as)]
    constructor
    · rintro ⟨j, e⟩; exact ⟨j + 1, by simpa using e⟩
    · rintro ⟨j, e⟩
      cases j with
      | zero => simp at e
      | succ j => exact ⟨j, by simpa using e⟩
theorem ptr_inj : ∀ {as : List Ar} {i j j' : Nat}, (ptrs as).Nodup → as[j]? = some (.ptr i) → as[j']? = some (.ptr i) → j = j'
  | [], _, _, _, _, e, _ => by simp at e
  | a :: as, i, 0, 0, _, _, _ => rfl
  | .ptr k :: as, i, 0, j' + 1, nd, e, e' => by
    simp at e; subst e
    have : k ∈ ptrs as := mem_ptrs.mpr ⟨j', by simpa using e'⟩
    exact absurd this (List.nodup_cons.mp nd).1
  | .tmp t :: as, i, 0, j' + 1, nd, e, e' => by simp at e
  | .ptr k :: as, i, j + 1, 0, nd, e, e' => by
    simp at e'; subst e'
    have : k ∈ ptrs as := mem_ptrs.mpr ⟨j, by simpa using e⟩
    exact absurd this (List.nodup_cons.mp nd).1
  | .tmp t :: as, i, j + 1, 0, nd, e, e' => by simp at e'
  | .ptr k :: as, i, j + 1, j' + 1, nd, e, e' => congrArg (· + 1) (ptr_inj (List.nodup_cons.mp nd).2 (by simpa using e) (by simpa using e'))
  | .tmp k :: as, i, j + 1, j' + 1, nd, e, e' => congrArg (· + 1) (ptr_inj (as := as) (i := i) (show (ptrs as).Nodup from nd) (by simpa using e) (by simpa using e'))
theorem wb_length : ∀ {as : List Ar} {os env : List S}, (wb as os env).length = env.length
  | [], _, _ => by simp [wb]
  | .ptr i :: as, [], _ => by simp [wb]
  | .tmp i :: as, [], _ => by simp [wb]
  | .ptr i :: as, o :: os, env => by
    simp only [wb]
    rw [wb_length]
    split <;> simp
  | .tmp i :: as, o :: os, env => by simp only [wb]; exact wb_length
theorem wb_out : ∀ {as : List Ar} {os env : List S} {i : Nat}, i ∉ ptrs as → (wb as os env)[i]? = env[i]?
  | [], _, _, _, _ => by simp [wb]
  | .ptr i :: as, [], _, _, _ => by simp [wb]
  | .tmp i :: as, [], _, _, _ => by simp [wb]
  | .ptr k :: as, o :: os, env, i, n => by
    simp only [wb]
    simp only [ptrs, List.mem_cons, not_or] at n
    rw [wb_out n.2]
    split
    · exact List.getElem?_set_ne (Ne.symm n.1)
    · rfl
  | .tmp t :: as, o :: os, env, i, n => by simp only [wb]; exact wb_out n
theorem wb_in : ∀ {as : List Ar} {os env : List S} {i j : Nat} {o : S}, (ptrs as).Nodup → as[j]? = some (.ptr i) → os[j]? = some o → (wb as os env)[i]? = (env[i]?).map fun s => s.back o
  | [], _, _, _, _, _, _, e, _ => by simp at e
  | a :: as, [], _, _, _, _, _, _, e => by simp at e
  | .ptr k :: as, o' :: os, env, i, 0, o, nd, e, eo => by
    simp at e eo; subst e; subst eo
    simp only [wb]
    rw [wb_out (List.nodup_cons.mp nd).1]
    cases q : env[k]? with
    | none => simp [q]
    | some s => simp [q, List.getElem?_set_self (lt_of_get q)]
  | .tmp k :: as, o' :: os, env, i, 0, o, nd, e, eo => by simp at e
  | .ptr k :: as, o' :: os, env, i, j + 1, o, nd, e, eo => by
    simp only [wb]
    have hk : k ≠ i := fun z => by
      subst z
      exact (List.nodup_cons.mp nd).1 (mem_ptrs.mpr ⟨j, by simpa using e⟩)
    rw [wb_in (List.nodup_cons.mp nd).2 (by simpa using e) (by simpa using eo)]
    split
    · rw [List.getElem?_set_ne hk]
    · rfl
  | .tmp k :: as, o' :: os, env, i, j + 1, o, nd, e, eo => by
    simp only [wb]
    exact wb_in nd (by simpa using e) (by simpa using eo)
theorem argS_length : ∀ {as : List Ar} {env L0 : List S}, argS env as = some L0 → L0.length = as.length
  | [], _, _, e => by simp [argS] at e; subst e; rfl
  | .tmp t :: as, env, L0, e => by
    simp only [argS] at e
    cases q : argS env as with
    | none => rw [q] at e; cases e
    | some r => rw [q] at e; cases e; exact congrArg (· + 1) (argS_length q)
  | .ptr i :: as, env, L0, e => by
    simp only [argS] at e
    cases q : argS env as with
    | none => simp only [q, Option.map_none] at e; split at e <;> cases e
    | some r =>
      simp only [q, Option.map_some] at e
      split at e
      · cases e; exact congrArg (· + 1) (argS_length q)
      · cases e; exact congrArg (· + 1) (argS_length q)
      · cases e
theorem argS_get : ∀ {as : List Ar} {env L0 : List S} {j : Nat} {s : S}, argS env as = some L0 → L0[j]? = some s →
    (∃ k d, as[j]? = some (.tmp (k, d)) ∧ s = .t .old d) ∨ (∃ i s' d, as[j]? = some (.ptr i) ∧ env[i]? = some s' ∧ s'.wr = true ∧ s'.d? = some d ∧ s = .io d)
  | [], _, _, j, s, e, es => by simp [argS] at e; subst e; simp at es
  | .tmp t :: as, env, L0, j, s, e, es => by
    simp only [argS] at e
    cases q : argS env as with
    | none => rw [q] at e; cases e
    | some r =>
      rw [q] at e; cases e
      cases j with
      | zero => simp at es; exact .inl ⟨t.1, t.2, rfl, es.symm⟩
      | succ j => simpa using argS_get q (j := j) (s := s) (by simpa using es)
  | .ptr i :: as, env, L0, j, s, e, es => by
    simp only [argS] at e
    cases q : argS env as with
    | none => simp only [q, Option.map_none] at e; split at e <;> cases e
    | some r =>
      simp only [q, Option.map_some] at e
      split at e
      · rename_i d ed
        cases e
        cases j with
        | zero => simp at es; exact .inr ⟨i, _, d, rfl, ed, rfl, rfl, es.symm⟩
        | succ j => simpa using argS_get q (j := j) (s := s) (by simpa using es)
      · rename_i d ed
        cases e
        cases j with
        | zero => simp at es; exact .inr ⟨i, _, d, rfl, ed, rfl, rfl, es.symm⟩
        | succ j => simpa using argS_get q (j := j) (s := s) (by simpa using es)
      · cases e
def eCall (m : Nat) (W : List Nat) (f : Fn) (fa : List S → Option (List Ar × List S)) : List S → Option (T × List S) := fun env => match fa env with
  | none => none
  | some (as, env1) => if as.length = m ∧ (ptrs as).Nodup ∧ (∀ i ∈ ptrs as, i ∈ W) then
      (match argS env1 as with
      | none => none
      | some L0 => match f L0 with
        | none => none
        | some (d, L1) => some ((.own, d), wb as L1 env1))
    else none

theorem S.back_io {s o : S} {d : D} (h : s.back o = .io d) : ∃ d0 d1, s = .io d0 ∧ o = .io d1 ∧ d = d1 := by
  cases o with
  | gone => cases h
  | t k d => cases h
  | io d1 =>
    cases s with
    | gone => cases h
    | t k d => cases h
    | io d0 => cases h; exact ⟨d0, d, rfl, rfl, rfl⟩
section
variable {K : PySem.W.Frag} {n m : Nat} {W : List Nat} {Y : Bool}
open Classical in
theorem re_call {f : Fn} {ta : TA} {fa : List S → Option (List Ar × List S)} (ha : RA K n W Y ta fa) : RE K n W Y (tCall (spOf K m f) [] E0 ta) (eCall m W f fa) := by
  intro g FS env τ σ tv H Q r env' hK hn hW he hs Sm yb e h
  unfold eCall at e
  cases e1 : fa env with
  | none => rw [e1] at e; cases e
  | some p =>
    obtain ⟨as, env1⟩ := p
    simp only [e1] at e
    split at e
    · rename_i hc
      obtain ⟨hlen, hnd, hin⟩ := hc
      cases e2 : argS env1 as with
      | none => rw [e2] at e; cases e
      | some L0 =>
        simp only [e2] at e
        cases e3 : f L0 with
        | none => rw [e3] at e; cases e
        | some q =>
          obtain ⟨d, L1⟩ := q
          simp only [e3, Option.some.injEq, Prod.mk.injEq] at e
          obtain ⟨rfl, rfl⟩ := e
          refine ha g FS env τ σ tv H _ as env1 hK hn hW he hs Sm yb e1 fun vs H1 FS1 l1 lv pt S1 => ?_
          rw [List.append_nil]
          subst hK
          have hl1 : (env1 ++ τ).length = (σ ++ tv).length := by
            have := S1.len
            simp only [List.length_append, List.length_map] at this ⊢
            omega
          -- indices
          have upE : ∀ {i : Nat} {s : S}, env1[i]? = some s → ((env1 ++ τ) ++ as.map Ar.s)[i]? = some s := fun ei => by
            rw [List.append_assoc, List.getElem?_append_left (lt_of_get ei)]; exact ei
          have upA : ∀ {j : Nat} {a : Ar}, as[j]? = some a → ((env1 ++ τ) ++ as.map Ar.s)[(env1 ++ τ).length + j]? = some a.s := fun ej => by
            rw [List.getElem?_append_right (Nat.le_add_right _ _), Nat.add_sub_cancel_left, List.getElem?_map, ej]; rfl
          have vsA : ∀ {j : Nat} {v : V}, ((σ ++ tv) ++ vs.map some)[(env1 ++ τ).length + j]? = some (some v) → vs[j]? = some v := fun {j v} ej => by
            rw [hl1, List.getElem?_append_right (Nat.le_add_right _ _), Nat.add_sub_cancel_left, List.getElem?_map] at ej
            cases q : vs[j]? with
            | none => rw [q] at ej; cases ej
            | some u => rw [q] at ej; cases ej; rfl
          have vsE : ∀ {i : Nat} {v : V}, i < n → ((σ ++ tv) ++ vs.map some)[i]? = some (some v) → σ[i]? = some (some v) := fun {i v} hi ei => by
            rw [List.append_assoc, List.getElem?_append_left (by rw [hs]; exact hi)] at ei; exact ei
          have wlt : ∀ i ∈ ptrs as, i < n := fun i m => by rw [← hn]; exact S1.wlt i (by rw [hW]; exact hin i m)
          let FS0 : Nat → List Addr := fun j => match as[j]? with
            | some (.ptr i) => FS1 i
            | _ => FS1 ((env1 ++ τ).length + j)
          have f0p : ∀ {j i : Nat}, as[j]? = some (.ptr i) → FS0 j = FS1 i := fun {j i} ej => by show (match as[j]? with | some (.ptr i) => FS1 i | _ => _) = _; rw [ej]
          have f0t : ∀ {j : Nat} {t : T}, as[j]? = some (.tmp t) → FS0 j = FS1 ((env1 ++ τ).length + j) := fun {j t} ej => by show (match as[j]? with | some (.ptr i) => FS1 i | _ => _) = _; rw [ej]
          have l0 := argS_length e2
          have S0 : Sim (g0 g.K H1 vs L0 FS0) FS0 L0 (vs.map some) H1 := by
            refine ⟨by rw [l0, List.length_map, lv], fun j s d' ej ed => ?_, fun j s ej ew => ?_, fun j k' d' ej hk' => ?_, fun j d' ej => ?_, fun j d' ej a ma => .inl ⟨⟨d', ej⟩, ma⟩, fun i j s s' hij ei ej w1 w2 w3 => ?_, fun a o ea _ => ea, fun a q => q, fun j s ej eb => ?_, fun j d' ej => ?_, fun i z => (nomatch z)⟩
            · rcases argS_get e2 ej with ⟨k, d1, ea, rfl⟩ | ⟨i, s1, d1, ea, es, ew, ed1, rfl⟩
              · cases ed
                obtain ⟨v, ev, rv⟩ := S1.rep _ _ d' (upA ea) rfl
                exact ⟨v, by rw [List.getElem?_map, vsA ev]; rfl, by rw [f0t ea]; exact rv⟩
              · cases ed
                obtain ⟨v, ev, rv⟩ := S1.rep _ _ d' (upE es) ed1
                obtain ⟨v', e5, e6⟩ := pt j i ea
                rw [vsE (wlt i (mem_ptrs.mpr ⟨j, ea⟩)) ev] at e5
                cases e5
                exact ⟨v, by rw [List.getElem?_map, e6]; rfl, by rw [f0p ea]; exact rv⟩
            · rcases argS_get e2 ej with ⟨k, d1, ea, rfl⟩ | ⟨i, s1, d1, ea, es, ew1, ed1, rfl⟩
              · cases ew
              · rw [f0p ea]; exact S1.nod i s1 (upE es) (S.tree_of_wr ew1)
            · rcases argS_get e2 ej with ⟨k, d1, ea, z⟩ | ⟨i, s1, d1, ea, es, ew1, ed1, z⟩ <;> cases z
              cases hk'
            · rcases argS_get e2 ej with ⟨k, d1, ea, z⟩ | ⟨i, s1, d1, ea, es, ew1, ed1, z⟩ <;> cases z
              intro a ma
              rw [f0t ea] at ma
              obtain ⟨o, eo, _⟩ := S1.cells (upA ea) rfl a ma
              show H1 a ≠ none
              rw [eo]; exact fun z => (nomatch z)
            · rcases argS_get e2 ei with ⟨k, d1, ea, rfl⟩ | ⟨i1, s1, d1, ea, es, ew1, ed1, rfl⟩
              · cases w1
              · rw [f0p ea]
                rcases argS_get e2 ej with ⟨k, d2, eb, rfl⟩ | ⟨i2, s2, d2, eb, es2, ew2, ed2, rfl⟩
                · rw [f0t eb]
                  refine S1.dis i1 _ s1 _ ?_ (upE es) (upA eb) ew1 rfl fun _ => .inl (by rw [hW]; exact hin i1 (mem_ptrs.mpr ⟨i, ea⟩))
                  have := wlt i1 (mem_ptrs.mpr ⟨i, ea⟩)
                  rw [List.length_append, l1]; omega
                · rw [f0p eb]
                  refine S1.dis i1 i2 s1 s2 (fun z => ?_) (upE es) (upE es2) ew1 (by rw [ed2]; rfl) fun _ => .inl (by rw [hW]; exact hin i1 (mem_ptrs.mpr ⟨i, ea⟩))
                  subst z
                  exact hij (ptr_inj hnd ea eb)
            · rcases argS_get e2 ej with ⟨k, d1, ea, rfl⟩ | ⟨i, s1, d1, ea, es, ew1, ed1, rfl⟩ <;> cases eb
            · rcases argS_get e2 ej with ⟨k, d1, ea, z⟩ | ⟨i, s1, d1, ea, es, ew1, ed1, z⟩
              · cases z
              · obtain ⟨v', e5, e6⟩ := pt j i ea
                exact ⟨v', e6, by rw [List.getElem?_map, e6]; rfl⟩
          refine ⟨L0, FS0, d, L1, by rw [l0]; exact hlen, fun i s es => ?_, S0, e3, fun v H2 FSo So => ?_⟩
          · rcases argS_get e2 es with ⟨k, d1, _, z⟩ | ⟨_, _, d1, _, _, _, _, z⟩
            · exact .inr ⟨d1, z⟩
            · exact .inl ⟨d1, z⟩
          have lo : L1.length = as.length := by
            have := So.len
            simp only [List.length_append, List.length_map, List.length_cons, List.length_nil] at this
            omega
          -- the cells that the callee may have written
          let SA : Addr → Prop := fun a => ∃ (i j : Nat), as[j]? = some (Ar.ptr i) ∧ a ∈ FS1 i
          have xt : Ext SA H1 H2 := fun a o ea nn => So.base a o ea (nn.elim (fun z => .inl fun j q => by
            obtain ⟨⟨d1, ed⟩, ma⟩ := q
            rcases argS_get e2 ed with ⟨k, d2, _, z'⟩ | ⟨i, s1, d2, ea', _, _, _, _⟩
            · cases z'
            · exact z ⟨i, j, ea', by rw [f0p ea'] at ma; exact ma⟩) .inr)
          have dm : ∀ a, H1 a ≠ none → H2 a ≠ none := So.dom
          have Sp : Sim g FS1 (env1 ++ τ) (σ ++ tv) H1 := S1.pre hl1
          have upO : ∀ {j : Nat} {s : S}, L1[j]? = some s → (L1 ++ [S.t .own d])[j]? = some s := fun ej => by rw [List.getElem?_append_left (lt_of_get ej)]; exact ej
          have top : (L1 ++ [S.t .own d])[L1.length]? = some (.t .own d) := by simp
          -- how the slots stand behind
          have wbl : (wb as L1 env1).length = env1.length := wb_length
          let FS2 : Nat → List Addr := fun i => if hh : ∃ j : Nat, as[j]? = some (Ar.ptr i) then FSo hh.choose else FS1 i
          have f2p : ∀ {i j : Nat}, as[j]? = some (.ptr i) → FS2 i = FSo j := fun {i j} ej => by
            have hh : ∃ j : Nat, as[j]? = some (Ar.ptr i) := ⟨j, ej⟩
            show (if hh : ∃ j : Nat, as[j]? = some (Ar.ptr i) then FSo hh.choose else FS1 i) = _
            rw [dif_pos hh, ptr_inj hnd hh.choose_spec ej]
          have f2o : ∀ {i : Nat}, (¬ ∃ j : Nat, as[j]? = some (Ar.ptr i)) → FS2 i = FS1 i := fun {i} hh => dif_neg hh
          -- an entry behind, by where it comes from
          have cas : ∀ {i : Nat} {s : S}, (wb as L1 env1 ++ τ)[i]? = some s → s.d?.isSome = true →
              (∃ (j : Nat) (s0 : S) (d1 : D), as[j]? = some (Ar.ptr i) ∧ env1[i]? = some s0 ∧ L1[j]? = some (.io d1) ∧ s = s0.with d1 ∧ s0.wr = true ∧ i ∈ ptrs as) ∨ ((¬ ∃ j : Nat, as[j]? = some (Ar.ptr i)) ∧ (env1 ++ τ)[i]? = some s) := fun {i s} es hd => by
            by_cases hh : ∃ j : Nat, as[j]? = some (Ar.ptr i)
            · obtain ⟨j, ej⟩ := hh
              have hi : i < n := wlt i (mem_ptrs.mpr ⟨j, ej⟩)
              rw [List.getElem?_append_left (by rw [wbl, l1]; exact hi)] at es
              obtain ⟨o, eo⟩ : ∃ o, L1[j]? = some o := ⟨_, List.getElem?_eq_getElem (by rw [lo]; exact lt_of_get ej)⟩
              rw [wb_in hnd ej eo] at es
              obtain ⟨s0, es0⟩ : ∃ s0, env1[i]? = some s0 := ⟨_, List.getElem?_eq_getElem (by rw [l1]; exact hi)⟩
              rw [es0] at es
              have es' : s0.back o = s := Option.some.inj es
              obtain ⟨s1, es1⟩ : ∃ s1, L0[j]? = some s1 := ⟨_, List.getElem?_eq_getElem (by rw [l0]; exact lt_of_get ej)⟩
              rcases argS_get e2 es1 with ⟨k, d2, ea', _⟩ | ⟨i', s', d2, ea', es2, ew2, _, _⟩
              · rw [ej] at ea'; cases ea'
              · rw [ej] at ea'; cases ea'
                rw [es0] at es2; cases es2
                cases o with
                | gone => subst es'; cases hd
                | t k d2 => subst es'; cases hd
                | io d1 => exact .inl ⟨j, s0, d1, ej, es0, eo, es'.symm, ew2, mem_ptrs.mpr ⟨j, ej⟩⟩
            · refine .inr ⟨hh, ?_⟩
              by_cases hi : i < n
              · rw [List.getElem?_append_left (by rw [wbl, l1]; exact hi), wb_out (fun z => hh (mem_ptrs.mp z))] at es
                rw [List.getElem?_append_left (by rw [l1]; exact hi)]; exact es
              · rw [List.getElem?_append_right (by rw [wbl, l1]; omega), wbl] at es
                rw [List.getElem?_append_right (by rw [l1]; omega)]; exact es
          -- cells of a slot that was not handed in to be written
          have noSA : ∀ {i : Nat} {s : S}, (¬ ∃ j : Nat, as[j]? = some (Ar.ptr i)) → (env1 ++ τ)[i]? = some s → s.d?.isSome = true → ∀ a ∈ FS1 i, ¬ SA a := fun {i s} hh es hd a ma ⟨i', j', ej', ma'⟩ => by
            have hi' : i' < n := wlt i' (mem_ptrs.mpr ⟨j', ej'⟩)
            obtain ⟨s1, es1⟩ : ∃ s1, L0[j']? = some s1 := ⟨_, List.getElem?_eq_getElem (by rw [l0]; exact lt_of_get ej')⟩
            rcases argS_get e2 es1 with ⟨k, d2, ea', _⟩ | ⟨i2, s', d2, ea', es2, ew2, _, _⟩
            · rw [ej'] at ea'; cases ea'
            · rw [ej'] at ea'; cases ea'
              have e4 : (env1 ++ τ)[i']? = some s' := by rw [List.getElem?_append_left (by rw [l1]; exact hi')]; exact es2
              exact Sp.dis i' i s' s (fun z => hh ⟨j', by rw [← z]; exact ej'⟩) e4 es ew2 hd (fun _ => .inl (by rw [hW]; exact hin i' (mem_ptrs.mpr ⟨j', ej'⟩))) a ma' ma
          -- new cells of the callee's outcome
          have subO : ∀ {j i : Nat} {d1 : D}, as[j]? = some (.ptr i) → L1[j]? = some (.io d1) → ∀ a ∈ FSo j, a ∈ FS1 i ∨ H1 a = none := fun {j i d1} ej eo a ma => by
            rcases So.fio j d1 (upO eo) a ma with ⟨_, q⟩ | q
            · exact .inl (by rw [f0p ej] at q; exact q)
            · exact .inr q
          have fr0 : ∀ a, H1 a = none → g.H0 a = none := fun a ea => by
            cases q : g.H0 a with
            | none => rfl
            | some o => exact absurd ea (Sp.dom a (by rw [q]; exact fun z => (nomatch z)))
          have eE : ∀ {i : Nat} {s : S}, env1[i]? = some s → (env1 ++ τ)[i]? = some s := fun ei => by rw [List.getElem?_append_left (lt_of_get ei)]; exact ei
          have S2 : Sim g FS2 (wb as L1 env1 ++ τ) (σ ++ tv) H2 := by
            have sv : ∀ {i j : Nat} {s0 : S} {d1 : D}, as[j]? = some (.ptr i) → env1[i]? = some s0 → s0.wr = true → L1[j]? = some (.io d1) → ∃ v, (σ ++ tv)[i]? = some (some v) ∧ Rep g.K H2 v d1 (FSo j) := fun {i j s0 d1} ej es ew eo => by
              obtain ⟨u, eu, ru⟩ := So.rep j _ d1 (upO eo) rfl
              obtain ⟨w, e5, e6⟩ := So.pv j d1 (upO eo)
              obtain ⟨v', e7, e8⟩ := pt j i ej
              have hjv : j < (vs.map some).length := by rw [List.length_map, lv]; exact lt_of_get ej
              rw [List.getElem?_append_left hjv, List.getElem?_map] at eu
              rw [e8] at eu; cases eu
              exact ⟨u, by rw [List.getElem?_append_left (by rw [hs]; exact wlt i (mem_ptrs.mpr ⟨j, ej⟩))]; exact e7, ru⟩
            have disO : ∀ {i j i' : Nat} {s0 s' : S} {d1 : D}, as[j]? = some (.ptr i) → env1[i]? = some s0 → s0.wr = true → L1[j]? = some (.io d1) → (¬ ∃ j : Nat, as[j]? = some (Ar.ptr i')) → (env1 ++ τ)[i']? = some s' → s'.d?.isSome = true → ∀ a ∈ FSo j, a ∉ FS1 i' := fun {i j i' s0 s' d1} ej es ew eo hh es' hd a ma ma' => by
              rcases subO ej eo a ma with z | z
              · exact noSA hh es' hd a ma' ⟨i, j, ej, z⟩
              · obtain ⟨o, eo', _⟩ := Sp.cells es' hd a ma'
                rw [z] at eo'; cases eo'
            refine ⟨by rw [List.length_append, wbl, ← List.length_append]; exact hl1, fun i s d' es ed => ?_, fun i s es ew => ?_, fun i k' d' es hk' => ?_, fun i d' es => ?_, fun i d' es => ?_, fun i i' s s' hij es es' w1 w2 w3 => ?_, fun a o ea nn => ?_, fun a na => dm a (Sp.dom a na), fun i s es eb => ?_, fun i d' es => ?_, Sp.wlt⟩
            · rcases cas es (by rw [ed]; rfl) with ⟨j, s0, d1, ej, e0, eo, rfl, ew, _⟩ | ⟨hh, e0⟩
              · cases S.with_d ed
                obtain ⟨v', ev, rv⟩ := sv ej e0 ew eo
                exact ⟨v', ev, by rw [f2p ej]; exact rv⟩
              · obtain ⟨v', ev, rv⟩ := Sp.rep i s d' e0 ed
                exact ⟨v', ev, by rw [f2o hh]; exact rv.ext xt (noSA hh e0 (by rw [ed]; rfl))⟩
            · rcases cas es (S.some_of_tree ew) with ⟨j, s0, d1, ej, e0, eo, rfl, ew, _⟩ | ⟨hh, e0⟩
              · rw [f2p ej]; exact So.nod j _ (upO eo) rfl
              · rw [f2o hh]; exact Sp.nod i s e0 ew
            · rcases cas es rfl with ⟨j, s0, d1, ej, e0, eo, z, ew, _⟩ | ⟨hh, e0⟩
              · rw [f2p ej]
                intro a ma
                rcases subO ej eo a ma with q | q
                · cases s0 with
                  | gone => cases ew
                  | io _ => cases z
                  | t k d0 => cases z; exact Sp.fr i _ d0 (eE e0) hk' a q
                · exact fr0 a q
              · rw [f2o hh]; exact Sp.fr i k' d' e0 hk'
            · rcases cas es rfl with ⟨j, s0, d1, ej, e0, eo, z, ew, _⟩ | ⟨hh, e0⟩
              · cases s0 with
                | gone => cases ew
                | io _ => cases z
                | t k d0 => cases z; cases ew
              · rw [f2o hh]; exact Sp.od i d' e0
            · rcases cas es rfl with ⟨j, s0, d1, ej, e0, eo, z, ew, _⟩ | ⟨hh, e0⟩
              · rw [f2p ej]
                intro a ma
                rcases subO ej eo a ma with q | q
                · cases s0 with
                  | gone => cases ew
                  | t k d0 => cases z
                  | io d0 => exact Sp.fio i d0 (eE e0) a q
                · exact .inr (fr0 a q)
              · rw [f2o hh]; exact Sp.fio i d' e0
            · rcases cas es (S.some_of_wr w1) with ⟨j, s0, d1, ej, e0, eo, rfl, ew, _⟩ | ⟨hh, e0⟩ <;> rcases cas es' w2 with ⟨j', s0', d1', ej', e0', eo', rfl, ew', _⟩ | ⟨hh', e0'⟩
              · rw [f2p ej, f2p ej']
                exact So.dis j j' _ _ (fun z => by subst z; rw [ej] at ej'; cases ej'; exact hij rfl) (upO eo) (upO eo') rfl rfl fun z => by cases z
              · rw [f2p ej, f2o hh']; exact disO ej e0 ew eo hh' e0' w2
              · rw [f2o hh, f2p ej']; exact fun a ma ma' => disO ej' e0' ew' eo' hh e0 (S.some_of_wr w1) a ma' ma
              · rw [f2o hh, f2o hh']; exact Sp.dis i i' s s' hij e0 e0' w1 w2 w3
            · refine xt a o (Sp.base a o ea nn) ?_
              rcases nn with nn | nn
              · refine .inl fun ⟨i, j, ej, ma⟩ => ?_
                obtain ⟨s1, es1⟩ : ∃ s1, L0[j]? = some s1 := ⟨_, List.getElem?_eq_getElem (by rw [l0]; exact lt_of_get ej)⟩
                rcases argS_get e2 es1 with ⟨k, d2, ea', _⟩ | ⟨i', s', d2, ea', es2, ew2, _, _⟩
                · rw [ej] at ea'; cases ea'
                · rw [ej] at ea'; cases ea'
                  cases s' with
                  | gone => cases ew2
                  | io d0 => exact (Sp.fio i d0 (eE es2) a ma).elim (nn i) fun q => by rw [q] at ea; cases ea
                  | t k d0 =>
                    cases k with
                    | own => have := Sp.fr i _ d0 (eE es2) rfl a ma; rw [this] at ea; cases ea
                    | _ => cases ew2
              · exact .inr nn
            · have hd : s.d?.isSome = true := by
                cases s with
                | gone => cases eb
                | io d => rfl
                | t k d => rfl
              rcases cas es hd with ⟨j, s0, d1, ej, e0, eo, rfl, ew, _⟩ | ⟨hh, e0⟩
              · rw [S.with_isBor, S.nb_of_wr ew] at eb; cases eb
              · exact Sp.sb i s e0 eb
            · rcases cas es rfl with ⟨j, s0, d1, ej, e0, eo, z, ew, _⟩ | ⟨hh, e0⟩
              · cases s0 with
                | gone => cases ew
                | t k d0 => cases z
                | io d0 => exact Sp.pv i d0 (eE e0)
              · exact Sp.pv i d' e0
          -- the answer
          obtain ⟨u, eu, ru⟩ := So.rep _ _ d top rfl
          have eu' : u = v := by
            have hv : (vs.map some).length = L1.length := by rw [List.length_map, lv, lo]
            rw [← hv] at eu
            simpa using eu.symm
          subst eu'
          have tk : TOk g FS2 (wb as L1 env1 ++ τ) .own (FSo L1.length) := by
            have sh : ∀ i s, (wb as L1 env1 ++ τ)[i]? = some s → s.d?.isSome = true → ∀ a ∈ FSo L1.length, a ∉ FS2 i := fun i s es hd a ma => by
              rcases cas es hd with ⟨j, s0, d1, ej, e0, eo, rfl, ew, _⟩ | ⟨hh, e0⟩
              · rw [f2p ej]
                exact So.dis _ j _ _ (Nat.ne_of_gt (lt_of_get eo)) top (upO eo) rfl rfl (fun z => by cases z) a ma
              · rw [f2o hh]
                exact Sp.new_ne (So.fr _ _ d top rfl a ma) e0 hd
            exact ⟨fun _ => ⟨So.nod _ _ top rfl, fun a ma => fr0 a (So.fr _ _ d top rfl a ma)⟩, fun z => (nomatch z), fun _ j s es hd => sh j s es hd, fun _ j s es hw => sh j s es (S.some_of_wr hw), fun j s es hw _ => sh j s es (S.some_of_wr hw)⟩
          exact h u H2 _ (by rw [wbl]; exact l1) (S2.push ru tk fun z => (nomatch z))
    · cases e
end
end RG

set_option maxRecDepth 100000
set_option maxHeartbeats 4000000
namespace RG
open PySem PySem.Spec PyProof.Rows L2

section
variable {g : G} {FS : Nat → List Addr} {L : List S} {VS VS' : List (Option V)} {H H' : Hp}
/-- only what lives matters of the values -/
theorem Sim.vals (h : Sim g FS L VS H) (hl : VS'.length = VS.length) (hv : ∀ (i : Nat) (s : S), L[i]? = some s → s.d?.isSome = true → VS'[i]? = VS[i]?) : Sim g FS L VS' H := by
  refine ⟨by rw [hl]; exact h.len, fun i s d e1 e2 => ?_, h.nod, h.fr, h.od, h.fio, h.dis, h.base, h.dom, h.sb, fun i d e => ?_, h.wlt⟩
  · rw [hv i s e1 (by rw [e2]; rfl)]; exact h.rep i s d e1 e2
  · rw [hv i _ e rfl]; exact h.pv i d e
/-- slots are forgotten -/
theorem Sim.sub (h : Sim g FS L VS H) {L' : List S} (hl : L'.length = L.length) (up : ∀ {i : Nat} {s : S}, L'[i]? = some s → s.d?.isSome = true → L[i]? = some s) : Sim g FS L' VS H := by
  have d1 : ∀ {s : S}, s.isBor = true → s.d?.isSome = true := fun {s} e => by
    cases s with
    | gone => cases e
    | io d => rfl
    | t k d => rfl
  exact ⟨by rw [hl]; exact h.len, fun i s d e1 e2 => h.rep i s d (up e1 (by rw [e2]; rfl)) e2, fun i s e1 e2 => h.nod i s (up e1 (S.some_of_tree e2)) e2, fun i k d e => h.fr i k d (up e rfl), fun i d e => h.od i d (up e rfl), fun i d e => h.fio i d (up e rfl),
    fun i j s s' hij e1 e2 w1 w2 => h.dis i j s s' hij (up e1 (S.some_of_wr w1)) (up e2 w2) w1 w2, h.base, h.dom, fun i s e1 e2 => h.sb i s (up e1 (d1 e2)) e2, fun i d e => h.pv i d (up e rfl), h.wlt⟩
/-- an own slot is shared from now on -/
theorem Sim.freeze (h : Sim g FS L VS H) {i : Nat} {d : D} (e : L[i]? = some (.t .own d)) : Sim g FS (L.set i (.t .frz d)) VS H := by
  obtain ⟨v, ev, r⟩ := h.rep i _ d e rfl
  have hi := lt_of_get e
  have ne : ∀ {j : Nat}, j ≠ i → (L.set i (.t .frz d))[j]? = L[j]? := fun q => List.getElem?_set_ne (Ne.symm q)
  have at_ : (L.set i (.t .frz d))[i]? = some (.t .frz d) := List.getElem?_set_self hi
  have cs : ∀ {j : Nat} {s' : S}, (L.set i (.t .frz d))[j]? = some s' → (j = i ∧ s' = .t .frz d) ∨ (j ≠ i ∧ L[j]? = some s') := fun q => (get_set q).imp (fun z => ⟨z.1, z.2.1⟩) id
  refine ⟨by simpa using h.len, fun j s' d' e1 e2 => ?_, fun j s' e1 e2 => ?_, fun j k d' e1 hk => ?_, fun j d' e1 => ?_, fun j d' e1 => ?_, fun j l s1 s2 hij e1 e2 w1 w2 w3 => ?_, h.base, h.dom, fun j s' e1 e2 => ?_, fun j d' e1 => ?_, h.wlt⟩
  · rcases cs e1 with ⟨q, f⟩ | ⟨q, f⟩
    · subst q; subst f; cases e2; exact ⟨v, ev, r⟩
    · exact h.rep j s' d' f e2
  · rcases cs e1 with ⟨q, f⟩ | ⟨q, f⟩
    · subst q; exact h.nod _ _ e rfl
    · exact h.nod j s' f e2
  · rcases cs e1 with ⟨q, f⟩ | ⟨q, f⟩
    · subst q; exact h.fr _ _ _ e rfl
    · exact h.fr j k d' f hk
  · rcases cs e1 with ⟨q, f⟩ | ⟨q, f⟩
    · cases f
    · exact h.od j d' f
  · rcases cs e1 with ⟨q, f⟩ | ⟨q, f⟩
    · cases f
    · exact h.fio j d' f
  · rcases cs e1 with ⟨q1, f1⟩ | ⟨q1, f1⟩
    · subst f1; cases w1
    · rcases cs e2 with ⟨q2, f2⟩ | ⟨q2, f2⟩
      · subst q2; exact h.dis j _ s1 _ q1 f1 e w1 rfl (fun z => by cases z)
      · exact h.dis j l s1 s2 hij f1 f2 w1 w2 w3
  · rcases cs e1 with ⟨q, f⟩ | ⟨q, f⟩
    · subst f; cases e2
    · exact h.sb j s' f e2
  · rcases cs e1 with ⟨q, f⟩ | ⟨q, f⟩
    · cases f
    · exact h.pv j d' f
end

section
variable {K : PySem.W.Frag} {n : Nat} {W A B : List Nat} {Z Z' Y Y' : Bool} {t u : TS} {f h : List S → Option Fl}
/-- a name that is read for the last time: what it holds goes over -/
def eTake (i : Nat) : List S → Option (T × List S) := fun env => match env[i]? with
  | some (.t k d) => some ((k, d), env.set i .gone)
  | _ => none
theorem re_take {i : Nat} (hi : i < n) : RE K n W true (tVar i) (eTake i) := by
  intro g FS env τ σ tv H Q r env' hK hn hW he hs Sm yb e h
  unfold eTake at e
  split at e
  · rename_i k d e0
    cases e
    have e1 : (env ++ τ)[i]? = some (.t k d) := by rw [List.getElem?_append_left (by rw [he]; exact hi)]; exact e0
    obtain ⟨v, ev, rv, tk, s⟩ := Sm.take e1 (.inr (.inl (Sm.nobor (by rw [he, hn]) (yb rfl)))) (some V.non)
    have ev' : σ[i]? = some (some v) := by rw [List.getElem?_append_left (by rw [hs]; exact hi)] at ev; exact ev
    refine ⟨v, ev', ?_⟩
    have s1 : Sim g FS ((env ++ τ).set i .gone) (σ ++ tv) H := s.vals (by simp) fun j s' ej hd => by
      rcases get_set ej with ⟨_, f, _⟩ | ⟨q, _⟩
      · subst f; cases hd
      · rw [List.getElem?_set_ne (Ne.symm q)]
    have es : (env ++ τ).set i .gone = env.set i .gone ++ τ := by rw [List.set_append_left _ _ (by rw [he]; exact hi)]
    rw [es] at s1 tk
    subst hK
    have := s1.push rv tk fun z => by
      have := s1.sb
      rw [List.length_append, List.length_set, he, hn]; exact Nat.le_add_right _ _
    exact h v H _ (by simpa using he) this
  · cases e
/-- ahead of a statement: an own slot is shared from now on -/
def frzE (i : Nat) (env : List S) : List S := match env[i]? with
  | some (.t .own d) => env.set i (.t .frz d)
  | _ => env
theorem rs_freeze (i : Nat) (hi : i < n) (hf : RS K n W A Z t f) : RS K n W A Z t fun env => f (frzE i env) := by
  intro g FS env τ σ tv H D r hK hn hW he hs Sm nb e p
  refine hf g FS (frzE i env) τ σ tv H D r hK hn hW ?_ hs ?_ nb e p
  · unfold frzE
    split
    · simpa using he
    · exact he
  · unfold frzE
    split
    · rename_i d e0
      have e1 : (env ++ τ)[i]? = some (.t .own d) := by rw [List.getElem?_append_left (by rw [he]; exact hi)]; exact e0
      have := Sm.freeze e1
      rw [List.set_append_left _ _ (by rw [he]; exact hi)] at this
      exact this
    · exact Sm
/-- .. a shared slot is one's own again: those that may share its cells are forgotten -/
def S.lone : S → S
  | .t .frz d => if d.flat then .t .frz d else .gone
  | .t .val d => if d.flat then .t .val d else .gone
  | s => s
def ownE (i : Nat) (env : List S) : List S := match env[i]? with
  | some (.t .frz d) => (env.map S.lone).set i (.t .own d)
  | _ => env
theorem rs_own (i : Nat) (hi : i < n) (hf : RS K n W A Z t f) : RS K n W A true t fun env => f (ownE i env) := by
  intro g FS env τ σ tv H D r hK hn hW he hs Sm nb e p
  have nb' : Tau Z τ := ⟨nb.nb, fun _ => nb.cl rfl⟩
  refine hf g FS (ownE i env) τ σ tv H D r hK hn hW ?_ hs ?_ nb' e p
  · unfold ownE
    split
    · simpa using he
    · exact he
  · unfold ownE
    split
    · rename_i d e0
      have e1 : (env ++ τ)[i]? = some (.t .frz d) := by rw [List.getElem?_append_left (by rw [he]; exact hi)]; exact e0
      obtain ⟨v, ev, rv⟩ := Sm.rep i _ d e1 rfl
      -- the others alone
      have ln : (env.map S.lone).length = n := by simpa using he
      have up : ∀ {j : Nat} {s : S}, ((env.map S.lone).set i .gone ++ τ)[j]? = some s → s.d?.isSome = true → j ≠ i ∧ (env ++ τ)[j]? = some s ∧ (j < n → s = s.lone) := fun {j s} ej hd => by
        by_cases hj : j < n
        · rw [List.getElem?_append_left (by rw [List.length_set, ln]; exact hj)] at ej
          rcases get_set ej with ⟨_, q, _⟩ | ⟨q, ej⟩
          · subst q; cases hd
          · rw [List.getElem?_map] at ej
            cases q2 : env[j]? with
            | none => rw [q2] at ej; cases ej
            | some s0 =>
              rw [q2] at ej
              have ej : s0.lone = s := Option.some.inj ej
              have h0 : s0.lone = s0 := by
                cases s0 with
                | gone => rfl
                | io d => rfl
                | t k d0 =>
                  cases k with
                  | frz =>
                    by_cases hf : d0.flat = true
                    · simp [S.lone, hf]
                    · have : S.lone (.t .frz d0) = .gone := by simp [S.lone, hf]
                      rw [this] at ej; subst ej; cases hd
                  | val =>
                    by_cases hf : d0.flat = true
                    · simp [S.lone, hf]
                    · have : S.lone (.t .val d0) = .gone := by simp [S.lone, hf]
                      rw [this] at ej; subst ej; cases hd
                  | _ => rfl
              have es : s0 = s := h0.symm.trans ej
              subst es
              exact ⟨q, by rw [List.getElem?_append_left (by rw [he]; exact hj)]; exact q2, fun _ => h0.symm⟩
        · rw [List.getElem?_append_right (by rw [List.length_set, ln]; omega), List.length_set, ln] at ej
          exact ⟨by omega, by rw [List.getElem?_append_right (by rw [he]; omega), he]; exact ej, fun z => absurd z hj⟩
      have s1 : Sim g FS ((env.map S.lone).set i .gone ++ τ) (σ ++ tv) H := Sm.sub (by simp) fun ej hd => (up ej hd).2.1
      have tk : TOk g FS ((env.map S.lone).set i .gone ++ τ) .own (FS i) := by
        have dj : ∀ j s, ((env.map S.lone).set i .gone ++ τ)[j]? = some s → s.d?.isSome = true → ∀ a ∈ FS i, a ∉ FS j := fun j s ej hd a ma => by
          obtain ⟨hj, ej', hlone⟩ := up ej hd
          have hb := (Sm.nobor (by rw [he, hn]) nb.nb) j s ej'
          have wr : s.wr = true → a ∉ FS j := fun hw m => Sm.dis j i s _ hj ej' e1 hw rfl (fun z => by cases z) a m ma
          cases s with
          | gone => cases hd
          | io d0 => exact wr rfl
          | t k d0 =>
            have fl : d0.flat = true → a ∉ FS j := fun hf => by
              obtain ⟨u, _, ru⟩ := Sm.rep j _ d0 ej' rfl
              rw [ru.flat hf]; exact fun m => nomatch m
            have old : k = .old → a ∉ FS j := fun hk m => by
              subst hk
              exact Sm.od j d0 ej' a m (Sm.fr i _ d e1 rfl a ma)
            by_cases hjn : j < n
            · have h0 := hlone hjn
              cases k with
              | own => exact wr rfl
              | bor => cases hb
              | old => exact old rfl
              | frz =>
                by_cases hf : d0.flat = true
                · exact fl hf
                · simp [S.lone, hf] at h0
              | val =>
                by_cases hf : d0.flat = true
                · exact fl hf
                · simp [S.lone, hf] at h0
            · have ej2 : τ[j - n]? = some (.t k d0) := by rw [List.getElem?_append_right (by rw [he]; omega), he] at ej'; exact ej'
              rcases nb.cl rfl _ _ _ ej2 with q | q
              · subst q; exact wr rfl
              · exact old q
        exact ⟨fun _ => ⟨Sm.nod i _ e1 rfl, Sm.fr i _ d e1 rfl⟩, fun z => (nomatch z), fun _ => dj, fun _ j s ej hw => dj j s ej (S.some_of_wr hw), fun j s ej hw _ => dj j s ej (S.some_of_wr hw)⟩
      have gi : ((env.map S.lone).set i .gone ++ τ)[i]? = some .gone := by
        rw [List.getElem?_append_left (by rw [List.length_set, ln]; exact hi), List.getElem?_set_self (by rw [ln]; exact hi)]
      have s2 := s1.fill (i := i) (by rw [List.length_append, List.length_set, ln]; omega) gi rv tk (fun z => Tk.noConfusion z) (.inl (s1.nobor (by rw [List.length_set, ln, hn]) nb.nb))
      rw [List.set_append_left _ _ (by rw [List.length_set, ln]; exact hi), List.set_set] at s2
      have eF : setF FS i (FS i) = FS := by
        funext j
        by_cases hj : j = i
        · subst hj; rw [setF_same]
        · rw [setF_ne hj]
      rw [eF] at s2
      have evs : (σ ++ tv).set i (some v) = σ ++ tv := by
        apply List.ext_getElem?
        intro j
        by_cases hj : j = i
        · subst hj; rw [List.getElem?_set_self (lt_of_get ev)]; exact ev.symm
        · rw [List.getElem?_set_ne (Ne.symm hj)]
      rw [evs] at s2
      exact s2
    · exact Sm

/-! ### what is walked -/
structure SrcOk (K : PySem.W.Frag) (J : It) (s : S) (x : Option V) (items : List T) : Prop where
  go : ∀ (g : G) (FS : Nat → List Addr) (L : List S) (VS : List (Option V)) (H : Hp) (p : Nat), g.K = K → Sim g FS L VS H → L[p]? = some s → VS[p]? = some x → ∀ (i : Nat) (r : T), items[i]? = some r →
    J.go i H ∧ ∀ v H', J.yld i H v H' → Same H H' ∧ ∃ F, Rep K H' v r.2 F ∧ TOk g FS L r.1 F
  stop : ∀ (g : G) (FS : Nat → List Addr) (L : List S) (VS : List (Option V)) (H : Hp) (p : Nat), g.K = K → Sim g FS L VS H → L[p]? = some s → VS[p]? = some x → J.stop items.length H
  len : ∀ (g : G) (FS : Nat → List Addr) (L : List S) (VS : List (Option V)) (H : Hp) (p : Nat), g.K = K → Sim g FS L VS H → L[p]? = some s → VS[p]? = some x → items.length ≤ sizeLine
def RI (K : PySem.W.Frag) (n : Nat) (W : List Nat) (Y : Bool) (wi : TI) (fi : List S → Option (S × List T × List S)) : Prop :=
  ∀ (g : G) (FS : Nat → List Addr) (env τ : List S) (σ : L2.St) (tv : List (Option V)) (H : Hp) (R : It → Hp → Prop) (s : S) (items : List T) (env' : List S), g.K = K → g.n = n → g.W = W → env.length = n → σ.length = n → Sim g FS (env ++ τ) (σ ++ tv) H → (Y = true → NoBor τ) → fi env = some (s, items, env') →
    (∀ J H' FS' x, env'.length = n → Sim g FS' ((env' ++ τ) ++ [s]) ((σ ++ tv) ++ [x]) H' → SrcOk K J s x items → s.isBor = false → R J H') → wi σ H R
/-- how a list's, a tuple's parts are walked: what is kept of it, what kind its parts are of -/
def srcK (tup : Bool) (k : Tk) (fl : Bool) : Option (Tk × Tk) :=
  if fl then (match k with
    | .bor => if tup then some (.own, .own) else none
    | k => some (k, .own))
  else (match k with
    | .bor => none
    | .own => some (.frz, .frz)
    | k => some (k, k))
def iSeq (fe : List S → Option (T × List S)) : List S → Option (S × List T × List S) := fun env => match fe env with
  | some ((k, .lst ds), env') => (srcK false k (D.flats ds)).map fun q => (.t q.1 (.lst ds), ds.map fun d => (q.2, d), env')
  | some ((k, .tup ds), env') => (srcK true k (D.flats ds)).map fun q => (.t q.1 (.tup ds), ds.map fun d => (q.2, d), env')
  | some ((k, .scr ns), env') => some (.t .own (.scr ns), ns.map fun i => (.own, .int i), env')
  | _ => none
def iSeqL (fe : List S → Option (T × List S)) : List S → Option (S × List T × List S) := fun env => match fe env with
  | some ((k, .lst ds), env') => (srcK false k (D.flats ds)).map fun q => (.t q.1 (.lst ds), ds.map fun d => (q.2, d), env')
  | some ((k, .scr ns), env') => some (.t .own (.scr ns), ns.map fun i => (.own, .int i), env')
  | _ => none
def iSeqT (fe : List S → Option (T × List S)) : List S → Option (S × List T × List S) := fun env => match fe env with
  | some ((k, .tup ds), env') => (srcK true k (D.flats ds)).map fun q => (.t q.1 (.tup ds), ds.map fun d => (q.2, d), env')
  | _ => none
theorem RepL.ints {K : PySem.W.Frag} {H : Hp} : ∀ (ns : List Int), RepL K H (ns.map V.int) (ns.map D.int) []
  | [] => .nil
  | i :: ns => RepL.cons (F := []) (.int i) (RepL.ints ns)
theorem srcK_spec {tup : Bool} {k : Tk} {fl : Bool} {q : Tk × Tk} (h : srcK tup k fl = some q) : q.1 ≠ .bor ∧ q.2 ≠ .bor ∧ (fl = true ∨ q.2 = q.1 ∧ q.1 ≠ .own) ∧ (k.le q.1 = true ∨ (tup = true ∧ fl = true ∧ q.1 = .own)) := by
  revert h
  cases tup <;> cases fl <;> cases k <;> intro h <;> first
    | exact absurd h (by decide)
    | (cases h <;> decide)
theorem seq_parts {K : PySem.W.Frag} {k k2 : Tk} {ds : List D} {vs : List V} {F : List Addr} {g : G} {FS : Nat → List Addr} {L : List S} {H : Hp} (rl : RepL K H vs ds F) (hq : D.flats ds = true ∨ k2 = k ∧ k ≠ .own) (tk : D.flats ds = false → TOk g FS L k F) {i : Nat} {v : V} (ev : vs[i]? = some v) {d : D} (ed : ds[i]? = some d) :
    ∃ F', Rep K H v d F' ∧ TOk g FS L k2 F' := by
  obtain ⟨d', F2, h1, h2, h3, h4⟩ := rl.getV ev
  rw [ed] at h3; cases h3
  by_cases hf : D.flats ds = true
  · have := h4.flat (D.flats_iff.mp hf d (List.mem_of_getElem? ed))
    subst this
    exact ⟨[], h4, TOk.nil _⟩
  · rcases hq with hq | ⟨rfl, _⟩
    · exact absurd hq hf
    · exact ⟨F2, h4, (tk (by simpa using hf)).sub h1 h2⟩
/-- an entry that stands in the state, for a new one beside it -/
theorem Sim.tokAt {g : G} {FS : Nat → List Addr} {L : List S} {VS : List (Option V)} {H : Hp} (h : Sim g FS L VS H) {p : Nat} {k : Tk} {d : D} (e : L[p]? = some (.t k d)) (hk : k ≠ .own) : TOk g FS L k (FS p) := by
  have t0 := h.tok e (.inl hk) (L' := L.set p .gone) fun {j s} ej hs => by
    rcases get_set ej with ⟨_, f, _⟩ | f
    · subst f; cases hs
    · exact f
  have inv : ∀ {j : Nat} {s : S}, L[j]? = some s → s.wr = true → (L.set p .gone)[j]? = some s := fun {j s} ej hw => by
    have hij : j ≠ p := fun z => by
      subst z
      rw [e] at ej; cases ej
      cases k <;> first | exact Bool.noConfusion hw | exact absurd rfl hk
    rw [List.getElem?_set_ne (Ne.symm hij)]; exact ej
  exact ⟨t0.tree, t0.old, fun z => absurd z hk, fun z j s ej hw => t0.shar z j s (inv ej hw) hw, fun j s ej hw => t0.bor j s (inv ej hw) hw⟩
theorem rep_items {K : PySem.W.Frag} {g : G} {FS : Nat → List Addr} {L : List S} {VS : List (Option V)} {H : Hp} {k k2 : Tk} {ds : List D} {vs : List V} {F : List Addr} {p : Nat} {dd : D} (Sm : Sim g FS L VS H) (ep : L[p]? = some (.t k dd)) (rl : RepL K H vs ds F) (hF : ∀ a ∈ F, a ∈ FS p) (hN : (FS p).Nodup → F.Nodup)
    (hq : D.flats ds = true ∨ k2 = k ∧ k ≠ .own) {i : Nat} {r : T} (er : (ds.map fun d => (k2, d))[i]? = some r) : ∃ v, vs[i]? = some v ∧ ∃ F', Rep K H v r.2 F' ∧ TOk g FS L r.1 F' := by
  rw [List.getElem?_map] at er
  cases ed : ds[i]? with
  | none => rw [ed] at er; cases er
  | some d =>
    rw [ed] at er; cases er
    have hi : i < vs.length := by rw [rl.length]; exact lt_of_get ed
    refine ⟨vs[i], by simp [hi], ?_⟩
    refine seq_parts (k := k) (k2 := k2) rl hq (fun hf => ?_) (by simp [hi]) ed
    rcases hq with hq | ⟨_, hq⟩
    · rw [hf] at hq; cases hq
    · exact (Sm.tokAt ep hq).sub hF hN
theorem src_list {k k2 : Tk} {ds : List D} {a : Addr} (hq : D.flats ds = true ∨ k2 = k ∧ k ≠ .own) : SrcOk K (Itl K a) (.t k (.lst ds)) (some (.ref a)) (ds.map fun d => (k2, d)) := by
  have inv : ∀ {g : G} {FS : Nat → List Addr} {L : List S} {VS : List (Option V)} {H : Hp} {p : Nat}, g.K = K → Sim g FS L VS H → L[p]? = some (.t k (.lst ds)) → VS[p]? = some (some (.ref a)) → ∃ vs F', FS p = a :: F' ∧ H a = some (.lst vs) ∧ RepL K H vs ds F' ∧ vs.length ≤ sizeLine := fun {g FS L VS H p} hK Sm e1 e2 => by
    obtain ⟨v, ev, rv⟩ := Sm.rep p _ _ e1 rfl
    rw [e2] at ev; cases ev
    obtain ⟨a', vs, F', q1, q2, q3, q4, q5⟩ := rv.lstV
    cases q1
    subst hK
    exact ⟨vs, F', q2, q3, q4, q5⟩
  refine ⟨fun g FS L VS H p hK Sm e1 e2 i r er => ?_, fun g FS L VS H p hK Sm e1 e2 => ?_, fun g FS L VS H p hK Sm e1 e2 => ?_⟩
  · obtain ⟨vs, F', hF, hH, rl, hz⟩ := inv hK Sm e1 e2
    obtain ⟨v, ev, F2, rv, tk⟩ := rep_items Sm e1 rl (fun b m => by rw [hF]; exact List.mem_cons_of_mem _ m) (fun q => by rw [hF] at q; exact (List.nodup_cons.mp q).2) hq er
    refine ⟨⟨vs, v, SqL.of hH, ev⟩, fun u H' hy => ?_⟩
    obtain ⟨rfl, hy⟩ := hy
    have := hy vs (SqL.of hH)
    rw [ev] at this; cases this
    exact ⟨Same.refl _, F2, rv, tk⟩
  · obtain ⟨vs, F', hF, hH, rl, hz⟩ := inv hK Sm e1 e2
    exact ⟨vs, SqL.of hH, by rw [rl.length, List.length_map]; exact Nat.le_refl _⟩
  · obtain ⟨vs, F', hF, hH, rl, hz⟩ := inv hK Sm e1 e2
    rw [List.length_map, ← rl.length]; exact hz
theorem src_tup {k k2 : Tk} {ds : List D} {a : Addr} (hq : D.flats ds = true ∨ k2 = k ∧ k ≠ .own) {vs0 : List V} (hu : ∀ H vs, (∃ F, Rep K H (.ref a) (.tup ds) F) → SqT K H a vs → True) : SrcOk K (Itt K a) (.t k (.tup ds)) (some (.ref a)) (ds.map fun d => (k2, d)) := by
  have inv : ∀ {g : G} {FS : Nat → List Addr} {L : List S} {VS : List (Option V)} {H : Hp} {p : Nat}, g.K = K → Sim g FS L VS H → L[p]? = some (.t k (.tup ds)) → VS[p]? = some (some (.ref a)) → ∃ vs, SqT K H a vs ∧ RepL K H vs ds (FS p) ∧ vs.length ≤ sizeLine := fun {g FS L VS H p} hK Sm e1 e2 => by
    obtain ⟨v, ev, rv⟩ := Sm.rep p _ _ e1 rfl
    rw [e2] at ev; cases ev
    obtain ⟨a', vs, q1, q2, q3, q4⟩ := rv.tupV
    cases q1
    subst hK
    exact ⟨vs, q2, q3, q4⟩
  refine ⟨fun g FS L VS H p hK Sm e1 e2 i r er => ?_, fun g FS L VS H p hK Sm e1 e2 => ?_, fun g FS L VS H p hK Sm e1 e2 => ?_⟩
  · obtain ⟨vs, hH, rl, hz⟩ := inv hK Sm e1 e2
    obtain ⟨v, ev, F2, rv, tk⟩ := rep_items Sm e1 rl (fun b m => m) id hq er
    refine ⟨⟨vs, v, hH, ev⟩, fun u H' hy => ?_⟩
    obtain ⟨rfl, hy⟩ := hy
    have := hy vs hH
    rw [ev] at this; cases this
    exact ⟨Same.refl _, F2, rv, tk⟩
  · obtain ⟨vs, hH, rl, hz⟩ := inv hK Sm e1 e2
    exact ⟨vs, hH, by rw [rl.length, List.length_map]; exact Nat.le_refl _⟩
  · obtain ⟨vs, hH, rl, hz⟩ := inv hK Sm e1 e2
    rw [List.length_map, ← rl.length]; exact hz
theorem src_scr {ns : List Int} {a : Addr} {k : Tk} : SrcOk K (Itl K a) (.t k (.scr ns)) (some (.ref a)) (ns.map fun i => (.own, .int i)) := by
  have inv : ∀ {g : G} {FS : Nat → List Addr} {L : List S} {VS : List (Option V)} {H : Hp} {p : Nat}, g.K = K → Sim g FS L VS H → L[p]? = some (.t k (.scr ns)) → VS[p]? = some (some (.ref a)) → SqL K H a (ns.map V.int) ∧ ns.length ≤ sizeLine := fun {g FS L VS H p} hK Sm e1 e2 => by
    obtain ⟨v, ev, rv⟩ := Sm.rep p _ _ e1 rfl
    rw [e2] at ev; cases ev
    subst hK
    generalize FS p = F at rv
    cases rv with
    | scr hs hz => exact ⟨hs.sq, hz⟩
  refine ⟨fun g FS L VS H p hK Sm e1 e2 i r er => ?_, fun g FS L VS H p hK Sm e1 e2 => ?_, fun g FS L VS H p hK Sm e1 e2 => ?_⟩
  · have hH := (inv hK Sm e1 e2).1
    rw [List.getElem?_map] at er
    cases ed : ns[i]? with
    | none => rw [ed] at er; cases er
    | some d =>
      rw [ed] at er; cases er
      have ev : (ns.map V.int)[i]? = some (.int d) := by rw [List.getElem?_map, ed]; rfl
      refine ⟨⟨_, _, hH, ev⟩, fun u H' hy => ?_⟩
      obtain ⟨rfl, hy⟩ := hy
      have := hy _ hH
      rw [ev] at this; cases this
      exact ⟨Same.refl _, [], .int d, TOk.nil _⟩
  · exact ⟨_, (inv hK Sm e1 e2).1, by rw [List.length_map, List.length_map]; exact Nat.le_refl _⟩
  · rw [List.length_map]; exact (inv hK Sm e1 e2).2
theorem Sim.rekind {g : G} {FS : Nat → List Addr} {L : List S} {VS : List (Option V)} {H : Hp} {k k' : Tk} {d : D} {x : Option V} (h : Sim g FS (L ++ [.t k d]) (VS ++ [x]) H) (hn : g.n ≤ L.length) (hk : k.le k' = true ∨ d.flat = true) (hb : k' ≠ .bor) : ∃ v, x = some v ∧ Rep g.K H v d (FS L.length) ∧ Sim g (setF FS L.length (FS L.length)) (L ++ [.t k' d]) (VS ++ [x]) H := by
  obtain ⟨v, rfl, rv, tk⟩ := Sim.top h hn
  refine ⟨v, rfl, rv, h.pop.push rv ?_ fun z => absurd z hb⟩
  rcases hk with hk | hk
  · exact tk.to hk
  · rw [rv.flat hk]; exact TOk.nil _
theorem ri_list {te : TE} {fe : List S → Option (T × List S)} (ht : RE K n W Y te fe) : RI K n W Y (iList K te) (iSeqL fe) := by
  intro g FS env τ σ tv H R s items env' hK hn hW he hs Sm yb e h
  unfold iSeqL at e
  split at e
  · rename_i k ds env1 e1
    cases eq : srcK false k (D.flats ds) with
    | none => rw [eq] at e; cases e
    | some q =>
      rw [eq] at e
      simp only [Option.map_some, Option.some.injEq, Prod.mk.injEq] at e
      obtain ⟨rfl, rfl, rfl⟩ := e
      obtain ⟨q1, q2, q3, q4⟩ := srcK_spec eq
      refine ht g FS env τ σ tv H _ (k, .lst ds) env1 hK hn hW he hs Sm yb e1 fun v H' FS' l S' => ?_
      obtain ⟨v', ev, rv, S2⟩ := Sim.rekind (k' := q.1) S' (by rw [List.length_append, l, hn]; exact Nat.le_add_right _ _) (by
        rcases q4 with z | ⟨z, _⟩
        · exact .inl z
        · cases z) q1
      cases ev
      obtain ⟨a, vs, F', rfl, _, hH, _, _⟩ := rv.lstV
      exact ⟨a, rfl, ⟨vs, SqL.of hH⟩, h _ H' _ _ l S2 (src_list q3) (by cases hq : q.1 <;> first | rfl | exact absurd hq q1)⟩
  · rename_i k ns env1 e1
    simp only [Option.some.injEq, Prod.mk.injEq] at e
    obtain ⟨rfl, rfl, rfl⟩ := e
    refine ht g FS env τ σ tv H _ (k, .scr ns) env1 hK hn hW he hs Sm yb e1 fun v H' FS' l S' => ?_
    obtain ⟨v', ev, rv, S2⟩ := Sim.rekind (k' := .own) S' (by rw [List.length_append, l, hn]; exact Nat.le_add_right _ _) (.inr rfl) (fun z => Tk.noConfusion z)
    cases ev
    have : ∃ a, v = .ref a ∧ SqL g.K H' a (ns.map V.int) := by
      generalize FS' (env1 ++ τ).length = F at rv
      cases rv with
      | scr hs hz => exact ⟨_, rfl, hs.sq⟩
    obtain ⟨a, rfl, hH⟩ := this
    subst hK
    exact ⟨a, rfl, ⟨_, hH⟩, h _ H' _ _ l S2 src_scr rfl⟩
  · cases e
theorem ri_tup {te : TE} {fe : List S → Option (T × List S)} (ht : RE K n W Y te fe) : RI K n W Y (iTup K te) (iSeqT fe) := by
  intro g FS env τ σ tv H R s items env' hK hn hW he hs Sm yb e h
  unfold iSeqT at e
  split at e
  · rename_i k ds env1 e1
    cases eq : srcK true k (D.flats ds) with
    | none => rw [eq] at e; cases e
    | some q =>
      rw [eq] at e
      simp only [Option.map_some, Option.some.injEq, Prod.mk.injEq] at e
      obtain ⟨rfl, rfl, rfl⟩ := e
      obtain ⟨q1, q2, q3, q4⟩ := srcK_spec eq
      refine ht g FS env τ σ tv H _ (k, .tup ds) env1 hK hn hW he hs Sm yb e1 fun v H' FS' l S' => ?_
      obtain ⟨v', ev, rv, S2⟩ := Sim.rekind (k' := q.1) S' (by rw [List.length_append, l, hn]; exact Nat.le_add_right _ _) (by
        rcases q4 with z | ⟨_, z, _⟩
        · exact .inl z
        · exact .inr (by unfold D.flat; exact z)) q1
      cases ev
      obtain ⟨a, vs, rfl, hH, _, _⟩ := rv.tupV
      subst hK
      exact ⟨a, rfl, ⟨vs, hH⟩, h _ H' _ _ l S2 (src_tup (vs0 := []) q3 fun _ _ _ _ => trivial) (by cases hq : q.1 <;> first | rfl | exact absurd hq q1)⟩
  · cases e
/-- lo, lo + 1, .. -/
def upTo (lo : Int) : Nat → List T
  | 0 => []
  | m + 1 => (.own, .int lo) :: upTo (lo + 1) m
theorem upTo_length {lo : Int} : ∀ {m : Nat}, (upTo lo m).length = m
  | 0 => rfl
  | m + 1 => congrArg (· + 1) upTo_length
theorem upTo_get : ∀ {m : Nat} {lo : Int} {i : Nat} {r : T}, (upTo lo m)[i]? = some r → r = (.own, .int (lo + i)) ∧ i < m
  | 0, _, _, _, e => by simp [upTo] at e
  | m + 1, lo, 0, r, e => by simp [upTo] at e; subst e; simp
  | m + 1, lo, i + 1, r, e => by
    obtain ⟨h1, h2⟩ := upTo_get (m := m) (lo := lo + 1) (i := i) (by simpa [upTo] using e)
    refine ⟨?_, by omega⟩
    rw [h1]
    congr 2
    omega
theorem src_range {lo : Int} {m : Nat} {x : Option V} (hm : m ≤ 16777216) : SrcOk K (Itr lo m) .gone x (upTo lo m) := by
  refine ⟨fun g FS L VS H p hK Sm e1 e2 i r er => ?_, fun g FS L VS H p hK Sm e1 e2 => ?_, fun g FS L VS H p hK Sm e1 e2 => ?_⟩
  · obtain ⟨rfl, hi⟩ := upTo_get er
    refine ⟨hi, fun u H' hy => ?_⟩
    obtain ⟨rfl, rfl⟩ := hy
    exact ⟨Same.refl _, [], .int _, TOk.nil _⟩
  · show m ≤ (upTo lo m).length
    rw [upTo_length]; exact Nat.le_refl _
  · rw [upTo_length, sizeLine_eq]; exact hm
theorem Sim.ghost {g : G} {FS : Nat → List Addr} {L : List S} {VS : List (Option V)} {H : Hp} (h : Sim g FS L VS H) (x : Option V) : Sim g FS (L ++ [.gone]) (VS ++ [x]) H := by
  have := h.pad 1 x
  simpa using this
def iRange1 (fa : List S → Option (T × List S)) : List S → Option (S × List T × List S) := fun env => match fa env with
  | some ((_, .int j), env') => if -16777216 ≤ j ∧ j ≤ 16777216 then some (.gone, upTo 0 j.toNat, env') else none
  | _ => none
theorem ri_range1 {te : TE} {fe : List S → Option (T × List S)} (ht : RE K n W Y te fe) : RI K n W Y (iRng1 (tCons te tNil)) (iRange1 fe) := by
  intro g FS env τ σ tv H R s items env' hK hn hW he hs Sm yb e h
  unfold iRange1 at e
  split at e
  · rename_i k j env1 e1
    split at e
    · rename_i hj
      simp only [Option.some.injEq, Prod.mk.injEq] at e
      obtain ⟨rfl, rfl, rfl⟩ := e
      refine ht g FS env τ σ tv H _ (k, .int j) env1 hK hn hW he hs Sm yb e1 fun v H' FS' l S' => ?_
      obtain ⟨v', ev, rv, _⟩ := Sim.top (k := k) (d := .int j) S' (by rw [List.length_append, l, hn]; exact Nat.le_add_right _ _)
      cases ev
      cases rv.intV
      exact ⟨j, rfl, by omega, by omega, h _ H' _ none l (S'.pop.ghost none) (src_range (by omega)) rfl⟩
    · cases e
  · cases e

/-! ### for, while -/
def S.clean : S → Bool
  | .t .frz _ => false
  | .t .val _ => false
  | .t .bor _ => false
  | _ => true
def sLoop (ft : T → List S → Option (List S)) (fb : List S → Option Fl) : List T → List S → Option Fl
  | [], env => some (.nx env)
  | r :: rs, env => match ft r env with
    | none => none
    | some env1 => match fb env1 with
      | some (.nx e) => sLoop ft fb rs e
      | some (.ct e) => sLoop ft fb rs e
      | some (.bk e) => some (.nx e)
      | some (.rt r e) => some (.rt r e)
      | none => none
def sFor (Z : Bool) (fi : List S → Option (S × List T × List S)) (ft : T → List S → Option (List S)) (fb : List S → Option Fl) : List S → Option Fl := fun env => match fi env with
  | none => none
  | some (s, items, env') => if Z && !s.clean then none else sLoop ft fb items env'
theorem Tau.more {τ : List S} {s : S} (nb : Tau Z τ) (hb : s.isBor = false) (hc : (Z && !s.clean) = false) : Tau Z (τ ++ [s]) := by
  refine ⟨fun j x e => ?_, fun z j k d e => ?_⟩
  · rcases get_snoc e with ⟨_, q⟩ | ⟨_, q⟩
    · exact nb.nb j x q
    · subst q; exact hb
  · rcases get_snoc e with ⟨_, q⟩ | ⟨_, q⟩
    · exact nb.cl z j k d q
    · subst q
      rw [z] at hc
      cases k <;> first
        | exact .inl rfl
        | exact .inr rfl
        | exact absurd hc (by simp [S.clean])
theorem rs_for {wi : TI} {gt : TG} {tb : TS} {fi : List S → Option (S × List T × List S)} {ft : T → List S → Option (List S)} {fb : List S → Option Fl} (hi : RI K n W Y wi fi) (hg : RT K n W A gt ft) (hb : RS K n W B Z tb fb) : RS K n W (A ++ B) Z (tFor wi gt tb) (sFor Z fi ft fb) := by
  intro g FS env τ σ tv H D r hK hn hW he hs Sm nb e p
  unfold sFor at e
  split at e
  · cases e
  · rename_i s items env1 e1
    split at e
    · cases e
    · rename_i hcl
      have hcl : (Z && !s.clean) = false := by simpa using hcl
      refine hi g FS env τ σ tv H _ s items env1 hK hn hW he hs Sm (fun _ => nb.nb) e1 fun J H1 FS1 x l1 S1 src hbor => ?_
      have nb2 := nb.more hbor hcl
      refine ⟨fun i m σ' H' => m = items.length - i ∧ i ≤ items.length ∧ ∃ env' FS', env'.length = n ∧ σ'.length = n ∧ Keep (A ++ B) σ σ' ∧ Sim g FS' ((env' ++ τ) ++ [s]) ((σ' ++ tv) ++ [x]) H' ∧ sLoop ft fb (items.drop i) env' = some r, ⟨items.length, by simp, Nat.zero_le _, env1, FS1, l1, hs, Keep.refl, S1, e⟩, ?_⟩
      rintro i m σ' H' ⟨rfl, hle, env', FS', l2, l3, kp, S2, e2⟩
      have ep : ((env' ++ τ) ++ [s])[(env' ++ τ).length]? = some s := by simp
      have hlv : (env' ++ τ).length = (σ' ++ tv).length := S2.pop.len
      have ev : ((σ' ++ tv) ++ [x])[(env' ++ τ).length]? = some x := by rw [hlv]; simp
      by_cases hlt : i < items.length
      · obtain ⟨hgo, hy⟩ := src.go g FS' _ _ H' _ hK S2 ep ev i items[i] (by simp [hlt])
        refine .inr ⟨hgo, fun σ2 H2 => ∃ m', m' = items.length - (i + 1) ∧ i + 1 ≤ items.length ∧ ∃ env' FS', env'.length = n ∧ σ2.length = n ∧ Keep (A ++ B) σ σ2 ∧ Sim g FS' ((env' ++ τ) ++ [s]) ((σ2 ++ tv) ++ [x]) H2 ∧ sLoop ft fb (items.drop (i + 1)) env' = some r,
          fun σ2 H2 ⟨m', q1, q2, q3⟩ => ⟨m', by omega, q1, q2, q3⟩, fun v H2 hyl => ?_⟩
        obtain ⟨sm, F, rv, tk⟩ := hy v H2 hyl
        subst hK
        have S3 := (S2.same sm).push (k := items[i].1) (d := items[i].2) rv tk fun _ => by simp [l2, hn]
        rw [List.drop_eq_getElem_cons hlt] at e2
        simp only [sLoop] at e2
        cases e3 : ft items[i] env' with
        | none => rw [e3] at e2; cases e2
        | some env2 =>
          rw [e3] at e2
          rw [List.append_assoc env' τ [s], List.append_assoc σ' tv [x]] at S3
          refine hg g _ env' (τ ++ [s]) σ' (tv ++ [x]) H2 v _ items[i] env2 rfl hn hW l2 l3 S3 (.inl nb2.nb) e3 fun σ3 H3 FS3 l4 l5 k3 S4 => ?_
          cases e4 : fb env2 with
          | none => simp only [e4] at e2; cases e2
          | some r1 =>
            refine hb g FS3 env2 (τ ++ [s]) σ3 (tv ++ [x]) H3 _ r1 rfl hn hW l4 l5 S4 nb2 e4 ?_
            have kk : Keep (A ++ B) σ σ3 := kp.trans (k3.mono fun j m => List.mem_append_left _ m)
            simp only [e4] at e2
            cases r1 with
            | nx e5 => exact fun σ4 H4 FS4 l6 l7 k4 S5 => ⟨_, rfl, hlt, e5, FS4, l6, l7, kk.trans (k4.mono fun j m => List.mem_append_right _ m), by simpa using S5, e2⟩
            | ct e5 => exact fun σ4 H4 FS4 l6 l7 k4 S5 => ⟨_, rfl, hlt, e5, FS4, l6, l7, kk.trans (k4.mono fun j m => List.mem_append_right _ m), by simpa using S5, e2⟩
            | bk e5 =>
              cases e2
              exact fun σ4 H4 FS4 l6 l7 k4 S5 => p σ4 H4 FS4 l6 l7 (kk.trans (k4.mono fun j m => List.mem_append_right _ m)) (by rw [← List.append_assoc, ← List.append_assoc] at S5; exact S5.pop)
            | rt r2 e5 =>
              cases e2
              intro v' σ4 H4 FS4 l6 l7 k4 S5
              obtain ⟨v2, ev2, rv2, tk2⟩ := Sim.top (k := r2.1) (d := r2.2) S5 (by rw [List.length_append, l6, hn]; exact Nat.le_add_right _ _)
              cases ev2
              have S6 := S5.pop
              rw [← List.append_assoc, ← List.append_assoc] at S6
              have tk3 : TOk g FS4 (e5 ++ τ) r2.1 (FS4 (e5 ++ (τ ++ [s])).length) := by
                have up : ∀ {j : Nat} {s' : S}, (e5 ++ τ)[j]? = some s' → (e5 ++ (τ ++ [s]))[j]? = some s' := fun ej => by rw [← List.append_assoc, List.getElem?_append_left (lt_of_get ej)]; exact ej
                exact ⟨tk2.tree, tk2.old, fun z j s' ej => tk2.excl z j s' (up ej), fun z j s' ej => tk2.shar z j s' (up ej), fun j s' ej => tk2.bor j s' (up ej)⟩
              exact p v' σ4 H4 _ l6 l7 (kk.trans (k4.mono fun j m => List.mem_append_right _ m)) (S6.pop.push rv2 tk3 fun _ => by rw [List.length_append, l6, hn]; exact Nat.le_add_right _ _)
      · have ei : i = items.length := by omega
        subst ei
        refine .inl ⟨src.stop g FS' _ _ H' _ hK S2 ep ev, ?_⟩
        simp only [List.drop_length, sLoop, Option.some.injEq] at e2
        subst e2
        exact p σ' H' FS' l2 l3 kp S2.pop
def sWhile (fc : List S → Option (Bool × List S)) (fb : List S → Option Fl) : Nat → List S → Option Fl
  | 0, _ => none
  | m + 1, env => match fc env with
    | none => none
    | some (false, e) => some (.nx e)
    | some (true, e) => match fb e with
      | some (.nx e') => sWhile fc fb m e'
      | some (.ct e') => sWhile fc fb m e'
      | some (.bk e') => some (.nx e')
      | some (.rt r e') => some (.rt r e')
      | none => none
theorem rs_while {tc : TT} {tb : TS} {fc : List S → Option (Bool × List S)} {fb : List S → Option Fl} (N : Nat) (hc : RB K n W Y tc fc) (hb : RS K n W A Z tb fb) : RS K n W A Z (tWhile tc tb) (sWhile fc fb N) := by
  intro g FS env τ σ tv H D r hK hn hW he hs Sm nb e p
  refine ⟨fun m σ' H' => ∃ env' FS', env'.length = n ∧ σ'.length = n ∧ Keep A σ σ' ∧ Sim g FS' (env' ++ τ) (σ' ++ tv) H' ∧ sWhile fc fb m env' = some r, ⟨N, env, FS, he, hs, Keep.refl, Sm, e⟩, ?_⟩
  rintro m σ' H' ⟨env', FS', l1, l2, kp, S1, e1⟩
  cases m with
  | zero => cases e1
  | succ m =>
    simp only [sWhile] at e1
    cases e2 : fc env' with
    | none => rw [e2] at e1; cases e1
    | some q =>
      obtain ⟨b, env2⟩ := q
      refine hc g FS' env' τ σ' tv H' _ b env2 hK hn hW l1 l2 S1 (fun _ => nb.nb) e2 fun H2 FS2 l3 S2 => ?_
      cases b with
      | false =>
        rw [e2] at e1; cases e1
        rw [if_neg Bool.false_ne_true]
        exact p σ' H2 FS2 l3 l2 kp S2
      | true =>
        rw [if_pos rfl]
        simp only [e2] at e1
        cases e3 : fb env2 with
        | none => rw [e3] at e1; cases e1
        | some r1 =>
          refine ⟨fun σ3 H3 => ∃ env' FS', env'.length = n ∧ σ3.length = n ∧ Keep A σ σ3 ∧ Sim g FS' (env' ++ τ) (σ3 ++ tv) H3 ∧ sWhile fc fb m env' = some r, fun σ3 H3 q => ⟨m, Nat.lt_succ_self m, q⟩, ?_⟩
          refine hb g FS2 env2 τ σ' tv H2 _ r1 hK hn hW l3 l2 S2 nb e3 ?_
          rw [e3] at e1
          cases r1 with
          | nx e5 => exact fun σ4 H4 FS4 l6 l7 k4 S5 => ⟨e5, FS4, l6, l7, kp.trans k4, S5, e1⟩
          | ct e5 => exact fun σ4 H4 FS4 l6 l7 k4 S5 => ⟨e5, FS4, l6, l7, kp.trans k4, S5, e1⟩
          | bk e5 => cases e1; exact fun σ4 H4 FS4 l6 l7 k4 S5 => p σ4 H4 FS4 l6 l7 (kp.trans k4) S5
          | rt r2 e5 => cases e1; exact fun v σ4 H4 FS4 l6 l7 k4 S5 => p v σ4 H4 FS4 l6 l7 (kp.trans k4) S5
end
end RG

set_option maxRecDepth 100000
set_option maxHeartbeats 4000000
namespace RG
open PySem PySem.Spec PyProof.Rows L2

/-! ### list comprehensions -/
def wipeE (env : List S) : List Nat → List S
  | [] => env
  | v :: vs => (wipeE env vs).set v .gone
theorem wipeE_length (env : List S) : ∀ vs : List Nat, (wipeE env vs).length = env.length
  | [] => rfl
  | v :: vs => by unfold wipeE; rw [List.length_set, wipeE_length env vs]
theorem wipeE_get {env : List S} {i : Nat} {s : S} : ∀ {vs : List Nat}, (wipeE env vs)[i]? = some s → s.d?.isSome = true → env[i]? = some s ∧ i ∉ vs
  | [], h, _ => ⟨h, by simp⟩
  | v :: vs, h, hd => by
    unfold wipeE at h
    rcases get_set h with ⟨_, q, _⟩ | ⟨q, h⟩
    · subst q; cases hd
    · obtain ⟨h1, h2⟩ := wipeE_get h hd
      exact ⟨h1, by simp only [List.mem_cons, not_or]; exact ⟨q, h2⟩⟩
theorem wipe_at {σ : L2.St} {i : Nat} : ∀ {vs : List Nat}, i ∉ vs → (wipe σ vs)[i]? = σ[i]?
  | [], _ => rfl
  | v :: vs, h => by
    unfold wipe
    simp only [List.mem_cons, not_or] at h
    rw [List.getElem?_set_ne (Ne.symm h.1)]
    exact wipe_at h.2
theorem wipe_in {σ : L2.St} {i : Nat} : ∀ {vs : List Nat}, i ∈ vs → i < σ.length → (wipe σ vs)[i]? = some none
  | v :: vs, h, hl => by
    unfold wipe
    by_cases hv : i = v
    · subst hv; rw [List.getElem?_set_self (by rw [wipe_length]; exact hl)]
    · rw [List.getElem?_set_ne (Ne.symm hv)]
      rcases List.mem_cons.mp h with q | q
      · exact absurd q hv
      · exact wipe_in q hl
theorem wipe_keep {σ σ' : L2.St} {A vs : List Nat} (k : Keep A σ σ') (h : ∀ i ∈ A, i ∈ vs) (hl : σ'.length = σ.length) : wipe σ' vs = wipe σ vs := by
  apply List.ext_getElem?
  intro j
  by_cases hj : j ∈ vs
  · by_cases hjl : j < σ.length
    · rw [wipe_in hj hjl, wipe_in hj (by rw [hl]; exact hjl)]
    · rw [List.getElem?_eq_none (by rw [wipe_length, hl]; omega), List.getElem?_eq_none (by rw [wipe_length]; omega)]
  · rw [wipe_at hj, wipe_at hj]
    exact k j fun m => hj (h j m)
theorem wipe_wipe {σ : L2.St} {vs : List Nat} : wipe (wipe σ vs) vs = wipe σ vs := wipe_keep (A := vs) (fun j n => wipe_at n) (fun _ m => m) (wipe_length σ vs)

section
variable {K : PySem.W.Frag} {n : Nat} {W A B : List Nat} {Z Z' Y Y' Y2 : Bool}
/-- the names of a comprehension's block forgotten, on both sides -/
theorem Sim.wiped {g : G} {FS : Nat → List Addr} {env τ : List S} {σ σ' : L2.St} {tv : List (Option V)} {H : Hp} {vs : List Nat} (h : Sim g FS (env ++ τ) (σ ++ tv) H) (he : env.length = n) (hs : σ.length = n) (hs' : σ'.length = n) (hk : wipe σ' vs = wipe σ vs) : Sim g FS (wipeE env vs ++ τ) (σ' ++ tv) H := by
  have wl : (wipeE env vs).length = n := by rw [wipeE_length]; exact he
  have up : ∀ {i : Nat} {s : S}, (wipeE env vs ++ τ)[i]? = some s → s.d?.isSome = true → (env ++ τ)[i]? = some s ∧ (i < n → i ∉ vs) := fun {i s} e hd => by
    by_cases hi : i < n
    · rw [List.getElem?_append_left (by rw [wl]; exact hi)] at e
      obtain ⟨h1, h2⟩ := wipeE_get e hd
      exact ⟨by rw [List.getElem?_append_left (by rw [he]; exact hi)]; exact h1, fun _ => h2⟩
    · rw [List.getElem?_append_right (by rw [wl]; omega), wl] at e
      exact ⟨by rw [List.getElem?_append_right (by rw [he]; omega), he]; exact e, fun z => absurd z hi⟩
  refine (h.sub (L' := wipeE env vs ++ τ) (by rw [List.length_append, List.length_append, wl, he]) fun e hd => (up e hd).1).vals (by rw [List.length_append, List.length_append, hs, hs']) fun i s e hd => ?_
  by_cases hi : i < n
  · have hv := (up e hd).2 hi
    rw [List.getElem?_append_left (by rw [hs']; exact hi), List.getElem?_append_left (by rw [hs]; exact hi), ← wipe_at (σ := σ') hv, hk, wipe_at hv]
  · rw [List.getElem?_append_right (by rw [hs']; omega), List.getElem?_append_right (by rw [hs]; omega), hs, hs']
def tt1 (t : T) : Bool := (match t.1 with | .own => true | _ => false) || t.2.flat
def cLoop (vs : List Nat) (ft : T → List S → Option (List S)) (fc : List S → Option (Bool × List S)) (fe : List S → Option (T × List S)) : List T → List D → List S → Option (List D × List S)
  | [], acc, env => some (acc, env)
  | r :: rs, acc, env => match ft r env with
    | none => none
    | some env1 => match fc env1 with
      | none => none
      | some (false, env2) => cLoop vs ft fc fe rs acc (wipeE env2 vs)
      | some (true, env2) => match fe env2 with
        | none => none
        | some (t, env3) => if tt1 t then cLoop vs ft fc fe rs (acc ++ [t.2]) (wipeE env3 vs) else none
def eComp (vs : List Nat) (fi : List S → Option (S × List T × List S)) (ft : T → List S → Option (List S)) (fc : List S → Option (Bool × List S)) (fe : List S → Option (T × List S)) : List S → Option (T × List S) := fun env => match fi env with
  | none => none
  | some (_, items, env1) => match cLoop vs ft fc fe items [] (wipeE env1 vs) with
    | none => none
    | some (acc, env2) => some ((.own, .lst acc), wipeE env2 vs)
theorem re_comp {wi : TI} {gt : TG} {tt : TT} {te : TE} {vs : List Nat} {fi : List S → Option (S × List T × List S)} {ft : T → List S → Option (List S)} {fc : List S → Option (Bool × List S)} {fe : List S → Option (T × List S)}
    (hi : RI K n W Y wi fi) (hg : RT K n W A gt ft) (hc : RB K n W Y' tt fc) (he' : RE K n W Y2 te fe) (hA : ∀ i ∈ A, i ∈ vs) (hAW : ∀ i ∈ A, i ∉ W) :
    RE K n W (Y || Y' || Y2) (tLc wi gt tt te vs) (eComp vs fi ft fc fe) := by
  intro g FS env τ σ tv H Q r env' hK hn hW he hs Sm yb e h
  unfold eComp at e
  split at e
  · cases e
  · rename_i s items env1 e1
    cases e2 : cLoop vs ft fc fe items [] (wipeE env1 vs) with
    | none => rw [e2] at e; cases e
    | some q =>
      obtain ⟨acc, env2⟩ := q
      rw [e2] at e
      simp only [Option.some.injEq, Prod.mk.injEq] at e
      obtain ⟨rfl, rfl⟩ := e
      refine hi g FS env τ σ tv H _ s items env1 hK hn hW he hs Sm (fun q => yb (by simp [q])) e1 fun J H1 FS1 x l1 S1 src hbor => ?_
      intro Dn hD
      have hsw : (wipe σ vs).length = n := by rw [wipe_length]; exact hs
      have S1' : Sim g FS1 (env1 ++ (τ ++ [s])) (σ ++ (tv ++ [x])) H1 := by simpa using S1
      have S2 : Sim g FS1 (wipeE env1 vs ++ (τ ++ [s])) (wipe σ vs ++ (tv ++ [x])) H1 := S1'.wiped l1 hs hsw wipe_wipe
      have lw : (wipeE env1 vs).length = n := by rw [wipeE_length]; exact l1
      have hpn : ∀ {e0 : List S}, e0.length = n → g.n ≤ (e0 ++ (τ ++ [s])).length := fun q => by rw [List.length_append, q, hn]; exact Nat.le_add_right _ _
      have sm0 : Same H1 (upd H1 Dn (.lst [])) := same_upd hD
      have tk0 : TOk g FS1 (wipeE env1 vs ++ (τ ++ [s])) .own [Dn] := S2.tokNew (by simp) fun a m => by rw [List.mem_singleton.mp m]; exact hD
      have S3 := (S2.same sm0).push (k := .own) (d := .lst []) (v := .ref Dn) (F := [Dn]) (by subst hK; exact .lst upd_same (Nat.zero_le _) .nil) tk0 fun z => (nomatch z)
      -- the state ahead of a turn
      refine ⟨fun i m H' => m = items.length - i ∧ i ≤ items.length ∧ ∃ env' ac FS', env'.length = n ∧ ac.length ≤ i ∧ Sim g FS' ((env' ++ (τ ++ [s])) ++ [.t .own (.lst ac)]) ((wipe σ vs ++ (tv ++ [x])) ++ [some (.ref Dn)]) H' ∧ cLoop vs ft fc fe (items.drop i) ac env' = some (acc, env2),
        ⟨items.length, by simp, Nat.zero_le _, _, [], _, lw, Nat.le_refl _, S3, e2⟩, ?_⟩
      rintro i m H' ⟨rfl, hle, env', ac, FS', l2, hac, S4, e3⟩
      have ep : ((env' ++ (τ ++ [s])) ++ [S.t .own (.lst ac)])[(env' ++ τ).length]? = some s := by
        rw [List.getElem?_append_left (by simp), ← List.append_assoc]; simp
      have hlv : (env' ++ τ).length = (wipe σ vs ++ tv).length := by
        have := S4.len
        simp only [List.length_append, List.length_cons, List.length_nil] at this ⊢
        omega
      have ev : ((wipe σ vs ++ (tv ++ [x])) ++ [some (V.ref Dn)])[(env' ++ τ).length]? = some x := by
        rw [List.getElem?_append_left (by rw [hlv]; simp), ← List.append_assoc, hlv]; simp
      by_cases hlt : i < items.length
      · obtain ⟨hgo, hy⟩ := src.go g FS' _ _ H' _ hK S4 ep ev i items[i] (by simp [hlt])
        have hlen := src.len g FS' _ _ H' _ hK S4 ep ev
        refine .inr ⟨hgo, fun H2 => ∃ m', m' = items.length - (i + 1) ∧ i + 1 ≤ items.length ∧ ∃ env' ac FS', env'.length = n ∧ ac.length ≤ i + 1 ∧ Sim g FS' ((env' ++ (τ ++ [s])) ++ [.t .own (.lst ac)]) ((wipe σ vs ++ (tv ++ [x])) ++ [some (.ref Dn)]) H2 ∧ cLoop vs ft fc fe (items.drop (i + 1)) ac env' = some (acc, env2),
          fun H2 ⟨m', q1, q2, q3⟩ => ⟨m', by omega, q1, q2, q3⟩, fun v H2 hyl => ?_⟩
        obtain ⟨sm, F, rv, tk⟩ := hy v H2 hyl
        subst hK
        have S5 := (S4.same sm).push (k := items[i].1) (d := items[i].2) rv tk fun _ => by simp [l2, hn]
        rw [List.drop_eq_getElem_cons hlt] at e3
        simp only [cLoop] at e3
        cases e4 : ft items[i] env' with
        | none => rw [e4] at e3; cases e3
        | some env3 =>
          rw [e4] at e3
          rw [List.append_assoc env' (τ ++ [s]), List.append_assoc (wipe σ vs) (tv ++ [x])] at S5
          refine hg g _ env' _ (wipe σ vs) _ H2 v _ items[i] env3 rfl hn hW l2 hsw S5 (.inr hAW) e4 fun σ3 H3 FS3 l3 l4 k3 S6 => ?_
          have hw3 : wipe σ3 vs = wipe (wipe σ vs) vs := wipe_keep k3 hA (by rw [l4, hsw])
          refine ⟨hw3.trans wipe_wipe, ?_⟩
          cases e5 : fc env3 with
          | none => simp only [e5] at e3; cases e3
          | some q =>
            obtain ⟨b, env4⟩ := q
            have nbs : ∀ {yy : Bool}, (yy = true → (Y || Y' || Y2) = true) → yy = true → NoBor (τ ++ [s] ++ [S.t .own (.lst ac)]) := fun hy q => ((yb (hy q)).snoc hbor).snoc rfl
            refine hc g FS3 env3 _ σ3 _ H3 _ b env4 rfl hn hW l3 l4 S6 (nbs fun q => by simp [q]) e5 fun H4 FS4 l5 S7 => ?_
            cases b with
            | false =>
              rw [if_neg Bool.false_ne_true]
              simp only [e5] at e3
              have S8 := S7.wiped (σ' := wipe σ vs) (vs := vs) l5 l4 hsw hw3.symm
              exact ⟨_, rfl, hlt, _, ac, FS4, by rw [wipeE_length]; exact l5, Nat.le_succ_of_le hac, by simpa using S8, e3⟩
            | true =>
              rw [if_pos rfl]
              simp only [e5] at e3
              cases e6 : fe env4 with
              | none => rw [e6] at e3; cases e3
              | some q =>
                obtain ⟨t, env5⟩ := q
                rw [e6] at e3
                simp only at e3
                split at e3
                · rename_i ht1
                  refine he' g FS4 env4 _ σ3 _ H4 _ t env5 rfl hn hW l5 l4 S7 (nbs fun q => by simp [q]) e6 fun y H5 FS5 l6 S9 => ?_
                  -- the new item, off the top
                  have hge : g.n ≤ (env5 ++ (τ ++ [s] ++ [S.t .own (.lst ac)])).length := by rw [List.length_append, l6, hn]; exact Nat.le_add_right _ _
                  obtain ⟨y', ey, ry, tky⟩ := Sim.top (k := t.1) (d := t.2) S9 hge
                  cases ey
                  have tko : TOk g FS5 (env5 ++ (τ ++ [s] ++ [S.t .own (.lst ac)])) .own (FS5 (env5 ++ (τ ++ [s] ++ [S.t .own (.lst ac)])).length) := by
                    unfold tt1 at ht1
                    cases ht : t.1 with
                    | own => rw [ht] at tky; exact tky
                    | _ =>
                      rw [ht] at ht1
                      rw [ry.flat (by simpa using ht1)]; exact TOk.nil _
                  generalize hF2 : FS5 (env5 ++ (τ ++ [s] ++ [S.t .own (.lst ac)])).length = F2 at ry tko
                  have S10 := S9.pop
                  have pe : (env5 ++ (τ ++ [s] ++ [S.t .own (.lst ac)]))[(env5 ++ (τ ++ [s])).length]? = some (.t .own (.lst ac)) := by
                    rw [← List.append_assoc]; simp
                  have hlv5 : (env5 ++ (τ ++ [s])).length = (σ3 ++ (tv ++ [x])).length := by
                    have := S10.len
                    simp only [List.length_append, List.length_cons, List.length_nil] at this ⊢
                    omega
                  have pv5 : (σ3 ++ (tv ++ [x] ++ [some (V.ref Dn)]))[(env5 ++ (τ ++ [s])).length]? = some (some (.ref Dn)) := by
                    rw [← List.append_assoc, hlv5]; simp
                  obtain ⟨w, ew, rw'⟩ := S10.rep _ _ _ pe rfl
                  rw [pv5] at ew; cases ew
                  obtain ⟨a', vs', F', q1, q2, q3, q4, q5⟩ := rw'.lstV
                  cases q1
                  have hvl : vs'.length = ac.length := q4.length
                  refine ⟨vs', q3, by rw [hvl]; omega, ?_⟩
                  have hx : Ext (fun a => a ∈ FS5 (env5 ++ (τ ++ [s])).length) H5 (upd H5 Dn (.lst (vs' ++ [y]))) := ext_upd (by rw [q2]; exact List.mem_cons_self) q3 trivial
                  have hx0 : Ext (fun a => a = Dn) H5 (upd H5 Dn (.lst (vs' ++ [y]))) := ext_upd rfl q3 trivial
                  have hF' := S10.nod _ _ pe rfl
                  rw [q2] at hF'
                  have dis2 : ∀ a ∈ F2, a ∉ FS5 (env5 ++ (τ ++ [s])).length := tko.excl rfl _ _ pe rfl
                  have S11 := S10.modify (d' := .lst (ac ++ [t.2])) (v := .ref Dn) (F' := Dn :: (F' ++ F2)) (F2 := F2) pe rfl pv5 hx (fun a na => by
                      by_cases ha : a = Dn
                      · subst ha; rw [upd_same]; exact fun z => (nomatch z)
                      · rw [upd_ne ha]; exact na)
                    (.lst upd_same (by rw [List.length_append, hvl]; show ac.length + 1 ≤ _; omega) ((q4.ext hx0 fun a m z => (List.nodup_cons.mp hF').1 (z ▸ m)).append (RepL.one (ry.ext hx0 fun a m z => dis2 a m (by rw [q2, z]; exact List.mem_cons_self)))))
                    ?_ tko (.inr (.inr (by rw [List.length_append, l6, hn]; exact Nat.le_add_right _ _))) fun a m => ?_
                  · have es : (env5 ++ (τ ++ [s] ++ [S.t .own (.lst ac)])).set (env5 ++ (τ ++ [s])).length (S.with (.t .own (.lst ac)) (.lst (ac ++ [t.2]))) = env5 ++ (τ ++ [s] ++ [S.t .own (.lst (ac ++ [t.2]))]) := by
                      rw [← List.append_assoc, ← List.append_assoc, List.set_append_right _ _ (Nat.le_refl _)]
                      simp [S.with]
                    rw [es] at S11
                    have S12 := S11.wiped (σ' := wipe σ vs) (vs := vs) l6 l4 hsw hw3.symm
                    exact ⟨_, rfl, hlt, _, ac ++ [t.2], _, by rw [wipeE_length]; exact l6, by rw [List.length_append]; exact Nat.succ_le_succ hac, by simpa using S12, e3⟩
                  · refine List.nodup_cons.mpr ⟨fun m => ?_, List.nodup_append.mpr ⟨(List.nodup_cons.mp hF').2, (tko.tree rfl).1, fun a m b m' q => ?_⟩⟩
                    · rcases List.mem_append.mp m with m | m
                      · exact (List.nodup_cons.mp hF').1 m
                      · exact dis2 _ m (by rw [q2]; exact List.mem_cons_self)
                    · subst q
                      exact dis2 _ m' (by rw [q2]; exact List.mem_cons_of_mem _ m)
                  · rcases List.mem_cons.mp m with q | m
                    · exact .inl (by rw [q2, q]; exact List.mem_cons_self)
                    · rcases List.mem_append.mp m with m | m
                      · exact .inl (by rw [q2]; exact List.mem_cons_of_mem _ m)
                      · exact .inr (.inl m)
                · cases e3
      · have ei : i = items.length := by omega
        subst ei
        refine .inl ⟨src.stop g FS' _ _ H' _ hK S4 ep ev, ?_⟩
        simp only [List.drop_length, cLoop, Option.some.injEq, Prod.mk.injEq] at e3
        obtain ⟨rfl, rfl⟩ := e3
        subst hK
        obtain ⟨v', ev', rv', tk'⟩ := Sim.top S4 (hpn l2)
        cases ev'
        have S5 := S4.pop
        rw [← List.append_assoc, ← List.append_assoc] at S5
        have S6 := S5.pop.wiped (σ' := σ) (vs := vs) l2 hsw hs wipe_wipe.symm
        have up : ∀ {j : Nat} {s' : S}, (wipeE env' vs ++ τ)[j]? = some s' → s'.d?.isSome = true → (env' ++ (τ ++ [s]))[j]? = some s' := fun {j s'} ej hd => by
          rw [← List.append_assoc]
          by_cases hj : j < n
          · rw [List.getElem?_append_left (by rw [wipeE_length, l2]; exact hj)] at ej
            rw [List.append_assoc, List.getElem?_append_left (by rw [l2]; exact hj)]
            exact (wipeE_get ej hd).1
          · rw [List.getElem?_append_right (by rw [wipeE_length, l2]; omega), wipeE_length, l2] at ej
            have e9 : (env' ++ τ)[j]? = some s' := by rw [List.getElem?_append_right (by rw [l2]; omega), l2]; exact ej
            rw [List.getElem?_append_left (lt_of_get e9)]; exact e9
        have tk3 : TOk g FS' (wipeE env' vs ++ τ) .own (FS' (env' ++ (τ ++ [s])).length) :=
          ⟨tk'.tree, tk'.old, fun z j s' ej hd => tk'.excl z j s' (up ej hd) hd, fun z j s' ej hw => tk'.shar z j s' (up ej (S.some_of_wr hw)) hw, fun j s' ej hw => tk'.bor j s' (up ej (S.some_of_wr hw)) hw⟩
        exact h _ H' _ (by rw [wipeE_length]; exact l2) (S6.push rv' tk3 fun z => (nomatch z))
end
end RG

set_option maxRecDepth 100000
set_option maxHeartbeats 4000000
namespace RG
open PySem PySem.Spec PyProof.Rows L2

/-! ### contexts: a def's body, a comprehension's block -/
structure XF (P : Program) (w : World) (K : PySem.W.Frag) (mg : Str → Option Value) (base : Heap) (N : List Str) (sc : Scope) (k : Nat) (X : Cx) : Prop where
  hP : X.prog = P
  hw : X.w = w
  hK : X.K = K
  hmg : X.mg = mg
  hb : X.base = base
  hN : X.N = N
  calm : X.calm = true
  hsc : X.env.scope = sc
  room : Room k X.A
  nd : N.Nodup
  xe : X.xe = fun _ _ => False
abbrev XS := Cx → Prop
def Ctx (P : Program) (w : World) (K : PySem.W.Frag) (mg : Str → Option Value) (base : Heap) (N : List Str) (sc : Scope) (k : Nat) (C : XS) : Prop := ∀ X, C X → XF P w K mg base N sc k X
/-- a comprehension's block within -/
def blkS (C : XS) (scope : Scope) : XS := fun X => ∃ X1, C X1 ∧ ∃ (s : Shared) (H : Hp) (Cc : Addr) (cl : List (Str × Addr)) (fp : List Addr), X = X1.blk s H scope (compEnvC scope cl Cc X1.env) fp

def BE (C : XS) (K : PySem.W.Frag) (n : Nat) (W : List Nat) (Y : Bool) (e : Expr) (f : List S → Option (T × List S)) : Prop := ∃ t, (∀ X, C X → PE X e t) ∧ RE K n W Y t f
def BP (C : XS) (K : PySem.W.Frag) (n : Nat) (W : List Nat) (e : Expr) (f : List S → Option (Pk × D)) : Prop := ∃ t, (∀ X, C X → PE X e t) ∧ RP K n W t f
def BA (C : XS) (K : PySem.W.Frag) (n : Nat) (W : List Nat) (Y : Bool) (es : List Expr) (f : List S → Option (List Ar × List S)) : Prop := ∃ t, (∀ X, C X → PA X es t) ∧ RA K n W Y t f
def BPA (C : XS) (K : PySem.W.Frag) (n : Nat) (W : List Nat) (es : List Expr) (f : List S → Option (List (Pk × D))) : Prop := ∃ t, (∀ X, C X → PA X es t) ∧ RPA K n W t f
def BT (C : XS) (K : PySem.W.Frag) (n : Nat) (W : List Nat) (Y : Bool) (e : Expr) (f : List S → Option (Bool × List S)) : Prop := ∃ t, (∀ X, C X → PT X e t) ∧ RB K n W Y t f
def BW (C : XS) (K : PySem.W.Frag) (n : Nat) (W : List Nat) (Y : Bool) (e : Expr) (f : List S → Option (Bool × List S)) : Prop := ∃ t, (∀ X, C X → PW X e t) ∧ RB K n W Y t f
def BS (C : XS) (K : PySem.W.Frag) (n : Nat) (W A : List Nat) (Z : Bool) (st : Stmt) (f : List S → Option Fl) : Prop := ∃ t, (∀ X, C X → PS X st t) ∧ RS K n W A Z t f
def BSs (C : XS) (K : PySem.W.Frag) (n : Nat) (W A : List Nat) (Z : Bool) (st : List Stmt) (f : List S → Option Fl) : Prop := ∃ t, (∀ X, C X → PSs X st t) ∧ RS K n W A Z t f
def BG (C : XS) (K : PySem.W.Frag) (n : Nat) (W A : List Nat) (e : Expr) (f : T → List S → Option (List S)) : Prop := ∃ t, (∀ X, C X → PG X e t) ∧ RT K n W A t f
def BI (C : XS) (K : PySem.W.Frag) (n : Nat) (W : List Nat) (Y : Bool) (tg e : Expr) (f : List S → Option (S × List T × List S)) : Prop := ∃ t, (∀ X, C X → PI X tg e t) ∧ RI K n W Y t f

section
variable {P : Program} {w : World} {K : PySem.W.Frag} {mg : Str → Option Value} {base : Heap} {N : List Str} {sc : Scope} {k n : Nat} {C : XS} {W A B : List Nat} {Y Y' Y2 Z Z' : Bool}
variable {pos : Pos} {a b e : Expr} {es : List Expr}

/-! #### from expressions to expressions -/
theorem be_p {f : List S → Option (Pk × D)} (h : BP C K n W e f) : BE C K n W false e (lift f) := let ⟨t, h1, h2⟩ := h; ⟨t, h1, re_lift h2⟩
theorem ba_nil : BA C K n W false [] fun env => some ([], env) := ⟨_, fun _ _ => pa_nil, ra_nil⟩
theorem ba_cons {fa : List S → Option (T × List S)} {fr : List S → Option (List Ar × List S)} (ha : BE C K n W Y e fa) (hr : BA C K n W Y' es fr)
    (hs : ∀ (env : Env), starEach (e :: es) env = (false, eval e env) :: starEach es env := by intro _; rfl) : BA C K n W (Y || Y') (e :: es) (aCons Y' fa fr) :=
  let ⟨_, h1, h2⟩ := ha; let ⟨_, r1, r2⟩ := hr; ⟨_, fun X hX => pa_cons (h1 X hX) (r1 X hX) (hs _), ra_cons h2 r2⟩
theorem bpa_nil : BPA C K n W [] fun _ => some [] := ⟨_, fun _ _ => pa_nil, rpa_nil⟩
def pCons (fa : List S → Option (Pk × D)) (fr : List S → Option (List (Pk × D))) : List S → Option (List (Pk × D)) := fun env => (fa env).bind fun x => (fr env).map fun xs => x :: xs
theorem bpa_cons {fa : List S → Option (Pk × D)} {fr : List S → Option (List (Pk × D))} (ha : BP C K n W e fa) (hr : BPA C K n W es fr)
    (hs : ∀ (env : Env), starEach (e :: es) env = (false, eval e env) :: starEach es env := by intro _; rfl) : BPA C K n W (e :: es) (pCons fa fr) :=
  let ⟨_, h1, h2⟩ := ha; let ⟨_, r1, r2⟩ := hr; ⟨_, fun X hX => pa_cons (h1 X hX) (r1 X hX) (hs _), rpa_cons h2 r2⟩
/-- a slot that who gets it writes -/
theorem ba_ptr {i : Nat} {x : Str} {fr : List S → Option (List Ar × List S)} (c : Ctx P w K mg base N sc k C) (hi : N[i]? = some x) (hv : Vis sc x) (hin : i < n) (hr : BA C K n W Y es fr)
    (hs : ∀ (env : Env), starEach (.Name x pos :: es) env = (false, eval (.Name x pos) env) :: starEach es env := by intro _; rfl) (hd : (x == ("__debug__" : Str)) = false := by decide) (hcd : (x == ("__classdict__" : Str)) = false := by decide) : BA C K n W Y (.Name x pos :: es) (aPtr i fr) :=
  let ⟨_, r1, r2⟩ := hr; ⟨_, fun X hX => pa_cons (pe_var (i := i) (by rw [(c X hX).hN]; exact hi) (by rw [(c X hX).hsc]; exact hv) hd hcd) (r1 X hX) (hs _), ra_ptr r2 hin⟩

/-! #### names, constants -/
theorem bp_var {i : Nat} {x : Str} (c : Ctx P w K mg base N sc k C) (hi : N[i]? = some x) (hv : Vis sc x) (hin : i < n) (hd : (x == ("__debug__" : Str)) = false := by decide) (hcd : (x == ("__classdict__" : Str)) = false := by decide) : BP C K n W (.Name x pos) (pVar W i) :=
  ⟨_, fun X hX => pe_var (i := i) (by rw [(c X hX).hN]; exact hi) (by rw [(c X hX).hsc]; exact hv) hd hcd, rp_var hin⟩
theorem be_take {i : Nat} {x : Str} (c : Ctx P w K mg base N sc k C) (hi : N[i]? = some x) (hv : Vis sc x) (hin : i < n) (hd : (x == ("__debug__" : Str)) = false := by decide) (hcd : (x == ("__classdict__" : Str)) = false := by decide) : BE C K n W true (.Name x pos) (eTake i) :=
  ⟨_, fun X hX => pe_var (i := i) (by rw [(c X hX).hN]; exact hi) (by rw [(c X hX).hsc]; exact hv) hd hcd, re_take hin⟩
def pC (d : D) : List S → Option (Pk × D) := fun _ => some (some .own, d)
theorem bp_int {i : Int} {j : Nat} : BP C K n W (.Constant (.int i) j pos) (pC (.int i)) := ⟨_, fun _ _ => pe_int, rp_c fun _ => .int i⟩
theorem bp_bl {b : Bool} {j : Nat} : BP C K n W (.Constant (.bool b) j pos) (pC (.bl b)) := ⟨_, fun _ _ => pe_bl, rp_c fun _ => .bl b⟩
theorem bp_non {j : Nat} : BP C K n W (.Constant .none j pos) (pC .non) := ⟨_, fun _ _ => pe_non, rp_c fun _ => .non⟩
theorem bp_str {x : Str} {j : Nat} : BP C K n W (.Constant (.str x) j pos) (pC (.str x)) := ⟨_, fun _ _ => pe_str, rp_c fun _ => .str x⟩
/-- what a module's name holds, for good -/
structure GVal (K : PySem.W.Frag) (mg : Str → Option Value) (x : Str) (d : D) : Prop where
  ex : ∃ u v, mg x = some u ∧ RelV v u ∧ ∀ H, Rep K H v d []
theorem bp_glob {x : Str} {d : D} (c : Ctx P w K mg base N sc k C) (hg : sc.names.lookup x = some .globalImplicit) (h : GVal K mg x d) (hd : (x == ("__debug__" : Str)) = false := by decide) : BP C K n W (.Name x pos) (pC d) := by
  obtain ⟨u, v, h1, h2, h3⟩ := h.ex
  exact ⟨tC v, fun X hX => pe_glob (show X.env.scope.names.lookup x = _ by rw [(c X hX).hsc]; exact hg) (by rw [(c X hX).hmg]; exact h1) h2 hd, rp_c h3⟩

/-! #### operators: two expressions, an operation by values -/
def OpA (C : XS) (f : Value → Value → Sem Value) (r : R2) : Prop := ∀ X, C X → OpR X f r
theorem be_bin {op : Operator} {r : R2} {o : List D → Option (Rk × D)} {fa fb : List S → Option (T × List S)} (hop : OpA C (binaryOp op) r) (ho : VOp K (rl2 r) o) (ha : BE C K n W Y a fa) (hb : BE C K n W Y' b fb) :
    BE C K n W (Y || (Y' || false)) (.BinOp a op b pos) (eOp o (aCons (Y' || false) fa (aCons false fb fun env => some ([], env)))) := by
  obtain ⟨ta, a1, a2⟩ := ha
  obtain ⟨tb, b1, b2⟩ := hb
  exact ⟨tOp r ta tb, fun X hX => pe_op (hop X hX) (a1 X hX) (b1 X hX), re_op (r := rl2 r) (ra_cons a2 (ra_cons b2 ra_nil)) ho⟩
theorem bp_bin {op : Operator} {r : R2} {o : List D → Option (Rk × D)} {fa fb : List S → Option (Pk × D)} (hop : OpA C (binaryOp op) r) (ho : VOp K (rl2 r) o) (ha : BP C K n W a fa) (hb : BP C K n W b fb) :
    BP C K n W (.BinOp a op b pos) (pOp o (pCons fa (pCons fb fun _ => some []))) := by
  obtain ⟨ta, a1, a2⟩ := ha
  obtain ⟨tb, b1, b2⟩ := hb
  exact ⟨tOp r ta tb, fun X hX => pe_op (hop X hX) (a1 X hX) (b1 X hX), rp_op (r := rl2 r) (rpa_cons a2 (rpa_cons b2 rpa_nil)) ho⟩
theorem be_cmp {op : CmpOp} {r : R2} {o : List D → Option (Rk × D)} {fa fb : List S → Option (T × List S)} (hop : OpA C (compareOp op) r) (ho : VOp K (rl2 r) o) (ha : BE C K n W Y a fa) (hb : BE C K n W Y' b fb) (hm : behindInMarks op b = false) :
    BE C K n W (Y || (Y' || false)) (.Compare a [op] [b] pos) (eOp o (aCons (Y' || false) fa (aCons false fb fun env => some ([], env)))) := by
  obtain ⟨ta, a1, a2⟩ := ha
  obtain ⟨tb, b1, b2⟩ := hb
  exact ⟨tOp r ta tb, fun X hX => pe_cmpR (hop X hX) (a1 X hX) (b1 X hX) hm, re_op (r := rl2 r) (ra_cons a2 (ra_cons b2 ra_nil)) ho⟩
theorem bp_cmp {op : CmpOp} {r : R2} {o : List D → Option (Rk × D)} {fa fb : List S → Option (Pk × D)} (hop : OpA C (compareOp op) r) (ho : VOp K (rl2 r) o) (ha : BP C K n W a fa) (hb : BP C K n W b fb) (hm : behindInMarks op b = false) :
    BP C K n W (.Compare a [op] [b] pos) (pOp o (pCons fa (pCons fb fun _ => some []))) := by
  obtain ⟨ta, a1, a2⟩ := ha
  obtain ⟨tb, b1, b2⟩ := hb
  exact ⟨tOp r ta tb, fun X hX => pe_cmpR (hop X hX) (a1 X hX) (b1 X hX) hm, rp_op (r := rl2 r) (rpa_cons a2 (rpa_cons b2 rpa_nil)) ho⟩
theorem bt_cmp {op : CmpOp} {r : R2} {o : List D → Option (Rk × D)} {fa fb : List S → Option (T × List S)} (hop : OpA C (compareOp op) r) (ho : VOp K (rl2 r) o) (ha : BE C K n W Y a fa) (hb : BE C K n W Y' b fb) (hm : behindInMarks op b = false) :
    BT C K n W (Y || (Y' || false)) (.Compare a [op] [b] pos) (bE (eOp o (aCons (Y' || false) fa (aCons false fb fun env => some ([], env))))) := by
  obtain ⟨ta, a1, a2⟩ := ha
  obtain ⟨tb, b1, b2⟩ := hb
  exact ⟨tTest (tOp r ta tb), fun X hX => pt_cmpR (hop X hX) (a1 X hX) (b1 X hX) hm, rb_e (re_op (r := rl2 r) (ra_cons a2 (ra_cons b2 ra_nil)) ho)⟩
theorem btp_cmp {op : CmpOp} {r : R2} {o : List D → Option (Rk × D)} {fa fb : List S → Option (Pk × D)} (hop : OpA C (compareOp op) r) (ho : VOp K (rl2 r) o) (ha : BP C K n W a fa) (hb : BP C K n W b fb) (hm : behindInMarks op b = false) :
    BT C K n W false (.Compare a [op] [b] pos) (bE (lift (pOp o (pCons fa (pCons fb fun _ => some []))))) := by
  obtain ⟨ta, a1, a2⟩ := ha
  obtain ⟨tb, b1, b2⟩ := hb
  exact ⟨tTest (tOp r ta tb), fun X hX => pt_cmpR (hop X hX) (a1 X hX) (b1 X hX) hm, rb_e (re_lift (rp_op (r := rl2 r) (rpa_cons a2 (rpa_cons b2 rpa_nil)) ho))⟩
/-- a test by an expression that is True or False -/
theorem bt_val {f : List S → Option (T × List S)} (h : BE C K n W Y e f) (he : ∀ (env : Env) (whole : Sem Value), isTrue e env whole = (do let v ← whole; standAt e.pos; holding [v] (truthy v)) := by intro _ _; rfl) : BT C K n W Y e (bE f) :=
  let ⟨t, h1, h2⟩ := h; ⟨tB t, fun X hX => pt_val (h1 X hX) (he _), rb_e h2⟩
theorem bt_not {f : List S → Option (Bool × List S)} (h : BT C K n W Y a f) : BT C K n W Y (.UnaryOp .Not a pos) (bNot f) := let ⟨_, h1, h2⟩ := h; ⟨_, fun X hX => pt_not (h1 X hX), rb_not h2⟩
theorem bt_w {f : List S → Option (Bool × List S)} (h : BW C K n W Y e f) : BT C K n W Y e f := let ⟨_, h1, h2⟩ := h; ⟨_, fun X hX => (h1 X hX).pt, h2⟩
theorem bw_and1 {f : List S → Option (Bool × List S)} (h : BT C K n W Y a f) : BW C K n W Y (.BoolOp .And [a] pos) f := let ⟨_, h1, h2⟩ := h; ⟨_, fun X hX => pw_and1 (h1 X hX), h2⟩
theorem bw_or1 {f : List S → Option (Bool × List S)} (h : BT C K n W Y a f) : BW C K n W Y (.BoolOp .Or [a] pos) f := let ⟨_, h1, h2⟩ := h; ⟨_, fun X hX => pw_or1 (h1 X hX), h2⟩
theorem bw_and {f g : List S → Option (Bool × List S)} (h : BT C K n W Y a f) (r : BW C K n W Y' (.BoolOp .And (b :: es) pos) g) : BW C K n W (Y || Y') (.BoolOp .And (a :: b :: es) pos) (bAnd f g) :=
  let ⟨_, h1, h2⟩ := h; let ⟨_, r1, r2⟩ := r; ⟨_, fun X hX => pw_and (h1 X hX) (r1 X hX), rb_and h2 r2⟩
theorem bw_or {f g : List S → Option (Bool × List S)} (h : BT C K n W Y a f) (r : BW C K n W Y' (.BoolOp .Or (b :: es) pos) g) : BW C K n W (Y || Y') (.BoolOp .Or (a :: b :: es) pos) (bOr f g) :=
  let ⟨_, h1, h2⟩ := h; let ⟨_, r1, r2⟩ := r; ⟨_, fun X hX => pw_or (h1 X hX) (r1 X hX), rb_or h2 r2⟩
/-! .. as values -/
theorem be_one {op : BoolOp} {f : List S → Option (T × List S)} (h : BE C K n W Y a f) : BE C K n W Y (.BoolOp op [a] pos) f := let ⟨_, h1, h2⟩ := h; ⟨_, fun X hX => pe_one (h1 X hX), h2⟩
theorem be_and {f g : List S → Option (T × List S)} (h : BE C K n W Y a f) (r : BE C K n W Y' (.BoolOp .And (b :: es) pos) g) : BE C K n W (Y || Y') (.BoolOp .And (a :: b :: es) pos) (eB (bAnd (bE f) (bE g))) :=
  let ⟨_, h1, h2⟩ := h; let ⟨_, r1, r2⟩ := r; ⟨_, fun X hX => pe_and (h1 X hX) (r1 X hX), re_andV h2 r2⟩
theorem be_or {f g : List S → Option (T × List S)} (h : BE C K n W Y a f) (r : BE C K n W Y' (.BoolOp .Or (b :: es) pos) g) : BE C K n W (Y || Y') (.BoolOp .Or (a :: b :: es) pos) (eB (bOr (bE f) (bE g))) :=
  let ⟨_, h1, h2⟩ := h; let ⟨_, r1, r2⟩ := r; ⟨_, fun X hX => pe_or (h1 X hX) (r1 X hX), re_orV h2 r2⟩
theorem be_not {f : List S → Option (T × List S)} (h : BE C K n W Y a f) : BE C K n W Y (.UnaryOp .Not a pos) (eB (bNot (bE f))) := let ⟨_, h1, h2⟩ := h; ⟨_, fun X hX => pe_not (h1 X hX), re_notV h2⟩
theorem be_if {fc : List S → Option (Bool × List S)} {f g : List S → Option (T × List S)} {t : Expr} (c : BT C K n W Y t fc) (h : BE C K n W Y' a f) (r : BE C K n W Y2 b g) : BE C K n W (Y || Y' || Y2) (.IfExp t a b pos) (eIf fc f g) :=
  let ⟨_, c1, c2⟩ := c; let ⟨_, h1, h2⟩ := h; let ⟨_, r1, r2⟩ := r; ⟨_, fun X hX => pe_ifExp (c1 X hX) (h1 X hX) (r1 X hX), re_if c2 h2 r2⟩
/-- a < b < c -/
def oChain (o1 o2 : List D → Option (Rk × D)) : List D → Option (Rk × D) := fun ds => match ds with
  | [x, y, z] => match o1 [x, y] with
    | some (_, .bl true) => (match o2 [y, z] with
      | some (_, .bl b) => some (.imm, .bl b)
      | _ => none)
    | some (_, .bl false) => some (.imm, .bl false)
    | _ => none
  | _ => none

/-! #### displays, calls of built-ins, subscripts -/
def rlTup : List V → Hp → VK → Prop := fun xs H1 Q => xs.length ≤ sizeLine ∧ ∀ p, H1 p = none → Q (.ref p) (upd H1 p (.tup xs))
def rlLst : List V → Hp → VK → Prop := fun xs H1 Q => xs.length ≤ sizeLine ∧ ∀ p, H1 p = none → Q (.ref p) (upd H1 p (.lst xs))
def oTup : List D → Option (Rk × D) := fun ds => if ds.length ≤ 1000 then some (if D.flats ds then .imm else .mix, .tup ds) else none
def oLst : List D → Option (Rk × D) := fun ds => if ds.length ≤ 1000 then some (if D.flats ds then .fresh else .mix, .lst ds) else none
theorem small_line {m : Nat} (h : m ≤ 1000) : m ≤ sizeLine := by rw [sizeLine_eq]; omega
theorem vop_tup : VOp K rlTup oTup := by
  intro H vs ds F Q k d rl e h
  unfold oTup at e
  split at e
  · rename_i hl
    have hz : vs.length ≤ sizeLine := by rw [rl.length]; exact small_line hl
    cases e
    refine ⟨hz, fun p hp => h _ _ F (same_upd hp) (.tup (SqT.of upd_same) (.inr upd_same) hz (rl.same (same_upd hp))) ?_⟩
    by_cases hf : D.flats ds = true
    · rw [if_pos hf]; exact rl.flats hf
    · rw [if_neg hf]; exact ⟨fun a m => .inl m, id⟩
  · cases e
theorem vop_lst : VOp K rlLst oLst := by
  intro H vs ds F Q k d rl e h
  unfold oLst at e
  split at e
  · rename_i hl
    have hz : vs.length ≤ sizeLine := by rw [rl.length]; exact small_line hl
    cases e
    refine ⟨hz, fun p hp => h _ _ (p :: F) (same_upd hp) (.lst upd_same hz (rl.same (same_upd hp))) ?_⟩
    have np : p ∉ F := fun m => by
      obtain ⟨o, eo, _⟩ := rl.dom p m
      rw [hp] at eo; cases eo
    by_cases hf : D.flats ds = true
    · rw [if_pos hf]
      have := rl.flats hf
      subst this
      exact ⟨by simp, fun a m => by rw [List.mem_singleton.mp m]; exact hp⟩
    · rw [if_neg hf]
      exact ⟨fun a m => (List.mem_cons.mp m).elim (fun z => .inr (by rw [z]; exact hp)) .inl, fun q => List.nodup_cons.mpr ⟨np, q⟩⟩
  · cases e
theorem be_tup {x1 : Nat} {f : List S → Option (List Ar × List S)} (h : BA C K n W Y es f) : BE C K n W Y (.Tuple es x1 pos) (eOp oTup f) := let ⟨t, h1, h2⟩ := h; ⟨tTup t, fun X hX => pe_tup (h1 X hX), re_op (r := rlTup) h2 vop_tup⟩
theorem bp_tup {x1 : Nat} {f : List S → Option (List (Pk × D))} (h : BPA C K n W es f) : BP C K n W (.Tuple es x1 pos) (pOp oTup f) := let ⟨t, h1, h2⟩ := h; ⟨tTup t, fun X hX => pe_tup (h1 X hX), rp_op (r := rlTup) h2 vop_tup⟩
theorem be_lst {f : List S → Option (List Ar × List S)} (h : BA C K n W Y es f) : BE C K n W Y (.List es pos) (eOp oLst f) := let ⟨t, h1, h2⟩ := h; ⟨tLst t, fun X hX => pe_lst (h1 X hX), re_op (r := rlLst) h2 vop_lst⟩
theorem bp_lst {f : List S → Option (List (Pk × D))} (h : BPA C K n W es f) : BP C K n W (.List es pos) (pOp oLst f) := let ⟨t, h1, h2⟩ := h; ⟨tLst t, fun X hX => pe_lst (h1 X hX), rp_op (r := rlLst) h2 vop_lst⟩
/-- f(..), f a built-in function; T(..), T a built-in class -/
theorem be_callB {id : String} {x : Str} {p : Pos} {r : List V → Hp → VK → Prop} {o : List D → Option (Rk × D)} {f : List S → Option (List Ar × List S)} (c : Ctx P w K mg base N sc k C) (hr : ∀ X, C X → CallR X (.builtin id) r) (ho : VOp K r o) (hg : sc.names.lookup x = some .globalImplicit) (hm : mg x = none) (hv : bootBuiltins x = some (.builtin id))
    (ha : BA C K n W Y (e :: es) f) (hn : x ≠ "__name__" := by decide) (hdb : (x == ("__debug__" : Str)) = false := by decide)
    (hs : ∀ env : Env, starEach (e :: es) env = (false, eval e env) :: starEach es env := by intro _; rfl) (hpl : ∀ env : Env, (backTo pos (starEach es env)).any (·.1) = false := by intro _; rfl) :
    BE C K n W Y (.Call (.Name x p) (e :: es) [] pos) (eOp o f) := by
  obtain ⟨t, h1, h2⟩ := ha
  exact ⟨tCB r t, fun X hX => pe_callB (hr X hX) (show X.env.scope.names.lookup x = _ by rw [(c X hX).hsc]; exact hg) (by rw [(c X hX).hmg]; exact hm) hv (h1 X hX) hn hdb (hs _) (hpl _), re_op (r := r) h2 ho⟩
end
end RG

set_option maxRecDepth 100000
set_option maxHeartbeats 4000000
namespace RG
open PySem PySem.Spec PyProof.Rows L2

/-! ### operations by values -/
section
variable {K : PySem.W.Frag} {H H' : Hp}
theorem RepL.i1 {vs : List V} {d : D} {F : List Addr} (h : RepL K H vs [d] F) : ∃ v, vs = [v] ∧ Rep K H v d F := by
  cases h with
  | cons r t => cases t; exact ⟨_, rfl, by rw [List.append_nil]; exact r⟩
theorem RepL.i2 {vs : List V} {d d' : D} {F : List Addr} (h : RepL K H vs [d, d'] F) : ∃ v v' F1 F2, vs = [v, v'] ∧ F = F1 ++ F2 ∧ Rep K H v d F1 ∧ Rep K H v' d' F2 := by
  cases h with
  | cons r t =>
    obtain ⟨v', rfl, r'⟩ := t.i1
    exact ⟨_, _, _, _, rfl, rfl, r, r'⟩
theorem RepL.strs {vs : List V} {F : List Addr} : ∀ {xs : List Str}, RepL K H vs (xs.map D.str) F → vs = xs.map V.str ∧ F = [] := by
  intro xs
  induction xs generalizing vs F with
  | nil => intro h; cases h; exact ⟨rfl, rfl⟩
  | cons x xs ih =>
    intro h
    cases h with
    | cons r t =>
      obtain ⟨e1, e2⟩ := ih t
      cases r
      subst e1; subst e2
      exact ⟨rfl, rfl⟩
theorem RepL.ofStrs : ∀ (xs : List Str), RepL K H (xs.map V.str) (xs.map D.str) []
  | [] => .nil
  | x :: xs => RepL.cons (F := []) (.str x) (RepL.ofStrs xs)
end
def D.asStr : D → Option Str
  | .str x => some x
  | _ => none
def D.asInt : D → Option Int
  | .int x => some x
  | _ => none
theorem asStr_map : ∀ {ds : List D} {xs : List Str}, ds.mapM D.asStr = some xs → ds = xs.map D.str
  | [], xs, e => by simp at e; subst e; rfl
  | d :: ds, xs, e => by
    cases d with
    | str x =>
      cases e1 : ds.mapM D.asStr with
      | none => simp [D.asStr, e1] at e
      | some ys => simp [D.asStr, e1] at e; subst e; rw [asStr_map e1]; rfl
    | _ => simp [D.asStr] at e

section
variable {P : Program} {w : World} {K : PySem.W.Frag} {mg : Str → Option Value} {base : Heap} {N : List Str} {sc : Scope} {k n : Nat} {C : XS} {W A B : List Nat} {Y Y' Y2 Z Z' : Bool}
/-! #### + -/
def rAdd' : R2 := fun x y H Q => rI0 (fun i j => .int (i + j)) x y H Q ∨ (∃ i j, x = .str i ∧ y = .str j ∧ i.length + j.length ≤ sizeLine ∧ Q (.str (i ++ j)) H) ∨ rCat x y H Q
theorem opa_add : OpA C (binaryOp .Add) rAdd' := fun X _ => op_add.or (op_add_str.or op_cat)
def oAdd : List D → Option (Rk × D) := fun ds => match ds with
  | [.int i, .int j] => some (.imm, .int (i + j))
  | [.str x, .str y] => if x.length + y.length ≤ 16777216 then some (.imm, .str (x ++ y)) else none
  | [.lst xs, .lst ys] => if xs.length + ys.length ≤ 16777216 then some (if D.flats xs && D.flats ys then .fresh else .mix, .lst (xs ++ ys)) else none
  | _ => none
theorem new_lst {H : Hp} {vs : List V} {ds : List D} {F : List Addr} {Q : VK} {fl : Bool} (rl : RepL K H vs ds F) (hz : vs.length ≤ sizeLine) (hfl : fl = true → D.flats ds = true) {F0 : List Addr} (hF : ∀ a ∈ F, a ∈ F0) (hN : F0.Nodup → F.Nodup)
    (h : ∀ v H' F', Same H H' → Rep K H' v (.lst ds) F' → (if fl then Rk.fresh else Rk.mix).Ok H F0 F' → Q v H') : ∀ p, H p = none → Q (.ref p) (upd H p (.lst vs)) := fun p hp => by
  refine h _ _ (p :: F) (same_upd hp) (.lst upd_same hz (rl.same (same_upd hp))) ?_
  have np : p ∉ F := fun m => by
    obtain ⟨o, eo, _⟩ := rl.dom p m
    rw [hp] at eo; cases eo
  cases fl with
  | true =>
    have := rl.flats (hfl rfl)
    subst this
    exact ⟨by simp, fun a m => by rw [List.mem_singleton.mp m]; exact hp⟩
  | false => exact ⟨fun a m => (List.mem_cons.mp m).elim (fun z => .inr (by rw [z]; exact hp)) fun z => .inl (hF a z), fun q => List.nodup_cons.mpr ⟨np, hN q⟩⟩
theorem D.flats_append {xs ys : List D} : D.flats (xs ++ ys) = (D.flats xs && D.flats ys) := by
  induction xs with
  | nil => simp [D.flats]
  | cons x xs ih => simp [D.flats, ih, Bool.and_assoc]
theorem vop_add : VOp K (rl2 rAdd') oAdd := by
  intro H vs ds F Q k d rl e h
  unfold oAdd at e
  split at e
  · rename_i i j
    obtain ⟨v, v', F1, F2, rfl, rfl, r1, r2⟩ := rl.i2
    cases r1.intV; cases r2.intV
    cases e
    exact .inl ⟨i, j, rfl, rfl, h _ _ [] (Same.refl _) (.int _) rfl⟩
  · rename_i x y
    obtain ⟨v, v', F1, F2, rfl, rfl, r1, r2⟩ := rl.i2
    cases r1.strV; cases r2.strV
    split at e
    · rename_i hz
      cases e
      exact .inr (.inl ⟨x, y, rfl, rfl, by rw [sizeLine_eq]; exact hz, h _ _ [] (Same.refl _) (.str _) rfl⟩)
    · cases e
  · rename_i xs ys
    obtain ⟨v, v', F1, F2, rfl, rfl, r1, r2⟩ := rl.i2
    split at e
    · rename_i hz
      cases e
      obtain ⟨a, us, Fa, rfl, rfl, ha, la, za⟩ := r1.lstV
      obtain ⟨b, ws, Fb, rfl, rfl, hb, lb, zb⟩ := r2.lstV
      have hz' : us.length + ws.length ≤ sizeLine := by rw [la.length, lb.length, sizeLine_eq]; exact hz
      refine .inr (.inr ⟨a, b, us, ws, rfl, rfl, ha, hb, hz', ?_⟩)
      refine new_lst (fl := D.flats xs && D.flats ys) (la.append lb) (by rw [List.length_append]; exact hz') (fun q => by rw [D.flats_append]; exact q) (fun a m => ?_) (fun q => ?_) h
      · rcases List.mem_append.mp m with m | m
        · simp [m]
        · simp [m]
      · have q' : (Fa ++ Fb).Sublist ((a :: Fa) ++ (b :: Fb)) := (List.sublist_cons_self _ _).append (List.sublist_cons_self _ _)
        exact q.sublist q'
    · cases e
  · cases e
/-! #### -, *, %, //, ** of whole numbers -/
theorem vop_int {C : Int → Int → Prop} {g : Int → Int → Int} {o : List D → Option (Rk × D)} (ho : ∀ ds k d, o ds = some (k, d) → ∃ i j, ds = [.int i, .int j] ∧ C i j ∧ k = .imm ∧ d = .int (g i j)) : VOp K (rl2 (rI C fun i j => .int (g i j))) o := by
  intro H vs ds F Q k d rl e h
  obtain ⟨i, j, rfl, hc, rfl, rfl⟩ := ho ds k d e
  obtain ⟨v, v', F1, F2, rfl, rfl, r1, r2⟩ := rl.i2
  cases r1.intV; cases r2.intV
  exact ⟨i, j, rfl, rfl, hc, h _ _ [] (Same.refl _) (.int _) rfl⟩
theorem vop_int0 {g : Int → Int → D} {gv : Int → Int → V} {o : List D → Option (Rk × D)} (hg : ∀ i j H, Rep K H (gv i j) (g i j) []) (ho : ∀ ds k d, o ds = some (k, d) → ∃ i j, ds = [.int i, .int j] ∧ k = .imm ∧ d = g i j) : VOp K (rl2 (rI0 gv)) o := by
  intro H vs ds F Q k d rl e h
  obtain ⟨i, j, rfl, rfl, rfl⟩ := ho ds k d e
  obtain ⟨v, v', F1, F2, rfl, rfl, r1, r2⟩ := rl.i2
  cases r1.intV; cases r2.intV
  exact ⟨i, j, rfl, rfl, h _ _ [] (Same.refl _) (hg i j _) rfl⟩
def oSub : List D → Option (Rk × D) := fun ds => match ds with
  | [.int i, .int j] => some (.imm, .int (i - j))
  | _ => none
theorem opa_sub : OpA C (binaryOp .Sub) (rI0 fun i j => .int (i - j)) := fun _ _ => op_sub
theorem vop_sub : VOp K (rl2 (rI0 fun i j => .int (i - j))) oSub := vop_int0 (g := fun i j => .int (i - j)) (fun i j H => .int _) fun ds k d e => by
  unfold oSub at e; split at e
  · cases e; exact ⟨_, _, rfl, rfl, rfl⟩
  · cases e
def oMul : List D → Option (Rk × D) := fun ds => match ds with
  | [.int i, .int j] => if (-(2 ^ 64) < i ∧ i < 2 ^ 64) ∨ (-(2 ^ 64) < j ∧ j < 2 ^ 64) then some (.imm, .int (i * j)) else none
  | _ => none
theorem opa_mul : OpA C (binaryOp .Mult) (rI CMul fun i j => .int (i * j)) := fun _ _ => op_mul
theorem vop_mul : VOp K (rl2 (rI CMul fun i j => .int (i * j))) oMul := vop_int (g := fun i j => i * j) fun ds k d e => by
  unfold oMul at e; split at e
  · split at e
    · rename_i hc
      cases e; exact ⟨_, _, rfl, hc, rfl, rfl⟩
    · cases e
  · cases e
def oMod : List D → Option (Rk × D) := fun ds => match ds with
  | [.int i, .int j] => if 0 < j then some (.imm, .int (i % j)) else none
  | _ => none
theorem opa_mod : OpA C (binaryOp .Mod) (rI (fun _ j => 0 < j) fun i j => .int (i % j)) := fun _ _ => op_mod
theorem vop_mod : VOp K (rl2 (rI (fun _ j => 0 < j) fun i j => .int (i % j))) oMod := vop_int (C := fun _ j => 0 < j) (g := fun i j => i % j) fun ds k d e => by
  unfold oMod at e; split at e
  · split at e
    · rename_i hc
      cases e; exact ⟨_, _, rfl, hc, rfl, rfl⟩
    · cases e
  · cases e
def oDiv : List D → Option (Rk × D) := fun ds => match ds with
  | [.int i, .int j] => if 0 < j ∧ j < 1073741824 then some (.imm, .int (i / j)) else none
  | _ => none
theorem opa_div : OpA C (binaryOp .FloorDiv) (rI CDiv fun i j => .int (i / j)) := fun _ _ => op_fdiv
theorem vop_div : VOp K (rl2 (rI CDiv fun i j => .int (i / j))) oDiv := vop_int (g := fun i j => i / j) fun ds k d e => by
  unfold oDiv at e; split at e
  · split at e
    · rename_i hc
      cases e; exact ⟨_, _, rfl, hc, rfl, rfl⟩
    · cases e
  · cases e
def oPow : List D → Option (Rk × D) := fun ds => match ds with
  | [.int i, .int j] => if 0 ≤ j ∧ j ≤ 1000000 ∧ i.natAbs < 2 ^ 64 then some (.imm, .int (i ^ j.toNat)) else none
  | _ => none
theorem opa_pow : OpA C (binaryOp .Pow) (rI CPow fun i j => .int (i ^ j.toNat)) := fun _ _ => op_pow
theorem vop_pow : VOp K (rl2 (rI CPow fun i j => .int (i ^ j.toNat))) oPow := vop_int (g := fun i j => i ^ j.toNat) fun ds k d e => by
  unfold oPow at e; split at e
  · split at e
    · rename_i hc
      cases e; exact ⟨_, _, rfl, hc, rfl, rfl⟩
    · cases e
  · cases e
/-! #### comparisons of whole numbers -/
def oLt : List D → Option (Rk × D) := fun ds => match ds with
  | [.int i, .int j] => some (.imm, .bl (decide (i < j)))
  | [.str x, .str y] => some (.imm, .bl (decide (x.cps.toList < y.cps.toList)))
  | _ => none
def rLt' : R2 := fun x y H Q => rI0 (fun i j => .bl (decide (i < j))) x y H Q ∨ ∃ i j, x = .str i ∧ y = .str j ∧ Q (.bl (decide (i.cps.toList < j.cps.toList))) H
theorem opa_lt : OpA C (compareOp .Lt) rLt' := fun X _ => op_lt.or op_lt_str
theorem vop_lt : VOp K (rl2 rLt') oLt := by
  intro H vs ds F Q k d rl e h
  unfold oLt at e
  split at e
  · rename_i i j
    obtain ⟨v, v', F1, F2, rfl, rfl, r1, r2⟩ := rl.i2
    cases r1.intV; cases r2.intV
    cases e
    exact .inl ⟨i, j, rfl, rfl, h _ _ [] (Same.refl _) (.bl _) rfl⟩
  · rename_i i j
    obtain ⟨v, v', F1, F2, rfl, rfl, r1, r2⟩ := rl.i2
    cases r1.strV; cases r2.strV
    cases e
    exact .inr ⟨i, j, rfl, rfl, h _ _ [] (Same.refl _) (.bl _) rfl⟩
  · cases e
def oLe : List D → Option (Rk × D) := fun ds => match ds with
  | [.int i, .int j] => some (.imm, .bl (decide (i ≤ j)))
  | _ => none
theorem opa_le : OpA C (compareOp .LtE) (rI0 fun i j => .bl (decide (i ≤ j))) := fun _ _ => op_le
theorem vop_le : VOp K (rl2 (rI0 fun i j => .bl (decide (i ≤ j)))) oLe := vop_int0 (g := fun i j => .bl (decide (i ≤ j))) (fun i j H => .bl _) fun ds k d e => by
  unfold oLe at e; split at e
  · cases e; exact ⟨_, _, rfl, rfl, rfl⟩
  · cases e
def oGt : List D → Option (Rk × D) := fun ds => match ds with
  | [.int i, .int j] => some (.imm, .bl (decide (j < i)))
  | _ => none
theorem opa_gt : OpA C (compareOp .Gt) (rI0 fun i j => .bl (decide (j < i))) := fun _ _ => op_gt
theorem vop_gt : VOp K (rl2 (rI0 fun i j => .bl (decide (j < i)))) oGt := vop_int0 (g := fun i j => .bl (decide (j < i))) (fun i j H => .bl _) fun ds k d e => by
  unfold oGt at e; split at e
  · cases e; exact ⟨_, _, rfl, rfl, rfl⟩
  · cases e
def oGe : List D → Option (Rk × D) := fun ds => match ds with
  | [.int i, .int j] => some (.imm, .bl (decide (j ≤ i)))
  | _ => none
theorem opa_ge : OpA C (compareOp .GtE) (rI0 fun i j => .bl (decide (j ≤ i))) := fun _ _ => op_ge
theorem vop_ge : VOp K (rl2 (rI0 fun i j => .bl (decide (j ≤ i)))) oGe := vop_int0 (g := fun i j => .bl (decide (j ≤ i))) (fun i j H => .bl _) fun ds k d e => by
  unfold oGe at e; split at e
  · cases e; exact ⟨_, _, rfl, rfl, rfl⟩
  · cases e

/-! #### ==, != -/
mutual
def D.py : D → PyData
  | .non => .none
  | .bl b => .bool b
  | .int i => .int i
  | .str x => .str x
  | .tup xs => .tuple (D.pys xs)
  | .lst xs => .list (D.pys xs)
  | _ => .dict []
def D.pys : List D → List PyData
  | [] => []
  | d :: ds => d.py :: D.pys ds
end
mutual
/-- data alone -/
def D.pure : D → Bool
  | .non => true
  | .bl _ => true
  | .int _ => true
  | .str _ => true
  | .tup xs => D.pures xs
  | .lst xs => D.pures xs
  | _ => false
def D.pures : List D → Bool
  | [] => true
  | d :: ds => d.pure && D.pures ds
end
section
variable {H : Hp}
mutual
theorem Rep.dp : ∀ {v : V} {d : D} {F : List Addr}, Rep K H v d F → d.pure = true → Dp K H v d.py
  | _, _, _, .non, _ => by unfold D.py; exact .non
  | _, _, _, .bl b, _ => by unfold D.py; exact .bl b
  | _, _, _, .int b, _ => by unfold D.py; exact .int b
  | _, _, _, .str b, _ => by unfold D.py; exact .str b
  | _, _, _, .tup h y z r, e => by unfold D.pure at e; unfold D.py; exact .tup h (RepL.dp r e)
  | _, _, _, .lst h z r, e => by unfold D.pure at e; unfold D.py; exact .lst (SqL.of h) (RepL.dp r e)
  | _, _, _, .scr h z, e => by unfold D.pure at e; cases e
  | _, _, _, .dK h z k r, e => by unfold D.pure at e; cases e
  | _, _, _, .dT h z k r, e => by unfold D.pure at e; cases e
  | _, _, _, .ins h k r, e => by unfold D.pure at e; cases e
theorem RepL.dp : ∀ {v : List V} {d : List D} {F : List Addr}, RepL K H v d F → D.pures d = true → DpAll K H v (D.pys d)
  | _, _, _, .nil, _ => by unfold D.pys; exact .nil
  | _, _, _, .cons h r, e => by
    unfold D.pures at e
    rw [Bool.and_eq_true] at e
    unfold D.pys
    exact .cons (Rep.dp h e.1) (RepL.dp r e.2)
end
end
def oEq : List D → Option (Rk × D) := fun ds => match ds with
  | [x, y] => if x.pure && y.pure && SeqAt.shaped x.py && SeqAt.shaped y.py then some (.imm, .bl (PyData.eqv x.py y.py)) else none
  | _ => none
def oNe : List D → Option (Rk × D) := fun ds => match ds with
  | [x, y] => if x.pure && y.pure && SeqAt.shaped x.py && SeqAt.shaped y.py then some (.imm, .bl (!PyData.eqv x.py y.py)) else none
  | _ => none
theorem opa_eq (c : Ctx P w K mg base N sc k C) : OpA C (compareOp .Eq) (rEqD K) := fun X hX => by
  have := op_eqD (X := X) (c X hX).room.units
  rwa [(c X hX).hK] at this
theorem opa_ne (c : Ctx P w K mg base N sc k C) : OpA C (compareOp .NotEq) (rNeD K) := fun X hX => by
  have := op_neD (X := X) (c X hX).room.units
  rwa [(c X hX).hK] at this
theorem vop_eq : VOp K (rl2 (rEqD K)) oEq := by
  intro H vs ds F Q k d rl e h
  unfold oEq at e
  split at e
  · rename_i x y
    split at e
    · rename_i hc
      simp only [Bool.and_eq_true] at hc
      obtain ⟨⟨⟨h1, h2⟩, h3⟩, h4⟩ := hc
      cases e
      obtain ⟨v, v', F1, F2, rfl, rfl, r1, r2⟩ := rl.i2
      exact ⟨_, _, r1.dp h1, r2.dp h2, h3, h4, h _ _ [] (Same.refl _) (.bl _) rfl⟩
    · cases e
  · cases e
theorem vop_ne : VOp K (rl2 (rNeD K)) oNe := by
  intro H vs ds F Q k d rl e h
  unfold oNe at e
  split at e
  · rename_i x y
    split at e
    · rename_i hc
      simp only [Bool.and_eq_true] at hc
      obtain ⟨⟨⟨h1, h2⟩, h3⟩, h4⟩ := hc
      cases e
      obtain ⟨v, v', F1, F2, rfl, rfl, r1, r2⟩ := rl.i2
      exact ⟨_, _, r1.dp h1, r2.dp h2, h3, h4, h _ _ [] (Same.refl _) (.bl _) rfl⟩
    · cases e
  · cases e
/-! #### is None -/
def D.isNon : D → Bool
  | .non => true
  | _ => false
def oIsN : List D → Option (Rk × D) := fun ds => match ds with
  | [x, .non] => some (.imm, .bl x.isNon)
  | _ => none
def oNotN : List D → Option (Rk × D) := fun ds => match ds with
  | [x, .non] => some (.imm, .bl (!x.isNon))
  | _ => none
theorem Rep.isNon {H : Hp} {v : V} {d : D} {F : List Addr} (r : Rep K H v d F) : decide (v = .non) = d.isNon := by
  cases r <;> rfl
theorem opa_isN : OpA C (compareOp .Is) (fun x y H Q => y = .non ∧ Q (.bl (decide (x = .non))) H) := fun _ _ => op_isN
theorem opa_notN : OpA C (compareOp .IsNot) (fun x y H Q => y = .non ∧ Q (.bl (!decide (x = .non))) H) := fun _ _ => op_notN
theorem vop_isN : VOp K (rl2 fun x y H Q => y = .non ∧ Q (.bl (decide (x = .non))) H) oIsN := by
  intro H vs ds F Q k d rl e h
  unfold oIsN at e
  split at e
  · rename_i x
    cases e
    obtain ⟨v, v', F1, F2, rfl, rfl, r1, r2⟩ := rl.i2
    cases r2.nonV
    refine ⟨rfl, ?_⟩
    rw [r1.isNon]
    exact h _ _ [] (Same.refl _) (.bl _) rfl
  · cases e
theorem vop_notN : VOp K (rl2 fun x y H Q => y = .non ∧ Q (.bl (!decide (x = .non))) H) oNotN := by
  intro H vs ds F Q k d rl e h
  unfold oNotN at e
  split at e
  · rename_i x
    cases e
    obtain ⟨v, v', F1, F2, rfl, rfl, r1, r2⟩ := rl.i2
    cases r2.nonV
    refine ⟨rfl, ?_⟩
    rw [r1.isNon]
    exact h _ _ [] (Same.refl _) (.bl _) rfl
  · cases e
/-! #### in -/
def D.flat1 : D → Bool
  | .non => true
  | .bl _ => true
  | .int _ => true
  | .str _ => true
  | _ => false
def D.eq1 : D → D → Bool
  | .non, .non => true
  | .bl a, .bl b => a == b
  | .bl a, .int b => (if a then 1 else 0) == b
  | .int a, .bl b => a == (if b then 1 else 0)
  | .int a, .int b => a == b
  | .str a, .str b => a == b
  | _, _ => false
theorem Rep.flat1 {H : Hp} {v : V} {d : D} {F : List Addr} (r : Rep K H v d F) (h : d.flat1 = true) : flatV v = true := by cases r <;> first | rfl | cases h
theorem RepL.flat1 {H : Hp} : ∀ {vs : List V} {ds : List D} {F : List Addr}, RepL K H vs ds F → ds.all D.flat1 = true → vs.all flatV = true
  | _, _, _, .nil, _ => rfl
  | _, _, _, .cons r t, h => by
    rw [List.all_cons, Bool.and_eq_true] at h ⊢
    exact ⟨r.flat1 h.1, t.flat1 h.2⟩
theorem Rep.eq1 {H : Hp} {v v' : V} {d d' : D} {F F' : List Addr} (r : Rep K H v d F) (r' : Rep K H v' d' F') (h : d.flat1 = true) (h' : d'.flat1 = true) : eqV v v' = d.eq1 d' := by
  cases r <;> first | (cases h; done) | (cases r' <;> first | rfl | (cases h'; done))
theorem RepL.in1 {H : Hp} {v : V} {d : D} {F0 : List Addr} (r : Rep K H v d F0) (h : d.flat1 = true) : ∀ {vs : List V} {ds : List D} {F : List Addr}, RepL K H vs ds F → ds.all D.flat1 = true → inV v vs = ds.any fun y => y.eq1 d
  | _, _, _, .nil, _ => rfl
  | _, _, _, .cons r1 t, hh => by
    rw [List.all_cons, Bool.and_eq_true] at hh
    show (eqV _ v || _) = _
    rw [List.any_cons, r1.eq1 r hh.1 h]
    congr 1
    exact RepL.in1 r h t hh.2
def inRes (ds : List D) : Option Bool := match ds with
  | [.str x, .str y] => some (!(Builtin.Str.occurrences y x 0 y.length 1).isEmpty)
  | [x, .lst ys] => if x.flat1 && ys.all D.flat1 then some (ys.any fun y => y.eq1 x)
    else if x.pure && D.pures ys && SeqAt.shaped x.py && SeqAt.shaped (.list (D.pys ys)) then some ((D.pys ys).any fun z => PyData.eqv z x.py) else none
  | [x, .tup ys] => if x.flat1 && ys.all D.flat1 then some (ys.any fun y => y.eq1 x) else none
  | _ => none
def oIn : List D → Option (Rk × D) := fun ds => (inRes ds).map fun b => (.imm, .bl b)
def oNotIn : List D → Option (Rk × D) := fun ds => (inRes ds).map fun b => (.imm, .bl (!b))
def rIn' (K : PySem.W.Frag) : R2 := fun x y H Q => rIn K false x y H Q ∨ rInD K x y H Q ∨ (∃ i j, x = .str i ∧ y = .str j ∧ Q (.bl (!(Builtin.Str.occurrences j i 0 j.length 1).isEmpty)) H)
def rNotIn' (K : PySem.W.Frag) : R2 := fun x y H Q => rIn K true x y H Q ∨ rNotInD K x y H Q ∨ (∃ i j, x = .str i ∧ y = .str j ∧ Q (.bl (!(!(Builtin.Str.occurrences j i 0 j.length 1).isEmpty))) H)
theorem units65 {X : Cx} {k : Nat} (r : Room k X.A) : X.A.units + 65 < cLine := by have := r.un; omega
theorem opa_in (c : Ctx P w K mg base N sc k C) : OpA C (compareOp .In) (rIn' K) := fun X hX => by
  have := op_in_seq (X := X) |>.or ((op_inD (X := X) (units65 (c X hX).room)).or op_in_str)
  rwa [(c X hX).hK] at this
theorem opa_notIn (c : Ctx P w K mg base N sc k C) : OpA C (compareOp .NotIn) (rNotIn' K) := fun X hX => by
  have := op_notIn_seq (X := X) |>.or ((op_notInD (X := X) (units65 (c X hX).room)).or op_notIn_str)
  rwa [(c X hX).hK] at this
theorem in_cases {H : Hp} {vs : List V} {ds : List D} {F : List Addr} {b : Bool} (rl : RepL K H vs ds F) (e : inRes ds = some b) :
    (∃ x y p xs, vs = [x, y] ∧ y = .ref p ∧ (SqL K H p xs ∨ SqT K H p xs) ∧ flatV x = true ∧ xs.all flatV = true ∧ inV x xs = b) ∨
    (∃ x y d ds', vs = [x, y] ∧ Dp K H x d ∧ Dp K H y (.list ds') ∧ SeqAt.shaped d = true ∧ SeqAt.shaped (.list ds') = true ∧ (ds'.any fun z => PyData.eqv z d) = b) ∨
    (∃ i j, vs = [.str i, .str j] ∧ (!(Builtin.Str.occurrences j i 0 j.length 1).isEmpty) = b) := by
  unfold inRes at e
  split at e
  · rename_i x y
    obtain ⟨v, v', F1, F2, rfl, rfl, r1, r2⟩ := rl.i2
    cases r1.strV; cases r2.strV
    cases e
    exact .inr (.inr ⟨x, y, rfl, rfl⟩)
  · rename_i x ys _
    obtain ⟨v, v', F1, F2, rfl, rfl, r1, r2⟩ := rl.i2
    obtain ⟨a, us, Fa, rfl, rfl, ha, la, za⟩ := r2.lstV
    split at e
    · rename_i hc
      rw [Bool.and_eq_true] at hc
      cases e
      exact .inl ⟨_, _, a, us, rfl, rfl, .inl (SqL.of ha), r1.flat1 hc.1, la.flat1 hc.2, RepL.in1 r1 hc.1 la hc.2⟩
    · split at e
      · rename_i hc
        simp only [Bool.and_eq_true] at hc
        obtain ⟨⟨⟨h1, h2⟩, h3⟩, h4⟩ := hc
        cases e
        exact .inr (.inl ⟨_, _, _, _, rfl, r1.dp h1, .lst (SqL.of ha) (la.dp h2), h3, h4, rfl⟩)
      · cases e
  · rename_i x ys
    obtain ⟨v, v', F1, F2, rfl, rfl, r1, r2⟩ := rl.i2
    obtain ⟨a, us, rfl, ha, la, za⟩ := r2.tupV
    split at e
    · rename_i hc
      rw [Bool.and_eq_true] at hc
      cases e
      exact .inl ⟨_, _, a, us, rfl, rfl, .inr ha, r1.flat1 hc.1, la.flat1 hc.2, RepL.in1 r1 hc.1 la hc.2⟩
    · cases e
  · cases e
theorem vop_in : VOp K (rl2 (rIn' K)) oIn := by
  intro H vs ds F Q k d rl e h
  unfold oIn at e
  cases e1 : inRes ds with
  | none => rw [e1] at e; cases e
  | some b =>
    rw [e1] at e; cases e
    have fin := h (.bl b) H [] (Same.refl _) (.bl b) rfl
    rcases in_cases rl e1 with ⟨x, y, p, xs, rfl, rfl, q1, q2, q3, q4⟩ | ⟨x, y, d, ds', rfl, q1, q2, q3, q4, q5⟩ | ⟨i, j, rfl, q⟩
    · exact .inl ⟨p, xs, rfl, q1, q2, q3, by rw [if_neg Bool.false_ne_true, q4]; exact fin⟩
    · exact .inr (.inl ⟨d, ds', q1, q2, q3, q4, by rw [q5]; exact fin⟩)
    · exact .inr (.inr ⟨i, j, rfl, rfl, by rw [q]; exact fin⟩)
theorem vop_notIn : VOp K (rl2 (rNotIn' K)) oNotIn := by
  intro H vs ds F Q k d rl e h
  unfold oNotIn at e
  cases e1 : inRes ds with
  | none => rw [e1] at e; cases e
  | some b =>
    rw [e1] at e; cases e
    have fin := h (.bl (!b)) H [] (Same.refl _) (.bl _) rfl
    rcases in_cases rl e1 with ⟨x, y, p, xs, rfl, rfl, q1, q2, q3, q4⟩ | ⟨x, y, d, ds', rfl, q1, q2, q3, q4, q5⟩ | ⟨i, j, rfl, q⟩
    · exact .inl ⟨p, xs, rfl, q1, q2, q3, by rw [if_pos rfl, q4]; exact fin⟩
    · exact .inr (.inl ⟨d, ds', q1, q2, q3, q4, by rw [q5]; exact fin⟩)
    · exact .inr (.inr ⟨i, j, rfl, rfl, by rw [q]; exact fin⟩)
end
end RG

set_option maxRecDepth 100000
set_option maxHeartbeats 4000000
namespace RG
open PySem PySem.Spec PyProof.Rows L2

/-! ### dicts -/
def valD {κ : Type} [DecidableEq κ] (kvs : List (κ × D)) (k : κ) : Option D := (kvs.find? fun kv => decide (kv.1 = k)).map (·.2)
def putD {κ : Type} [DecidableEq κ] (kvs : List (κ × D)) (k : κ) (v : D) : List (κ × D) :=
  if kvs.any fun kv => decide (kv.1 = k) then kvs.map fun kv => if kv.1 = k then (kv.1, v) else kv else kvs ++ [(k, v)]
def D.key : D → Option Key
  | .int i => some (.inl i)
  | .str x => some (.inr x)
  | _ => none
def D.keysL : List D → Option (List Key)
  | [] => some []
  | d :: ds => match d.key, D.keysL ds with
    | some k, some ks => some (k :: ks)
    | _, _ => none
theorem key_kV {K : PySem.W.Frag} {H : Hp} {v : V} {d : D} {F : List Addr} {k : Key} (r : Rep K H v d F) (h : d.key = some k) : v = kV k := by
  cases d with
  | int i => cases h; exact r.intV
  | str i => cases h; exact r.strV
  | _ => cases h
theorem keys_kV {K : PySem.W.Frag} {H : Hp} : ∀ {vs : List V} {ds : List D} {F : List Addr} {ks : List Key}, RepL K H vs ds F → D.keysL ds = some ks → vs = ks.map kV ∧ ks.length = ds.length
  | _, _, _, ks, .nil, h => by cases h; exact ⟨rfl, rfl⟩
  | _, _, _, ks, .cons (d := d) (ds := ds) r t, h => by
    simp only [D.keysL] at h
    cases e1 : d.key with
    | none => rw [e1] at h; cases h
    | some k =>
      cases e2 : D.keysL ds with
      | none => rw [e1, e2] at h; cases h
      | some ks' =>
        rw [e1, e2] at h; cases h
        obtain ⟨h1, h2⟩ := keys_kV t e2
        exact ⟨by rw [key_kV r e1, h1]; rfl, by simp [h2]⟩
section
variable {K : PySem.W.Frag} {H : Hp} {κ : Type} [DecidableEq κ]
theorem val_rep : ∀ {kvs : List (κ × V)} {ds : List (κ × D)} {F : List Addr} {k : κ}, kvs.map (·.1) = ds.map (·.1) → RepL K H (kvs.map (·.2)) (ds.map (·.2)) F → F = [] →
    (∀ d, valD ds k = some d → ∃ v, valV kvs k = some v ∧ Rep K H v d []) ∧ (valD ds k = none → valV kvs k = none)
  | [], [], _, _, _, _, _ => ⟨fun d e => (nomatch e), fun _ => rfl⟩
  | [], _ :: _, _, _, e, _, _ => by simp at e
  | _ :: _, [], _, _, e, _, _ => by simp at e
  | (a, v) :: kvs, (b, d) :: ds, F, k, e, r, hF => by
    simp only [List.map_cons, List.cons.injEq] at e
    obtain ⟨rfl, e⟩ := e
    cases r with
    | cons r1 r2 =>
      rename_i F1 F2
      obtain ⟨rfl, rfl⟩ := List.append_eq_nil_iff.mp hF
      have ih := val_rep (k := k) e r2 rfl
      by_cases h : a = k
      · subst h
        simp only [valD, valV, List.find?_cons, decide_true, Option.map_some]
        exact ⟨fun d' e' => by cases e'; exact ⟨v, rfl, r1⟩, fun e' => by cases e'⟩
      · have h' : decide (a = k) = false := decide_eq_false h
        simp only [valD, valV, List.find?_cons, h'] at ih ⊢
        exact ih
theorem put_rep {kvs : List (κ × V)} {ds : List (κ × D)} {k : κ} {v : V} {d : D} (e : kvs.map (·.1) = ds.map (·.1)) (r : RepL K H (kvs.map (·.2)) (ds.map (·.2)) []) (rv : Rep K H v d []) :
    (putK kvs k v).map (·.1) = (putD ds k d).map (·.1) ∧ RepL K H ((putK kvs k v).map (·.2)) ((putD ds k d).map (·.2)) [] ∧ (putK kvs k v).length ≤ kvs.length + 1 := by
  have any_eq : ∀ {kvs : List (κ × V)} {ds : List (κ × D)}, kvs.map (·.1) = ds.map (·.1) → (kvs.any fun kv => decide (kv.1 = k)) = (ds.any fun kv => decide (kv.1 = k)) := by
    intro kvs
    induction kvs with
    | nil => intro ds e; cases ds with
      | nil => rfl
      | cons _ _ => simp at e
    | cons x kvs ih => intro ds e; cases ds with
      | nil => simp at e
      | cons y ds =>
        simp only [List.map_cons, List.cons.injEq] at e
        rw [List.any_cons, List.any_cons, e.1, ih e.2]
  have mapped : ∀ {kvs : List (κ × V)} {ds : List (κ × D)} {F : List Addr}, kvs.map (·.1) = ds.map (·.1) → RepL K H (kvs.map (·.2)) (ds.map (·.2)) F → F = [] →
      (kvs.map fun kv => if kv.1 = k then (kv.1, v) else kv).map (·.1) = (ds.map fun kv => if kv.1 = k then (kv.1, d) else kv).map (·.1) ∧ RepL K H ((kvs.map fun kv => if kv.1 = k then (kv.1, v) else kv).map (·.2)) ((ds.map fun kv => if kv.1 = k then (kv.1, d) else kv).map (·.2)) [] := by
    intro kvs
    induction kvs with
    | nil => intro ds F e r hF; cases ds with
      | nil => exact ⟨rfl, .nil⟩
      | cons _ _ => simp at e
    | cons x kvs ih => intro ds F e r hF; cases ds with
      | nil => simp at e
      | cons y ds =>
        simp only [List.map_cons, List.cons.injEq] at e
        cases r with
        | cons r1 r2 =>
          rename_i F1 F2
          obtain ⟨rfl, rfl⟩ := List.append_eq_nil_iff.mp hF
          obtain ⟨h1, h2⟩ := ih e.2 r2 rfl
          obtain ⟨x1, x2⟩ := x
          obtain ⟨y1, y2⟩ := y
          obtain ⟨e0, e⟩ := e
          have e0 : x1 = y1 := e0
          subst e0
          by_cases hk : x1 = k
          · subst hk
            simp only [List.map_cons, if_true]
            exact ⟨by rw [h1], RepL.cons (F := []) rv h2⟩
          · simp only [List.map_cons, if_neg hk]
            exact ⟨by rw [h1], RepL.cons (F := []) r1 h2⟩
  unfold putK putD
  rw [any_eq e]
  by_cases hc : (ds.any fun kv => decide (kv.1 = k)) = true
  · rw [if_pos hc, if_pos hc]
    obtain ⟨h1, h2⟩ := mapped e r rfl
    exact ⟨h1, h2, by simp⟩
  · rw [if_neg hc, if_neg hc]
    refine ⟨by simp [e], ?_, by simp⟩
    rw [List.map_append, List.map_append]
    exact r.append (RepL.one rv)
end
/-- what a dict holds at a key -/
def dGet : D → D → Option (Option D)
  | .dK kvs, k => k.key.map (valD kvs)
  | .dT kvs, .tup ks => if ks.length ≠ 8 then (D.keysL ks).map (valD kvs) else none
  | _, _ => none
section
variable {K : PySem.W.Frag} {H : Hp}
theorem dget_rep {v y : V} {d dk : D} {F F' : List Addr} {r : Option D} (rd : Rep K H v d F) (rk : Rep K H y dk F') (e : dGet d dk = some r) :
    ∃ a o, v = .ref a ∧ IsD H a ∧ DGet H a y o ∧ (∀ x, r = some x → ∃ u, o = some u ∧ Rep K H u x []) ∧ (r = none → o = none) := by
  unfold dGet at e
  split at e
  · rename_i kvs k
    cases e1 : dk.key with
    | none => rw [e1] at e; cases e
    | some kk =>
      rw [e1] at e; cases e
      cases rd with
      | dK hH hz hk hr =>
        rename_i a us
        obtain ⟨h1, h2⟩ := val_rep (k := kk) hk hr rfl
        cases key_kV rk e1
        exact ⟨a, _, rfl, .inl ⟨us, .inl hH⟩, DGet.k hH, fun x q => h1 x q, fun q => h2 q⟩
  · rename_i kvs ks
    split at e
    · rename_i h8
      cases e1 : D.keysL ks with
      | none => rw [e1] at e; cases e
      | some kk =>
        rw [e1] at e; cases e
        cases rd with
        | dT hH hz hk hr =>
          rename_i a us
          obtain ⟨b, ws, rfl, hb, lb⟩ := rk.tupK h8
          obtain ⟨rfl, _⟩ := keys_kV lb e1
          obtain ⟨h1, h2⟩ := val_rep (k := kk) hk hr rfl
          exact ⟨a, _, rfl, .inr ⟨us, .inl hH⟩, DGet.t hH hb, fun x q => h1 x q, fun q => h2 q⟩
    · cases e
  · cases e
end
section
variable {X : Cx}
theorem op_in_dict (hu : X.A.units + 1 < cLine) : OpR X (compareOp .In) (fun x y H Q => ∃ a o, y = .ref a ∧ DGet H a x o ∧ Q (.bl o.isSome) H) := by
  intro pins s σ H x y v u Q I rx ry h
  obtain ⟨a, o, rfl, g, q⟩ := h
  obtain rfl : u = Value.ref a := ry
  exact d_in hu I g rx fun s3 I3 => ⟨.bl o.isSome, H, I3, rfl, q⟩
theorem op_notIn_dict (hu : X.A.units + 1 < cLine) : OpR X (compareOp .NotIn) (fun x y H Q => ∃ a o, y = .ref a ∧ DGet H a x o ∧ Q (.bl (!o.isSome)) H) := by
  intro pins s σ H x y v u Q I rx ry h
  obtain ⟨a, o, rfl, g, q⟩ := h
  obtain rfl : u = Value.ref a := ry
  exact d_notIn hu I g rx fun s3 I3 => ⟨.bl (!o.isSome), H, I3, rfl, q⟩
theorem ix_dict (hu : X.A.units + 1 < cLine) : IxR X (fun x y H Q => ∃ a v, x = .ref a ∧ DGet H a y (some v) ∧ Q v H) := by
  intro value slice pins s σ H x y v u Q I rx ry h hs
  obtain ⟨a, v0, rfl, g, q⟩ := h
  obtain rfl : v = Value.ref a := rx
  have hT := dict_typeIs I g
  unfold subscriptTail
  refine wpAny_bind ?_
  rw [getitemInPython_of_ne hT.not_modules]
  refine wpAny_bind (wpAny_specialOf hT PySem.F.slot_dict_getitem.lookup ?_)
  have fin : wpAny (model X.prog X.w) X.A (subscripted slice false (.ref a) u) (fun r s₃ => wpAny (model X.prog X.w) X.A (letTemporaryGo value (.ref a) r >>= fun _ => pure r) (EP X pins σ Q) X.xe s₃) X.xe s := by
    rw [hs]
    exact wpAny_operating (d_getItem hu I g ry fun w' s3 I3 rw' => wpAny_bind (wpAny_letTemporaryGo (wpAny_pure ⟨v0, H, I3, rw', q⟩)))
  first
    | exact wpAny_pure (wpAny_bind fin)
    | exact wpAny_bind (wpAny_pure (wpAny_bind fin))
    | exact wpAny_bind fin
end

section
variable {P : Program} {w : World} {K : PySem.W.Frag} {mg : Str → Option Value} {base : Heap} {N : List Str} {sc : Scope} {k n : Nat} {C : XS} {W A B : List Nat} {Y Y' Y2 Z Z' : Bool}
variable {pos : Pos} {a b e : Expr} {es : List Expr}
theorem units1 {X : Cx} {k : Nat} (r : Room k X.A) : X.A.units + 1 < cLine := by have := r.un; omega
def oInD : List D → Option (Rk × D) := fun ds => match ds with
  | [x, d] => (dGet d x).map fun r => (.imm, .bl r.isSome)
  | _ => none
def oNotInD : List D → Option (Rk × D) := fun ds => match ds with
  | [x, d] => (dGet d x).map fun r => (.imm, .bl (!r.isSome))
  | _ => none
theorem opa_inD (c : Ctx P w K mg base N sc k C) : OpA C (compareOp .In) (fun x y H Q => ∃ a o, y = .ref a ∧ DGet H a x o ∧ Q (.bl o.isSome) H) := fun X hX => op_in_dict (units1 (c X hX).room)
theorem opa_notInD (c : Ctx P w K mg base N sc k C) : OpA C (compareOp .NotIn) (fun x y H Q => ∃ a o, y = .ref a ∧ DGet H a x o ∧ Q (.bl (!o.isSome)) H) := fun X hX => op_notIn_dict (units1 (c X hX).room)
theorem vop_inD : VOp K (rl2 fun x y H Q => ∃ a o, y = .ref a ∧ DGet H a x o ∧ Q (.bl o.isSome) H) oInD := by
  intro H vs ds F Q k d rl e h
  unfold oInD at e
  split at e
  · rename_i x dd
    obtain ⟨v, v', F1, F2, rfl, rfl, r1, r2⟩ := rl.i2
    cases e1 : dGet dd x with
    | none => rw [e1] at e; cases e
    | some r =>
      rw [e1] at e; cases e
      obtain ⟨a, o, rfl, _, g, h1, h2⟩ := dget_rep r2 r1 e1
      refine ⟨a, o, rfl, g, ?_⟩
      have : o.isSome = r.isSome := by
        cases r with
        | none => rw [h2 rfl]; rfl
        | some x => obtain ⟨u, q, _⟩ := h1 x rfl; rw [q]; rfl
      rw [this]
      exact h _ _ [] (Same.refl _) (.bl _) rfl
  · cases e
theorem vop_notInD : VOp K (rl2 fun x y H Q => ∃ a o, y = .ref a ∧ DGet H a x o ∧ Q (.bl (!o.isSome)) H) oNotInD := by
  intro H vs ds F Q k d rl e h
  unfold oNotInD at e
  split at e
  · rename_i x dd
    obtain ⟨v, v', F1, F2, rfl, rfl, r1, r2⟩ := rl.i2
    cases e1 : dGet dd x with
    | none => rw [e1] at e; cases e
    | some r =>
      rw [e1] at e; cases e
      obtain ⟨a, o, rfl, _, g, h1, h2⟩ := dget_rep r2 r1 e1
      refine ⟨a, o, rfl, g, ?_⟩
      have : o.isSome = r.isSome := by
        cases r with
        | none => rw [h2 rfl]; rfl
        | some x => obtain ⟨u, q, _⟩ := h1 x rfl; rw [q]; rfl
      rw [this]
      exact h _ _ [] (Same.refl _) (.bl _) rfl
  · cases e

/-! ### subscripts -/
def rIx' (K : PySem.W.Frag) : R2 := fun x y H Q => rIx K x y H Q ∨ ∃ a v, x = .ref a ∧ DGet H a y (some v) ∧ Q v H
def oIx : List D → Option (Rk × D) := fun ds => match ds with
  | [.lst xs, .int i] => (atI xs i).map fun d => (if d.flat then .imm else .sub, d)
  | [.tup xs, .int i] => (atI xs i).map fun d => (if d.flat then .imm else .sub, d)
  | [.scr ns, .int i] => (atI ns i).map fun m => (.imm, .int m)
  | [.str z, .int i] => if z.length ≤ 16777216 then (atI z.cps.toList i).map fun c => (.imm, .str ⟨#[c]⟩) else none
  | [d, x] => match dGet d x with
    | some (some r) => some (.imm, r)
    | _ => none
  | _ => none
theorem opx_ix (c : Ctx P w K mg base N sc k C) : ∀ X, C X → IxR X (rIx' K) := fun X hX => by
  have := (ix_seq (X := X)).or (ix_dict (units1 (c X hX).room))
  rwa [(c X hX).hK] at this
theorem atI_rep {H : Hp} {vs : List V} {ds : List D} {F : List Addr} {i : Int} {d : D} (rl : RepL K H vs ds F) (e : atI ds i = some d) : ∃ v F2, atI vs i = some v ∧ (∀ a ∈ F2, a ∈ F) ∧ (F.Nodup → F2.Nodup) ∧ Rep K H v d F2 := by
  unfold atI at e ⊢
  rw [rl.length]
  cases q : ixN ds.length i with
  | none => rw [q] at e; cases e
  | some j =>
    rw [q] at e
    obtain ⟨v, F2, h1, h2, h3, h4⟩ := rl.get (show ds[j]? = some d from e)
    exact ⟨v, F2, h3, h1, h2, h4⟩
theorem sub_ok {H : Hp} {d : D} {v : V} {F F2 : List Addr} (h1 : ∀ a ∈ F2, a ∈ F) (h2 : F.Nodup → F2.Nodup) (r : Rep K H v d F2) : (if d.flat then Rk.imm else Rk.sub).Ok H F F2 := by
  by_cases hf : d.flat = true
  · rw [if_pos hf]; exact r.flat hf
  · rw [if_neg hf]; exact ⟨h1, h2⟩
theorem vop_ix : VOp K (rl2 (rIx' K)) oIx := by
  intro H vs ds F Q k d rl e h
  unfold oIx at e
  split at e
  · rename_i xs i
    obtain ⟨v, v', F1, F2, rfl, rfl, r1, r2⟩ := rl.i2
    cases r2.intV
    obtain ⟨a, us, Fa, rfl, rfl, ha, la, za⟩ := r1.lstV
    cases e1 : atI xs i with
    | none => rw [e1] at e; cases e
    | some d0 =>
      rw [e1] at e; cases e
      obtain ⟨v, F3, h1, h2, h3, h4⟩ := atI_rep la e1
      exact .inl (.inl ⟨a, us, i, v, rfl, rfl, SqL.of ha, h1, h _ _ F3 (Same.refl _) h4 (sub_ok (fun a m => by simp [h2 a m]) (fun q => h3 (List.nodup_cons.mp (List.nodup_append.mp q).1).2) h4)⟩)
  · rename_i xs i
    obtain ⟨v, v', F1, F2, rfl, rfl, r1, r2⟩ := rl.i2
    cases r2.intV
    obtain ⟨a, us, rfl, ha, la, za⟩ := r1.tupV
    cases e1 : atI xs i with
    | none => rw [e1] at e; cases e
    | some d0 =>
      rw [e1] at e; cases e
      obtain ⟨v, F3, h1, h2, h3, h4⟩ := atI_rep la e1
      exact .inl (.inr (.inl ⟨a, us, i, v, rfl, rfl, ha, h1, h _ _ F3 (Same.refl _) h4 (sub_ok (fun a m => by simp [h2 a m]) (fun q => h3 (List.nodup_append.mp q).1) h4)⟩))
  · rename_i ns i
    obtain ⟨v, v', F1, F2, rfl, rfl, r1, r2⟩ := rl.i2
    cases r2.intV
    cases r1 with
    | scr hs hz =>
      rename_i a
      cases e1 : atI ns i with
      | none => rw [e1] at e; cases e
      | some m =>
        rw [e1] at e; cases e
        have : atI (ns.map V.int) i = some (.int m) := by
          unfold atI at e1 ⊢
          rw [List.length_map]
          cases q : ixN ns.length i with
          | none => rw [q] at e1; cases e1
          | some j =>
            rw [q] at e1
            show (ns.map V.int)[j]? = _
            rw [List.getElem?_map, show ns[j]? = some m from e1]; rfl
        exact .inl (.inl ⟨a, _, i, _, rfl, rfl, hs.sq, this, h _ _ [] (Same.refl _) (.int m) rfl⟩)
  · rename_i z i
    obtain ⟨v, v', F1, F2, rfl, rfl, r1, r2⟩ := rl.i2
    cases r2.intV; cases r1.strV
    split at e
    · rename_i hz
      cases e1 : atI z.cps.toList i with
      | none => rw [e1] at e; cases e
      | some m =>
        rw [e1] at e; cases e
        exact .inl (.inr (.inr ⟨z, i, m, rfl, rfl, by rw [sizeLine_eq]; exact hz, e1, h _ _ [] (Same.refl _) (.str _) rfl⟩))
    · cases e
  · rename_i dd x _ _ _ _
    obtain ⟨v, v', F1, F2, rfl, rfl, r1, r2⟩ := rl.i2
    split at e
    · rename_i r e1
      cases e
      obtain ⟨a, o, rfl, _, g, h1, _⟩ := dget_rep r1 r2 e1
      obtain ⟨u, rfl, ru⟩ := h1 _ rfl
      exact .inr ⟨a, u, rfl, g, h _ _ [] (Same.refl _) ru rfl⟩
    · cases e
  · cases e
theorem be_ix {fa fb : List S → Option (T × List S)} (c : Ctx P w K mg base N sc k C) (ha : BE C K n W Y a fa) (hb : BE C K n W Y' b fb) (hp : PlainIx b) :
    BE C K n W (Y || (Y' || false)) (.Subscript a b pos) (eOp oIx (aCons (Y' || false) fa (aCons false fb fun env => some ([], env)))) := by
  obtain ⟨ta, a1, a2⟩ := ha
  obtain ⟨tb, b1, b2⟩ := hb
  exact ⟨tOp (rIx' K) ta tb, fun X hX => pe_ix (opx_ix c X hX) (a1 X hX) (b1 X hX) hp, re_op (r := rl2 (rIx' K)) (ra_cons a2 (ra_cons b2 ra_nil)) vop_ix⟩
theorem bp_ix {fa fb : List S → Option (Pk × D)} (c : Ctx P w K mg base N sc k C) (ha : BP C K n W a fa) (hb : BP C K n W b fb) (hp : PlainIx b) :
    BP C K n W (.Subscript a b pos) (pOp oIx (pCons fa (pCons fb fun _ => some []))) := by
  obtain ⟨ta, a1, a2⟩ := ha
  obtain ⟨tb, b1, b2⟩ := hb
  exact ⟨tOp (rIx' K) ta tb, fun X hX => pe_ix (opx_ix c X hX) (a1 X hX) (b1 X hX) hp, rp_op (r := rl2 (rIx' K)) (rpa_cons a2 (rpa_cons b2 rpa_nil)) vop_ix⟩
/-! a dict of the module, its keys texts -/
structure GDict (K : PySem.W.Frag) (w : World) (mg : Str → Option Value) (x : Str) (tbl : List (Str × Option D)) : Prop where
  ex : ∃ p es n, mg x = some (.ref p) ∧ KDict K w p es n ∧ ∀ z r, tbl.lookup z = some r → match r with
    | none => PySem.W.nsIn K p z = some none
    | some d => ∃ u v, PySem.W.nsIn K p z = some (some u) ∧ RelV v u ∧ ∀ H, Rep K H v d []
def oGIx (tbl : List (Str × Option D)) : List D → Option (Rk × D) := fun ds => match ds with
  | [.str z] => match tbl.lookup z with
    | some (some d) => some (.imm, d)
    | _ => none
  | _ => none
def oGIn (tbl : List (Str × Option D)) : List D → Option (Rk × D) := fun ds => match ds with
  | [.str z] => (tbl.lookup z).map fun r => (.imm, .bl r.isSome)
  | _ => none
theorem be_gix {fa : List S → Option (T × List S)} {x : Str} {tbl : List (Str × Option D)} {p : Pos} (c : Ctx P w K mg base N sc k C) (hg : sc.names.lookup x = some .globalImplicit) (g : GDict K w mg x tbl) (ha : BE C K n W Y b fa) (hp : PlainIx b) (hd : (x == ("__debug__" : Str)) = false := by decide) :
    BE C K n W (Y || false) (.Subscript (.Name x p) b pos) (eOp (oGIx tbl) (aCons false fa fun env => some ([], env))) := by
  obtain ⟨pa, es, n', h1, h2, h3⟩ := g.ex
  obtain ⟨ta, a1, a2⟩ := ha
  refine ⟨tOp (rIxD K w) (tC (.ref pa)) ta, fun X hX => ?_, re_op (r := rl1 fun y H Q => rIxD K w (.ref pa) y H Q) (ra_cons a2 ra_nil) ?_⟩
  · have := ix_kdict (X := X)
    rw [(c X hX).hK, (c X hX).hw] at this
    exact pe_ix this (pe_glob (show X.env.scope.names.lookup x = _ by rw [(c X hX).hsc]; exact hg) (by rw [(c X hX).hmg]; exact h1) rfl hd) (a1 X hX) hp
  · intro H vs ds F Q k d rl e h
    unfold oGIx at e
    split at e
    · rename_i z
      obtain ⟨v, rfl, r1⟩ := rl.i1
      cases r1.strV
      split at e
      · rename_i d0 e1
        cases e
        obtain ⟨u, v, q1, q2, q3⟩ := h3 z _ e1
        exact ⟨pa, z, v, rfl, rfl, ⟨es, n', u, h2.at_, h2.lit, q1, q2⟩, h _ _ [] (Same.refl _) (q3 H) rfl⟩
      · cases e
    · cases e
theorem be_gin {fa : List S → Option (T × List S)} {x : Str} {tbl : List (Str × Option D)} {p : Pos} (c : Ctx P w K mg base N sc k C) (hg : sc.names.lookup x = some .globalImplicit) (g : GDict K w mg x tbl) (ha : BE C K n W Y a fa) (hd : (x == ("__debug__" : Str)) = false := by decide) :
    BE C K n W (Y || false) (.Compare a [.In] [.Name x p] pos) (eOp (oGIn tbl) (aCons false fa fun env => some ([], env))) := by
  obtain ⟨pa, es, n', h1, h2, h3⟩ := g.ex
  obtain ⟨ta, a1, a2⟩ := ha
  refine ⟨tOp (fun x y H Q => ∃ (z : Str) (r : Option Value), x = .str z ∧ y = .ref pa ∧ PySem.W.nsIn K pa z = some r ∧ Q (.bl r.isSome) H) ta (tC (.ref pa)), fun X hX => ?_,
    re_op (r := rl1 fun y H Q => ∃ (z : Str) (r : Option Value), y = .str z ∧ V.ref pa = .ref pa ∧ PySem.W.nsIn K pa z = some r ∧ Q (.bl r.isSome) H) (ra_cons a2 ra_nil) ?_⟩
  · have h2' : KDict X.K X.w pa es n' := by rw [(c X hX).hK, (c X hX).hw]; exact h2
    have := op_in_kd h2'
    rw [(c X hX).hK] at this
    exact pe_cmpR this (a1 X hX) (pe_glob (show X.env.scope.names.lookup x = _ by rw [(c X hX).hsc]; exact hg) (by rw [(c X hX).hmg]; exact h1) rfl hd) rfl
  · intro H vs ds F Q k d rl e h
    unfold oGIn at e
    split at e
    · rename_i z
      obtain ⟨v, rfl, r1⟩ := rl.i1
      cases r1.strV
      cases e1 : tbl.lookup z with
      | none => rw [e1] at e; cases e
      | some r =>
        rw [e1] at e; cases e
        have q := h3 z r e1
        cases r with
        | none => exact ⟨z, none, rfl, rfl, q, h _ _ [] (Same.refl _) (.bl _) rfl⟩
        | some d0 =>
          obtain ⟨u, v, q1, _, _⟩ := q
          exact ⟨z, some u, rfl, rfl, q1, h _ _ [] (Same.refl _) (.bl _) rfl⟩
    · cases e

/-! ### len, conversions -/
def oLen : List D → Option (Rk × D) := fun ds => match ds with
  | [.lst xs] => some (.imm, .int xs.length)
  | [.tup xs] => some (.imm, .int xs.length)
  | [.scr xs] => some (.imm, .int xs.length)
  | [.str z] => if z.length ≤ 16777216 then some (.imm, .int z.length) else none
  | _ => none
def rLen' (K : PySem.W.Frag) : List V → Hp → VK → Prop := fun xs H Q => (∃ p ys, xs = [.ref p] ∧ (SqL K H p ys ∨ SqT K H p ys) ∧ Q (.int ys.length) H) ∨ ∃ z, xs = [.str z] ∧ z.length ≤ sizeLine ∧ Q (.int z.length) H
theorem vop_len : VOp K (rLen' K) oLen := by
  intro H vs ds F Q k d rl e h
  unfold oLen at e
  split at e
  · obtain ⟨v, rfl, r1⟩ := rl.i1
    obtain ⟨a, us, Fa, rfl, rfl, ha, la, za⟩ := r1.lstV
    cases e
    exact .inl ⟨a, us, rfl, .inl (SqL.of ha), h _ _ [] (Same.refl _) (by rw [la.length]; exact .int _) rfl⟩
  · obtain ⟨v, rfl, r1⟩ := rl.i1
    obtain ⟨a, us, rfl, ha, la, za⟩ := r1.tupV
    cases e
    exact .inl ⟨a, us, rfl, .inr ha, h _ _ [] (Same.refl _) (by rw [la.length]; exact .int _) rfl⟩
  · obtain ⟨v, rfl, r1⟩ := rl.i1
    cases r1 with
    | scr hs hz =>
      cases e
      exact .inl ⟨_, _, rfl, .inl hs.sq, h _ _ [] (Same.refl _) (by rw [List.length_map]; exact .int _) rfl⟩
  · obtain ⟨v, rfl, r1⟩ := rl.i1
    cases r1.strV
    split at e
    · rename_i hz
      cases e
      exact .inr ⟨_, rfl, by rw [sizeLine_eq]; exact hz, h _ _ [] (Same.refl _) (.int _) rfl⟩
    · cases e
  · cases e
theorem clr_len (c : Ctx P w K mg base N sc k C) : ∀ X, C X → CallR X (.builtin "len") (rLen' K) := fun X hX => by
  have := (call_len_seq (X := X)).or call_len_str
  rwa [(c X hX).hK] at this
theorem be_callTy {T : String} {x : Str} {p : Pos} {r : List V → Hp → VK → Prop} {o : List D → Option (Rk × D)} {f : List S → Option (List Ar × List S)} (c : Ctx P w K mg base N sc k C) (hr : ∀ X, C X → CallR X (.type T) r) (ho : VOp K r o) (hg : sc.names.lookup x = some .globalImplicit) (hm : mg x = none) (hv : bootBuiltins x = some (.type T))
    (ha : BA C K n W Y (e :: es) f) (hn : x ≠ "__name__" := by decide) (hdb : (x == ("__debug__" : Str)) = false := by decide)
    (hs : ∀ env : Env, starEach (e :: es) env = (false, eval e env) :: starEach es env := by intro _; rfl) (hpl : ∀ env : Env, (backTo pos (starEach es env)).any (·.1) = false := by intro _; rfl) :
    BE C K n W Y (.Call (.Name x p) (e :: es) [] pos) (eOp o f) := by
  obtain ⟨t, h1, h2⟩ := ha
  exact ⟨tCB r t, fun X hX => pe_callTy (hr X hX) (show X.env.scope.names.lookup x = _ by rw [(c X hX).hsc]; exact hg) (by rw [(c X hX).hmg]; exact hm) hv (h1 X hX) hn hdb (hs _) (hpl _), re_op (r := r) h2 ho⟩
theorem bp_callB {id : String} {x : Str} {p : Pos} {r : List V → Hp → VK → Prop} {o : List D → Option (Rk × D)} {f : List S → Option (List (Pk × D))} (c : Ctx P w K mg base N sc k C) (hr : ∀ X, C X → CallR X (.builtin id) r) (ho : VOp K r o) (hg : sc.names.lookup x = some .globalImplicit) (hm : mg x = none) (hv : bootBuiltins x = some (.builtin id))
    (ha : BPA C K n W (e :: es) f) (hn : x ≠ "__name__" := by decide) (hdb : (x == ("__debug__" : Str)) = false := by decide)
    (hs : ∀ env : Env, starEach (e :: es) env = (false, eval e env) :: starEach es env := by intro _; rfl) (hpl : ∀ env : Env, (backTo pos (starEach es env)).any (·.1) = false := by intro _; rfl) :
    BP C K n W (.Call (.Name x p) (e :: es) [] pos) (pOp o f) := by
  obtain ⟨t, h1, h2⟩ := ha
  exact ⟨tCB r t, fun X hX => pe_callB (hr X hX) (show X.env.scope.names.lookup x = _ by rw [(c X hX).hsc]; exact hg) (by rw [(c X hX).hmg]; exact hm) hv (h1 X hX) hn hdb (hs _) (hpl _), rp_op (r := r) h2 ho⟩
theorem bp_callTy {T : String} {x : Str} {p : Pos} {r : List V → Hp → VK → Prop} {o : List D → Option (Rk × D)} {f : List S → Option (List (Pk × D))} (c : Ctx P w K mg base N sc k C) (hr : ∀ X, C X → CallR X (.type T) r) (ho : VOp K r o) (hg : sc.names.lookup x = some .globalImplicit) (hm : mg x = none) (hv : bootBuiltins x = some (.type T))
    (ha : BPA C K n W (e :: es) f) (hn : x ≠ "__name__" := by decide) (hdb : (x == ("__debug__" : Str)) = false := by decide)
    (hs : ∀ env : Env, starEach (e :: es) env = (false, eval e env) :: starEach es env := by intro _; rfl) (hpl : ∀ env : Env, (backTo pos (starEach es env)).any (·.1) = false := by intro _; rfl) :
    BP C K n W (.Call (.Name x p) (e :: es) [] pos) (pOp o f) := by
  obtain ⟨t, h1, h2⟩ := ha
  exact ⟨tCB r t, fun X hX => pe_callTy (hr X hX) (show X.env.scope.names.lookup x = _ by rw [(c X hX).hsc]; exact hg) (by rw [(c X hX).hmg]; exact hm) hv (h1 X hX) hn hdb (hs _) (hpl _), rp_op (r := r) h2 ho⟩
/-! int(b), int(i) -/
def oInt : List D → Option (Rk × D) := fun ds => match ds with
  | [.int i] => some (.imm, .int i)
  | [.bl b] => some (.imm, .int (if b then 1 else 0))
  | _ => none
theorem vop_toInt : VOp K (fun xs H Q => (∃ i, xs = [.int i] ∧ Q (.int i) H) ∨ ∃ k, xs = [.bl k] ∧ Q (.int (if k then 1 else 0)) H) oInt := by
  intro H vs ds F Q k d rl e h
  unfold oInt at e
  split at e
  · obtain ⟨v, rfl, r1⟩ := rl.i1
    cases r1.intV; cases e
    exact .inl ⟨_, rfl, h _ _ [] (Same.refl _) (.int _) rfl⟩
  · obtain ⟨v, rfl, r1⟩ := rl.i1
    cases r1.blV; cases e
    exact .inr ⟨_, rfl, h _ _ [] (Same.refl _) (.int _) rfl⟩
  · cases e
theorem clr_int : ∀ X, C X → CallR X (.type "int") (fun xs H Q => (∃ i, xs = [.int i] ∧ Q (.int i) H) ∨ ∃ k, xs = [.bl k] ∧ Q (.int (if k then 1 else 0)) H) := fun _ _ => call_int1
/-! list(xs), tuple(xs) -/
def oList : List D → Option (Rk × D) := fun ds => match ds with
  | [.lst xs] => some (if D.flats xs then .fresh else .mix, .lst xs)
  | [.tup xs] => some (if D.flats xs then .fresh else .mix, .lst xs)
  | _ => none
theorem vop_list : VOp K (fun xs H Q => ∃ p ys, xs = [.ref p] ∧ (SqL K H p ys ∨ SqT K H p ys) ∧ ∀ l, H l = none → Q (.ref l) (upd H l (.lst ys))) oList := by
  intro H vs ds F Q k d rl e h
  unfold oList at e
  split at e
  · obtain ⟨v, rfl, r1⟩ := rl.i1
    obtain ⟨a, us, Fa, rfl, rfl, ha, la, za⟩ := r1.lstV
    cases e
    exact ⟨a, us, rfl, .inl (SqL.of ha), new_lst la za id (fun a m => List.mem_cons_of_mem _ m) (fun q => (List.nodup_cons.mp q).2) h⟩
  · obtain ⟨v, rfl, r1⟩ := rl.i1
    obtain ⟨a, us, rfl, ha, la, za⟩ := r1.tupV
    cases e
    exact ⟨a, us, rfl, .inr ha, new_lst la za id (fun a m => m) id h⟩
  · cases e
theorem clr_list (c : Ctx P w K mg base N sc k C) : ∀ X, C X → CallR X (.type "list") (fun xs H Q => ∃ p ys, xs = [.ref p] ∧ (SqL K H p ys ∨ SqT K H p ys) ∧ ∀ l, H l = none → Q (.ref l) (upd H l (.lst ys))) := fun X hX => by
  have := call_list_of (X := X)
  rwa [(c X hX).hK] at this
def oTuple : List D → Option (Rk × D) := fun ds => match ds with
  | [.lst xs] => some (if D.flats xs then .imm else .mix, .tup xs)
  | [.tup xs] => some (if D.flats xs then .imm else .sub, .tup xs)
  | _ => none
theorem vop_tuple : VOp K (fun xs H Q => ∃ p ys, xs = [.ref p] ∧ ((SqL K H p ys ∧ ∀ l, H l = none → Q (.ref l) (upd H l (.tup ys))) ∨ (SqT K H p ys ∧ Q (.ref p) H))) oTuple := by
  intro H vs ds F Q k d rl e h
  unfold oTuple at e
  split at e
  · rename_i xs
    obtain ⟨v, rfl, r1⟩ := rl.i1
    obtain ⟨a, us, Fa, rfl, rfl, ha, la, za⟩ := r1.lstV
    cases e
    refine ⟨a, us, rfl, .inl ⟨SqL.of ha, fun p hp => h _ _ Fa (same_upd hp) (.tup (SqT.of upd_same) (.inr upd_same) za (la.same (same_upd hp))) ?_⟩⟩
    by_cases hf : D.flats xs = true
    · rw [if_pos hf]; exact la.flats hf
    · rw [if_neg hf]; exact ⟨fun a m => .inl (List.mem_cons_of_mem _ m), fun q => (List.nodup_cons.mp q).2⟩
  · rename_i xs
    obtain ⟨v, rfl, r1⟩ := rl.i1
    obtain ⟨a, us, rfl, ha, la, za⟩ := r1.tupV
    cases e
    refine ⟨a, us, rfl, .inr ⟨ha, h _ _ F (Same.refl _) r1 ?_⟩⟩
    by_cases hf : D.flats xs = true
    · rw [if_pos hf]; exact la.flats hf
    · rw [if_neg hf]; exact ⟨fun a m => m, id⟩
  · cases e
theorem clr_tuple (c : Ctx P w K mg base N sc k C) : ∀ X, C X → CallR X (.type "tuple") (fun xs H Q => ∃ p ys, xs = [.ref p] ∧ ((SqL K H p ys ∧ ∀ l, H l = none → Q (.ref l) (upd H l (.tup ys))) ∨ (SqT K H p ys ∧ Q (.ref p) H))) := fun X hX => by
  have := call_tuple_of (X := X)
  rwa [(c X hX).hK] at this
end
end RG

set_option maxRecDepth 100000
set_option maxHeartbeats 4000000
namespace RG
open PySem PySem.Spec PyProof.Rows L2

section
variable {P : Program} {w : World} {K : PySem.W.Frag} {mg : Str → Option Value} {base : Heap} {N : List Str} {sc : Scope} {k n : Nat} {C : XS} {W A B : List Nat} {Y Y' Y2 Z Z' : Bool}
variable {pos : Pos} {a b e : Expr} {es : List Expr}

/-! ### methods of built-in types, by values -/
def D.isTy (T : String) : D → Bool
  | .str _ => T == "str"
  | .lst _ => T == "list"
  | .scr _ => T == "list"
  | .dK _ => T == "dict"
  | .dT _ => T == "dict"
  | _ => false
theorem Rep.isTy {H : Hp} {v : V} {d : D} {F : List Addr} {T : String} (r : Rep K H v d F) (h : d.isTy T = true) : tyV K T v H := by
  cases r with
  | str x => show T = "str"; simpa [D.isTy] using h
  | lst ha z rl => exact .inl ⟨by simpa [D.isTy] using h, _, SqL.of ha⟩
  | scr hs z => exact .inl ⟨by simpa [D.isTy] using h, _, hs.sq⟩
  | dK ha z k rl => exact .inr (.inr (.inl ⟨by simpa [D.isTy] using h, .inl ⟨_, ha⟩⟩))
  | dT ha z k rl => exact .inr (.inr (.inl ⟨by simpa [D.isTy] using h, .inr ⟨_, ha⟩⟩))
  | _ => cases h
def rlM (r : V → List V → Hp → VK → Prop) : List V → Hp → VK → Prop := fun vs H Q => match vs with
  | x :: xs => r x xs H Q
  | [] => False
def aConsT (T : String) (Y' : Bool) (fa : List S → Option (RG.T × List S)) (fr : List S → Option (List Ar × List S)) : List S → Option (List Ar × List S) := fun env => match fa env with
  | none => none
  | some (x, env1) => if (Y' = true ∧ x.1 = .bor) ∨ x.2.isTy T = false then none else (fr env1).map fun xs => (.tmp x :: xs.1, xs.2)
theorem re_meth {T : String} {to : TE} {t : TA} {r : V → List V → Hp → VK → Prop} {o : List D → Option (Rk × D)} {fo : List S → Option (RG.T × List S)} {fa : List S → Option (List Ar × List S)} (ho : RE K n W Y to fo) (ha : RA K n W Y' t fa) (hr : VOp K (rlM r) o) :
    RE K n W (Y || Y') (tBM K T r to t) (eOp o (aConsT T Y' fo fa)) := by
  intro g FS env τ σ tv H Q rr env' hK hn hW he hs Sm yb e h
  unfold eOp aConsT at e
  cases e1 : fo env with
  | none => simp only [e1] at e; cases e
  | some x =>
    obtain ⟨x, env1⟩ := x
    simp only [e1] at e
    split at e
    · cases e
    · rename_i hc
      simp only [not_or, Bool.not_eq_false] at hc
      refine ho g FS env τ σ tv H _ x env1 hK hn hW he hs Sm (fun q => yb (by simp [q])) e1 fun v H1 FS1 l1 S1 => ?_
      obtain ⟨v', ev, rv, _⟩ := Sim.top (k := x.1) (d := x.2) S1 (by rw [List.length_append, l1, hn]; exact Nat.le_add_right _ _)
      cases ev
      refine ⟨by subst hK; exact rv.isTy hc.2, ?_⟩
      cases e2 : fa env1 with
      | none => rw [e2] at e; cases e
      | some xs =>
        obtain ⟨xs, env2⟩ := xs
        simp only [e2, Option.map_some, Option.bind_some] at e
        cases e3 : tmps xs with
        | none => simp [tmps, e3] at e
        | some ts =>
          simp only [tmps, e3, Option.map_some, Option.bind_some] at e
          cases e4 : o ((x :: ts).map (·.2)) with
          | none => rw [e4] at e; cases e
          | some kd =>
            obtain ⟨k, d⟩ := kd
            simp only [e4, Option.map_some, Option.some.injEq, Prod.mk.injEq] at e
            obtain ⟨rfl, rfl⟩ := e
            rw [List.append_assoc, List.append_assoc] at S1
            refine ha g FS1 env1 (τ ++ [x.s]) σ (tv ++ [some v]) H1 _ xs env2 hK hn hW l1 hs S1 (fun q => (yb (by simp [q])).snoc ?_) e2 fun vs H2 FS2 l2 lv pt S2 => ?_
            · obtain ⟨kx, dx⟩ := x
              cases kx <;> first | rfl | exact absurd ⟨q, rfl⟩ hc.1
            have ea := tmps_map e3
            subst ea
            have S3 : Sim g FS2 ((env2 ++ τ) ++ (x :: ts).map RG.T.s) ((σ ++ tv) ++ (v :: vs).map some) H2 := by
              have em : (ts.map Ar.tmp).map Ar.s = ts.map RG.T.s := by rw [List.map_map]; rfl
              rw [em] at S2
              simpa using S2
            obtain ⟨F, S4, rl, tk⟩ := Sim.tops S3 (by simp at lv ⊢; omega) (by rw [List.length_append, l2, hn]; exact Nat.le_add_right _ _)
            subst hK
            have := hr H2 (v :: vs) _ F Q k d rl e4 fun v H3 F' s3 rv ok => h v H3 _ l2 ((S4.same s3).push rv (TOk.rk S4 tk ok) fun _ => by rw [List.length_append, l2, hn]; exact Nat.le_add_right _ _)
            exact this
theorem be_meth {T id : String} {name : Str} {apos cpos : Pos} {o' : Expr} {r : V → List V → Hp → VK → Prop} {o : List D → Option (Rk × D)} {fo : List S → Option (RG.T × List S)} {fa : List S → Option (List Ar × List S)} (c : Ctx P w K mg base N sc k C) (pa : PlainAttrs T) (slot : Slot T name id) (hty : typeOf (.builtin id) = pure (.type "method_descriptor"))
    (hm : ∀ X, C X → MtR X id r) (ho : VOp K (rlM r) o) (hv : BE C K n W Y o' fo) (ha : BA C K n W Y' (e :: es) fa)
    (hbase : ∀ env : Env, attributeBase o' name env (eval o' env) = eval o' env := by intro _; rfl)
    (hfew : ∀ env : Env, ((backTo cpos (starEach (e :: es) env)).all (fun x => !x.1) && (backToKw cpos (keywordEach [] env)).all (fun x => x.1.isSome)
      && decide ((e :: es).length + ([] : List Keyword).length + (if ([] : List Keyword).isEmpty then 0 else 1) < 30)) = true := by intro _; rfl)
    (hline : (apos.endLine == cpos.line) = true := by rfl) (hs : ∀ env : Env, starEach (e :: es) env = (false, eval e env) :: starEach es env := by intro _; rfl) (hplain : ∀ env : Env, (backTo cpos (starEach es env)).any (·.1) = false := by intro _; rfl) :
    BE C K n W (Y || Y') (.Call (.Attribute o' name apos) (e :: es) [] cpos) (eOp o (aConsT T Y' fo fa)) := by
  obtain ⟨to, o1, o2⟩ := hv
  obtain ⟨ta, a1, a2⟩ := ha
  refine ⟨tBM K T r to ta, fun X hX => ?_, re_meth o2 a2 ho⟩
  have := pe_bm (X := X) pa slot hty (hm X hX) (o1 X hX) (a1 X hX) (hbase _) (hfew _) hline (hs _) (hplain _)
  rwa [(c X hX).hK] at this
/-! #### texts -/
def strsOf (ds : List D) : Option (List Str) := ds.mapM D.asStr
def oJoin : List D → Option (Rk × D) := fun ds => match ds with
  | [.str x, .lst ys] => (strsOf ys).bind fun zs => if (zs.map (·.length)).sum + zs.length * x.length ≤ 16777216 then some (.imm, .str (Txt.join x zs)) else none
  | [.str x, .tup ys] => (strsOf ys).bind fun zs => if (zs.map (·.length)).sum + zs.length * x.length ≤ 16777216 then some (.imm, .str (Txt.join x zs)) else none
  | _ => none
def rJoin' (K : PySem.W.Frag) : V → List V → Hp → VK → Prop := fun x xs H Q => ∃ a p, ∃ ys : List Str, x = .str a ∧ xs = [.ref p] ∧ (SqL K H p (ys.map V.str) ∨ SqT K H p (ys.map V.str)) ∧
    (ys.map (·.length)).sum + ys.length * a.length ≤ 16777216 ∧ Q (.str (Txt.join a ys)) H
theorem vop_join : VOp K (rlM (rJoin' K)) oJoin := by
  intro H vs ds F Q k d rl e h
  unfold oJoin at e
  split at e
  · rename_i x ys
    obtain ⟨v, v', F1, F2, rfl, rfl, r1, r2⟩ := rl.i2
    cases r1.strV
    obtain ⟨a, us, Fa, rfl, rfl, ha, la, za⟩ := r2.lstV
    cases e1 : strsOf ys with
    | none => rw [e1] at e; cases e
    | some zs =>
      simp only [e1, Option.bind_some] at e
      split at e
      · rename_i hz
        cases e
        have ey := asStr_map e1
        subst ey
        obtain ⟨rfl, _⟩ := la.strs
        exact ⟨x, a, zs, rfl, rfl, .inl (SqL.of ha), hz, h _ _ [] (Same.refl _) (.str _) rfl⟩
      · cases e
  · rename_i x ys
    obtain ⟨v, v', F1, F2, rfl, rfl, r1, r2⟩ := rl.i2
    cases r1.strV
    obtain ⟨a, us, rfl, ha, la, za⟩ := r2.tupV
    cases e1 : strsOf ys with
    | none => rw [e1] at e; cases e
    | some zs =>
      simp only [e1, Option.bind_some] at e
      split at e
      · rename_i hz
        cases e
        have ey := asStr_map e1
        subst ey
        obtain ⟨rfl, _⟩ := la.strs
        exact ⟨x, a, zs, rfl, rfl, .inr ha, hz, h _ _ [] (Same.refl _) (.str _) rfl⟩
      · cases e
  · cases e
theorem mtr_join (c : Ctx P w K mg base N sc k C) : ∀ X, C X → MtR X "str.join" (rJoin' K) := fun X hX => by
  have := mt_join (X := X)
  rwa [(c X hX).hK] at this
def oSplit : List D → Option (Rk × D) := fun ds => match ds with
  | [.str x, .str y] => if (y.length == 0) = false ∧ x.length + 2 ≤ 16777216 ∧ (Txt.split x y).length ≤ 16777216 then some (.fresh, .lst ((Txt.split x y).map D.str)) else none
  | _ => none
theorem vop_split : VOp K (rlM fun x xs H Q => ∃ a b, x = .str a ∧ xs = [.str b] ∧ (b.length == 0) = false ∧ a.length + 2 ≤ sizeLine ∧ rNewStrs (Txt.split a b) H Q) oSplit := by
  intro H vs ds F Q k d rl e h
  unfold oSplit at e
  split at e
  · rename_i x y
    obtain ⟨v, v', F1, F2, rfl, rfl, r1, r2⟩ := rl.i2
    cases r1.strV; cases r2.strV
    split at e
    · rename_i hc
      cases e
      refine ⟨x, y, rfl, rfl, hc.1, by rw [sizeLine_eq]; exact hc.2.1, fun p hp => h _ _ [p] (same_upd hp) (.lst upd_same (by rw [List.length_map, sizeLine_eq]; exact hc.2.2) (RepL.ofStrs _)) ⟨by simp, fun a m => by rw [List.mem_singleton.mp m]; exact hp⟩⟩
    · cases e
  · cases e
theorem mtr_split : ∀ X, C X → MtR X "str.split" (fun x xs H Q => ∃ a b, x = .str a ∧ xs = [.str b] ∧ (b.length == 0) = false ∧ a.length + 2 ≤ sizeLine ∧ rNewStrs (Txt.split a b) H Q) := fun _ _ => mt_split
/-! #### xs.index(y), flat things; d.get(k, x) -/
def idx1 (y : D) : List D → Option Nat
  | [] => none
  | d :: ds => if d.eq1 y then some 0 else (idx1 y ds).map (· + 1)
theorem idx1_spec {H : Hp} {v : V} {y : D} {F0 : List Addr} (ry : Rep K H v y F0) (hy : y.flat1 = true) : ∀ {vs : List V} {ds : List D} {F : List Addr} {j : Nat}, RepL K H vs ds F → ds.all D.flat1 = true → idx1 y ds = some j →
    ∃ z, vs[j]? = some z ∧ eqV z v = true ∧ ∀ (m : Nat) (z' : V), m < j → vs[m]? = some z' → eqV z' v = false
  | _, _, _, j, .nil, _, e => by cases e
  | _, _, _, j, .cons (v := v1) (d := d1) r t, hf, e => by
    rw [List.all_cons, Bool.and_eq_true] at hf
    simp only [idx1] at e
    by_cases hd : d1.eq1 y = true
    · rw [if_pos hd] at e; cases e
      exact ⟨v1, rfl, by rw [r.eq1 ry hf.1 hy]; exact hd, fun m z' hm => absurd hm (Nat.not_lt_zero _)⟩
    · rw [if_neg hd] at e
      cases e1 : idx1 y _ with
      | none => rw [e1] at e; cases e
      | some j' =>
        rw [e1] at e; cases e
        obtain ⟨z, h1, h2, h3⟩ := idx1_spec ry hy t hf.2 e1
        refine ⟨z, h1, h2, fun m z' hm hz => ?_⟩
        cases m with
        | zero => cases hz; rw [r.eq1 ry hf.1 hy]; simpa using hd
        | succ m => exact h3 m z' (Nat.lt_of_succ_lt_succ hm) hz
def oIndex : List D → Option (Rk × D) := fun ds => match ds with
  | [.lst xs, y] => if y.flat1 && xs.all D.flat1 then (idx1 y xs).map fun j => (.imm, .int j) else none
  | _ => none
theorem vop_index : VOp K (rlM (rIndex K)) oIndex := by
  intro H vs ds F Q k d rl e h
  unfold oIndex at e
  split at e
  · rename_i xs y
    obtain ⟨v, v', F1, F2, rfl, rfl, r1, r2⟩ := rl.i2
    obtain ⟨a, us, Fa, rfl, rfl, ha, la, za⟩ := r1.lstV
    split at e
    · rename_i hc
      rw [Bool.and_eq_true] at hc
      cases e1 : idx1 y xs with
      | none => rw [e1] at e; cases e
      | some j =>
        rw [e1] at e; cases e
        obtain ⟨z, h1, h2, h3⟩ := idx1_spec r2 hc.1 la hc.2 e1
        exact ⟨a, us, v', j, z, rfl, rfl, SqL.of ha, r2.flat1 hc.1, la.flat1 hc.2, h1, h2, h3, h _ _ [] (Same.refl _) (.int _) rfl⟩
    · cases e
  · cases e
theorem mtr_index (c : Ctx P w K mg base N sc k C) : ∀ X, C X → MtR X "list.index" (rIndex K) := fun X hX => by
  have := mt_index (X := X)
  rwa [(c X hX).hK] at this
/-! WAYS.index(e): a tuple of texts of the module -/
structure GTup (K : PySem.W.Frag) (mg : Str → Option Value) (x : Str) (ys : List Str) : Prop where
  ex : ∃ p o, mg x = some (.ref p) ∧ K.lookup p = some o ∧ o.cls = .type "tuple" ∧ o.dict = none ∧ (∀ H, SqT K H p (ys.map V.str)) ∧ ys.length = 8
theorem GTup.val {x : Str} {ys : List Str} (g : GTup K mg x ys) : GVal K mg x (.tup (ys.map D.str)) := by
  obtain ⟨p, o, h1, h2, h3, h4, h5, h6⟩ := g.ex
  exact ⟨_, .ref p, h1, rfl, fun H => .tup (h5 H) (.inl (by rw [List.length_map]; exact h6)) (by rw [List.length_map, h6, sizeLine_eq]; decide) (RepL.ofStrs _)⟩
def idxS (z : Str) : List Str → Option Nat
  | [] => none
  | y :: ys => if y = z then some 0 else (idxS z ys).map (· + 1)
theorem idxS_spec {z : Str} : ∀ {ys : List Str} {j : Nat}, idxS z ys = some j → ys[j]? = some z ∧ ∀ m, m < j → ys[m]? ≠ some z
  | [], j, e => by cases e
  | y :: ys, j, e => by
    simp only [idxS] at e
    by_cases h : y = z
    · rw [if_pos h] at e; cases e
      exact ⟨by rw [h]; rfl, fun m hm => absurd hm (Nat.not_lt_zero _)⟩
    · rw [if_neg h] at e
      cases e1 : idxS z ys with
      | none => rw [e1] at e; cases e
      | some j' =>
        rw [e1] at e; cases e
        obtain ⟨h1, h2⟩ := idxS_spec e1
        refine ⟨h1, fun m hm q => ?_⟩
        cases m with
        | zero => exact h (Option.some.inj q)
        | succ m => exact h2 m (Nat.lt_of_succ_lt_succ hm) q
def oTIdx (ys : List Str) : List D → Option (Rk × D) := fun ds => match ds with
  | [.str z] => (idxS z ys).map fun j => (.imm, .int j)
  | _ => none
theorem be_tidx {x : Str} {ys : List Str} {p apos cpos : Pos} {fa : List S → Option (T × List S)} (c : Ctx P w K mg base N sc k C) (hg : sc.names.lookup x = some .globalImplicit) (g : GTup K mg x ys) (ha : BE C K n W Y e fa) (hd : (x == ("__debug__" : Str)) = false := by decide)
    (hs : ∀ env : Env, starEach [e] env = (false, eval e env) :: starEach [] env := by intro _; rfl) (hline : (apos.endLine == cpos.line) = true := by rfl)
    (hfew : ∀ env : Env, ((backTo cpos (starEach [e] env)).all (fun x => !x.1) && (backToKw cpos (keywordEach [] env)).all (fun x => x.1.isSome)
      && decide (([e] : List Expr).length + ([] : List Keyword).length + (if ([] : List Keyword).isEmpty then 0 else 1) < 30)) = true := by intro _; rfl) :
    BE C K n W (Y || false) (.Call (.Attribute (.Name x p) "index" apos) [e] [] cpos) (eOp (oTIdx ys) (aCons false fa fun env => some ([], env))) := by
  obtain ⟨pa, o, h1, h2, h3, h4, h5, h6⟩ := g.ex
  obtain ⟨ta, a1, a2⟩ := ha
  refine ⟨tBM K "tuple" (fun x xs H Q => ∃ p, ∃ ys : List Str, ∃ z j, x = .ref p ∧ xs = [.str z] ∧ SqT K H p (ys.map V.str) ∧ ys[j]? = some z ∧ (∀ m, m < j → ys[m]? ≠ some z) ∧ Q (.int (j : Nat)) H) (tC (.ref pa)) (tCons ta tNil), fun X hX => ?_, ?_⟩
  · have hm := mt_tup_index (X := X)
    rw [(c X hX).hK] at hm
    have := pe_bm (X := X) (apos := apos) (cpos := cpos) PySem.F.plainAttrs_tuple PySem.F.slot_tuple_index PySem.F.type_tuple_index hm (pe_glob (pos := p) (v := .ref pa) (show X.env.scope.names.lookup x = _ by rw [(c X hX).hsc]; exact hg) (by rw [(c X hX).hmg]; exact h1) rfl hd) (pa_cons (a1 X hX) pa_nil (hs _)) rfl (hfew _) hline (hs _) rfl
    rw [(c X hX).hK] at this
    exact this
  · intro g' FS env τ σ tv H Q r env' hK hn hW he hs Sm yb e h
    show tyV K "tuple" (.ref pa) H ∧ _
    refine ⟨.inr (.inl ⟨rfl, o, h2, h3, h4⟩), ?_⟩
    refine (re_op (r := fun vs H Q => ∃ p, ∃ ys : List Str, ∃ z j, V.ref pa = .ref p ∧ vs = [.str z] ∧ SqT K H p (ys.map V.str) ∧ ys[j]? = some z ∧ (∀ m, m < j → ys[m]? ≠ some z) ∧ Q (.int (j : Nat)) H) (o := oTIdx ys) (ra_cons a2 ra_nil) ?_) g' FS env τ σ tv H Q r env' hK hn hW he hs Sm yb e h
    intro H vs ds F Q k d rl e h
    unfold oTIdx at e
    split at e
    · rename_i z
      obtain ⟨v, rfl, r1⟩ := rl.i1
      cases r1.strV
      cases e1 : idxS z ys with
      | none => rw [e1] at e; cases e
      | some j =>
        rw [e1] at e; cases e
        obtain ⟨q1, q2⟩ := idxS_spec e1
        exact ⟨pa, ys, z, j, rfl, rfl, h5 H, q1, q2, h _ _ [] (Same.refl _) (.int _) rfl⟩
    · cases e
/-! #### d.get(k, x) -/
def oGet2 : List D → Option (Rk × D) := fun ds => match ds with
  | [d, x, y] => match dGet d x with
    | some (some r) => some (.imm, r)
    | some none => if y.flat then some (.imm, y) else none
    | none => none
  | _ => none
def isDict : D → Bool
  | .dK _ => true
  | .dT _ => true
  | _ => false
def aConsD (Y' : Bool) (fa : List S → Option (RG.T × List S)) (fr : List S → Option (List Ar × List S)) : List S → Option (List Ar × List S) := fun env => match fa env with
  | none => none
  | some (x, env1) => if (Y' = true ∧ x.1 = .bor) ∨ isDict x.2 = false then none else (fr env1).map fun xs => (.tmp x :: xs.1, xs.2)
theorem Rep.isDict {H : Hp} {v : V} {d : D} {F : List Addr} (r : Rep K H v d F) (h : isDict d = true) : ∃ a, v = .ref a ∧ IsD H a := by
  cases r with
  | dK ha z k rl => exact ⟨_, rfl, .inl ⟨_, .inl ha⟩⟩
  | dT ha z k rl => exact ⟨_, rfl, .inr ⟨_, .inl ha⟩⟩
  | _ => cases h
theorem be_get2 {apos cpos : Pos} {o' e f : Expr} {fo fe ff : List S → Option (T × List S)} (c : Ctx P w K mg base N sc k C) (ho : BE C K n W Y o' fo) (he : BE C K n W Y' e fe) (hf : BE C K n W Y2 f ff) (m : ∀ X, M2 X o' "get" apos e f cpos) :
    BE C K n W (Y || (Y' || (Y2 || false))) (.Call (.Attribute o' "get" apos) [e, f] [] cpos) (eOp oGet2 (aConsD (Y' || (Y2 || false)) fo (aCons (Y2 || false) fe (aCons false ff fun env => some ([], env))))) := by
  obtain ⟨to, o1, o2⟩ := ho
  obtain ⟨te, e1, e2⟩ := he
  obtain ⟨tf, f1, f2⟩ := hf
  refine ⟨tDGet2 to te tf, fun X hX => pe_dget2 (units1 (c X hX).room) (o1 X hX) (e1 X hX) (f1 X hX) (m X), ?_⟩
  intro g FS env τ σ tv H Q rr env' hK hn hW hen hs Sm yb ev h
  have ha := ra_cons e2 (ra_cons f2 (ra_nil (K := K) (n := n) (W := W)))
  generalize hfa : aCons (Y2 || false) fe (aCons false ff fun env => some ([], env)) = fa at ev ha
  unfold eOp aConsD at ev
  cases q1 : fo env with
  | none => simp only [q1] at ev; cases ev
  | some x =>
    obtain ⟨x, env1⟩ := x
    simp only [q1] at ev
    split at ev
    · cases ev
    · rename_i hc
      simp only [not_or, Bool.not_eq_false] at hc
      refine o2 g FS env τ σ tv H _ x env1 hK hn hW hen hs Sm (fun q => yb (by simp [q])) q1 fun v H1 FS1 l1 S1 => ?_
      obtain ⟨v', evv, rv, _⟩ := Sim.top (k := x.1) (d := x.2) S1 (by rw [List.length_append, l1, hn]; exact Nat.le_add_right _ _)
      cases evv
      obtain ⟨a, rfl, hD⟩ := rv.isDict hc.2
      refine ⟨a, rfl, hD, ?_⟩
      cases q2 : fa env1 with
      | none => rw [q2] at ev; cases ev
      | some xs =>
        obtain ⟨xs, env2⟩ := xs
        simp only [q2, Option.map_some, Option.bind_some] at ev
        cases q3 : tmps xs with
        | none => simp [tmps, q3] at ev
        | some ts =>
          simp only [tmps, q3, Option.map_some, Option.bind_some] at ev
          cases q4 : oGet2 ((x :: ts).map (·.2)) with
          | none => rw [q4] at ev; cases ev
          | some kd =>
            obtain ⟨k, d⟩ := kd
            simp only [q4, Option.map_some, Option.some.injEq, Prod.mk.injEq] at ev
            obtain ⟨rfl, rfl⟩ := ev
            rw [List.append_assoc, List.append_assoc] at S1
            have hnb : (Y' || (Y2 || false)) = true → NoBor (τ ++ [x.s]) := fun q => (yb (by simp at q ⊢; exact .inr q)).snoc (by
              obtain ⟨kx, dx⟩ := x
              cases kx <;> first | rfl | exact absurd ⟨q, rfl⟩ hc.1)
            have := ha g FS1 env1 (τ ++ [x.s]) σ (tv ++ [some (.ref a)]) H1 (fun vs H3 => match vs with
              | [y, z] => ∃ o, DGet H3 a y o ∧ Q (o.getD z) H3
              | _ => False) xs env2 hK hn hW l1 hs S1 hnb q2 fun vs H2 FS2 l2 lv pt S2 => ?_
            · exact this
            · have ea := tmps_map q3
              subst ea
              have S3 : Sim g FS2 ((env2 ++ τ) ++ (x :: ts).map RG.T.s) ((σ ++ tv) ++ (V.ref a :: vs).map some) H2 := by
                have em : (ts.map Ar.tmp).map Ar.s = ts.map RG.T.s := by rw [List.map_map]; rfl
                rw [em] at S2
                simpa using S2
              obtain ⟨F, S4, rl, tk⟩ := Sim.tops S3 (by simp at lv ⊢; omega) (by rw [List.length_append, l2, hn]; exact Nat.le_add_right _ _)
              subst hK
              have fin : ∀ (v : V) (d : D) (k : Rk), Rep g.K H2 v d [] → Sim g _ ((env2 ++ τ) ++ [RG.T.s (Rk.imm.kind (kJoin (x :: ts)), d)]) ((σ ++ tv) ++ [some v]) H2 := fun v d k r => S4.push r (TOk.nil _) fun z => (nomatch z)
              unfold oGet2 at q4
              split at q4
              · rename_i dd xx yy hds
                rw [hds] at rl
                cases rl with
                | cons r1 t1 =>
                  cases t1 with
                  | cons r2 t2 =>
                    obtain ⟨v3, rfl, r3⟩ := t2.i1
                    split at q4
                    · rename_i r e9
                      cases q4
                      obtain ⟨a', o, ea', _, gg, g1, _⟩ := dget_rep r1 r2 e9
                      cases ea'
                      obtain ⟨u, rfl, ru⟩ := g1 _ rfl
                      exact ⟨_, gg, h _ H2 _ l2 (fin _ _ .imm ru)⟩
                    · rename_i e9
                      split at q4
                      · rename_i hfl
                        cases q4
                        obtain ⟨a', o, ea', _, gg, _, g2⟩ := dget_rep r1 r2 e9
                        cases ea'
                        rw [g2 rfl] at gg
                        have := r3.flat hfl
                        subst this
                        exact ⟨_, gg, h _ H2 _ l2 (fin _ _ .imm r3)⟩
                      · cases q4
                    · cases q4
              · cases q4
end
end RG

set_option maxRecDepth 100000
set_option maxHeartbeats 4000000
namespace RG
open PySem PySem.Spec PyProof.Rows L2

/-! ### what is written through a slot -/
/-- a method that writes its receiver: by content and arguments the new content and the result -/
def VMut (K : PySem.W.Frag) (r : V → List V → Hp → VK → Prop) (o : D → List D → Option (D × D)) : Prop :=
  ∀ (H : Hp) (l : Addr) (d : D) (F : List Addr) (us : List V) (as : List D) (F2 : List Addr) (Q : VK) (d' res : D), Rep K H (.ref l) d F → RepL K H us as F2 → F.Nodup → F2.Nodup → (∀ a ∈ F2, a ∉ F) → o d as = some (d', res) →
    (∀ v H' F', Ext (fun a => a ∈ F) H H' → (∀ a, H a ≠ none → H' a ≠ none) → Rep K H' (.ref l) d' F' → F'.Nodup → (∀ a ∈ F', a ∈ F ∨ a ∈ F2 ∨ H a = none) → Rep K H' v res [] → Q v H') → r (.ref l) us H Q
def S.get : S → Option D
  | .io d => some d
  | .t .own d => some d
  | _ => none
theorem S.get_spec {s : S} {d : D} (h : s.get = some d) : s.wr = true ∧ s.d? = some d := by
  cases s with
  | gone => cases h
  | io _ => cases h; exact ⟨rfl, rfl⟩
  | t k _ => cases k <;> first | (cases h; exact ⟨rfl, rfl⟩) | cases h
def tts (ts : List T) : Bool := (match kJoin ts with | .own => true | _ => false) || D.flats (ts.map (·.2))
section
variable {P : Program} {w : World} {K : PySem.W.Frag} {mg : Str → Option Value} {base : Heap} {N : List Str} {sc : Scope} {k n : Nat} {C : XS} {W A B : List Nat} {Y Y' Y2 Z Z' : Bool}
variable {pos : Pos} {a b e : Expr} {es : List Expr}
theorem Rep.isRef {K : PySem.W.Frag} {H : Hp} {v : V} {d : D} {F : List Addr} {T : String} (h : Rep K H v d F) (e : d.isTy T = true) (hT : T ≠ "str") : ∃ l, v = .ref l := by
  cases h with
  | lst _ _ _ => exact ⟨_, rfl⟩
  | tup _ _ _ _ => exact ⟨_, rfl⟩
  | scr _ _ => exact ⟨_, rfl⟩
  | dK _ _ _ _ => exact ⟨_, rfl⟩
  | dT _ _ _ _ => exact ⟨_, rfl⟩
  | ins _ _ _ => exact ⟨_, rfl⟩
  | str _ => exfalso; unfold D.isTy at e; split at e <;> simp_all
  | _ => exfalso; revert e; unfold D.isTy; split <;> simp_all
theorem upd_dom {H : Hp} {p : Addr} {o : HO} {a : Addr} (h : H a ≠ none) : upd H p o a ≠ none := by
  by_cases ha : a = p
  · subst ha; rw [upd_same]; exact fun z => (nomatch z)
  · rw [upd_ne ha]; exact h
def eMut (i : Nat) (T : String) (o : D → List D → Option (D × D)) (fa : List S → Option (List Ar × List S)) : List S → Option (RG.T × List S) := fun env => match (env[i]?).bind S.get with
  | none => none
  | some d0 => if d0.isTy T = false then none else match fa env with
    | none => none
    | some (as, env1) => match tmps as with
      | none => none
      | some ts => if tts ts = false then none else match env1[i]? with
        | none => none
        | some s1 => match s1.get with
          | none => none
          | some d1 => match o d1 (ts.map (·.2)) with
            | none => none
            | some (d', res) => some ((.own, res), env1.set i (s1.with d'))
theorem re_mut {i : Nat} {T : String} {ta : TA} {r : V → List V → Hp → VK → Prop} {o : D → List D → Option (D × D)} {fa : List S → Option (List Ar × List S)} (hi : i < n) (hT : T ≠ "str") (ha : RA K n W Y ta fa) (hr : VMut K r o) : RE K n W true (tBM K T r (tVar i) ta) (eMut i T o fa) := by
  intro g FS env τ σ tv H Q rr env' hK hn hW he hs Sm yb e h
  unfold eMut at e
  cases e0 : (env[i]?).bind S.get with
  | none => rw [e0] at e; cases e
  | some d0 =>
    simp only [e0] at e
    split at e
    · cases e
    · rename_i hty
      have hty : d0.isTy T = true := by simpa using hty
      obtain ⟨s0, es0, eg0⟩ := Option.bind_eq_some_iff.mp e0
      obtain ⟨w0, q0⟩ := S.get_spec eg0
      have up : ∀ {env : List S} {s : S}, env.length = n → env[i]? = some s → (env ++ τ)[i]? = some s := fun hl es => by rw [List.getElem?_append_left (by rw [hl]; exact hi)]; exact es
      obtain ⟨v, ev, rv⟩ := Sm.rep i s0 d0 (up he es0) q0
      have ev' : σ[i]? = some (some v) := by rw [List.getElem?_append_left (by rw [hs]; exact hi)] at ev; exact ev
      subst hK
      refine ⟨v, ev', rv.isTy hty, ?_⟩
      cases e1 : fa env with
      | none => rw [e1] at e; cases e
      | some p =>
        obtain ⟨as, env1⟩ := p
        simp only [e1] at e
        cases e2 : tmps as with
        | none => rw [e2] at e; cases e
        | some ts =>
          simp only [e2] at e
          split at e
          · cases e
          · rename_i htt
            have htt : tts ts = true := by simpa using htt
            cases e3 : env1[i]? with
            | none => rw [e3] at e; cases e
            | some s1 =>
              simp only [e3] at e
              cases e4 : s1.get with
              | none => rw [e4] at e; cases e
              | some d1 =>
                simp only [e4] at e
                cases e5 : o d1 (ts.map (·.2)) with
                | none => rw [e5] at e; cases e
                | some q =>
                  obtain ⟨d', res⟩ := q
                  simp only [e5, Option.some.injEq, Prod.mk.injEq] at e
                  obtain ⟨rfl, rfl⟩ := e
                  refine ha g FS env τ σ tv H _ as env1 rfl hn hW he hs Sm (fun _ => yb rfl) e1 fun us H1 FS1 l1 lv pt S1 => ?_
                  have ea := tmps_map e2
                  subst ea
                  have em : (ts.map Ar.tmp).map Ar.s = ts.map RG.T.s := by rw [List.map_map]; rfl
                  rw [em] at S1
                  obtain ⟨F2, S2, rl, tk⟩ := Sim.tops S1 (by simpa using lv.symm) (by rw [List.length_append, l1, hn]; exact Nat.le_add_right _ _)
                  have tko : TOk g FS1 (env1 ++ τ) .own F2 := by
                    unfold tts at htt
                    cases hk : kJoin ts with
                    | own => rw [hk] at tk; exact tk
                    | _ =>
                      rw [hk] at htt
                      rw [rl.flats (by simpa using htt)]; exact TOk.nil _
                  obtain ⟨w1, q1⟩ := S.get_spec e4
                  have e3' := up l1 e3
                  obtain ⟨v1, ev1, rv1⟩ := S2.rep i s1 d1 e3' q1
                  rw [ev] at ev1; cases ev1
                  obtain ⟨l, rfl⟩ := rv.isRef hty hT
                  have nb := S2.nobor (by rw [l1, hn]) (yb rfl)
                  refine hr H1 l d1 (FS1 i) us _ F2 Q d' res rv1 rl (S2.nod i s1 e3' (S.tree_of_wr w1)) (tko.tree rfl).1 (fun a m => tko.excl rfl i s1 e3' (S.some_of_wr w1) a m) e5 fun v' H' F' hx dm rd nd sub rres => ?_
                  have S3 := S2.modify (d' := d') (v := .ref l) (F' := F') (F2 := F2) e3' w1 ev hx dm rd nd tko (.inl nb) sub
                  rw [List.set_append_left _ _ (by rw [l1]; exact hi)] at S3
                  exact h v' H' _ (by simpa using l1) (S3.push rres (TOk.nil _) fun z => (nomatch z))

/-! ### d[k] = v, xs[i] = v of a slot -/
abbrev PutR := V → V → V → Hp → (Hp → Prop) → Prop
def VPut (K : PySem.W.Frag) (t : PutR) (o : D → D → D → Option D) : Prop :=
  ∀ (H : Hp) (l : Addr) (d : D) (F : List Addr) (kv : V) (dk : D) (Fk : List Addr) (v : V) (dv : D) (Fv : List Addr) (Q : Hp → Prop) (d' : D), Rep K H (.ref l) d F → Rep K H kv dk Fk → Rep K H v dv Fv → F.Nodup → Fv.Nodup → (∀ a ∈ Fv, a ∉ F) → o d dk dv = some d' →
    (∀ H' F', Ext (fun a => a ∈ F) H H' → (∀ a, H a ≠ none → H' a ≠ none) → Rep K H' (.ref l) d' F' → F'.Nodup → (∀ a ∈ F', a ∈ F ∨ a ∈ Fv ∨ H a = none) → Q H') → t (.ref l) kv v H Q
def tPut (tv td ty : TE) (t : PutR) : TS := fun D σ H => tv σ H fun v H1 => td σ H1 fun x H2 => ty σ H2 fun y H3 => t x y v H3 fun H4 => D.nx σ H4
def rDPut : PutR := fun x y v H Q => ∃ a H4, x = .ref a ∧ DPut H a y v H4 ∧ Q H4
def sPut (i : Nat) (o : D → D → D → Option D) (fv fk : List S → Option (RG.T × List S)) : List S → Option Fl := fun env => match fv env with
  | none => none
  | some (r1, env1) => if tt1 r1 = false then none else if ((env1[i]?).bind S.get).isNone then none else match fk env1 with
    | none => none
    | some (rk, env2) => match (env2[i]?).bind S.get with
      | none => none
      | some d => match env2[i]? with
        | none => none
        | some s => match d.isTy "list" || d.isTy "dict" with
          | false => none
          | true => match o d rk.2 r1.2 with
            | none => none
            | some d' => some (.nx (env2.set i (s.with d')))
theorem rs_put {i : Nat} {tv ty : TE} {t : PutR} {o : D → D → D → Option D} {fv fk : List S → Option (RG.T × List S)} (hi : i < n) (hv : RE K n W Y tv fv) (hk : RE K n W Y' ty fk) (hr : VPut K t o) : RS K n W [] false (tPut tv (tVar i) ty t) (sPut i o fv fk) := by
  intro g FS env τ σ tvs H D r hK hn hW he hs Sm nb e p
  unfold sPut at e
  cases e1 : fv env with
  | none => rw [e1] at e; cases e
  | some q =>
    obtain ⟨r1, env1⟩ := q
    simp only [e1] at e
    split at e
    · cases e
    · rename_i htt
      have htt : tt1 r1 = true := by simpa using htt
      split at e
      · cases e
      rename_i hge
      obtain ⟨d1, hge⟩ : ∃ d1, (env1[i]?).bind S.get = some d1 := by
        cases hq : (env1[i]?).bind S.get with
        | none => rw [hq] at hge; exact absurd rfl hge
        | some d1 => exact ⟨d1, rfl⟩
      obtain ⟨s1, es1, eg1⟩ := Option.bind_eq_some_iff.mp hge
      cases e2 : fk env1 with
      | none => rw [e2] at e; cases e
      | some q =>
        obtain ⟨rk, env2⟩ := q
        simp only [e2] at e
        cases e3 : env2[i]? with
        | none => rw [e3] at e; cases e
        | some s =>
          simp only [e3, Option.bind_some] at e
          cases e4 : s.get with
          | none => rw [e4] at e; cases e
          | some d =>
            simp only [e4] at e
            split at e
            · cases e
            · rename_i hty
              cases e5 : o d rk.2 r1.2 with
              | none => rw [e5] at e; cases e
              | some d' =>
                simp only [e5, Option.some.injEq] at e
                subst e
                refine hv g FS env τ σ tvs H _ r1 env1 hK hn hW he hs Sm (fun _ => nb.nb) e1 fun v H1 FS1 l1 S1 => ?_
                have hnl : g.n ≤ (env1 ++ τ).length := by rw [List.length_append, l1, hn]; exact Nat.le_add_right _ _
                -- the value as an own one
                obtain ⟨v', ev, rv, tkv⟩ := Sim.top S1 hnl
                cases ev
                have S1' : ∃ FS1', Sim g FS1' ((env1 ++ τ) ++ [S.t .own r1.2]) ((σ ++ tvs) ++ [some v]) H1 := by
                  obtain ⟨k1, d1⟩ := r1
                  cases hk1 : k1 with
                  | own => subst hk1; exact ⟨FS1, S1⟩
                  | _ =>
                    subst hk1
                    have hf : d1.flat = true := by simpa [tt1] using htt
                    refine ⟨_, (Sim.pop S1).push (F := []) ?_ (TOk.nil _) fun z => (nomatch z)⟩
                    have := rv
                    rw [rv.flat hf] at this
                    exact this
                obtain ⟨FS1', S1⟩ := S1'
                -- the object: its address is a slot's value
                have hσ : ∃ x, σ[i]? = some x := ⟨σ[i]'(by rw [hs]; exact hi), List.getElem?_eq_getElem _⟩
                obtain ⟨x0, ex0⟩ := hσ
                have go : ∀ (H2 : Hp) (FS2 : Nat → List Addr) (v2 : V), env2.length = n → Sim g FS2 ((env2 ++ (τ ++ [S.t .own r1.2])) ++ [rk.s]) ((σ ++ (tvs ++ [some v])) ++ [some v2]) H2 → ∃ l, x0 = some (.ref l) ∧ t (.ref l) v2 v H2 fun H4 => D.nx σ H4 := by
                  intro H2 FS2 v2 l2 S2
                  obtain ⟨v2', ev2, rk2, _⟩ := Sim.top S2 (by rw [List.length_append, l2, hn]; exact Nat.le_add_right _ _)
                  cases ev2
                  have S3 := Sim.pop S2
                  rw [← List.append_assoc, ← List.append_assoc] at S3
                  obtain ⟨v3, ev3, rv3, tk3⟩ := Sim.top (k := .own) S3 (by rw [List.length_append, l2, hn]; exact Nat.le_add_right _ _)
                  cases ev3
                  have S4 := Sim.pop S3
                  obtain ⟨w1, q1⟩ := S.get_spec e4
                  have e3' : (env2 ++ τ)[i]? = some s := by rw [List.getElem?_append_left (by rw [l2]; exact hi)]; exact e3
                  obtain ⟨vi, evi, rvi⟩ := S4.rep i s d e3' q1
                  have evi' : σ[i]? = some (some vi) := by rw [List.getElem?_append_left (by rw [hs]; exact hi)] at evi; exact evi
                  rw [ex0] at evi'
                  cases evi'
                  obtain ⟨l, rfl⟩ : ∃ l, vi = .ref l := by
                    rcases Bool.or_eq_true_iff.mp hty with z | z
                    · exact rvi.isRef z (by decide)
                    · exact rvi.isRef z (by decide)
                  refine ⟨l, rfl, ?_⟩
                  subst hK
                  refine hr H2 l d _ v2 rk.2 _ v r1.2 _ _ d' rvi rk2 rv3 (S4.nod i s e3' (S.tree_of_wr w1)) (tk3.tree rfl).1 (fun a m => tk3.excl rfl i s e3' (S.some_of_wr w1) a m) e5 fun H' F' hx dm rd nd sub => ?_
                  have S5 := S4.modify (d' := d') (v := .ref l) (F' := F') e3' w1 evi hx dm rd nd tk3 (by
                    by_cases hin : i < g.n
                    · exact .inl (S4.nobor (by rw [l2, hn]) nb.nb)
                    · exact .inr (.inr (Nat.le_of_not_lt hin))) sub
                  rw [List.set_append_left _ _ (by rw [l2]; exact hi)] at S5
                  exact p σ H' _ (by simpa using l2) hs Keep.refl S5
                have Sa : Sim g FS1' (env1 ++ (τ ++ [S.t .own r1.2])) (σ ++ (tvs ++ [some v])) H1 := by rw [← List.append_assoc, ← List.append_assoc]; exact S1
                have nb2 : NoBor (τ ++ [S.t .own r1.2]) := nb.nb.snoc rfl
                -- the slot's value is some address: by the run itself
                cases hx0 : x0 with
                | none =>
                  subst hx0
                  exfalso
                  obtain ⟨vi, evi, _⟩ := S1.rep i s1 d1 (by rw [List.append_assoc, List.getElem?_append_left (by rw [l1]; exact hi)]; exact es1) (S.get_spec eg1).2
                  rw [List.append_assoc, List.getElem?_append_left (by rw [hs]; exact hi), ex0] at evi
                  cases evi
                | some vx =>
                  subst hx0
                  refine ⟨vx, ex0, hk g FS1' env1 _ σ _ H1 _ rk env2 hK hn hW l1 hs Sa (fun _ => nb2) e2 fun v2 H2 FS2 l2 S2 => ?_⟩
                  obtain ⟨l, el, q⟩ := go H2 FS2 v2 l2 S2
                  cases el
                  exact q

/-! ### the writers -/
theorem RepL.o1 {H : Hp} {us : List V} {as : List D} {F : List Addr} {d : D} (r : RepL K H us [d] F) : ∃ u, us = [u] ∧ Rep K H u d F := by
  cases r with
  | cons r t => cases t with
    | nil => exact ⟨_, rfl, by rw [List.append_nil]; exact r⟩
theorem RepL.o0 {H : Hp} {us : List V} {F : List Addr} (r : RepL K H us [] F) : us = [] ∧ F = [] := by
  cases r; exact ⟨rfl, rfl⟩
theorem lst_ext {H : Hp} {l : Addr} {F : List Addr} {o u : HO} (h : H l = some u) (hm : MutO u) : Ext (fun a => a ∈ l :: F) H (upd H l o) := ext_upd (S := fun a => a ∈ l :: F) List.mem_cons_self h hm
/-- the parts of a list stand when the list itself is written -/
theorem parts_upd {H : Hp} {l : Addr} {o u : HO} {vs : List V} {ds : List D} {F : List Addr} (h : H l = some u) (hm : MutO u) (r : RepL K H vs ds F) (n : l ∉ F) : RepL K (upd H l o) vs ds F :=
  r.ext (S := fun a => a = l) (ext_upd rfl h hm) fun a m z => n (z ▸ m)
theorem part_upd {H : Hp} {l : Addr} {o u : HO} {v : V} {d : D} {F : List Addr} (h : H l = some u) (hm : MutO u) (r : Rep K H v d F) (n : l ∉ F) : Rep K (upd H l o) v d F :=
  r.ext (S := fun a => a = l) (ext_upd rfl h hm) fun a m z => n (z ▸ m)
def mAppend : D → List D → Option (D × D) := fun d as => match d, as with
  | .lst ds, [x] => if ds.length < 16777216 then some (.lst (ds ++ [x]), .non) else none
  | _, _ => none
theorem vm_append : VMut K rAppend mAppend := by
  intro H l d F us as F2 Q d' res r ru nF nF2 dj e h
  unfold mAppend at e
  split at e
  · rename_i ds x
    split at e
    · rename_i hl
      cases e
      cases r with
      | lst hH hz rl =>
        rename_i vs F1
        obtain ⟨u, rfl, rx⟩ := ru.o1 (as := [])
        have hln : vs.length = ds.length := rl.length
        have hn1 : l ∉ F1 := (List.nodup_cons.mp nF).1
        have hn2 : l ∉ F2 := fun m => dj l m List.mem_cons_self
        have hz' : vs.length < sizeLine := by rw [sizeLine_eq, hln]; omega
        refine ⟨l, vs, u, rfl, rfl, hH, hz', h _ _ (l :: (F1 ++ F2)) (lst_ext hH trivial) (fun a n => upd_dom n) (.lst (upd_same ..) (by rw [List.length_append, List.length_singleton]; omega) ((parts_upd hH trivial rl hn1).append (RepL.one (part_upd hH trivial rx hn2)))) ?_ ?_ .non⟩
        · refine List.nodup_cons.mpr ⟨fun m => (List.mem_append.mp m).elim hn1 hn2, List.nodup_append.mpr ⟨(List.nodup_cons.mp nF).2, nF2, fun a m b m' z => dj b m' (z ▸ List.mem_cons_of_mem _ m)⟩⟩
        · intro a m
          rcases List.mem_cons.mp m with rfl | m
          · exact .inl List.mem_cons_self
          · exact (List.mem_append.mp m).elim (fun z => .inl (List.mem_cons_of_mem _ z)) fun z => .inr (.inl z)
    · cases e
  · cases e
/-- a list of flat things only: written anew -/
theorem flat_lst {H : Hp} {l : Addr} {d : List D} {vs vs' : List V} {F : List Addr} {d' : List D} (hH : H l = some (.lst vs)) (hz : vs'.length ≤ sizeLine) (r : RepL K H vs' d' F) (n : l ∉ F) : Rep K (upd H l (.lst vs')) (.ref l) (.lst d') (l :: F) :=
  .lst (upd_same ..) hz (parts_upd hH trivial r n)
theorem RepL.dropLast : ∀ {vs : List V} {ds : List D} {F : List Addr} {H : Hp}, RepL K H vs ds F → ∃ F1, F1.Sublist F ∧ RepL K H vs.dropLast ds.dropLast F1 := by
  intro vs ds F H r
  obtain ⟨F1, s, r1⟩ := r.take (vs.length - 1)
  refine ⟨F1, s, ?_⟩
  rw [List.dropLast_eq_take, List.dropLast_eq_take, ← r.length]
  exact r1
def mPop : D → List D → Option (D × D) := fun d as => match d, as with
  | .lst ds, [] => match ds[ds.length - 1]? with
    | some x => if x.flat then some (.lst ds.dropLast, x) else none
    | none => none
  | _, _ => none
theorem vm_pop : VMut K rPop mPop := by
  intro H l d F us as F2 Q d' res r ru nF nF2 dj e h
  unfold mPop at e
  split at e
  · rename_i ds
    split at e
    · rename_i x ex
      split at e
      · rename_i hf
        cases e
        cases r with
        | lst hH hz rl =>
          rename_i vs F1
          obtain ⟨rfl, rfl⟩ := ru.o0
          have hln : vs.length = ds.length := rl.length
          have hn1 : l ∉ F1 := (List.nodup_cons.mp nF).1
          obtain ⟨y, Fy, _, _, ey, ry⟩ := rl.get ex
          have hFy := ry.flat hf
          subst hFy
          obtain ⟨F3, s3, r3⟩ := rl.dropLast
          refine ⟨l, vs, y, rfl, rfl, hH, by rw [hln]; exact ey, h _ _ (l :: F3) (lst_ext hH trivial) (fun a n => upd_dom n) (flat_lst (d := []) hH (by rw [List.length_dropLast]; omega) r3 fun m => hn1 (s3.subset m)) (List.nodup_cons.mpr ⟨fun m => hn1 (s3.subset m), (List.nodup_cons.mp nF).2.sublist s3⟩) (fun a m => .inl ?_) (part_upd hH trivial ry (fun m => (nomatch m)))⟩
          rcases List.mem_cons.mp m with rfl | m
          · exact List.mem_cons_self
          · exact List.mem_cons_of_mem _ (s3.subset m)
      · cases e
    · cases e
  · cases e
theorem RepL.eraseIdx : ∀ {vs : List V} {ds : List D} {F : List Addr} {H : Hp} (i : Nat), RepL K H vs ds F → ∃ F1, F1.Sublist F ∧ RepL K H (vs.eraseIdx i) (ds.eraseIdx i) F1
  | _, _, _, _, i, .nil => ⟨[], List.Sublist.refl _, by cases i <;> exact .nil⟩
  | _, _, _, _, 0, .cons (F := F) (F' := F') r t => ⟨F', List.sublist_append_right _ _, t⟩
  | _, _, _, _, i + 1, .cons (F := F) (F' := F') r t => by
    obtain ⟨F1, s, r1⟩ := t.eraseIdx i
    exact ⟨F ++ F1, List.Sublist.append (List.Sublist.refl _) s, .cons r r1⟩
def mPopAt : D → List D → Option (D × D) := fun d as => match d, as with
  | .lst ds, [.int i] => if -(2 ^ 63) ≤ i ∧ i < 2 ^ 63 then match seqIndex? i ds.length with
    | some j => match ds[j]? with
      | some x => if x.flat then some (.lst (ds.eraseIdx j), x) else none
      | none => none
    | none => none
    else none
  | _, _ => none
theorem vm_popAt : VMut K rPopAt mPopAt := by
  intro H l d F us as F2 Q d' res r ru nF nF2 dj e h
  unfold mPopAt at e
  split at e
  · rename_i ds i
    split at e
    · rename_i hb
      split at e
      · rename_i j ej
        split at e
        · rename_i x ex
          split at e
          · rename_i hf
            cases e
            cases r with
            | lst hH hz rl =>
              rename_i vs F1
              obtain ⟨u, rfl, rx⟩ := ru.o1 (as := [])
              cases rx.intV
              have hln : vs.length = ds.length := rl.length
              have hn1 : l ∉ F1 := (List.nodup_cons.mp nF).1
              obtain ⟨y, Fy, _, _, ey, ry⟩ := rl.get ex
              have hFy := ry.flat hf
              subst hFy
              obtain ⟨F3, s3, r3⟩ := rl.eraseIdx j
              refine ⟨l, vs, i, j, y, rfl, rfl, hH, hb.1, hb.2, by rw [hln]; exact ej, ey, h _ _ (l :: F3) (lst_ext hH trivial) (fun a n => upd_dom n) (flat_lst (d := []) hH (Nat.le_trans (by rw [List.length_eraseIdx]; split <;> omega) hz) r3 fun m => hn1 (s3.subset m)) (List.nodup_cons.mpr ⟨fun m => hn1 (s3.subset m), (List.nodup_cons.mp nF).2.sublist s3⟩) (fun a m => .inl ?_) (part_upd hH trivial ry (fun m => (nomatch m)))⟩
              rcases List.mem_cons.mp m with rfl | m
              · exact List.mem_cons_self
              · exact List.mem_cons_of_mem _ (s3.subset m)
          · cases e
        · cases e
      · cases e
    · cases e
  · cases e
def rInsert : V → List V → Hp → VK → Prop := fun x vs H Q => ∃ (l : Addr) (xs : List V) (i : Int) (y : V), x = .ref l ∧ vs = [.int i, y] ∧ H l = some (.lst xs) ∧ xs.length < sizeLine ∧ 0 ≤ i ∧ i < 2 ^ 63 ∧
    Q .non (upd H l (.lst (xs.take i.toNat ++ [y] ++ xs.drop i.toNat)))
def mInsert : D → List D → Option (D × D) := fun d as => match d, as with
  | .lst ds, [.int i, x] => if ds.length < 16777216 ∧ 0 ≤ i ∧ i < 2 ^ 63 then some (.lst (ds.take i.toNat ++ [x] ++ ds.drop i.toNat), .non) else none
  | _, _ => none
theorem RepL.cut {H : Hp} : ∀ {vs : List V} {ds : List D} {F : List Addr} (i : Nat), RepL K H vs ds F → ∃ F1 F2, F = F1 ++ F2 ∧ RepL K H (vs.take i) (ds.take i) F1 ∧ RepL K H (vs.drop i) (ds.drop i) F2
  | _, _, F, 0, r => ⟨[], F, rfl, .nil, r⟩
  | _, _, _, i + 1, .nil => ⟨[], [], rfl, .nil, .nil⟩
  | _, _, _, i + 1, .cons (F := F) r t => by
    obtain ⟨F1, F2, rfl, a, b⟩ := RepL.cut i t
    exact ⟨F ++ F1, F2, by rw [List.append_assoc], .cons r a, b⟩
theorem vm_insert : VMut K rInsert mInsert := by
  intro H l d F us as F2 Q d' res r ru nF nF2 dj e h
  unfold mInsert at e
  split at e
  · rename_i ds i x
    split at e
    · rename_i hl
      cases e
      cases r with
      | lst hH hz rl =>
        rename_i vs F1
        cases ru with
        | cons ri ru =>
        cases ri.intV
        cases ri
        obtain ⟨u, rfl, rx⟩ := ru.o1 (as := [])
        have hln : vs.length = ds.length := rl.length
        have hn1 : l ∉ F1 := (List.nodup_cons.mp nF).1
        rename_i F2
        have hn2 : l ∉ F2 := fun m => dj l (by simpa using m) List.mem_cons_self
        have hz' : vs.length < sizeLine := by rw [sizeLine_eq, hln]; omega
        obtain ⟨Fa, Fb, rfl, ra, rb⟩ := rl.cut i.toNat
        have nF1 := (List.nodup_cons.mp nF).2
        have nF2' : F2.Nodup := by simpa using nF2
        have R := ((parts_upd (o := .lst (vs.take i.toNat ++ [u] ++ vs.drop i.toNat)) hH trivial ra (fun m => hn1 (List.mem_append_left _ m))).append (RepL.one (part_upd hH trivial rx hn2))).append (parts_upd hH trivial rb (fun m => hn1 (List.mem_append_right _ m)))
        refine ⟨l, vs, i, u, rfl, rfl, hH, hz', hl.2.1, hl.2.2, h _ _ (l :: (Fa ++ F2 ++ Fb)) (lst_ext hH trivial) (fun a n => upd_dom n) (.lst (upd_same ..) ?_ R) ?_ ?_ .non⟩
        · rw [List.length_append, List.length_append, List.length_take, List.length_drop, List.length_singleton]; omega
        · refine List.nodup_cons.mpr ⟨fun m => ?_, ?_⟩
          · simp only [List.mem_append] at m hn1
            rcases m with (m | m) | m
            · exact hn1 (.inl m)
            · exact hn2 m
            · exact hn1 (.inr m)
          · have d1 := List.nodup_append.mp nF1
            refine List.nodup_append.mpr ⟨List.nodup_append.mpr ⟨d1.1, nF2', fun a m b m' z => dj b (by simpa using m') (z ▸ List.mem_cons_of_mem _ (List.mem_append_left _ m))⟩, d1.2.1, fun a m b m' z => ?_⟩
            subst z
            rcases List.mem_append.mp m with m | m
            · exact d1.2.2 a m a m' rfl
            · exact dj a (by simpa using m) (List.mem_cons_of_mem _ (List.mem_append_right _ m'))
        · intro a m
          rcases List.mem_cons.mp m with rfl | m
          · exact .inl List.mem_cons_self
          · simp only [List.mem_append] at m
            rcases m with (m | m) | m
            · exact .inl (List.mem_cons_of_mem _ (List.mem_append_left _ m))
            · exact .inr (.inl (by simpa using m))
            · exact .inl (List.mem_cons_of_mem _ (List.mem_append_right _ m))
    · cases e
  · cases e
def mClear : D → List D → Option (D × D) := fun d as => match d, as with
  | .lst _, [] => some (.lst [], .non)
  | _, _ => none
theorem vm_clear : VMut K rClear mClear := by
  intro H l d F us as F2 Q d' res r ru nF nF2 dj e h
  unfold mClear at e
  split at e
  · rename_i ds
    cases e
    cases r with
    | lst hH hz rl =>
      rename_i vs F1
      obtain ⟨rfl, rfl⟩ := ru.o0
      exact ⟨l, vs, rfl, rfl, hH, h _ _ [l] (lst_ext hH trivial) (fun a n => upd_dom n) (.lst (upd_same ..) (Nat.zero_le _) .nil) (List.nodup_cons.mpr ⟨fun m => (nomatch m), .nil⟩) (fun a m => .inl (by rcases List.mem_cons.mp m with rfl | m; exact List.mem_cons_self; cases m)) .non⟩
  · cases e
/-! ### stores -/
def oDPut : D → D → D → Option D := fun d k v => match d, k with
  | .dK kvs, k => if v.flat = true ∧ kvs.length < 16777215 then (k.key).map fun kk => .dK (putD kvs kk v) else none
  | .dT kvs, .tup ks => if v.flat = true ∧ kvs.length < 16777215 ∧ ks.length ≠ 8 then (D.keysL ks).map fun kk => .dT (putD kvs kk v) else none
  | _, _ => none
theorem vp_dput : VPut K rDPut oDPut := by
  intro H l d F kv dk Fk v dv Fv Q d' r rk rv nF nFv dj e h
  unfold oDPut at e
  split at e
  · rename_i kvs
    split at e
    · rename_i hc
      cases e1 : dk.key with
      | none => rw [e1] at e; cases e
      | some kk =>
        rw [e1] at e; cases e
        cases r with
        | dK hH hz hk hr =>
          rename_i us
          have hv0 := rv.flat hc.1
          subst hv0
          cases key_kV rk e1
          have hln : us.length = kvs.length := by have := congrArg List.length hk; simpa using this
          obtain ⟨h1, h2, h3⟩ := put_rep (k := kk) hk hr rv
          refine ⟨l, _, rfl, DPut.k hH (by rw [sizeLine_eq, hln]; omega), h _ [l] (ext_upd (S := fun a => a ∈ [l]) List.mem_cons_self hH trivial) (fun a n => upd_dom n) (.dK (upd_same ..) (by rw [sizeLine_eq]; omega) h1 (parts_upd hH trivial h2 (fun m => (nomatch m)))) nF (fun a m => .inl m)⟩
    · cases e
  · rename_i kvs ks
    split at e
    · rename_i hc
      cases e1 : D.keysL ks with
      | none => rw [e1] at e; cases e
      | some kk =>
        rw [e1] at e; cases e
        cases r with
        | dT hH hz hk hr =>
          rename_i us
          have hv0 := rv.flat hc.1
          subst hv0
          obtain ⟨b, ws, rfl, hb, lb⟩ := rk.tupK hc.2.2
          obtain ⟨rfl, _⟩ := keys_kV lb e1
          have hln : us.length = kvs.length := by have := congrArg List.length hk; simpa using this
          obtain ⟨h1, h2, h3⟩ := put_rep (k := kk) hk hr rv
          refine ⟨l, _, rfl, DPut.t hH hb (by rw [sizeLine_eq, hln]; omega), h _ [l] (ext_upd (S := fun a => a ∈ [l]) List.mem_cons_self hH trivial) (fun a n => upd_dom n) (.dT (upd_same ..) (by rw [sizeLine_eq]; omega) h1 (parts_upd hH trivial h2 (fun m => (nomatch m)))) nF (fun a m => .inl m)⟩
    · cases e
  · cases e
def oSetL : D → D → D → Option D := fun d k v => match d, k with
  | .lst ds, .int i => match ixN ds.length i with
    | some j => if v.flat then some (.lst (ds.set j v)) else none
    | none => none
  | _, _ => none
theorem RepL.set {H : Hp} {v : V} {d : D} : ∀ {vs : List V} {ds : List D} {F : List Addr} (i : Nat), RepL K H vs ds F → Rep K H v d [] → ∃ F1, F1.Sublist F ∧ RepL K H (vs.set i v) (ds.set i d) F1
  | _, _, _, i, .nil, _ => ⟨[], List.Sublist.refl _, .nil⟩
  | _, _, _, 0, .cons (F := F) (F' := F') r t, rv => ⟨F', List.sublist_append_right _ _, RepL.cons (F := []) rv t⟩
  | _, _, _, i + 1, .cons (F := F) (F' := F') r t, rv => by
    obtain ⟨F1, s, r1⟩ := RepL.set i t rv
    exact ⟨F ++ F1, List.Sublist.append (List.Sublist.refl _) s, .cons r r1⟩
theorem vp_setL : VPut K rSetL oSetL := by
  intro H l d F kv dk Fk v dv Fv Q d' r rk rv nF nFv dj e h
  unfold oSetL at e
  split at e
  · rename_i ds i
    split at e
    · rename_i j ej
      split at e
      · rename_i hf
        cases e
        cases r with
        | lst hH hz rl =>
          rename_i vs F1
          have hv0 := rv.flat hf
          subst hv0
          cases rk.intV
          have hln : vs.length = ds.length := rl.length
          have hn1 : l ∉ F1 := (List.nodup_cons.mp nF).1
          obtain ⟨F3, s3, r3⟩ := rl.set j rv
          refine ⟨l, vs, i, j, rfl, rfl, hH, by rw [hln]; exact ej, h _ (l :: F3) (lst_ext hH trivial) (fun a n => upd_dom n) (flat_lst (d := []) hH (by rw [List.length_set]; exact hz) r3 fun m => hn1 (s3.subset m)) (List.nodup_cons.mpr ⟨fun m => hn1 (s3.subset m), (List.nodup_cons.mp nF).2.sublist s3⟩) (fun a m => .inl ?_)⟩
          rcases List.mem_cons.mp m with rfl | m
          · exact List.mem_cons_self
          · exact List.mem_cons_of_mem _ (s3.subset m)
      · cases e
    · cases e
  · cases e
end
end RG

set_option maxRecDepth 100000
set_option maxHeartbeats 4000000
namespace RG
open PySem PySem.Spec PyProof.Rows L2

/-! ### contexts -/
def bodyS (P : Program) (w : World) (K : PySem.W.Frag) (mg : Str → Option Value) (base : Heap) (N : List Str) (qual : Str) (sc : Scope) (f : Addr) (k : Nat) : XS := fun X =>
  ∃ (cdv : Value) (A' : Around) (outer : List Env) (s : Shared) (H : Hp) (E : XK), Room k (A'.deeper (envOfC qual sc s.heap.objs.size f cdv)) ∧ X = (cxOf CX0 P w K mg base N qual sc f cdv A' outer s H E).nox
def FnX (C : XS) (x : Str) : Prop := ∀ X, C X → X.fn x = true ∨ X.env.scope.names.lookup x = some .local
def BTs (C : XS) (K : PySem.W.Frag) (n : Nat) (W : List Nat) (Y : Bool) (es : List Expr) (f : List S → Option (Bool × List S)) : Prop := ∃ t, (∀ X, C X → PTs X es t) ∧ RB K n W Y t f
/-- targets that are names -/
def BGN (C : XS) (es : List Expr) (is : List Nat) : Prop := ∀ X, C X → PGs X es (gNames is)
/-- a def of the module, by its promise -/
structure GFn (P : Program) (w : World) (K : PySem.W.Frag) (mg : Str → Option Value) (base : Heap) (x : Str) (k m : Nat) (fn : Fn) : Prop where
  ex : ∃ (f : Addr) (fd : FuncData) (ps : List Str), FnOk P w K mg base CX0 k f fd ps (spOf K m fn) ∧ mg x = some (.ref f) ∧ PySem.W.keepIn K (.ref f) = true ∧ Binds K fd ps []
section
variable {P : Program} {w : World} {K : PySem.W.Frag} {mg : Str → Option Value} {base : Heap} {N : List Str} {sc : Scope} {k n : Nat} {C : XS} {W A B : List Nat} {Y Y' Y2 Z Z' : Bool}
variable {pos : Pos} {a b e : Expr} {es : List Expr} {st : Stmt} {sts : List Stmt}
theorem ctx_body {qual : Str} {f : Addr} (nd : N.Nodup) : Ctx P w K mg base N sc k (bodyS P w K mg base N qual sc f k) := by
  rintro X ⟨cdv, A', outer, s, H, E, hr, rfl⟩
  exact ⟨rfl, rfl, rfl, rfl, rfl, rfl, rfl, rfl, hr, nd, rfl⟩
theorem ctx_blk {scope : Scope} (c : Ctx P w K mg base N sc k C) : Ctx P w K mg base N (relS scope sc) k (blkS C scope) := by
  rintro X ⟨X1, h1, s, H, Cc, cl, fp, rfl⟩
  have q := c X1 h1
  refine ⟨q.hP, q.hw, q.hK, q.hmg, q.hb, q.hN, q.calm, ?_, q.room, q.nd, rfl⟩
  show relS scope X1.env.scope = relS scope sc
  rw [q.hsc]
theorem fnx_body {qual : Str} {f : Addr} {x : Str} : FnX (bodyS P w K mg base N qual sc f k) x := by
  rintro X ⟨cdv, A', outer, s, H, E, hr, rfl⟩
  exact .inl rfl
theorem fnx_local {x : Str} (c : Ctx P w K mg base N sc k C) (h : sc.names.lookup x = some .local) : FnX C x := fun X hX => .inr (by rw [(c X hX).hsc]; exact h)
theorem fnx_cell {scope : Scope} {x : Str} (h : scope.names.lookup x = some .cell) : FnX (blkS C scope) x := by
  rintro X ⟨X1, h1, s, H, Cc, cl, fp, rfl⟩
  refine .inl ?_
  show (scope.names.lookup x == some .cell) = true
  rw [h]; rfl
/-- THE RULE for a def -/
theorem fn_okB {x qual : Str} {st : Stmt} {f : Addr} {fd : FuncData} {N ps : List Str} {k m n : Nat} {W A : List Nat} {Z : Bool} {fb : List S → Option Fl} (F : Fun K x qual st f fd) (S' : FnScope N ps (defScope st)) (hm : ps.length = m) (hn : N.length = n) (hmn : m ≤ n) (hW : ∀ i ∈ W, i < n)
    (hb : BSs (bodyS P w K mg base N qual (defScope st) f k) K n W A Z (defBody st) fb) : FnOk P w K mg base CX0 (k + 1) f fd ps (spOf K m (fnOf n fb)) := by
  obtain ⟨t, h1, h2⟩ := hb
  exact fn_ok F S' hm hn hmn hW fun cdv A' outer s H E hr => ⟨t, h1 _ ⟨cdv, A', outer, s, H, E, hr, rfl⟩, h2⟩
theorem gfn {x y qual : Str} {st : Stmt} {f : Addr} {fd : FuncData} {N ps : List Str} {k m n : Nat} {W A : List Nat} {Z : Bool} {fb : List S → Option Fl} (F : Fun K x qual st f fd) (hmg : mg y = some (.ref f)) (hbi : Binds K fd ps []) (S' : FnScope N ps (defScope st)) (hm : ps.length = m) (hn : N.length = n) (hmn : m ≤ n) (hW : ∀ i ∈ W, i < n)
    (hb : BSs (bodyS P w K mg base N qual (defScope st) f k) K n W A Z (defBody st) fb) : GFn P w K mg base y (k + 1) m (fnOf n fb) :=
  ⟨f, fd, ps, fn_okB F S' hm hn hmn hW hb, hmg, F.kp, hbi⟩
theorem GFn.mono {x : Str} {j m : Nat} {fn : Fn} (g : GFn P w K mg base x j m fn) (h : j ≤ k) : GFn P w K mg base x k m fn := by
  obtain ⟨f, fd, ps, F, q⟩ := g.ex
  exact ⟨f, fd, ps, F.mono h, q⟩

/-! ### calls -/
theorem be_call {x : Str} {p : Pos} {j m : Nat} {fn : Fn} {fa : List S → Option (List Ar × List S)} (c : Ctx P w K mg base N sc k C) (G : GFn P w K mg base x j m fn) (hj : j ≤ k) (hg : sc.names.lookup x = some .globalImplicit) (ha : BA C K n W Y (e :: es) fa)
    (hdb : (x == ("__debug__" : Str)) = false := by decide) (hs : ∀ env : Env, starEach (e :: es) env = (false, eval e env) :: starEach es env := by intro _; rfl) (hpl : ∀ env : Env, (backTo pos (starEach es env)).any (·.1) = false := by intro _; rfl) :
    BE C K n W Y (.Call (.Name x p) (e :: es) [] pos) (eCall m W fn fa) := by
  obtain ⟨f, fd, ps, F, hm, hk, hb⟩ := G.ex
  obtain ⟨t, h1, h2⟩ := ha
  refine ⟨tCall (spOf K m fn) [] E0 t, fun X hX => ?_, re_call h2⟩
  have q := c X hX
  have hsc := q.hsc
  have hP := q.hP
  have hw := q.hw
  have hK := q.hK
  have hmg := q.hmg
  have hbs := q.hb
  subst hP hw hK hmg hbs
  exact pe_call F (q.room.mono hj) (show X.env.scope.names.lookup x = _ by rw [hsc]; exact hg) hm hk hb .nil pass0 (h1 X hX) hdb (hs _) (hpl _)
theorem be_call0 {x : Str} {p : Pos} {j m : Nat} {fn : Fn} (c : Ctx P w K mg base N sc k C) (G : GFn P w K mg base x j m fn) (hj : j ≤ k) (hg : sc.names.lookup x = some .globalImplicit) (hdb : (x == ("__debug__" : Str)) = false := by decide) :
    BE C K n W false (.Call (.Name x p) [] [] pos) (eCall m W fn fun env => some ([], env)) := by
  obtain ⟨f, fd, ps, F, hm, hk, hb⟩ := G.ex
  refine ⟨tCall (spOf K m fn) [] E0 tNil, fun X hX => ?_, re_call ra_nil⟩
  have q := c X hX
  have hsc := q.hsc
  have hP := q.hP
  have hw := q.hw
  have hK := q.hK
  have hmg := q.hmg
  have hbs := q.hb
  subst hP hw hK hmg hbs
  exact pe_call0 F (q.room.mono hj) (show X.env.scope.names.lookup x = _ by rw [hsc]; exact hg) hm hk hb .nil pass0 hdb

/-! ### targets -/
theorem bg_name {i : Nat} {x : Str} (c : Ctx P w K mg base N sc k C) (hi : N[i]? = some x) (hx : Loc sc x) (hin : i < n) (hf : FnX C x) : BG C K n W [i] (.Name x pos) (gSet i) :=
  ⟨gName i, fun X hX => pg_name (i := i) (by rw [(c X hX).hN]; exact (c X hX).nd) (by rw [(c X hX).hN]; exact hi) (by rw [(c X hX).hsc]; exact hx) (hf X hX), rt_name hin⟩
theorem bgn_nil : BGN C [] [] := fun _ _ => pgs_nil
theorem bgn_cons {i : Nat} {is : List Nat} {x : Str} (c : Ctx P w K mg base N sc k C) (hi : N[i]? = some x) (hx : Loc sc x) (hf : FnX C x) (hr : BGN C es is)
    (hs : ∀ env : Env, (assignEach (.Name x pos :: es) env).map (·.2) = assign (.Name x pos) env :: (assignEach es env).map (·.2) := by intro _; rfl) : BGN C (.Name x pos :: es) (i :: is) := fun X hX =>
  pgs_cons (pg_name (i := i) (by rw [(c X hX).hN]; exact (c X hX).nd) (by rw [(c X hX).hN]; exact hi) (by rw [(c X hX).hsc]; exact hx) (hf X hX)) (hr X hX) (hs _)
theorem bg_tup {is : List Nat} {j m : Nat} (c : Ctx P w K mg base N sc k C) (h : BGN C es is) (hi : ∀ i ∈ is, i < n) (hm : is.length = m)
    (hn : ∀ env : Env, (assignEach es env).length = m := by intro _; rfl) (hst : ∀ env : Env, (assignEach es env).findIdx? (·.1) = none := by intro _; rfl) : BG C K n W is (.Tuple es j pos) (gTups is) :=
  ⟨gTup K m (gNames is), fun X hX => by have := pg_tup (pos := pos) (k := j) (c X hX).calm (h X hX) (hn _) (hst _); rwa [(c X hX).hK] at this, rt_tup hi hm⟩

/-! ### what is walked -/
theorem bi_list {tg : Expr} {fe : List S → Option (T × List S)} (c : Ctx P w K mg base N sc k C) (he : BE C K n W Y e fe) : BI C K n W Y tg e (iSeqL fe) := by
  obtain ⟨t, h1, h2⟩ := he
  exact ⟨iList K t, fun X hX => by have := pi_list (tg := tg) (h1 X hX); rwa [(c X hX).hK] at this, ri_list h2⟩
theorem bi_tup {tg : Expr} {fe : List S → Option (T × List S)} (c : Ctx P w K mg base N sc k C) (he : BE C K n W Y e fe) : BI C K n W Y tg e (iSeqT fe) := by
  obtain ⟨t, h1, h2⟩ := he
  exact ⟨iTup K t, fun X hX => by have := pi_tup (tg := tg) (h1 X hX); rwa [(c X hX).hK] at this, ri_tup h2⟩
theorem bi_range1 {tg : Expr} {p : Pos} {fe : List S → Option (T × List S)} (c : Ctx P w K mg base N sc k C) (hg : sc.names.lookup ("range" : Str) = some .globalImplicit) (hm : mg "range" = none) (he : BE C K n W Y e fe)
    (hs : ∀ env : Env, starEach [e] env = [(false, eval e env)] := by intro _; rfl) : BI C K n W Y tg (.Call (.Name "range" p) [e] [] pos) (iRange1 fe) := by
  obtain ⟨t, h1, h2⟩ := he
  exact ⟨iRng1 (tCons t tNil), fun X hX => pi_range1 (show X.env.scope.names.lookup ("range" : Str) = _ by rw [(c X hX).hsc]; exact hg) (by rw [(c X hX).hmg]; exact hm) (pa_cons (h1 X hX) pa_nil (hs _)) (hs _), ri_range1 h2⟩

/-! ### comprehensions -/
theorem bts_nil : BTs C K n W false [] fun env => some (true, env) := ⟨tYes, fun _ _ => pts_nil, fun g FS env τ σ tv H Q b env' hK hn hW he hs Sm yb e h => by cases e; exact h H FS he Sm⟩
theorem bts_one {f : List S → Option (Bool × List S)} (h : BT C K n W Y e f) : BTs C K n W Y [e] f := let ⟨t, h1, h2⟩ := h; ⟨t, fun X hX => pts_one (h1 X hX), h2⟩
theorem be_comp {elt tg iter : Expr} {ifs : List Expr} {scope : Scope} {own : List (Str × Nat)} {fi : List S → Option (S × List T × List S)} {ft : T → List S → Option (List S)} {fc : List S → Option (Bool × List S)} {fe : List S → Option (T × List S)}
    (c : Ctx P w K mg base N sc k C) (hi : BI C K n W Y tg iter fi) (ok : blkC N sc scope own = true) (hg : BG (blkS C scope) K n W A tg ft) (ht : BTs (blkS C scope) K n W Y' ifs fc) (he : BE (blkS C scope) K n W Y2 elt fe) (hA : ∀ i ∈ A, i ∈ own.map (·.2)) (hAW : ∀ i ∈ A, i ∉ W)
    (hs : ∀ (env : Env) (x : Value), foldedSetIterable iter env x = pure x := by intro _ _; rfl) : BE C K n W (Y || Y' || Y2) (.ListComp elt [⟨tg, iter, ifs, 0⟩] scope pos) (eComp (own.map (·.2)) fi ft fc fe) := by
  obtain ⟨wi, i1, i2⟩ := hi
  obtain ⟨gt, g1, g2⟩ := hg
  obtain ⟨tt, t1, t2⟩ := ht
  obtain ⟨te, e1, e2⟩ := he
  exact ⟨tLc wi gt tt te (own.map (·.2)), fun X hX => pe_lc (c X hX).calm (by rw [(c X hX).hN]; exact (c X hX).nd) (i1 X hX) (by rw [(c X hX).hN, (c X hX).hsc]; exact blkOk_by ok)
    (fun s H Cc cl fp => g1 _ ⟨X, hX, s, H, Cc, cl, fp, rfl⟩) (fun s H Cc cl fp => t1 _ ⟨X, hX, s, H, Cc, cl, fp, rfl⟩) (fun s H Cc cl fp => e1 _ ⟨X, hX, s, H, Cc, cl, fp, rfl⟩) (hs _), re_comp i2 g2 t2 e2 hA hAW⟩
theorem bs_setLc {i : Nat} {y : Str} {py spos : Pos} {elt tg iter : Expr} {ifs : List Expr} {scope : Scope} {own : List (Str × Nat)} {fi : List S → Option (S × List T × List S)} {ft : T → List S → Option (List S)} {fc : List S → Option (Bool × List S)} {fe : List S → Option (T × List S)}
    (c : Ctx P w K mg base N sc k C) (hy : N[i]? = some y) (hyl : sc.names.lookup y = some .local) (hin : i < n) (hk : sc.kind = .function) (hl : (py.line == pos.line) = true) (hn : (scope.names.any fun (n, k) => n == y && (k == .local || k == .cell)) = false)
    (hi : BI C K n W Y tg iter fi) (ok : blkC N sc scope own = true) (hg : BG (blkS C scope) K n W A tg ft) (ht : BTs (blkS C scope) K n W Y' ifs fc) (he : BE (blkS C scope) K n W Y2 elt fe) (hA : ∀ i ∈ A, i ∈ own.map (·.2)) (hAW : ∀ i ∈ A, i ∉ W)
    (hs : ∀ (env : Env) (x : Value), foldedSetIterable iter env x = pure x := by intro _ _; rfl) : BS C K n W [i] false (.Assign [.Name y py] (.ListComp elt [⟨tg, iter, ifs, 0⟩] scope pos) spos) (sAsg (eComp (own.map (·.2)) fi ft fc fe) (gSet i)) := by
  obtain ⟨wi, i1, i2⟩ := hi
  obtain ⟨gt, g1, g2⟩ := hg
  obtain ⟨tt, t1, t2⟩ := ht
  obtain ⟨te, e1, e2⟩ := he
  exact ⟨tAsg (tLc wi gt tt te (own.map (·.2))) (gName i), fun X hX => ps_setLc (c X hX).calm (by rw [(c X hX).hN]; exact (c X hX).nd) (by rw [(c X hX).hN]; exact hy) (by rw [(c X hX).hsc]; exact hyl) (sw_true (by rw [(c X hX).hsc]; exact hk) (by rw [(c X hX).hsc]; exact hyl) hl hn) (i1 X hX) (by rw [(c X hX).hN, (c X hX).hsc]; exact blkOk_by ok)
    (fun s H Cc cl fp => g1 _ ⟨X, hX, s, H, Cc, cl, fp, rfl⟩) (fun s H Cc cl fp => t1 _ ⟨X, hX, s, H, Cc, cl, fp, rfl⟩) (fun s H Cc cl fp => e1 _ ⟨X, hX, s, H, Cc, cl, fp, rfl⟩) (hs _), rs_asg (re_comp i2 g2 t2 e2 hA hAW) (rt_name hin)⟩

/-! ### statements -/
theorem bss_nil : BSs C K n W [] false [] fun env => some (.nx env) := ⟨tNext, fun _ _ => pss_nil, rs_nil⟩
theorem bss_one {f : List S → Option Fl} (h : BS C K n W A Z st f) : BSs C K n W A Z [st] f := let ⟨t, h1, h2⟩ := h; ⟨t, fun X hX => pss_one (h1 X hX), h2⟩
theorem bss_cons {f g : List S → Option Fl} (h : BS C K n W A Z st f) (r : BSs C K n W B Z' sts g) : BSs C K n W (A ++ B) (Z || Z') (st :: sts) (sSeq f g) :=
  let ⟨t, h1, h2⟩ := h; let ⟨u, r1, r2⟩ := r; ⟨tSeq t u, fun X hX => pss_cons (h1 X hX) (r1 X hX), rs_seq h2 r2⟩
theorem bss_frz {f : List S → Option Fl} (i : Nat) (hi : i < n) (h : BSs C K n W A Z sts f) : BSs C K n W A Z sts fun env => f (frzE i env) := let ⟨t, h1, h2⟩ := h; ⟨t, h1, rs_freeze i hi h2⟩
theorem bss_own {f : List S → Option Fl} (i : Nat) (hi : i < n) (h : BSs C K n W A Z sts f) : BSs C K n W A true sts fun env => f (ownE i env) := let ⟨t, h1, h2⟩ := h; ⟨t, h1, rs_own i hi h2⟩
theorem bs_set {i : Nat} {x : Str} {px : Pos} {fe : List S → Option (T × List S)} (c : Ctx P w K mg base N sc k C) (hi : N[i]? = some x) (hx : Loc sc x) (hin : i < n) (hf : FnX C x) (he : BE C K n W Y e fe)
    (hs : ∀ env : Env, swapsWith e (some (.Name x px)) pos.line env = pure false := by intro _; rfl) : BS C K n W [i] false (.Assign [.Name x px] e pos) (sAsg fe (gSet i)) :=
  let ⟨t, h1, h2⟩ := he; ⟨tAsg t (gName i), fun X hX => ps_set (i := i) (by rw [(c X hX).hN]; exact (c X hX).nd) (by rw [(c X hX).hN]; exact hi) (by rw [(c X hX).hsc]; exact hx) (h1 X hX) (hs _) (hf X hX), rs_asg h2 (rt_name hin)⟩
theorem bs_asg {tg : Expr} {fe : List S → Option (T × List S)} {ft : T → List S → Option (List S)} (he : BE C K n W Y e fe) (hg : BG C K n W A tg ft)
    (hs : ∀ env : Env, swapsWithSole [tg] e pos.line env = pure false := by intro _; rfl) (hw : ∀ env : Env, swappedStores [tg] e env = pure none := by intro _; rfl) (h1 : ∀ env : Env, (assignEach [tg] env).map (·.2) = [assign tg env] := by intro _; rfl) :
    BS C K n W A false (.Assign [tg] e pos) (sAsg fe ft) :=
  let ⟨t, q1, q2⟩ := he; let ⟨g, g1, g2⟩ := hg; ⟨tAsg t g, fun X hX => ps_asg (q1 X hX) (g1 X hX) (hs _) (hw _) (h1 _), rs_asg q2 g2⟩
theorem bs_expr {fe : List S → Option (T × List S)} (he : BE C K n W Y e fe) (hs : ∀ env : Env, swapsWith e none pos.line env = pure false := by intro _; rfl) : BS C K n W [] false (.Expr e pos) (sExpr fe) :=
  let ⟨t, h1, h2⟩ := he; ⟨tDrop t, fun X hX => ps_expr (h1 X hX) (hs _), rs_expr h2⟩
theorem bs_ret {fe : List S → Option (T × List S)} (he : BE C K n W Y e fe) : BS C K n W [] false (.Return (some e) pos) (sRet fe) :=
  let ⟨t, h1, h2⟩ := he; ⟨tRet t, fun X hX => ps_ret (h1 X hX), rs_ret h2⟩
theorem bs_retN : BS C K n W [] false (.Return none pos) fun env => some (.rt (.own, .non) env) := ⟨tRetN, fun _ _ => ps_retN, rs_retN⟩
theorem bs_pass : BS C K n W [] false (.Pass pos) fun env => some (.nx env) := ⟨tNext, fun _ _ => ps_pass, rs_pass⟩
theorem bs_break : BS C K n W [] false (.Break pos) fun env => some (.bk env) := ⟨tBreak, fun _ _ => ps_break, rs_break⟩
theorem bs_cont : BS C K n W [] false (.Continue pos) fun env => some (.ct env) := ⟨tCont, fun _ _ => ps_continue, rs_cont⟩
theorem bs_never : BS C K n W [] false st fun _ => none := ⟨tNever, fun _ _ => ps_never, rs_never⟩
theorem bs_if {s1 s2 : List Stmt} {fc : List S → Option (Bool × List S)} {f g : List S → Option Fl} (hc : BT C K n W Y e fc) (h : BSs C K n W A Z s1 f) (r : BSs C K n W B Z' s2 g) : BS C K n W (A ++ B) (Z || Z') (.If e s1 s2 pos) (sIf fc f g) :=
  let ⟨tc, c1, c2⟩ := hc; let ⟨t, h1, h2⟩ := h; let ⟨u, r1, r2⟩ := r; ⟨tIfS tc t u, fun X hX => ps_if (c1 X hX) (h1 X hX) (r1 X hX), rs_if c2 h2 r2⟩
theorem passes {X : Cx} (c : Ctx P w K mg base N sc k C) (hX : C X) : PassesOwn (model X.prog X.w) X.A X.env X.xe := by rw [(c X hX).xe]; exact PassesOwn.never
theorem bs_for {tg iter : Expr} {body : List Stmt} {fi : List S → Option (S × List T × List S)} {ft : T → List S → Option (List S)} {fb : List S → Option Fl} (c : Ctx P w K mg base N sc k C) (hi : BI C K n W Y tg iter fi) (hg : BG C K n W A tg ft) (hb : BSs C K n W B Z body fb)
    (hs : ∀ (env : Env) (x : Value), foldedSetIterable iter env x = pure x := by intro _ _; rfl) : BS C K n W (A ++ B) Z (.For tg iter body [] pos) (sFor Z fi ft fb) :=
  let ⟨wi, i1, i2⟩ := hi; let ⟨g, g1, g2⟩ := hg; let ⟨t, b1, b2⟩ := hb; ⟨tFor wi g t, fun X hX => ps_for (passes c hX) (c X hX).calm (i1 X hX) (g1 X hX) (b1 X hX) (hs _), rs_for i2 g2 b2⟩
theorem bs_while {body : List Stmt} {fc : List S → Option (Bool × List S)} {fb : List S → Option Fl} (M : Nat) (c : Ctx P w K mg base N sc k C) (hc : BT C K n W Y e fc) (hb : BSs C K n W A Z body fb) : BS C K n W A Z (.While e body [] pos) (sWhile fc fb M) :=
  let ⟨tc, c1, c2⟩ := hc; let ⟨t, b1, b2⟩ := hb; ⟨tWhile tc t, fun X hX => ps_while (passes c hX) (c1 X hX) (b1 X hX), rs_while M c2 b2⟩
/-! #### stores into slots -/
theorem bs_dput {i : Nat} {x : Str} {px psub : Pos} {v : Expr} {fv fk : List S → Option (T × List S)} (c : Ctx P w K mg base N sc k C) (hi : N[i]? = some x) (hx : Vis sc x) (hin : i < n) (hv : BE C K n W Y v fv) (hk : BE C K n W Y' e fk)
    (hs : ∀ env : Env, swapsWith v (some (.Subscript (.Name x px) e psub)) pos.line env = pure false := by intro _; rfl) (hd : (x == ("__debug__" : Str)) = false := by decide) (hcd : (x == ("__classdict__" : Str)) = false := by decide) :
    BS C K n W [] false (.Assign [.Subscript (.Name x px) e psub] v pos) (sPut i oDPut fv fk) :=
  let ⟨tv, v1, v2⟩ := hv; let ⟨tk, k1, k2⟩ := hk
  ⟨tPut tv (tVar i) tk rDPut, fun X hX => ps_dput (units1 (c X hX).room) (pe_var (i := i) (by rw [(c X hX).hN]; exact hi) (by rw [(c X hX).hsc]; exact hx) hd hcd) (k1 X hX) (v1 X hX) (hs _), rs_put hin v2 k2 vp_dput⟩
theorem bs_lput {i : Nat} {x : Str} {px psub : Pos} {v : Expr} {fv fk : List S → Option (T × List S)} (c : Ctx P w K mg base N sc k C) (hi : N[i]? = some x) (hx : Vis sc x) (hin : i < n) (hv : BE C K n W Y v fv) (hk : BE C K n W Y' e fk)
    (hs : ∀ env : Env, swapsWithSole [.Subscript (.Name x px) e psub] v pos.line env = pure false := by intro _; rfl) (hw : ∀ env : Env, swappedStores [.Subscript (.Name x px) e psub] v env = pure none := by intro _; rfl) (h1 : ∀ env : Env, (assignEach [.Subscript (.Name x px) e psub] env).map (·.2) = [assign (.Subscript (.Name x px) e psub) env] := by intro _; rfl)
    (ha : ∀ (env : Env) (u : Value), assign (.Subscript (.Name x px) e psub) env u = (do
      let ov ← holding [u] (eval (.Name x px) env)
      let iv ← holding [u, ov] (eval e env)
      standAt psub
      holding [u, ov, iv] (setItem ov iv u)
      release [u, ov, iv] []) := by intro _ _; rfl) (hd : (x == ("__debug__" : Str)) = false := by decide) (hcd : (x == ("__classdict__" : Str)) = false := by decide) :
    BS C K n W [] false (.Assign [.Subscript (.Name x px) e psub] v pos) (sPut i oSetL fv fk) :=
  let ⟨tv, v1, v2⟩ := hv; let ⟨tk, k1, k2⟩ := hk
  ⟨tPut tv (tVar i) tk rSetL, fun X hX => ps_asg (v1 X hX) (pg_sub (pe_var (i := i) (by rw [(c X hX).hN]; exact hi) (by rw [(c X hX).hsc]; exact hx) hd hcd) (k1 X hX) set_list (ha _)) (hs _) (hw _) (h1 _), rs_put hin v2 k2 vp_setL⟩
/-! #### methods that write a slot -/
theorem be_mut {i : Nat} {x : Str} {px apos cpos : Pos} {T id : String} {name : Str} {r : V → List V → Hp → VK → Prop} {o : D → List D → Option (D × D)} {fa : List S → Option (List Ar × List S)} (c : Ctx P w K mg base N sc k C) (pa : PlainAttrs T) (slot : Slot T name id) (hty : typeOf (.builtin id) = pure (.type "method_descriptor"))
    (hT : T ≠ "str") (hm : ∀ X : Cx, MtR X id r) (ho : VMut K r o) (hi : N[i]? = some x) (hx : Vis sc x) (hin : i < n) (ha : BA C K n W Y (e :: es) fa)
    (hbase : ∀ env : Env, attributeBase (.Name x px) name env (eval (.Name x px) env) = eval (.Name x px) env := by intro _; rfl)
    (hfew : ∀ env : Env, ((backTo cpos (starEach (e :: es) env)).all (fun x => !x.1) && (backToKw cpos (keywordEach [] env)).all (fun x => x.1.isSome)
      && decide ((e :: es).length + ([] : List Keyword).length + (if ([] : List Keyword).isEmpty then 0 else 1) < 30)) = true := by intro _; rfl)
    (hline : (apos.endLine == cpos.line) = true := by rfl) (hs : ∀ env : Env, starEach (e :: es) env = (false, eval e env) :: starEach es env := by intro _; rfl) (hplain : ∀ env : Env, (backTo cpos (starEach es env)).any (·.1) = false := by intro _; rfl)
    (hd : (x == ("__debug__" : Str)) = false := by decide) (hcd : (x == ("__classdict__" : Str)) = false := by decide) :
    BE C K n W true (.Call (.Attribute (.Name x px) name apos) (e :: es) [] cpos) (eMut i T o fa) := by
  obtain ⟨ta, a1, a2⟩ := ha
  refine ⟨tBM K T r (tVar i) ta, fun X hX => ?_, re_mut hin hT a2 ho⟩
  have := pe_bm (X := X) pa slot hty (hm X) (pe_var (i := i) (pos := px) (by rw [(c X hX).hN]; exact hi) (by rw [(c X hX).hsc]; exact hx) hd hcd) (a1 X hX) (hbase _) (hfew _) hline (hs _) (hplain _)
  rwa [(c X hX).hK] at this
theorem be_mut0 {i : Nat} {x : Str} {px apos cpos : Pos} {T id : String} {name : Str} {r : V → List V → Hp → VK → Prop} {o : D → List D → Option (D × D)} (c : Ctx P w K mg base N sc k C) (pa : PlainAttrs T) (slot : Slot T name id) (hty : typeOf (.builtin id) = pure (.type "method_descriptor"))
    (hT : T ≠ "str") (hm : ∀ X : Cx, MtR X id r) (ho : VMut K r o) (hi : N[i]? = some x) (hx : Vis sc x) (hin : i < n)
    (hbase : ∀ env : Env, attributeBase (.Name x px) name env (eval (.Name x px) env) = eval (.Name x px) env := by intro _; rfl)
    (hline : (apos.endLine == cpos.line) = true := by rfl) (hd : (x == ("__debug__" : Str)) = false := by decide) (hcd : (x == ("__classdict__" : Str)) = false := by decide) :
    BE C K n W true (.Call (.Attribute (.Name x px) name apos) [] [] cpos) (eMut i T o fun env => some ([], env)) := by
  refine ⟨tBM K T r (tVar i) tNil, fun X hX => ?_, re_mut hin hT ra_nil ho⟩
  have := pe_bm0 (X := X) pa slot hty (hm X) (pe_var (i := i) (pos := px) (by rw [(c X hX).hN]; exact hi) (by rw [(c X hX).hsc]; exact hx) hd hcd) (hbase _) hline
  rw [(c X hX).hK] at this
  exact this
end
end RG

set_option maxRecDepth 100000
set_option maxHeartbeats 4000000
namespace RG
open PySem PySem.Spec PyProof.Rows L2

/-! ### dict displays with written keys and values -/
def mergeD (kvs : List (Key × D)) : List (Key × D) → List (Key × D) := List.foldl (fun acc kv => putD acc kv.1 kv.2) kvs
/-- a written value -/
inductive Lit : V → D → Prop where
  | non : Lit .non .non
  | bl (b : Bool) : Lit (.bl b) (.bl b)
  | int (i : Int) : Lit (.int i) (.int i)
  | str (x : Str) : Lit (.str x) (.str x)
theorem Lit.rep {K : PySem.W.Frag} {H : Hp} {v : V} {d : D} (h : Lit v d) : Rep K H v d [] := by
  cases h with
  | non => exact .non
  | bl b => exact .bl b
  | int i => exact .int i
  | str x => exact .str x
structure Dpair where
  k : Key
  v : V
  d : D
  l : Lit v d
def Dpair.tr (p : Dpair) : TE × TE := (tC (kV p.k), tC p.v)
theorem pairs_run {σ : L2.St} {H : Hp} {Q : List (V × V) → Hp → Prop} : ∀ {ps : List Dpair} {acc : List (V × V)}, Q (acc ++ ps.map fun p => (kV p.k, p.v)) H → tPairs (ps.map Dpair.tr) σ H (fun qs H' => Q (acc ++ qs) H')
  | [], acc, h => by
    show Q (acc ++ []) H
    simpa using h
  | p :: ps, acc, h => by
    show tPairs (ps.map Dpair.tr) σ H (fun qs H' => Q (acc ++ (kV p.k, p.v) :: qs) H')
    have := pairs_run (ps := ps) (acc := acc ++ [(kV p.k, p.v)]) (Q := Q) (σ := σ) (H := H) (by simpa using h)
    simpa using this
section
variable {P : Program} {w : World} {K : PySem.W.Frag} {mg : Str → Option Value} {base : Heap} {N : List Str} {sc : Scope} {k n : Nat} {C : XS} {W A B : List Nat} {Y Y' Y2 Z Z' : Bool}
variable {pos : Pos} {a b e : Expr} {es : List Expr} {st : Stmt} {sts : List Stmt}
theorem merge_rep {H : Hp} : ∀ {ps : List Dpair} {kvs : List (Key × V)} {ds : List (Key × D)}, kvs.map (·.1) = ds.map (·.1) → RepL K H (kvs.map (·.2)) (ds.map (·.2)) [] →
    (mergeK kvs (ps.map fun p => (p.k, p.v))).map (·.1) = (mergeD ds (ps.map fun p => (p.k, p.d))).map (·.1) ∧ RepL K H ((mergeK kvs (ps.map fun p => (p.k, p.v))).map (·.2)) ((mergeD ds (ps.map fun p => (p.k, p.d))).map (·.2)) []
  | [], _, _, e, r => ⟨e, r⟩
  | p :: ps, kvs, ds, e, r => by
    obtain ⟨h1, h2, _⟩ := put_rep (k := p.k) e r (p.l.rep (K := K) (H := H))
    exact merge_rep (ps := ps) h1 h2
theorem rp_disp {ps : List Dpair} (h15 : ps.length ≤ 15) : RP K n W (tDisp (ps.map Dpair.tr)) fun _ => some (some .own, .dK (mergeD [] (ps.map fun p => (p.k, p.d)))) := by
  intro g FS env τ σ tv H Q r hK hn hW he hs Sm e h
  cases e
  intro p hp
  refine pairs_run (acc := []) (Q := fun ps H2 => H2 p = some (.dK []) ∧ ∃ kvs : List (Key × V), ps = kvs.map (fun kv => (kV kv.1, kv.2)) ∧ kvs.length ≤ 15 ∧ Q (.ref p) (upd H2 p (.dK (mergeK [] kvs)))) ?_
  refine ⟨upd_same .., ps.map fun q => (q.k, q.v), by simp [List.map_map, Function.comp_def], by simpa using h15, ?_⟩
  obtain ⟨h1, h2⟩ := merge_rep (K := K) (H := upd (upd H p (.dK [])) p (.dK (mergeK [] (ps.map fun q => (q.k, q.v))))) (ps := ps) (kvs := []) (ds := []) rfl .nil
  refine h _ _ [p] (fun b o eb => ?_) (.dK (upd_same ..) ?_ h1 h2) ⟨fun _ => ⟨by simp, fun a m => by rw [List.mem_singleton.mp m]; exact hp⟩, fun k' e n => by cases e; exact absurd rfl n⟩
  · have : b ≠ p := ne_of_none eb hp
    rw [upd_ne this, upd_ne this]; exact eb
  · have q1 := length_mergeK (ps.map fun q => (q.k, q.v)) []
    rw [List.length_map, List.length_nil] at q1
    rw [sizeLine_eq]; omega
def BD (C : XS) (pos : Pos) (keys : List (Option Expr)) (values : List Expr) (ps : List Dpair) : Prop := ∀ X, C X → PPs X pos keys values (ps.map Dpair.tr)
theorem bd_nil : BD C pos [] [] [] := fun _ _ => pps_nil
theorem bd_ss {x y : Str} {i j : Nat} {p1 p2 : Pos} {ks : List (Option Expr)} {vs : List Expr} {ps : List Dpair} (h : BD C pos ks vs ps) : BD C pos (some (.Constant (.str x) i p1) :: ks) (.Constant (.str y) j p2 :: vs) (⟨.inr x, .str y, .str y, .str y⟩ :: ps) := fun X hX =>
  pps_cons pe_str pe_str (h X hX)
theorem bd_si {x : Str} {y : Int} {i j : Nat} {p1 p2 : Pos} {ks : List (Option Expr)} {vs : List Expr} {ps : List Dpair} (h : BD C pos ks vs ps) : BD C pos (some (.Constant (.str x) i p1) :: ks) (.Constant (.int y) j p2 :: vs) (⟨.inr x, .int y, .int y, .int y⟩ :: ps) := fun X hX =>
  pps_cons pe_str pe_int (h X hX)
theorem bp_disp {keys : List (Option Expr)} {values : List Expr} {ps : List Dpair} (h : BD C pos keys values ps) (h15 : ps.length ≤ 15) (hall : keys.all (·.isSome) = true := by rfl) (hl : keys.length = values.length := by rfl) (h0 : keys ≠ [] := by exact fun z => nomatch z) (hk : keys.length ≤ 15 := by decide) :
    BP C K n W (.Dict keys values pos) fun _ => some (some .own, .dK (mergeD [] (ps.map fun p => (p.k, p.d)))) := ⟨_, fun X hX => pe_disp (h X hX) hall hl h0 hk, rp_disp h15⟩
theorem rp_new {o : HO} {d : D} (hr : ∀ (H : Hp) (p : Addr), H p = none → Rep K (upd H p o) (.ref p) d [p]) : RP K n W (fun _ H Q => ∀ p, H p = none → Q (.ref p) (upd H p o)) fun _ => some (some .own, d) := by
  intro g FS env τ σ tv H Q r hK hn hW he hs Sm e h
  cases e
  intro p hp
  exact h _ _ [p] (same_upd hp) (hr H p hp) ⟨fun _ => ⟨by simp, fun a m => by rw [List.mem_singleton.mp m]; exact hp⟩, fun k' e n => by cases e; exact absurd rfl n⟩
theorem bp_dnewK : BP C K n W (.Dict [] [] pos) fun _ => some (some .own, .dK []) := ⟨tDNewK, fun _ _ => pe_dnewK, rp_new fun H p hp => .dK (upd_same ..) (Nat.zero_le _) rfl .nil⟩
theorem bp_dnewT : BP C K n W (.Dict [] [] pos) fun _ => some (some .own, .dT []) := ⟨tDNewT, fun _ _ => pe_dnewT, rp_new fun H p hp => .dT (upd_same ..) (Nat.zero_le _) rfl .nil⟩

/-! ### isinstance(x, T), T a built-in type -/
def D.tyn : D → Option String
  | .non => some "NoneType"
  | .bl _ => some "bool"
  | .int _ => some "int"
  | .str _ => some "str"
  | .tup _ => some "tuple"
  | .lst _ => some "list"
  | .scr _ => some "list"
  | .dK _ => some "dict"
  | .dT _ => some "dict"
  | .ins _ _ => none
theorem Rep.tyX {H : Hp} {v : V} {d : D} {F : List Addr} {t : String} (r : Rep K H v d F) (h : d.tyn = some t) : TyX K H v (.type t) := by
  cases r with
  | non => cases h; exact .base .non
  | bl b => cases h; exact .base (.bl b)
  | int i => cases h; exact .base (.int i)
  | str x => cases h; exact .base (.str x)
  | tup q _ _ _ =>
    cases h
    rcases q with (q | ⟨o, q⟩) | ⟨o, its, m, q1, q2, _⟩
    · exact .base (.tup q)
    · exact .fTuple q
    · exact .kTuple q1 q2
  | lst q _ _ => cases h; exact .base (.lst q)
  | scr q _ =>
    cases h
    rcases q with ⟨o, q⟩ | ⟨o, its, m, q1, q2, _⟩
    · exact .base (.frz q)
    · exact .kList q1 q2
  | dK q _ _ _ => cases h; exact .base (.dK q)
  | dT q _ _ _ => cases h; exact .base (.dT q)
  | ins q _ _ => cases h
def pIsi (T : String) (f : List S → Option (Pk × D)) : List S → Option (Pk × D) := fun env => (f env).bind fun r => (r.2.tyn).bind fun t => (kitB t T).map fun b => (some .own, .bl b)
theorem rp_isi {T : String} {t : TE} {f : List S → Option (Pk × D)} (h : RP K n W t f) : RP K n W (tCB (rIsi K) (tCons t (tCons (tC (.ty T)) tNil))) (pIsi T f) := by
  intro g FS env τ σ tv H Q r hK hn hW he hs Sm e hq
  unfold pIsi at e
  cases e1 : f env with
  | none => rw [e1] at e; cases e
  | some r1 =>
    simp only [e1, Option.bind_some] at e
    cases e2 : r1.2.tyn with
    | none => rw [e2] at e; cases e
    | some t1 =>
      simp only [e2, Option.bind_some] at e
      cases e3 : kitB t1 T with
      | none => rw [e3] at e; cases e
      | some bb =>
        simp only [e3, Option.map_some, Option.some.injEq] at e
        subst e
        refine h g FS env τ σ tv H _ r1 hK hn hW he hs Sm e1 fun v H' F sm rv pk => ?_
        exact ⟨v, .ty T, _, _, bb, rfl, .ty T, rv.tyX e2, kit_ty e3, hq _ _ _ sm (.bl bb) POk.nil⟩
theorem bp_isi {T : String} {x : Str} {p1 p2 : Pos} {f : List S → Option (Pk × D)} (c : Ctx P w K mg base N sc k C) (h : BP C K n W e f) (hg : sc.names.lookup ("isinstance" : Str) = some .globalImplicit) (hm : mg "isinstance" = none) (hgT : sc.names.lookup x = some .globalImplicit) (hmT : mg x = none) (hvT : bootBuiltins x = some (.type T))
    (hv : bootBuiltins ("isinstance" : Str) = some (.builtin "isinstance") := by rfl) (hn : x ≠ "__name__" := by decide) (hdb : (x == ("__debug__" : Str)) = false := by decide)
    (hs : ∀ env : Env, starEach [e, .Name x p2] env = (false, eval e env) :: starEach [.Name x p2] env := by intro _; rfl) (hpl : ∀ env : Env, (backTo pos (starEach [.Name x p2] env)).any (·.1) = false := by intro _; rfl) :
    BP C K n W (.Call (.Name "isinstance" p1) [e, .Name x p2] [] pos) (pIsi T f) := by
  obtain ⟨t, h1, h2⟩ := h
  refine ⟨_, fun X hX => ?_, rp_isi h2⟩
  have q := c X hX
  have hT : PE X (.Name x p2) (tC (.ty T)) := pe_bltn (show X.env.scope.names.lookup x = _ by rw [q.hsc]; exact hgT) (by rw [q.hmg]; exact hmT) hvT rfl hn hdb
  have := pe_callB (X := X) (p := p1) (pos := pos) call_isi (show X.env.scope.names.lookup ("isinstance" : Str) = _ by rw [q.hsc]; exact hg) (by rw [q.hmg]; exact hm) hv (pa_cons (h1 X hX) (pa_cons hT pa_nil) (hs _)) (by decide) (by decide) (hs _) (hpl _)
  rwa [q.hK] at this

def pDisp (kvs : List (Key × D)) : List S → Option (Pk × D) := fun _ => some (some .own, .dK (mergeD [] kvs))
theorem bp_dispC {keys : List (Option Expr)} {values : List Expr} {ps : List Dpair} {kvs : List (Key × D)} (h : BD C pos keys values ps) (h15 : ps.length ≤ 15) (e : ps.map (fun p => (p.k, p.d)) = kvs) (hall : keys.all (·.isSome) = true := by rfl) (hl : keys.length = values.length := by rfl) (h0 : keys ≠ [] := by exact fun z => nomatch z) (hk : keys.length ≤ 15 := by decide) :
    BP C K n W (.Dict keys values pos) (pDisp kvs) := by
  subst e
  exact bp_disp h h15 hall hl h0 hk
/-! ### one or the other -/
def oOr (o o' : List D → Option (Rk × D)) : List D → Option (Rk × D) := fun ds => match o ds with
  | some r => some r
  | none => o' ds
theorem vop_or {r r' : List V → Hp → VK → Prop} {o o' : List D → Option (Rk × D)} (h : VOp K r o) (h' : VOp K r' o') : VOp K (fun vs H Q => r vs H Q ∨ r' vs H Q) (oOr o o') := by
  intro H vs ds F Q k d rl e q
  unfold oOr at e
  split at e
  · rename_i e1
    cases e
    exact .inl (h H vs ds F Q k d rl e1 q)
  · exact .inr (h' H vs ds F Q k d rl e q)
theorem vop_or2 {r r' : R2} {o o' : List D → Option (Rk × D)} (h : VOp K (rl2 r) o) (h' : VOp K (rl2 r') o') : VOp K (rl2 fun x y H Q => r x y H Q ∨ r' x y H Q) (oOr o o') := by
  intro H vs ds F Q k d rl e q
  have := vop_or h h' H vs ds F Q k d rl e q
  unfold rl2 at this ⊢
  split <;> simp_all
theorem opa_or {f : Value → Value → Sem Value} {r r' : R2} (h : OpA C f r) (h' : OpA C f r') : OpA C f (fun x y H Q => r x y H Q ∨ r' x y H Q) := fun X hX => (h X hX).or (h' X hX)
def oInA := oOr oIn oInD
def oNotInA := oOr oNotIn oNotInD
theorem opa_inA (c : Ctx P w K mg base N sc k C) : OpA C (compareOp .In) (fun x y H Q => rIn' K x y H Q ∨ ∃ a o, y = .ref a ∧ DGet H a x o ∧ Q (.bl o.isSome) H) := opa_or (opa_in c) (opa_inD c)
theorem opa_notInA (c : Ctx P w K mg base N sc k C) : OpA C (compareOp .NotIn) (fun x y H Q => rNotIn' K x y H Q ∨ ∃ a o, y = .ref a ∧ DGet H a x o ∧ Q (.bl (!o.isSome)) H) := opa_or (opa_notIn c) (opa_notInD c)
theorem vop_inA : VOp K (rl2 fun x y H Q => rIn' K x y H Q ∨ ∃ a o, y = .ref a ∧ DGet H a x o ∧ Q (.bl o.isSome) H) oInA := vop_or2 vop_in vop_inD
theorem vop_notInA : VOp K (rl2 fun x y H Q => rNotIn' K x y H Q ∨ ∃ a o, y = .ref a ∧ DGet H a x o ∧ Q (.bl (!o.isSome)) H) oNotInA := vop_or2 vop_notIn vop_notInD
/-- a list, a tuple or the script is walked -/
def iSq (fe : List S → Option (T × List S)) : List S → Option (S × List T × List S) := fun env => match iSeqL fe env with
  | some r => some r
  | none => iSeqT fe env
theorem ri_sq {te : TE} {fe : List S → Option (T × List S)} (ht : RE K n W Y te fe) : RI K n W Y (fun σ H R => iList K te σ H R ∨ iTup K te σ H R) (iSq fe) := by
  intro g FS env τ σ tv H R s items env' hK hn hW he hs Sm yb e h
  unfold iSq at e
  split at e
  · rename_i e1
    cases e
    exact .inl (ri_list ht g FS env τ σ tv H R s items env' hK hn hW he hs Sm yb e1 h)
  · exact .inr (ri_tup ht g FS env τ σ tv H R s items env' hK hn hW he hs Sm yb e h)
theorem bi_sq {tg : Expr} {fe : List S → Option (T × List S)} (c : Ctx P w K mg base N sc k C) (he : BE C K n W Y e fe) : BI C K n W Y tg e (iSq fe) := by
  obtain ⟨t, h1, h2⟩ := he
  refine ⟨_, fun X hX => ⟨fun pins s σ H R I q => ?_⟩, ri_sq h2⟩
  have a := pi_list (tg := tg) (h1 X hX)
  have b := pi_tup (tg := tg) (h1 X hX)
  rw [(c X hX).hK] at a b
  rcases q with q | q
  · exact a.run pins s σ H R I q
  · exact b.run pins s σ H R I q
/-- xs.pop(i), xs.pop() of a list -/
theorem m2_get {o' e f : Expr} {apos cpos : Pos} (hbase : ∀ env : Env, attributeBase o' "get" env (eval o' env) = eval o' env := by intro _; rfl)
    (hfew : ∀ env : Env, ((backTo cpos (starEach [e, f] env)).all (fun x => !x.1) && (backToKw cpos (keywordEach [] env)).all (fun x => x.1.isSome)
    && decide (([e, f] : List Expr).length + ([] : List Keyword).length + (if ([] : List Keyword).isEmpty then 0 else 1) < 30)) = true := by intro _; rfl)
    (hl : (apos.endLine == cpos.line) = true := by rfl) (ht : ∀ env : Env, backTo cpos (starEach [e, f] env) = [(false, eval e env), (false, eval f env)] := by intro _; rfl) : ∀ X, M2 X o' "get" apos e f cpos := fun X => ⟨hbase _, hfew _, hl, ht _⟩
def BDef (C : XS) (K : PySem.W.Frag) (n : Nat) (W : List Nat) (st : List Stmt) (f : List S → Option Fl) : Prop := ∃ A Z, BSs C K n W A Z st f
theorem BDef.of {f : List S → Option Fl} (h : BSs C K n W A Z sts f) : BDef C K n W sts f := ⟨A, Z, h⟩
theorem gfnD {x y qual : Str} {st : Stmt} {f : Addr} {fd : FuncData} {N ps : List Str} {k m n : Nat} {W : List Nat} {fb : List S → Option Fl} (F : Fun K x qual st f fd) (hmg : mg y = some (.ref f)) (hbi : Binds K fd ps []) (S' : FnScope N ps (defScope st)) (hm : ps.length = m) (hn : N.length = n) (hmn : m ≤ n) (hW : ∀ i ∈ W, i < n)
    (hb : BDef (bodyS P w K mg base N qual (defScope st) f k) K n W (defBody st) fb) : GFn P w K mg base y (k + 1) m (fnOf n fb) := by
  obtain ⟨A, Z, hb⟩ := hb
  exact gfn F hmg hbi S' hm hn hmn hW hb
end
end RG

set_option maxRecDepth 100000
set_option maxHeartbeats 4000000
namespace RG
open PySem PySem.Spec PyProof.Rows L2

section
variable {P : Program} {w : World} {K : PySem.W.Frag} {mg : Str → Option Value} {base : Heap} {N : List Str} {sc : Scope} {k n : Nat} {C : XS} {W A B : List Nat} {Y Y' Y2 Z Z' : Bool}
variable {pos : Pos} {a b e : Expr} {es : List Expr} {st : Stmt} {sts : List Stmt}
theorem sw_cell {y : Str} {py : Pos} {l : Nat} {env : Env} (h : env.scope.names.lookup y = some .cell) : swapsWith e (some (.Name y py)) l env = pure false := by
  have ky : env.kindOf y = some .cell := h
  unfold swapsWith
  have z : (some NameKind.cell == some NameKind.local) = false := rfl
  cases e <;> first | rfl | (simp only [ky, z, Bool.and_false, Bool.false_and])
/-- name = e, the name's place a cell -/
theorem bs_setC {i : Nat} {x : Str} {px : Pos} {fe : List S → Option (T × List S)} (c : Ctx P w K mg base N sc k C) (hi : N[i]? = some x) (hx : sc.names.lookup x = some .cell) (hin : i < n) (hf : FnX C x) (he : BE C K n W Y e fe) : BS C K n W [i] false (.Assign [.Name x px] e pos) (sAsg fe (gSet i)) :=
  let ⟨t, h1, h2⟩ := he; ⟨tAsg t (gName i), fun X hX => ps_set (i := i) (by rw [(c X hX).hN]; exact (c X hX).nd) (by rw [(c X hX).hN]; exact hi) (by rw [(c X hX).hsc]; exact .inr hx) (h1 X hX) (sw_cell (by rw [(c X hX).hsc]; exact hx)) (hf X hX), rs_asg h2 (rt_name hin)⟩
theorem vop_gin {x : Str} {tbl : List (Str × Option D)} {pa : Addr} (h3 : ∀ z r, tbl.lookup z = some r → match r with
    | none => PySem.W.nsIn K pa z = some none
    | some d => ∃ u v, PySem.W.nsIn K pa z = some (some u) ∧ RelV v u ∧ ∀ H, Rep K H v d []) : VOp K (rl1 fun y H Q => ∃ (z : Str) (r : Option Value), y = .str z ∧ V.ref pa = .ref pa ∧ PySem.W.nsIn K pa z = some r ∧ Q (.bl r.isSome) H) (oGIn tbl) := by
  intro H vs ds F Q k d rl e h
  unfold oGIn at e
  split at e
  · rename_i z
    obtain ⟨v, rfl, r1⟩ := rl.i1
    cases r1.strV
    cases e1 : tbl.lookup z with
    | none => rw [e1] at e; cases e
    | some r =>
      rw [e1] at e; cases e
      have q := h3 z r e1
      cases r with
      | none => exact ⟨z, none, rfl, rfl, q, h _ _ [] (Same.refl _) (.bl _) rfl⟩
      | some d0 =>
        obtain ⟨u, v, q1, _, _⟩ := q
        exact ⟨z, some u, rfl, rfl, q1, h _ _ [] (Same.refl _) (.bl _) rfl⟩
  · cases e
theorem bt_gin {fa : List S → Option (T × List S)} {x : Str} {tbl : List (Str × Option D)} {p : Pos} (c : Ctx P w K mg base N sc k C) (hg : sc.names.lookup x = some .globalImplicit) (g : GDict K w mg x tbl) (ha : BE C K n W Y a fa) (hd : (x == ("__debug__" : Str)) = false := by decide) :
    BT C K n W (Y || false) (.Compare a [.In] [.Name x p] pos) (bE (eOp (oGIn tbl) (aCons false fa fun env => some ([], env)))) := by
  obtain ⟨pa, es, n', h1, h2, h3⟩ := g.ex
  obtain ⟨ta, a1, a2⟩ := ha
  refine ⟨tTest (tOp (fun x y H Q => ∃ (z : Str) (r : Option Value), x = .str z ∧ y = .ref pa ∧ PySem.W.nsIn K pa z = some r ∧ Q (.bl r.isSome) H) ta (tC (.ref pa))), fun X hX => ?_,
    rb_e (re_op (r := rl1 fun y H Q => ∃ (z : Str) (r : Option Value), y = .str z ∧ V.ref pa = .ref pa ∧ PySem.W.nsIn K pa z = some r ∧ Q (.bl r.isSome) H) (ra_cons a2 ra_nil) (vop_gin (x := x) h3))⟩
  have h2' : KDict X.K X.w pa es n' := by rw [(c X hX).hK, (c X hX).hw]; exact h2
  have := op_in_kd h2'
  rw [(c X hX).hK] at this
  exact pt_cmpR this (a1 X hX) (pe_glob (show X.env.scope.names.lookup x = _ by rw [(c X hX).hsc]; exact hg) (by rw [(c X hX).hmg]; exact h1) rfl hd) rfl
/-! ### a def that calls itself: how deep, is counted -/
def fnRec (n : Nat) (fb : Fn → List S → Option Fl) : Nat → Fn
  | 0 => fun _ => none
  | d + 1 => fnOf n (fb (fnRec n fb d))
theorem gfnR {x y qual : Str} {st : Stmt} {f : Addr} {fd : FuncData} {N ps : List Str} {m n : Nat} {W : List Nat} {fb : Fn → List S → Option Fl} (F : Fun K x qual st f fd) (hmg : mg y = some (.ref f)) (hbi : Binds K fd ps []) (S' : FnScope N ps (defScope st)) (hm : ps.length = m) (hn : N.length = n) (hmn : m ≤ n) (hW : ∀ i ∈ W, i < n)
    (hb : ∀ (k : Nat) (r : Fn), GFn P w K mg base y k m r → BDef (bodyS P w K mg base N qual (defScope st) f k) K n W (defBody st) (fb r)) : ∀ d, GFn P w K mg base y d m (fnRec n fb d)
  | 0 => ⟨f, fd, ps, ⟨fun vs H Q E h => (by obtain ⟨_, _, _, _, _, _, _, e, _⟩ := h; cases e), fun A o s H ar us vs Q E _ _ _ _ h => (by obtain ⟨_, _, _, _, _, _, _, e, _⟩ := h; cases e)⟩, hmg, F.kp, hbi⟩
  | d + 1 => gfnD F hmg hbi S' hm hn hmn hW (hb d _ (gfnR F hmg hbi S' hm hn hmn hW hb d))
end
end RG

set_option maxRecDepth 100000
set_option maxHeartbeats 4000000
namespace RG
open PySem PySem.Spec PyProof.Rows L2

/-! ### what the module has written -/
def TblOk (K : PySem.W.Frag) (p : Addr) : List (Str × Option D) → Prop
  | [] => True
  | (z, r) :: l => (match r with
    | none => PySem.W.nsIn K p z = some none
    | some d => ∃ u v, PySem.W.nsIn K p z = some (some u) ∧ RelV v u ∧ ∀ H, Rep K H v d []) ∧ TblOk K p l
section
variable {K : PySem.W.Frag} {w : World} {mg : Str → Option Value} {p : Addr}
theorem TblOk.get : ∀ {tbl : List (Str × Option D)} {z : Str} {r : Option D}, TblOk K p tbl → tbl.lookup z = some r → match r with
    | none => PySem.W.nsIn K p z = some none
    | some d => ∃ u v, PySem.W.nsIn K p z = some (some u) ∧ RelV v u ∧ ∀ H, Rep K H v d []
  | [], _, _, _, e => by cases e
  | (y, q) :: l, z, r, h, e => by
    rw [List.lookup_cons] at e
    split at e
    · rename_i hz
      cases e
      have := eq_of_beq hz
      subst this
      exact h.1
    · exact TblOk.get h.2 e
theorem tbl_nil : TblOk K p [] := trivial
theorem tbl_none {z : Str} {l : List (Str × Option D)} (e : PySem.W.nsIn K p z = some none) (h : TblOk K p l) : TblOk K p ((z, none) :: l) := ⟨e, h⟩
theorem tbl_str {z x : Str} {t : Tok} {l : List (Str × Option D)} (e : PySem.W.nsIn K p z = some (some (.str x t))) (h : TblOk K p l) : TblOk K p ((z, some (.str x)) :: l) := ⟨⟨_, .str x, e, ⟨t, rfl⟩, fun H => .str x⟩, h⟩
def strsAre : List Value → List Str → Bool
  | [], [] => true
  | .str y _ :: us, x :: xs => y == x && strsAre us xs
  | _, _ => false
theorem strs_vals : ∀ {us : List Value} {xs : List Str}, strsAre us xs = true → Vals (xs.map V.str) us := by
  intro us
  induction us with
  | nil => intro xs h; cases xs with
    | nil => exact .nil
    | cons x xs => cases h
  | cons u us ih => intro xs h; cases xs with
    | nil => cases u <;> cases h
    | cons x xs =>
      cases u with
      | str y t =>
        simp only [strsAre, Bool.and_eq_true] at h
        have := eq_of_beq h.1
        subst this
        exact .cons ⟨t, rfl⟩ (ih h.2)
      | _ => cases h
theorem sqT_lit {q : Addr} {o : Obj} {us : List Value} {xs : List Str} {n : Nat} (l : K.lookup q = some o) (hc : o.cls = .type "tuple") (hd : o.dict = none) (ho : o.data = .seq us.toArray n) (hs : strsAre us xs = true) (hl : us.length ≤ 1000) (H : Hp) : SqT K H q (xs.map V.str) :=
  .inr ⟨o, us.toArray, n, l, hc, ho, by rw [List.size_toArray, sizeLine_eq]; omega, by simpa using strs_vals hs⟩
theorem tbl_tup {z : Str} {q : Addr} {us : List Value} {xs : List Str} {n : Nat} {sl : Array (Option Value)} {l : List (Str × Option D)} (e : PySem.W.nsIn K p z = some (some (.ref q))) (lq : K.lookup q = some ⟨.type "tuple", none, .seq us.toArray n, sl⟩) (hs : strsAre us xs = true) (h8 : xs.length = 8) (hl : us.length ≤ 1000) (h : TblOk K p l) :
    TblOk K p ((z, some (.tup (xs.map D.str))) :: l) :=
  ⟨⟨_, .ref q, e, rfl, fun H => .tup (sqT_lit lq rfl rfl rfl hs hl H) (.inl (by rw [List.length_map]; exact h8)) (by rw [List.length_map, h8, sizeLine_eq]; decide) (RepL.ofStrs _)⟩, h⟩
theorem gdict_mk {x : Str} {tbl : List (Str × Option D)} {es : Array DictEntry} {n : Nat} (hm : mg x = some (.ref p)) (l : K.lookup p = some ⟨.type "dict", none, .dict es n, #[]⟩) (k : PySem.W.KeysLit w.params es.toList) (lo : (p == sysModules) = false) (h : TblOk K p tbl) : GDict K w mg x tbl :=
  ⟨p, es, n, hm, ⟨l, k, lo⟩, fun z r e => h.get e⟩
theorem gtup_mk {x : Str} {q : Addr} {us : List Value} {xs : List Str} {n : Nat} {sl : Array (Option Value)} (hm : mg x = some (.ref q)) (lq : K.lookup q = some ⟨.type "tuple", none, .seq us.toArray n, sl⟩) (hs : strsAre us xs = true) (h8 : xs.length = 8) (hl : us.length ≤ 1000) : GTup K mg x xs :=
  ⟨q, _, hm, lq, rfl, rfl, sqT_lit lq rfl rfl rfl hs hl, h8⟩
theorem gval_int {x : Str} {i : Int} {t : Tok} (hm : mg x = some (.int i t)) : GVal K mg x (.int i) := ⟨_, .int i, hm, ⟨t, rfl⟩, fun H => .int i⟩
theorem gval_str {x y : Str} {t : Tok} (hm : mg x = some (.str y t)) : GVal K mg x (.str y) := ⟨_, .str y, hm, ⟨t, rfl⟩, fun H => .str y⟩

/-! ### the law at a script -/
theorem sp_law {fn : Fn} {H : Hp} {a : Addr} {ns : List Int} {E : XK} (h : ∃ L1, fn [.t .old (.scr ns)] = some (.bl true, L1)) (hl : ns.length ≤ 63) (hO : Only H) (hS : SqL K H a (ns.map V.int)) : spOf K 1 fn [.ref a] H (fun v _ => v = .bl true) E := by
  obtain ⟨L1, e⟩ := h
  have hS' : Scr K H a (ns.map V.int) := by
    rcases hS with (q | q) | q
    · rcases hO a with z | ⟨o, xs, z⟩
      · rw [z] at q; cases q
      · rw [z] at q; cases q
    · exact .inl q
    · exact .inr q
  refine ⟨[.t .old (.scr ns)], fun _ => [], _, L1, rfl, fun i s e => ?_, ?_, e, fun v H' FS' S => ?_⟩
  · cases i with
    | zero => cases e; exact .inr ⟨_, rfl⟩
    | succ i => cases e
  · have one : ∀ {i : Nat} {s : S}, ([S.t .old (.scr ns)] : List S)[i]? = some s → i = 0 ∧ s = S.t .old (.scr ns) := fun {i s} e => by
      cases i with
      | zero => cases e; exact ⟨rfl, rfl⟩
      | succ i => cases e
    refine ⟨rfl, fun i s d e1 e2 => ?_, fun i s e1 e2 => List.nodup_nil, fun i k d e1 e2 a m => (nomatch m), fun i d e a m => (nomatch m), fun i d e a m => (nomatch m), fun i j s s' hij e1 e2 w1 w2 w3 a m => (nomatch m), fun a o q _ => q, fun a q => q, fun i s e1 e2 => ?_, fun i d e1 => ?_, fun i z => (nomatch z)⟩
    · obtain ⟨rfl, rfl⟩ := one e1
      cases e2
      exact ⟨_, rfl, .scr hS' (by rw [sizeLine_eq]; omega)⟩
    · obtain ⟨rfl, rfl⟩ := one e1
      cases e2
    · obtain ⟨_, z⟩ := one e1
      cases z
  · have len := S.len
    rw [List.length_append, List.length_append, List.length_map] at len
    have hl1 : L1.length = 1 := by simpa using len
    obtain ⟨u, e1, r⟩ := S.rep 1 (.t .own (.bl true)) (.bl true) (by rw [List.getElem?_append_right (by omega), hl1]; rfl) rfl
    have e1 : some (some v) = some (some u) := e1
    cases e1
    exact r.blV
end
end RG

set_option maxRecDepth 100000
set_option maxHeartbeats 4000000
namespace RG
open PySem PySem.Spec PyProof.Rows L2
def top (i : Nat) : Stmt := PySem.Challenge.pw_regionsay_k04_choices_led.main.body.getD i (.Pass ⟨0, 0, 0, 0⟩)
def y_WAYS : List Str := ["apart", "meets", "over", "same", "inrim", "incore", "hasrim", "hascore"]
def t_TURNS : List (Str × Option D) := [("inrim", some (.str "hasrim")), ("hasrim", some (.str "inrim")), ("incore", some (.str "hascore")), ("hascore", some (.str "incore")), ("apart", none), ("meets", none), ("over", none), ("same", none)]
def t_LETTERS : List (Str × Option D) := [("apart", some (.str "a")), ("meets", some (.str "m")), ("over", some (.str "o")), ("same", some (.str "s")), ("inrim", some (.str "r")), ("incore", some (.str "c")), ("hasrim", some (.str "R")), ("hascore", some (.str "C"))]
def t_ROWS : List (Str × Option D) := [("apart", some (.tup [(.str "amosrcRC"), (.str "amorc"), (.str "amorc"), (.str "a"), (.str "amorc"), (.str "amorc"), (.str "a"), (.str "a")])), ("meets", some (.tup [(.str "amoRC"), (.str "amosrR"), (.str "amorc"), (.str "m"), (.str "morc"), (.str "orc"), (.str "am"), (.str "a")])), ("over", some (.tup [(.str "amoRC"), (.str "amoRC"), (.str "amosrcRC"), (.str "o"), (.str "orc"), (.str "orc"), (.str "amoRC"), (.str "amoRC")])), ("same", some (.tup [(.str "a"), (.str "m"), (.str "o"), (.str "s"), (.str "r"), (.str "c"), (.str "R"), (.str "C")])), ("inrim", some (.tup [(.str "a"), (.str "am"), (.str "amorc"), (.str "r"), (.str "rc"), (.str "c"), (.str "amosrR"), (.str "amoRC")])), ("incore", some (.tup [(.str "a"), (.str "a"), (.str "amorc"), (.str "c"), (.str "c"), (.str "c"), (.str "amorc"), (.str "amosrcRC")])), ("hasrim", some (.tup [(.str "amoRC"), (.str "moRC"), (.str "oRC"), (.str "R"), (.str "osrR"), (.str "orc"), (.str "RC"), (.str "C")])), ("hascore", some (.tup [(.str "amoRC"), (.str "oRC"), (.str "oRC"), (.str "C"), (.str "oRC"), (.str "osrcRC"), (.str "C"), (.str "C")]))]
structure Mod (K : PySem.W.Frag) (w : World) (mg : Str → Option Value) : Prop where
  b_bool : mg "bool" = none
  b_dict : mg "dict" = none
  b_int : mg "int" = none
  b_isinstance : mg "isinstance" = none
  b_len : mg "len" = none
  b_list : mg "list" = none
  b_range : mg "range" = none
  b_str : mg "str" = none
  b_tuple : mg "tuple" = none
  t_WAYS : GTup K mg "WAYS" y_WAYS
  d_TURNS : GDict K w mg "TURNS" t_TURNS
  d_LETTERS : GDict K w mg "LETTERS" t_LETTERS
  d_ROWS : GDict K w mg "ROWS" t_ROWS
theorem Mod.v_WAYS {K : PySem.W.Frag} {w : World} {mg : Str → Option Value} (M : Mod K w mg) : GVal K mg "WAYS" (.tup [(.str "apart"), (.str "meets"), (.str "over"), (.str "same"), (.str "inrim"), (.str "incore"), (.str "hasrim"), (.str "hascore")]) := M.t_WAYS.val
section
variable {P : Program} {w : World} {K : PySem.W.Frag} {mg : Str → Option Value} {base : Heap}
abbrev s__law_dice : Stmt := top 9
abbrev N__law_dice : List Str := ["_law_script", "_law_mixed", "_law_cell"]
theorem sc__law_dice : FnScope N__law_dice ["_law_script"] (defScope s__law_dice) := ⟨rfl, rfl, rfl, by decide +kernel, rfl, by decide +kernel, by decide +kernel⟩
def fb__law_dice : List S → Option Fl :=
    (sSeq (sAsg (lift (pC (.int 0))) (gSet 1))
    (sSeq (sFor false (iSq (lift (pVar [] 0))) (gSet 2)
    (sAsg (lift (pOp oMod (pCons (pOp oAdd (pCons (pOp oAdd (pCons (pOp oMul (pCons (pVar [] 1) (pCons (pC (.int 48271)) (fun _ => some [])))) (pCons (pOp oMul (pCons (pOp oMod (pCons (pVar [] 2) (pCons (pC (.int 2147483647)) (fun _ => some [])))) (pCons (pC (.int 69621)) (fun _ => some [])))) (fun _ => some [])))) (pCons (pC (.int 11)) (fun _ => some [])))) (pCons (pC (.int 2147483647)) (fun _ => some []))))) (gSet 1)))
    (sRet (eOp oLst (aCons false (lift (pVar [] 0)) (aCons false (lift (pC (.int 0))) (aCons false (lift (pOp oMul (pCons (pVar [] 1) (pCons (pOp oInt (pCons (pOp oGt (pCons (pOp oLen (pCons (pVar [] 0) (fun _ => some []))) (pCons (pC (.int 2)) (fun _ => some [])))) (fun _ => some []))) (fun _ => some []))))) (aCons false (lift (pC (.int 0))) (fun env => some ([], env))))))))))
theorem b__law_dice {f : Addr} (M : Mod K w mg) : BDef (bodyS P w K mg base N__law_dice "_law_dice" (defScope s__law_dice) f 0) K 3 [] (defBody s__law_dice) (fb__law_dice) := by
  have c := ctx_body (P := P) (w := w) (K := K) (mg := mg) (base := base) (sc := defScope s__law_dice) (qual := "_law_dice") (f := f) (k := 0) sc__law_dice.nd
  exact BDef.of (bss_cons (bs_set (i := 1) c rfl (Or.inl rfl) (by decide) fnx_body (be_p bp_int))
    (bss_cons (bs_for c (bi_sq c (be_p (bp_var (i := 0) c rfl (Or.inl rfl) (by decide)))) (bg_name (i := 2) c rfl (Or.inl rfl) (by decide) fnx_body)
    (bss_one (bs_set (i := 1) c rfl (Or.inl rfl) (by decide) fnx_body (be_p (bp_bin opa_mod vop_mod (bp_bin opa_add vop_add (bp_bin opa_add vop_add (bp_bin opa_mul vop_mul (bp_var (i := 1) c rfl (Or.inl rfl) (by decide)) bp_int) (bp_bin opa_mul vop_mul (bp_bin opa_mod vop_mod (bp_var (i := 2) c rfl (Or.inl rfl) (by decide)) bp_int) bp_int)) bp_int) bp_int)))))
    (bss_one (bs_ret (be_lst (ba_cons (be_p (bp_var (i := 0) c rfl (Or.inl rfl) (by decide))) (ba_cons (be_p bp_int) (ba_cons (be_p (bp_bin opa_mul vop_mul (bp_var (i := 1) c rfl (Or.inl rfl) (by decide)) (bp_callTy c clr_int vop_toInt rfl M.b_int PyProof.Rows.boot_int (bpa_cons (bp_cmp opa_gt vop_gt (bp_callB c (clr_len c) vop_len rfl M.b_len PySem.boot_len (bpa_cons (bp_var (i := 0) c rfl (Or.inl rfl) (by decide)) bpa_nil)) bp_int rfl) bpa_nil)))) (ba_cons (be_p bp_int) ba_nil)))))))))
def fn__law_dice : Fn := fnOf 3 fb__law_dice

abbrev s__law_ways : Stmt := top 12
abbrev N__law_ways : List Str := []
theorem sc__law_ways : FnScope N__law_ways [] (defScope s__law_ways) := ⟨rfl, rfl, rfl, by decide +kernel, rfl, by decide +kernel, by decide +kernel⟩
def fb__law_ways : List S → Option Fl :=
    (sRet (eOp oLst (aCons false (lift (pC (.str "apart"))) (aCons false (lift (pC (.str "meets"))) (aCons false (lift (pC (.str "over"))) (aCons false (lift (pC (.str "same"))) (aCons false (lift (pC (.str "inrim"))) (aCons false (lift (pC (.str "incore"))) (aCons false (lift (pC (.str "hasrim"))) (aCons false (lift (pC (.str "hascore"))) (fun env => some ([], env))))))))))))
theorem b__law_ways {f : Addr} (M : Mod K w mg) : BDef (bodyS P w K mg base N__law_ways "_law_ways" (defScope s__law_ways) f 0) K 0 [] (defBody s__law_ways) (fb__law_ways) := by
  have c := ctx_body (P := P) (w := w) (K := K) (mg := mg) (base := base) (sc := defScope s__law_ways) (qual := "_law_ways") (f := f) (k := 0) sc__law_ways.nd
  exact BDef.of (bss_one (bs_ret (be_lst (ba_cons (be_p bp_str) (ba_cons (be_p bp_str) (ba_cons (be_p bp_str) (ba_cons (be_p bp_str) (ba_cons (be_p bp_str) (ba_cons (be_p bp_str) (ba_cons (be_p bp_str) (ba_cons (be_p bp_str) ba_nil)))))))))))
def fn__law_ways : Fn := fnOf 0 fb__law_ways

abbrev s__law_next : Stmt := top 10
abbrev N__law_next : List Str := ["_law_dice_here", "_law_many", "_law_found", "_law_cell"]
theorem sc__law_next : FnScope N__law_next ["_law_dice_here", "_law_many"] (defScope s__law_next) := ⟨rfl, rfl, rfl, by decide +kernel, rfl, by decide +kernel, by decide +kernel⟩
def fb__law_next : List S → Option Fl :=
    (sSeq (sIf (bE (lift (pOp oGt (pCons (pOp oIx (pCons (pVar [] 0) (pCons (pC (.int 3)) (fun _ => some [])))) (pCons (pC (.int 0)) (fun _ => some []))))))
    (sSeq (sAsg (lift (pOp oMod (pCons (pOp oIx (pCons (pVar [] 0) (pCons (pC (.int 3)) (fun _ => some [])))) (pCons (pVar [] 1) (fun _ => some []))))) (gSet 2))
    (sSeq (sPut 0 oSetL (lift (pOp oDiv (pCons (pOp oIx (pCons (pVar [] 0) (pCons (pC (.int 3)) (fun _ => some [])))) (pCons (pVar [] 1) (fun _ => some []))))) (lift (pC (.int 3))))
    (sRet (eTake 2))))
    (fun env => some (.nx env)))
    (sSeq (sPut 0 oSetL (lift (pOp oAdd (pCons (pOp oIx (pCons (pVar [] 0) (pCons (pC (.int 1)) (fun _ => some [])))) (pCons (pC (.int 1)) (fun _ => some []))))) (lift (pC (.int 1))))
    (sSeq (sIf (bE (lift (pOp oLe (pCons (pOp oIx (pCons (pVar [] 0) (pCons (pC (.int 1)) (fun _ => some [])))) (pCons (pOp oLen (pCons (pOp oIx (pCons (pVar [] 0) (pCons (pC (.int 0)) (fun _ => some [])))) (fun _ => some []))) (fun _ => some []))))))
    (sSeq (sAsg (lift (pOp oIx (pCons (pOp oIx (pCons (pVar [] 0) (pCons (pC (.int 0)) (fun _ => some [])))) (pCons (pOp oSub (pCons (pOp oIx (pCons (pVar [] 0) (pCons (pC (.int 1)) (fun _ => some [])))) (pCons (pC (.int 1)) (fun _ => some [])))) (fun _ => some []))))) (gSet 3))
    (sSeq (sPut 0 oSetL (eIf (bE (lift (pOp oGe (pCons (pVar [] 3) (pCons (pOp oPow (pCons (pC (.int 10)) (pCons (pC (.int 18)) (fun _ => some [])))) (fun _ => some [])))))) (lift (pOp oDiv (pCons (pVar [] 3) (pCons (pVar [] 1) (fun _ => some []))))) (lift (pC (.int 0)))) (lift (pC (.int 3))))
    (sRet (lift (pOp oMod (pCons (pVar [] 3) (pCons (pVar [] 1) (fun _ => some []))))))))
    (fun env => some (.nx env)))
    (sSeq (sPut 0 oSetL (lift (pOp oMod (pCons (pOp oMul (pCons (pOp oIx (pCons (pVar [] 0) (pCons (pC (.int 2)) (fun _ => some [])))) (pCons (pC (.int 48271)) (fun _ => some [])))) (pCons (pC (.int 2147483647)) (fun _ => some []))))) (lift (pC (.int 2))))
    (sRet (lift (pOp oMod (pCons (pOp oDiv (pCons (pOp oIx (pCons (pVar [] 0) (pCons (pC (.int 2)) (fun _ => some [])))) (pCons (pC (.int 7)) (fun _ => some [])))) (pCons (pVar [] 1) (fun _ => some []))))))))))
theorem b__law_next {f : Addr} (M : Mod K w mg) : BDef (bodyS P w K mg base N__law_next "_law_next" (defScope s__law_next) f 0) K 4 [] (defBody s__law_next) (fb__law_next) := by
  have c := ctx_body (P := P) (w := w) (K := K) (mg := mg) (base := base) (sc := defScope s__law_next) (qual := "_law_next") (f := f) (k := 0) sc__law_next.nd
  exact BDef.of (bss_cons (bs_if (btp_cmp opa_gt vop_gt (bp_ix c (bp_var (i := 0) c rfl (Or.inl rfl) (by decide)) bp_int (fun _ _ => rfl)) bp_int rfl)
    (bss_cons (bs_set (i := 2) c rfl (Or.inl rfl) (by decide) fnx_body (be_p (bp_bin opa_mod vop_mod (bp_ix c (bp_var (i := 0) c rfl (Or.inl rfl) (by decide)) bp_int (fun _ _ => rfl)) (bp_var (i := 1) c rfl (Or.inl rfl) (by decide)))))
    (bss_cons (bs_lput (i := 0) c rfl (Or.inl rfl) (by decide) (be_p (bp_bin opa_div vop_div (bp_ix c (bp_var (i := 0) c rfl (Or.inl rfl) (by decide)) bp_int (fun _ _ => rfl)) (bp_var (i := 1) c rfl (Or.inl rfl) (by decide)))) (be_p bp_int))
    (bss_one (bs_ret (be_take (i := 2) c rfl (Or.inl rfl) (by decide))))))
    bss_nil)
    (bss_cons (bs_lput (i := 0) c rfl (Or.inl rfl) (by decide) (be_p (bp_bin opa_add vop_add (bp_ix c (bp_var (i := 0) c rfl (Or.inl rfl) (by decide)) bp_int (fun _ _ => rfl)) bp_int)) (be_p bp_int))
    (bss_cons (bs_if (btp_cmp opa_le vop_le (bp_ix c (bp_var (i := 0) c rfl (Or.inl rfl) (by decide)) bp_int (fun _ _ => rfl)) (bp_callB c (clr_len c) vop_len rfl M.b_len PySem.boot_len (bpa_cons (bp_ix c (bp_var (i := 0) c rfl (Or.inl rfl) (by decide)) bp_int (fun _ _ => rfl)) bpa_nil)) rfl)
    (bss_cons (bs_set (i := 3) c rfl (Or.inl rfl) (by decide) fnx_body (be_p (bp_ix c (bp_ix c (bp_var (i := 0) c rfl (Or.inl rfl) (by decide)) bp_int (fun _ _ => rfl)) (bp_bin opa_sub vop_sub (bp_ix c (bp_var (i := 0) c rfl (Or.inl rfl) (by decide)) bp_int (fun _ _ => rfl)) bp_int) (fun _ _ => rfl))))
    (bss_cons (bs_lput (i := 0) c rfl (Or.inl rfl) (by decide) (be_if (btp_cmp opa_ge vop_ge (bp_var (i := 3) c rfl (Or.inl rfl) (by decide)) (bp_bin opa_pow vop_pow bp_int bp_int) rfl) (be_p (bp_bin opa_div vop_div (bp_var (i := 3) c rfl (Or.inl rfl) (by decide)) (bp_var (i := 1) c rfl (Or.inl rfl) (by decide)))) (be_p bp_int)) (be_p bp_int))
    (bss_one (bs_ret (be_p (bp_bin opa_mod vop_mod (bp_var (i := 3) c rfl (Or.inl rfl) (by decide)) (bp_var (i := 1) c rfl (Or.inl rfl) (by decide))))))))
    bss_nil)
    (bss_cons (bs_lput (i := 0) c rfl (Or.inl rfl) (by decide) (be_p (bp_bin opa_mod vop_mod (bp_bin opa_mul vop_mul (bp_ix c (bp_var (i := 0) c rfl (Or.inl rfl) (by decide)) bp_int (fun _ _ => rfl)) bp_int) bp_int)) (be_p bp_int))
    (bss_one (bs_ret (be_p (bp_bin opa_mod vop_mod (bp_bin opa_div vop_div (bp_ix c (bp_var (i := 0) c rfl (Or.inl rfl) (by decide)) bp_int (fun _ _ => rfl)) bp_int) (bp_var (i := 1) c rfl (Or.inl rfl) (by decide))))))))))
def fn__law_next : Fn := fnOf 4 fb__law_next

abbrev s__law_bits : Stmt := top 15
abbrev N__law_bits : List Str := ["_law_d", "_law_kind", "_law_way"]
theorem sc__law_bits : FnScope N__law_bits ["_law_d"] (defScope s__law_bits) := ⟨rfl, rfl, rfl, by decide +kernel, rfl, by decide +kernel, by decide +kernel⟩
def fb__law_bits : List S → Option Fl :=
    (sSeq (sAsg (eCall 2 [0] fn__law_next (aPtr 0 (aCons false (lift (pC (.int 4))) (fun env => some ([], env))))) (gSet 1))
    (sSeq (sIf (bE (lift (pOp oEq (pCons (pVar [0] 1) (pCons (pC (.int 0)) (fun _ => some []))))))
    (sRet (eOp oTup (aCons false (eOp oIx (aCons false (eCall 0 [0] fn__law_ways (fun env => some ([], env))) (aCons false (eCall 2 [0] fn__law_next (aPtr 0 (aCons false (lift (pC (.int 8))) (fun env => some ([], env))))) (fun env => some ([], env))))) (fun env => some ([], env)))))
    (fun env => some (.nx env)))
    (sSeq (sIf (bE (lift (pOp oEq (pCons (pVar [0] 1) (pCons (pC (.int 1)) (fun _ => some []))))))
    (sRet (eOp oIx (aCons false (eOp oLst (aCons false (lift (pOp oTup (fun _ => some []))) (aCons false (eOp oTuple (aCons false (eCall 0 [0] fn__law_ways (fun env => some ([], env))) (fun env => some ([], env)))) (fun env => some ([], env))))) (aCons false (eCall 2 [0] fn__law_next (aPtr 0 (aCons false (lift (pC (.int 2))) (fun env => some ([], env))))) (fun env => some ([], env))))))
    (fun env => some (.nx env)))
    (sRet (eOp oTuple (aCons false (eComp [2] (iSq (eCall 0 [0] fn__law_ways (fun env => some ([], env)))) (gSet 2) (bE (eOp oEq (aCons false (eCall 2 [0] fn__law_next (aPtr 0 (aCons false (lift (pC (.int 2))) (fun env => some ([], env))))) (aCons false (lift (pC (.int 1))) (fun env => some ([], env)))))) (lift (pVar [0] 2))) (fun env => some ([], env))))))))
theorem b__law_bits {f : Addr} (G__law_next : GFn P w K mg base "_law_next" 1 2 fn__law_next) (G__law_ways : GFn P w K mg base "_law_ways" 1 0 fn__law_ways) (M : Mod K w mg) : BDef (bodyS P w K mg base N__law_bits "_law_bits" (defScope s__law_bits) f 1) K 3 [0] (defBody s__law_bits) (fb__law_bits) := by
  have c := ctx_body (P := P) (w := w) (K := K) (mg := mg) (base := base) (sc := defScope s__law_bits) (qual := "_law_bits") (f := f) (k := 1) sc__law_bits.nd
  exact BDef.of (bss_cons (bs_set (i := 1) c rfl (Or.inl rfl) (by decide) fnx_body (be_call c G__law_next (by decide) rfl (ba_ptr (i := 0) c rfl (Or.inr (Or.inl rfl)) (by decide) (ba_cons (be_p bp_int) ba_nil))))
    (bss_cons (bs_if (btp_cmp (opa_eq c) vop_eq (bp_var (i := 1) c rfl (Or.inl rfl) (by decide)) bp_int rfl)
    (bss_one (bs_ret (be_tup (ba_cons (be_ix c (be_call0 c G__law_ways (by decide) rfl) (be_call c G__law_next (by decide) rfl (ba_ptr (i := 0) c rfl (Or.inr (Or.inl rfl)) (by decide) (ba_cons (be_p bp_int) ba_nil))) (fun _ _ => rfl)) ba_nil))))
    bss_nil)
    (bss_cons (bs_if (btp_cmp (opa_eq c) vop_eq (bp_var (i := 1) c rfl (Or.inl rfl) (by decide)) bp_int rfl)
    (bss_one (bs_ret (be_ix c (be_lst (ba_cons (be_p (bp_tup bpa_nil)) (ba_cons (be_callTy c (clr_tuple c) vop_tuple rfl M.b_tuple PyProof.Rows.boot_tuple (ba_cons (be_call0 c G__law_ways (by decide) rfl) ba_nil)) ba_nil))) (be_call c G__law_next (by decide) rfl (ba_ptr (i := 0) c rfl (Or.inr (Or.inl rfl)) (by decide) (ba_cons (be_p bp_int) ba_nil))) (fun _ _ => rfl))))
    bss_nil)
    (bss_one (bs_ret (be_callTy c (clr_tuple c) vop_tuple rfl M.b_tuple PyProof.Rows.boot_tuple (ba_cons (be_comp c (bi_sq c (be_call0 c G__law_ways (by decide) rfl)) (own := [("_law_way", 2)]) (by decide +kernel) (bg_name (i := 2) (ctx_blk c) rfl (Or.inl rfl) (by decide) (fnx_local (ctx_blk c) rfl)) (bts_one (bt_cmp (opa_eq (ctx_blk c)) vop_eq (be_call (ctx_blk c) G__law_next (by decide) rfl (ba_ptr (i := 0) (ctx_blk c) rfl (Or.inr (Or.inl rfl)) (by decide) (ba_cons (be_p bp_int) ba_nil))) (be_p bp_int) rfl)) (be_p (bp_var (i := 2) (ctx_blk c) rfl (Or.inl rfl) (by decide))) (by decide) (by decide)) ba_nil)))))))
def fn__law_bits : Fn := fnOf 3 fb__law_bits

abbrev s__law_like : Stmt := top 11
abbrev N__law_like : List Str := ["_law_found", "_law_due", "_law_key", "_law_k"]
theorem sc__law_like : FnScope N__law_like ["_law_found", "_law_due"] (defScope s__law_like) := ⟨rfl, rfl, rfl, by decide +kernel, rfl, by decide +kernel, by decide +kernel⟩
def fb__law_like (r : Fn) : List S → Option Fl :=
    (sSeq (sIf (bE (lift (pIsi "bool" (pVar [] 1))))
    (sRet (eB (bAnd (bE (lift (pIsi "bool" (pVar [] 0)))) (bE (lift (pOp oEq (pCons (pVar [] 0) (pCons (pVar [] 1) (fun _ => some [])))))))))
    (fun env => some (.nx env)))
    (sSeq (sIf (bE (lift (pIsi "str" (pVar [] 1))))
    (sRet (eB (bAnd (bE (lift (pIsi "str" (pVar [] 0)))) (bE (lift (pOp oEq (pCons (pVar [] 0) (pCons (pVar [] 1) (fun _ => some [])))))))))
    (fun env => some (.nx env)))
    (sSeq (sIf (bE (lift (pIsi "int" (pVar [] 1))))
    (sRet (eB (bAnd (bE (lift (pIsi "int" (pVar [] 0)))) (bE (eB (bAnd (bE (eB (bNot (bE (lift (pIsi "bool" (pVar [] 0))))))) (bE (lift (pOp oEq (pCons (pVar [] 0) (pCons (pVar [] 1) (fun _ => some []))))))))))))
    (fun env => some (.nx env)))
    (sSeq (sIf (bE (lift (pOp oIsN (pCons (pVar [] 1) (pCons (pC .non) (fun _ => some []))))))
    (sRet (lift (pOp oIsN (pCons (pVar [] 0) (pCons (pC .non) (fun _ => some []))))))
    (fun env => some (.nx env)))
    (sSeq (sIf (bE (lift (pIsi "dict" (pVar [] 1))))
    (sSeq (sIf (bOr (bNot (bE (lift (pIsi "dict" (pVar [] 0))))) (bE (lift (pOp oNe (pCons (pOp oLen (pCons (pVar [] 0) (fun _ => some []))) (pCons (pOp oLen (pCons (pVar [] 1) (fun _ => some []))) (fun _ => some [])))))))
    (sRet (lift (pC (.bl false))))
    (fun env => some (.nx env)))
    (sRet (eOp oEq (aCons false (eComp [2] (iSq (lift (pVar [] 1))) (gSet 2) (bOr (bE (lift (pOp oNotInA (pCons (pVar [] 2) (pCons (pVar [] 0) (fun _ => some [])))))) (bNot (bE (eCall 2 [] r (aCons false (lift (pOp oIx (pCons (pVar [] 0) (pCons (pVar [] 2) (fun _ => some []))))) (aCons false (lift (pOp oIx (pCons (pVar [] 1) (pCons (pVar [] 2) (fun _ => some []))))) (fun env => some ([], env)))))))) (lift (pVar [] 2))) (aCons false (lift (pOp oLst (fun _ => some []))) (fun env => some ([], env)))))))
    (fun env => some (.nx env)))
    (sSeq (sIf (bOr (bE (lift (pOp oNe (pCons (pIsi "tuple" (pVar [] 1)) (pCons (pIsi "tuple" (pVar [] 0)) (fun _ => some [])))))) (bE (lift (pOp oNe (pCons (pIsi "list" (pVar [] 1)) (pCons (pIsi "list" (pVar [] 0)) (fun _ => some [])))))))
    (sRet (lift (pC (.bl false))))
    (fun env => some (.nx env)))
    (sSeq (sIf (bE (lift (pOp oNe (pCons (pOp oLen (pCons (pVar [] 0) (fun _ => some []))) (pCons (pOp oLen (pCons (pVar [] 1) (fun _ => some []))) (fun _ => some []))))))
    (sRet (lift (pC (.bl false))))
    (fun env => some (.nx env)))
    (sSeq (sFor false (iRange1 (lift (pOp oLen (pCons (pVar [] 1) (fun _ => some []))))) (gSet 3)
    (sIf (bNot (bE (eCall 2 [] r (aCons false (lift (pOp oIx (pCons (pVar [] 0) (pCons (pVar [] 3) (fun _ => some []))))) (aCons false (lift (pOp oIx (pCons (pVar [] 1) (pCons (pVar [] 3) (fun _ => some []))))) (fun env => some ([], env)))))))
    (sRet (lift (pC (.bl false))))
    (fun env => some (.nx env))))
    (sRet (lift (pC (.bl true))))))))))))
theorem b__law_like {f : Addr} {r : Fn} {k : Nat} (G__law_like : GFn P w K mg base "_law_like" k 2 r) (M : Mod K w mg) : BDef (bodyS P w K mg base N__law_like "_law_like" (defScope s__law_like) f k) K 4 [] (defBody s__law_like) (fb__law_like r) := by
  have c := ctx_body (P := P) (w := w) (K := K) (mg := mg) (base := base) (sc := defScope s__law_like) (qual := "_law_like") (f := f) (k := k) sc__law_like.nd
  exact BDef.of (bss_cons (bs_if (bt_val (be_p (bp_isi c (bp_var (i := 1) c rfl (Or.inr (Or.inl rfl)) (by decide)) rfl M.b_isinstance rfl M.b_bool PyProof.Rows.boot_bool PyProof.Rows.boot_isinstance)))
    (bss_one (bs_ret (be_and (be_p (bp_isi c (bp_var (i := 0) c rfl (Or.inr (Or.inl rfl)) (by decide)) rfl M.b_isinstance rfl M.b_bool PyProof.Rows.boot_bool PyProof.Rows.boot_isinstance)) (be_one (be_p (bp_cmp (opa_eq c) vop_eq (bp_var (i := 0) c rfl (Or.inr (Or.inl rfl)) (by decide)) (bp_var (i := 1) c rfl (Or.inr (Or.inl rfl)) (by decide)) rfl))))))
    bss_nil)
    (bss_cons (bs_if (bt_val (be_p (bp_isi c (bp_var (i := 1) c rfl (Or.inr (Or.inl rfl)) (by decide)) rfl M.b_isinstance rfl M.b_str PyProof.Rows.boot_str PyProof.Rows.boot_isinstance)))
    (bss_one (bs_ret (be_and (be_p (bp_isi c (bp_var (i := 0) c rfl (Or.inr (Or.inl rfl)) (by decide)) rfl M.b_isinstance rfl M.b_str PyProof.Rows.boot_str PyProof.Rows.boot_isinstance)) (be_one (be_p (bp_cmp (opa_eq c) vop_eq (bp_var (i := 0) c rfl (Or.inr (Or.inl rfl)) (by decide)) (bp_var (i := 1) c rfl (Or.inr (Or.inl rfl)) (by decide)) rfl))))))
    bss_nil)
    (bss_cons (bs_if (bt_val (be_p (bp_isi c (bp_var (i := 1) c rfl (Or.inr (Or.inl rfl)) (by decide)) rfl M.b_isinstance rfl M.b_int PyProof.Rows.boot_int PyProof.Rows.boot_isinstance)))
    (bss_one (bs_ret (be_and (be_p (bp_isi c (bp_var (i := 0) c rfl (Or.inr (Or.inl rfl)) (by decide)) rfl M.b_isinstance rfl M.b_int PyProof.Rows.boot_int PyProof.Rows.boot_isinstance)) (be_and (be_not (be_p (bp_isi c (bp_var (i := 0) c rfl (Or.inr (Or.inl rfl)) (by decide)) rfl M.b_isinstance rfl M.b_bool PyProof.Rows.boot_bool PyProof.Rows.boot_isinstance))) (be_one (be_p (bp_cmp (opa_eq c) vop_eq (bp_var (i := 0) c rfl (Or.inr (Or.inl rfl)) (by decide)) (bp_var (i := 1) c rfl (Or.inr (Or.inl rfl)) (by decide)) rfl)))))))
    bss_nil)
    (bss_cons (bs_if (btp_cmp opa_isN vop_isN (bp_var (i := 1) c rfl (Or.inr (Or.inl rfl)) (by decide)) bp_non rfl)
    (bss_one (bs_ret (be_p (bp_cmp opa_isN vop_isN (bp_var (i := 0) c rfl (Or.inr (Or.inl rfl)) (by decide)) bp_non rfl))))
    bss_nil)
    (bss_cons (bs_if (bt_val (be_p (bp_isi c (bp_var (i := 1) c rfl (Or.inr (Or.inl rfl)) (by decide)) rfl M.b_isinstance rfl M.b_dict PyProof.Rows.boot_dict PyProof.Rows.boot_isinstance)))
    (bss_cons (bs_if (bt_w (bw_or (bt_not (bt_val (be_p (bp_isi c (bp_var (i := 0) c rfl (Or.inr (Or.inl rfl)) (by decide)) rfl M.b_isinstance rfl M.b_dict PyProof.Rows.boot_dict PyProof.Rows.boot_isinstance)))) (bw_or1 (btp_cmp (opa_ne c) vop_ne (bp_callB c (clr_len c) vop_len rfl M.b_len PySem.boot_len (bpa_cons (bp_var (i := 0) c rfl (Or.inr (Or.inl rfl)) (by decide)) bpa_nil)) (bp_callB c (clr_len c) vop_len rfl M.b_len PySem.boot_len (bpa_cons (bp_var (i := 1) c rfl (Or.inr (Or.inl rfl)) (by decide)) bpa_nil)) rfl))))
    (bss_one (bs_ret (be_p bp_bl)))
    bss_nil)
    (bss_one (bs_ret (be_cmp (opa_eq c) vop_eq (be_comp c (bi_sq c (be_p (bp_var (i := 1) c rfl (Or.inr (Or.inl rfl)) (by decide)))) (own := [("_law_key", 2)]) (by decide +kernel) (bg_name (i := 2) (ctx_blk c) rfl (Or.inl rfl) (by decide) (fnx_local (ctx_blk c) rfl)) (bts_one (bt_w (bw_or (btp_cmp (opa_notInA (ctx_blk c)) vop_notInA (bp_var (i := 2) (ctx_blk c) rfl (Or.inl rfl) (by decide)) (bp_var (i := 0) (ctx_blk c) rfl (Or.inr (Or.inl rfl)) (by decide)) rfl) (bw_or1 (bt_not (bt_val (be_call (ctx_blk c) G__law_like (Nat.le_refl _) rfl (ba_cons (be_p (bp_ix (ctx_blk c) (bp_var (i := 0) (ctx_blk c) rfl (Or.inr (Or.inl rfl)) (by decide)) (bp_var (i := 2) (ctx_blk c) rfl (Or.inl rfl) (by decide)) (fun _ _ => rfl))) (ba_cons (be_p (bp_ix (ctx_blk c) (bp_var (i := 1) (ctx_blk c) rfl (Or.inr (Or.inl rfl)) (by decide)) (bp_var (i := 2) (ctx_blk c) rfl (Or.inl rfl) (by decide)) (fun _ _ => rfl))) ba_nil))))))))) (be_p (bp_var (i := 2) (ctx_blk c) rfl (Or.inl rfl) (by decide))) (by decide) (by decide)) (be_p (bp_lst bpa_nil)) rfl))))
    bss_nil)
    (bss_cons (bs_if (bt_w (bw_or (btp_cmp (opa_ne c) vop_ne (bp_isi c (bp_var (i := 1) c rfl (Or.inr (Or.inl rfl)) (by decide)) rfl M.b_isinstance rfl M.b_tuple PyProof.Rows.boot_tuple PyProof.Rows.boot_isinstance) (bp_isi c (bp_var (i := 0) c rfl (Or.inr (Or.inl rfl)) (by decide)) rfl M.b_isinstance rfl M.b_tuple PyProof.Rows.boot_tuple PyProof.Rows.boot_isinstance) rfl) (bw_or1 (btp_cmp (opa_ne c) vop_ne (bp_isi c (bp_var (i := 1) c rfl (Or.inr (Or.inl rfl)) (by decide)) rfl M.b_isinstance rfl M.b_list PyProof.Rows.boot_list PyProof.Rows.boot_isinstance) (bp_isi c (bp_var (i := 0) c rfl (Or.inr (Or.inl rfl)) (by decide)) rfl M.b_isinstance rfl M.b_list PyProof.Rows.boot_list PyProof.Rows.boot_isinstance) rfl))))
    (bss_one (bs_ret (be_p bp_bl)))
    bss_nil)
    (bss_cons (bs_if (btp_cmp (opa_ne c) vop_ne (bp_callB c (clr_len c) vop_len rfl M.b_len PySem.boot_len (bpa_cons (bp_var (i := 0) c rfl (Or.inr (Or.inl rfl)) (by decide)) bpa_nil)) (bp_callB c (clr_len c) vop_len rfl M.b_len PySem.boot_len (bpa_cons (bp_var (i := 1) c rfl (Or.inr (Or.inl rfl)) (by decide)) bpa_nil)) rfl)
    (bss_one (bs_ret (be_p bp_bl)))
    bss_nil)
    (bss_cons (bs_for c (bi_range1 c rfl M.b_range (be_p (bp_callB c (clr_len c) vop_len rfl M.b_len PySem.boot_len (bpa_cons (bp_var (i := 1) c rfl (Or.inr (Or.inl rfl)) (by decide)) bpa_nil)))) (bg_name (i := 3) c rfl (Or.inl rfl) (by decide) fnx_body)
    (bss_one (bs_if (bt_not (bt_val (be_call c G__law_like (Nat.le_refl _) rfl (ba_cons (be_p (bp_ix c (bp_var (i := 0) c rfl (Or.inr (Or.inl rfl)) (by decide)) (bp_var (i := 3) c rfl (Or.inl rfl) (by decide)) (fun _ _ => rfl))) (ba_cons (be_p (bp_ix c (bp_var (i := 1) c rfl (Or.inr (Or.inl rfl)) (by decide)) (bp_var (i := 3) c rfl (Or.inl rfl) (by decide)) (fun _ _ => rfl))) ba_nil)))))
    (bss_one (bs_ret (be_p bp_bl)))
    bss_nil)))
    (bss_one (bs_ret (be_p bp_bl)))))))))))
def fn__law_like : Fn := fnRec 4 fb__law_like 5

abbrev s_turned : Stmt := top 5
abbrev N_turned : List Str := ["way"]
theorem sc_turned : FnScope N_turned ["way"] (defScope s_turned) := ⟨rfl, rfl, rfl, by decide +kernel, rfl, by decide +kernel, by decide +kernel⟩
def fb_turned : List S → Option Fl :=
    (sSeq (sIf (bE (eOp (oGIn t_TURNS) (aCons false (lift (pVar [] 0)) (fun env => some ([], env)))))
    (sRet (eOp (oGIx t_TURNS) (aCons false (lift (pVar [] 0)) (fun env => some ([], env)))))
    (fun env => some (.nx env)))
    (sRet (lift (pVar [] 0))))
theorem b_turned {f : Addr} (M : Mod K w mg) : BDef (bodyS P w K mg base N_turned "turned" (defScope s_turned) f 0) K 1 [] (defBody s_turned) (fb_turned) := by
  have c := ctx_body (P := P) (w := w) (K := K) (mg := mg) (base := base) (sc := defScope s_turned) (qual := "turned") (f := f) (k := 0) sc_turned.nd
  exact BDef.of (bss_cons (bs_if (bt_gin c rfl M.d_TURNS (be_p (bp_var (i := 0) c rfl (Or.inl rfl) (by decide))))
    (bss_one (bs_ret (be_gix c rfl M.d_TURNS (be_p (bp_var (i := 0) c rfl (Or.inl rfl) (by decide))) (fun _ _ => rfl))))
    bss_nil)
    (bss_one (bs_ret (be_p (bp_var (i := 0) c rfl (Or.inl rfl) (by decide))))))
def fn_turned : Fn := fnOf 1 fb_turned

abbrev s_led_choices : Stmt := top 7
abbrev N_led_choices : List Str := ["ones", "others", "letters", "one", "other", "way"]
theorem sc_led_choices : FnScope N_led_choices ["ones", "others"] (defScope s_led_choices) := ⟨rfl, rfl, rfl, by decide +kernel, rfl, by decide +kernel, by decide +kernel⟩
def fb_led_choices : List S → Option Fl :=
    (sSeq (sAsg (lift (pC (.str ""))) (gSet 2))
    (sSeq (sFor false (iSq (lift (pVar [] 0))) (gSet 3)
    (sFor false (iSq (lift (pVar [] 1))) (gSet 4)
    (sAsg (eOp oAdd (aCons false (lift (pVar [] 2)) (aCons false (eOp oIx (aCons false (eOp (oGIx t_ROWS) (aCons false (lift (pVar [] 3)) (fun env => some ([], env)))) (aCons false (eOp (oTIdx y_WAYS) (aCons false (lift (pVar [] 4)) (fun env => some ([], env)))) (fun env => some ([], env))))) (fun env => some ([], env))))) (gSet 2))))
    (sRet (eOp oTuple (aCons false (eComp [5] (iSq (lift (pC (.tup [(.str "apart"), (.str "meets"), (.str "over"), (.str "same"), (.str "inrim"), (.str "incore"), (.str "hasrim"), (.str "hascore")])))) (gSet 5) (bE (eOp oInA (aCons false (eOp (oGIx t_LETTERS) (aCons false (lift (pVar [] 5)) (fun env => some ([], env)))) (aCons false (lift (pVar [] 2)) (fun env => some ([], env)))))) (lift (pVar [] 5))) (fun env => some ([], env)))))))
theorem b_led_choices {f : Addr} (M : Mod K w mg) : BDef (bodyS P w K mg base N_led_choices "led_choices" (defScope s_led_choices) f 0) K 6 [] (defBody s_led_choices) (fb_led_choices) := by
  have c := ctx_body (P := P) (w := w) (K := K) (mg := mg) (base := base) (sc := defScope s_led_choices) (qual := "led_choices") (f := f) (k := 0) sc_led_choices.nd
  exact BDef.of (bss_cons (bs_set (i := 2) c rfl (Or.inr rfl) (by decide) fnx_body (be_p bp_str))
    (bss_cons (bs_for c (bi_sq c (be_p (bp_var (i := 0) c rfl (Or.inl rfl) (by decide)))) (bg_name (i := 3) c rfl (Or.inl rfl) (by decide) fnx_body)
    (bss_one (bs_for c (bi_sq c (be_p (bp_var (i := 1) c rfl (Or.inl rfl) (by decide)))) (bg_name (i := 4) c rfl (Or.inl rfl) (by decide) fnx_body)
    (bss_one (bs_set (i := 2) c rfl (Or.inr rfl) (by decide) fnx_body (be_bin opa_add vop_add (be_p (bp_var (i := 2) c rfl (Or.inr (Or.inl rfl)) (by decide))) (be_ix c (be_gix c rfl M.d_ROWS (be_p (bp_var (i := 3) c rfl (Or.inl rfl) (by decide))) (fun _ _ => rfl)) (be_tidx c rfl M.t_WAYS (be_p (bp_var (i := 4) c rfl (Or.inl rfl) (by decide)))) (fun _ _ => rfl))))))))
    (bss_one (bs_ret (be_callTy c (clr_tuple c) vop_tuple rfl M.b_tuple PyProof.Rows.boot_tuple (ba_cons (be_comp c (bi_sq c (be_p (bp_glob c rfl M.v_WAYS))) (own := [("way", 5)]) (by decide +kernel) (bg_name (i := 5) (ctx_blk c) rfl (Or.inl rfl) (by decide) (fnx_local (ctx_blk c) rfl)) (bts_one (bt_cmp (opa_inA (ctx_blk c)) vop_inA (be_gix (ctx_blk c) rfl M.d_LETTERS (be_p (bp_var (i := 5) (ctx_blk c) rfl (Or.inl rfl) (by decide))) (fun _ _ => rfl)) (be_p (bp_var (i := 2) (ctx_blk c) rfl (Or.inr (Or.inl rfl)) (by decide))) rfl)) (be_p (bp_var (i := 5) (ctx_blk c) rfl (Or.inl rfl) (by decide))) (by decide) (by decide)) ba_nil))))))
def fn_led_choices : Fn := fnOf 6 fb_led_choices

abbrev s__law_led : Stmt := top 14
abbrev N__law_led : List Str := ["_law_one", "_law_other", "_law_rows"]
theorem sc__law_led : FnScope N__law_led ["_law_one", "_law_other"] (defScope s__law_led) := ⟨rfl, rfl, rfl, by decide +kernel, rfl, by decide +kernel, by decide +kernel⟩
def fb__law_led : List S → Option Fl :=
    (sSeq (sAsg (lift (pDisp [(.inr "apart", (.str "amosrcRC amorc amorc a amorc amorc a a")), (.inr "meets", (.str "amoRC amosrR amorc m morc orc am a"))])) (gSet 2))
    (sSeq (sPut 2 oDPut (lift (pC (.str "amoRC amoRC amosrcRC o orc orc amoRC amoRC"))) (lift (pC (.str "over"))))
    (sSeq (sPut 2 oDPut (lift (pC (.str "a m o s r c R C"))) (lift (pC (.str "same"))))
    (sSeq (sPut 2 oDPut (lift (pC (.str "a am amorc r rc c amosrR amoRC"))) (lift (pC (.str "inrim"))))
    (sSeq (sPut 2 oDPut (lift (pC (.str "a a amorc c c c amorc amosrcRC"))) (lift (pC (.str "incore"))))
    (sSeq (sPut 2 oDPut (lift (pC (.str "amoRC moRC oRC R osrR orc RC C"))) (lift (pC (.str "hasrim"))))
    (sSeq (sPut 2 oDPut (lift (pC (.str "amoRC oRC oRC C oRC osrcRC C C"))) (lift (pC (.str "hascore"))))
    (sRet (eOp oIx (aCons false (eOp oSplit (aConsT "str" false (lift (pOp oIx (pCons (pVar [] 2) (pCons (pVar [] 0) (fun _ => some []))))) (aCons false (lift (pC (.str " "))) (fun env => some ([], env))))) (aCons false (eOp oIndex (aConsT "list" false (eCall 0 [] fn__law_ways (fun env => some ([], env))) (aCons false (lift (pVar [] 1)) (fun env => some ([], env))))) (fun env => some ([], env)))))))))))))
theorem b__law_led {f : Addr} (G__law_ways : GFn P w K mg base "_law_ways" 1 0 fn__law_ways) (M : Mod K w mg) : BDef (bodyS P w K mg base N__law_led "_law_led" (defScope s__law_led) f 1) K 3 [] (defBody s__law_led) (fb__law_led) := by
  have c := ctx_body (P := P) (w := w) (K := K) (mg := mg) (base := base) (sc := defScope s__law_led) (qual := "_law_led") (f := f) (k := 1) sc__law_led.nd
  exact BDef.of (bss_cons (bs_set (i := 2) c rfl (Or.inl rfl) (by decide) fnx_body (be_p (bp_dispC (bd_ss (bd_ss bd_nil)) (by decide) rfl)))
    (bss_cons (bs_dput (i := 2) c rfl (Or.inl rfl) (by decide) (be_p bp_str) (be_p bp_str))
    (bss_cons (bs_dput (i := 2) c rfl (Or.inl rfl) (by decide) (be_p bp_str) (be_p bp_str))
    (bss_cons (bs_dput (i := 2) c rfl (Or.inl rfl) (by decide) (be_p bp_str) (be_p bp_str))
    (bss_cons (bs_dput (i := 2) c rfl (Or.inl rfl) (by decide) (be_p bp_str) (be_p bp_str))
    (bss_cons (bs_dput (i := 2) c rfl (Or.inl rfl) (by decide) (be_p bp_str) (be_p bp_str))
    (bss_cons (bs_dput (i := 2) c rfl (Or.inl rfl) (by decide) (be_p bp_str) (be_p bp_str))
    (bss_one (bs_ret (be_ix c (be_meth c PySem.F.plainAttrs_str PySem.F.slot_str_split PySem.F.type_str_split (fun _ _ => mt_split) vop_split (be_p (bp_ix c (bp_var (i := 2) c rfl (Or.inl rfl) (by decide)) (bp_var (i := 0) c rfl (Or.inl rfl) (by decide)) (fun _ _ => rfl))) (ba_cons (be_p bp_str) ba_nil)) (be_meth c PySem.F.plainAttrs_list PySem.F.slot_list_index PySem.F.type_list_index (mtr_index c) vop_index (be_call0 c G__law_ways (by decide) rfl) (ba_cons (be_p (bp_var (i := 1) c rfl (Or.inl rfl) (by decide))) ba_nil)) (fun _ _ => rfl)))))))))))
def fn__law_led : Fn := fnOf 3 fb__law_led

abbrev s__law_union : Stmt := top 16
abbrev N__law_union : List Str := ["_law_ones", "_law_others", "_law_letters", "_law_one", "_law_other", "_law_k"]
theorem sc__law_union : FnScope N__law_union ["_law_ones", "_law_others"] (defScope s__law_union) := ⟨rfl, rfl, rfl, by decide +kernel, rfl, by decide +kernel, by decide +kernel⟩
def fb__law_union : List S → Option Fl :=
    (sSeq (sAsg (lift (pC (.str ""))) (gSet 2))
    (sSeq (sFor false (iSq (lift (pVar [] 0))) (gSet 3)
    (sFor false (iSq (lift (pVar [] 1))) (gSet 4)
    (sAsg (eOp oAdd (aCons false (lift (pVar [] 2)) (aCons false (eCall 2 [] fn__law_led (aCons false (lift (pVar [] 3)) (aCons false (lift (pVar [] 4)) (fun env => some ([], env))))) (fun env => some ([], env))))) (gSet 2))))
    (sRet (eOp oTuple (aCons false (eComp [5] (iRange1 (lift (pC (.int 8)))) (gSet 5) (bE (lift (pOp oInA (pCons (pOp oIx (pCons (pC (.str "amosrcRC")) (pCons (pVar [] 5) (fun _ => some [])))) (pCons (pVar [] 2) (fun _ => some [])))))) (eOp oIx (aCons false (eCall 0 [] fn__law_ways (fun env => some ([], env))) (aCons false (lift (pVar [] 5)) (fun env => some ([], env)))))) (fun env => some ([], env)))))))
theorem b__law_union {f : Addr} (G__law_led : GFn P w K mg base "_law_led" 2 2 fn__law_led) (G__law_ways : GFn P w K mg base "_law_ways" 1 0 fn__law_ways) (M : Mod K w mg) : BDef (bodyS P w K mg base N__law_union "_law_union" (defScope s__law_union) f 2) K 6 [] (defBody s__law_union) (fb__law_union) := by
  have c := ctx_body (P := P) (w := w) (K := K) (mg := mg) (base := base) (sc := defScope s__law_union) (qual := "_law_union") (f := f) (k := 2) sc__law_union.nd
  exact BDef.of (bss_cons (bs_set (i := 2) c rfl (Or.inr rfl) (by decide) fnx_body (be_p bp_str))
    (bss_cons (bs_for c (bi_sq c (be_p (bp_var (i := 0) c rfl (Or.inl rfl) (by decide)))) (bg_name (i := 3) c rfl (Or.inl rfl) (by decide) fnx_body)
    (bss_one (bs_for c (bi_sq c (be_p (bp_var (i := 1) c rfl (Or.inl rfl) (by decide)))) (bg_name (i := 4) c rfl (Or.inl rfl) (by decide) fnx_body)
    (bss_one (bs_set (i := 2) c rfl (Or.inr rfl) (by decide) fnx_body (be_bin opa_add vop_add (be_p (bp_var (i := 2) c rfl (Or.inr (Or.inl rfl)) (by decide))) (be_call c G__law_led (by decide) rfl (ba_cons (be_p (bp_var (i := 3) c rfl (Or.inl rfl) (by decide))) (ba_cons (be_p (bp_var (i := 4) c rfl (Or.inl rfl) (by decide))) ba_nil)))))))))
    (bss_one (bs_ret (be_callTy c (clr_tuple c) vop_tuple rfl M.b_tuple PyProof.Rows.boot_tuple (ba_cons (be_comp c (bi_range1 c rfl M.b_range (be_p bp_int)) (own := [("_law_k", 5)]) (by decide +kernel) (bg_name (i := 5) (ctx_blk c) rfl (Or.inl rfl) (by decide) (fnx_local (ctx_blk c) rfl)) (bts_one (btp_cmp (opa_inA (ctx_blk c)) vop_inA (bp_ix (ctx_blk c) bp_str (bp_var (i := 5) (ctx_blk c) rfl (Or.inl rfl) (by decide)) (fun _ _ => rfl)) (bp_var (i := 2) (ctx_blk c) rfl (Or.inr (Or.inl rfl)) (by decide)) rfl)) (be_ix (ctx_blk c) (be_call0 (ctx_blk c) G__law_ways (by decide) rfl) (be_p (bp_var (i := 5) (ctx_blk c) rfl (Or.inl rfl) (by decide))) (fun _ _ => rfl)) (by decide) (by decide)) ba_nil))))))
def fn__law_union : Fn := fnOf 6 fb__law_union

abbrev s__law_turned : Stmt := top 13
abbrev N__law_turned : List Str := ["_law_choice", "_law_turns", "_law_found", "_law_way"]
theorem sc__law_turned : FnScope N__law_turned ["_law_choice"] (defScope s__law_turned) := ⟨rfl, rfl, rfl, by decide +kernel, rfl, by decide +kernel, by decide +kernel⟩
def fb__law_turned : List S → Option Fl :=
    (sSeq (sAsg (lift (pDisp [(.inr "inrim", (.str "hasrim")), (.inr "hasrim", (.str "inrim")), (.inr "incore", (.str "hascore")), (.inr "hascore", (.str "incore"))])) (gSet 1))
    (sSeq (sAsg (eComp [3] (iSq (lift (pVar [] 0))) (gSet 3) (fun env => some (true, env)) (eOp oGet2 (aConsD false (lift (pVar [] 1)) (aCons false (lift (pVar [] 3)) (aCons false (lift (pVar [] 3)) (fun env => some ([], env))))))) (gSet 2))
    (sRet (eOp oTuple (aCons false (eComp [3] (iSq (eCall 0 [] fn__law_ways (fun env => some ([], env)))) (gSet 3) (bE (lift (pOp oInA (pCons (pVar [] 3) (pCons (pVar [] 2) (fun _ => some [])))))) (lift (pVar [] 3))) (fun env => some ([], env)))))))
theorem b__law_turned {f : Addr} (G__law_ways : GFn P w K mg base "_law_ways" 1 0 fn__law_ways) (M : Mod K w mg) : BDef (bodyS P w K mg base N__law_turned "_law_turned" (defScope s__law_turned) f 1) K 4 [] (defBody s__law_turned) (fb__law_turned) := by
  have c := ctx_body (P := P) (w := w) (K := K) (mg := mg) (base := base) (sc := defScope s__law_turned) (qual := "_law_turned") (f := f) (k := 1) sc__law_turned.nd
  exact BDef.of (bss_cons (bs_set (i := 1) c rfl (Or.inr rfl) (by decide) fnx_body (be_p (bp_dispC (bd_ss (bd_ss (bd_ss (bd_ss bd_nil)))) (by decide) rfl)))
    (bss_cons (bs_setC (i := 2) c rfl rfl (by decide) fnx_body (be_comp c (bi_sq c (be_p (bp_var (i := 0) c rfl (Or.inl rfl) (by decide)))) (own := [("_law_way", 3)]) (by decide +kernel) (bg_name (i := 3) (ctx_blk c) rfl (Or.inl rfl) (by decide) (fnx_local (ctx_blk c) rfl)) bts_nil (be_get2 (ctx_blk c) (be_p (bp_var (i := 1) (ctx_blk c) rfl (Or.inr (Or.inl rfl)) (by decide))) (be_p (bp_var (i := 3) (ctx_blk c) rfl (Or.inl rfl) (by decide))) (be_p (bp_var (i := 3) (ctx_blk c) rfl (Or.inl rfl) (by decide))) m2_get) (by decide) (by decide)))
    (bss_one (bs_ret (be_callTy c (clr_tuple c) vop_tuple rfl M.b_tuple PyProof.Rows.boot_tuple (ba_cons (be_comp c (bi_sq c (be_call0 c G__law_ways (by decide) rfl)) (own := [("_law_way", 3)]) (by decide +kernel) (bg_name (i := 3) (ctx_blk c) rfl (Or.inl rfl) (by decide) (fnx_local (ctx_blk c) rfl)) (bts_one (btp_cmp (opa_inA (ctx_blk c)) vop_inA (bp_var (i := 3) (ctx_blk c) rfl (Or.inl rfl) (by decide)) (bp_var (i := 2) (ctx_blk c) rfl (Or.inr (Or.inl rfl)) (by decide)) rfl)) (be_p (bp_var (i := 3) (ctx_blk c) rfl (Or.inl rfl) (by decide))) (by decide) (by decide)) ba_nil))))))
def fn__law_turned : Fn := fnOf 4 fb__law_turned

abbrev s_led : Stmt := top 6
abbrev N_led : List Str := ["one", "other", "letters", "way"]
theorem sc_led : FnScope N_led ["one", "other"] (defScope s_led) := ⟨rfl, rfl, rfl, by decide +kernel, rfl, by decide +kernel, by decide +kernel⟩
def fb_led : List S → Option Fl :=
    (sSeq (sAsg (eOp oIx (aCons false (eOp (oGIx t_ROWS) (aCons false (lift (pVar [] 0)) (fun env => some ([], env)))) (aCons false (eOp (oTIdx y_WAYS) (aCons false (lift (pVar [] 1)) (fun env => some ([], env)))) (fun env => some ([], env))))) (gSet 2))
    (sRet (eOp oTuple (aCons false (eComp [3] (iSq (lift (pC (.tup [(.str "apart"), (.str "meets"), (.str "over"), (.str "same"), (.str "inrim"), (.str "incore"), (.str "hasrim"), (.str "hascore")])))) (gSet 3) (bE (eOp oInA (aCons false (eOp (oGIx t_LETTERS) (aCons false (lift (pVar [] 3)) (fun env => some ([], env)))) (aCons false (lift (pVar [] 2)) (fun env => some ([], env)))))) (lift (pVar [] 3))) (fun env => some ([], env))))))
theorem b_led {f : Addr} (M : Mod K w mg) : BDef (bodyS P w K mg base N_led "led" (defScope s_led) f 0) K 4 [] (defBody s_led) (fb_led) := by
  have c := ctx_body (P := P) (w := w) (K := K) (mg := mg) (base := base) (sc := defScope s_led) (qual := "led") (f := f) (k := 0) sc_led.nd
  exact BDef.of (bss_cons (bs_set (i := 2) c rfl (Or.inr rfl) (by decide) fnx_body (be_ix c (be_gix c rfl M.d_ROWS (be_p (bp_var (i := 0) c rfl (Or.inl rfl) (by decide))) (fun _ _ => rfl)) (be_tidx c rfl M.t_WAYS (be_p (bp_var (i := 1) c rfl (Or.inl rfl) (by decide)))) (fun _ _ => rfl)))
    (bss_one (bs_ret (be_callTy c (clr_tuple c) vop_tuple rfl M.b_tuple PyProof.Rows.boot_tuple (ba_cons (be_comp c (bi_sq c (be_p (bp_glob c rfl M.v_WAYS))) (own := [("way", 3)]) (by decide +kernel) (bg_name (i := 3) (ctx_blk c) rfl (Or.inl rfl) (by decide) (fnx_local (ctx_blk c) rfl)) (bts_one (bt_cmp (opa_inA (ctx_blk c)) vop_inA (be_gix (ctx_blk c) rfl M.d_LETTERS (be_p (bp_var (i := 3) (ctx_blk c) rfl (Or.inl rfl) (by decide))) (fun _ _ => rfl)) (be_p (bp_var (i := 2) (ctx_blk c) rfl (Or.inr (Or.inl rfl)) (by decide))) rfl)) (be_p (bp_var (i := 3) (ctx_blk c) rfl (Or.inl rfl) (by decide))) (by decide) (by decide)) ba_nil)))))
def fn_led : Fn := fnOf 4 fb_led

abbrev s_law : Stmt := top 17
abbrev N_law : List Str := ["_law_script", "_law_d", "_law_one", "_law_other", "_law_turn", "_law_ones", "_law_others"]
theorem sc_law : FnScope N_law ["_law_script"] (defScope s_law) := ⟨rfl, rfl, rfl, by decide +kernel, rfl, by decide +kernel, by decide +kernel⟩
def fb_law : List S → Option Fl :=
    (sSeq (sAsg (eCall 1 [1] fn__law_dice (aCons false (lift (pVar [1] 0)) (fun env => some ([], env)))) (gSet 1))
    (sSeq (sFor false (iSq (eCall 0 [1] fn__law_ways (fun env => some ([], env)))) (gSet 2)
    (sSeq (sIf (bNot (bE (eCall 2 [1] fn__law_like (aCons false (eCall 1 [1] fn_turned (aCons false (lift (pVar [1] 2)) (fun env => some ([], env)))) (aCons false (eOp oIx (aCons false (eCall 1 [1] fn__law_turned (aCons false (eOp oTup (aCons false (lift (pVar [1] 2)) (fun env => some ([], env)))) (fun env => some ([], env)))) (aCons false (lift (pC (.int 0))) (fun env => some ([], env))))) (fun env => some ([], env)))))))
    (sRet (lift (pC (.bl false))))
    (fun env => some (.nx env)))
    (sFor false (iSq (eCall 0 [1] fn__law_ways (fun env => some ([], env)))) (gSet 3)
    (sIf (bNot (bE (eCall 2 [1] fn__law_like (aCons false (eCall 2 [1] fn_led (aCons false (lift (pVar [1] 2)) (aCons false (lift (pVar [1] 3)) (fun env => some ([], env))))) (aCons false (eCall 2 [1] fn__law_union (aCons false (eOp oTup (aCons false (lift (pVar [1] 2)) (fun env => some ([], env)))) (aCons false (eOp oTup (aCons false (lift (pVar [1] 3)) (fun env => some ([], env)))) (fun env => some ([], env))))) (fun env => some ([], env)))))))
    (sRet (lift (pC (.bl false))))
    (fun env => some (.nx env))))))
    (sSeq (sFor false (iRange1 (lift (pC (.int 6)))) (gSet 4)
    (sSeq (sAsg (eCall 1 [1] fn__law_bits (aPtr 1 (fun env => some ([], env)))) (gSet 5))
    (sSeq (sAsg (eCall 1 [1] fn__law_bits (aPtr 1 (fun env => some ([], env)))) (gSet 6))
    (sIf (bNot (bE (eCall 2 [1] fn__law_like (aCons false (eCall 2 [1] fn_led_choices (aCons false (lift (pVar [1] 5)) (aCons false (lift (pVar [1] 6)) (fun env => some ([], env))))) (aCons false (eCall 2 [1] fn__law_union (aCons false (lift (pVar [1] 5)) (aCons false (lift (pVar [1] 6)) (fun env => some ([], env))))) (fun env => some ([], env)))))))
    (sRet (lift (pC (.bl false))))
    (fun env => some (.nx env))))))
    (sRet (lift (pC (.bl true)))))))
theorem b_law {f : Addr} (G__law_bits : GFn P w K mg base "_law_bits" 2 1 fn__law_bits) (G__law_dice : GFn P w K mg base "_law_dice" 1 1 fn__law_dice) (G__law_like : GFn P w K mg base "_law_like" 5 2 fn__law_like) (G__law_turned : GFn P w K mg base "_law_turned" 2 1 fn__law_turned) (G__law_union : GFn P w K mg base "_law_union" 3 2 fn__law_union) (G__law_ways : GFn P w K mg base "_law_ways" 1 0 fn__law_ways) (G_led : GFn P w K mg base "led" 1 2 fn_led) (G_led_choices : GFn P w K mg base "led_choices" 1 2 fn_led_choices) (G_turned : GFn P w K mg base "turned" 1 1 fn_turned) (M : Mod K w mg) : BDef (bodyS P w K mg base N_law "law" (defScope s_law) f 5) K 7 [1] (defBody s_law) (fb_law) := by
  have c := ctx_body (P := P) (w := w) (K := K) (mg := mg) (base := base) (sc := defScope s_law) (qual := "law") (f := f) (k := 5) sc_law.nd
  exact BDef.of (bss_cons (bs_set (i := 1) c rfl (Or.inl rfl) (by decide) fnx_body (be_call c G__law_dice (by decide) rfl (ba_cons (be_p (bp_var (i := 0) c rfl (Or.inl rfl) (by decide))) ba_nil)))
    (bss_cons (bs_for c (bi_sq c (be_call0 c G__law_ways (by decide) rfl)) (bg_name (i := 2) c rfl (Or.inl rfl) (by decide) fnx_body)
    (bss_cons (bs_if (bt_not (bt_val (be_call c G__law_like (by decide) rfl (ba_cons (be_call c G_turned (by decide) rfl (ba_cons (be_p (bp_var (i := 2) c rfl (Or.inl rfl) (by decide))) ba_nil)) (ba_cons (be_ix c (be_call c G__law_turned (by decide) rfl (ba_cons (be_tup (ba_cons (be_p (bp_var (i := 2) c rfl (Or.inl rfl) (by decide))) ba_nil)) ba_nil)) (be_p bp_int) (fun _ _ => rfl)) ba_nil)))))
    (bss_one (bs_ret (be_p bp_bl)))
    bss_nil)
    (bss_one (bs_for c (bi_sq c (be_call0 c G__law_ways (by decide) rfl)) (bg_name (i := 3) c rfl (Or.inl rfl) (by decide) fnx_body)
    (bss_one (bs_if (bt_not (bt_val (be_call c G__law_like (by decide) rfl (ba_cons (be_call c G_led (by decide) rfl (ba_cons (be_p (bp_var (i := 2) c rfl (Or.inl rfl) (by decide))) (ba_cons (be_p (bp_var (i := 3) c rfl (Or.inl rfl) (by decide))) ba_nil))) (ba_cons (be_call c G__law_union (by decide) rfl (ba_cons (be_tup (ba_cons (be_p (bp_var (i := 2) c rfl (Or.inl rfl) (by decide))) ba_nil)) (ba_cons (be_tup (ba_cons (be_p (bp_var (i := 3) c rfl (Or.inl rfl) (by decide))) ba_nil)) ba_nil))) ba_nil)))))
    (bss_one (bs_ret (be_p bp_bl)))
    bss_nil))))))
    (bss_cons (bs_for c (bi_range1 c rfl M.b_range (be_p bp_int)) (bg_name (i := 4) c rfl (Or.inl rfl) (by decide) fnx_body)
    (bss_cons (bs_set (i := 5) c rfl (Or.inl rfl) (by decide) fnx_body (be_call c G__law_bits (by decide) rfl (ba_ptr (i := 1) c rfl (Or.inl rfl) (by decide) ba_nil)))
    (bss_cons (bs_set (i := 6) c rfl (Or.inl rfl) (by decide) fnx_body (be_call c G__law_bits (by decide) rfl (ba_ptr (i := 1) c rfl (Or.inl rfl) (by decide) ba_nil)))
    (bss_one (bs_if (bt_not (bt_val (be_call c G__law_like (by decide) rfl (ba_cons (be_call c G_led_choices (by decide) rfl (ba_cons (be_p (bp_var (i := 5) c rfl (Or.inl rfl) (by decide))) (ba_cons (be_p (bp_var (i := 6) c rfl (Or.inl rfl) (by decide))) ba_nil))) (ba_cons (be_call c G__law_union (by decide) rfl (ba_cons (be_p (bp_var (i := 5) c rfl (Or.inl rfl) (by decide))) (ba_cons (be_p (bp_var (i := 6) c rfl (Or.inl rfl) (by decide))) ba_nil))) ba_nil)))))
    (bss_one (bs_ret (be_p bp_bl)))
    bss_nil)))))
    (bss_one (bs_ret (be_p bp_bl))))))
def fn_law : Fn := fnOf 7 fb_law
end
end RG

set_option maxRecDepth 100000
set_option maxHeartbeats 4000000
namespace RG
open PySem PySem.Spec PyProof.Rows L2

theorem sk_t_own_t : srcK true .own true = some (.own, .own) := rfl
theorem sk_t_own_f : srcK true .own false = some (.frz, .frz) := rfl
theorem sk_t_frz_t : srcK true .frz true = some (.frz, .own) := rfl
theorem sk_t_frz_f : srcK true .frz false = some (.frz, .frz) := rfl
theorem sk_t_old_t : srcK true .old true = some (.old, .own) := rfl
theorem sk_t_old_f : srcK true .old false = some (.old, .old) := rfl
theorem sk_t_val_t : srcK true .val true = some (.val, .own) := rfl
theorem sk_t_val_f : srcK true .val false = some (.val, .val) := rfl
theorem sk_t_bor_t : srcK true .bor true = some (.own, .own) := rfl
theorem sk_t_bor_f : srcK true .bor false = none := rfl
theorem sk_f_own_t : srcK false .own true = some (.own, .own) := rfl
theorem sk_f_own_f : srcK false .own false = some (.frz, .frz) := rfl
theorem sk_f_frz_t : srcK false .frz true = some (.frz, .own) := rfl
theorem sk_f_frz_f : srcK false .frz false = some (.frz, .frz) := rfl
theorem sk_f_old_t : srcK false .old true = some (.old, .own) := rfl
theorem sk_f_old_f : srcK false .old false = some (.old, .old) := rfl
theorem sk_f_val_t : srcK false .val true = some (.val, .own) := rfl
theorem sk_f_val_f : srcK false .val false = some (.val, .val) := rfl
theorem sk_f_bor_t : srcK false .bor true = none := rfl
theorem sk_f_bor_f : srcK false .bor false = none := rfl
theorem oEq_int (i j : Int) : oEq [.int i, .int j] = some (.imm, .bl (decide (i = j))) := by
  simp [oEq, D.pure, D.py, PyData.eqv, SeqAt.shaped, PyData.canLay0, PyData.depth]
  try (by_cases h : i = j <;> simp [h])
theorem oNe_int (i j : Int) : oNe [.int i, .int j] = some (.imm, .bl (!decide (i = j))) := by
  simp [oNe, D.pure, D.py, PyData.eqv, SeqAt.shaped, PyData.canLay0, PyData.depth]
  try (by_cases h : i = j <;> simp [h])
theorem oNe_bl (i j : Bool) : oNe [.bl i, .bl j] = some (.imm, .bl (!(i == j))) := by
  cases i <;> cases j <;> rfl
theorem oEq_str (i j : Str) (hi : PyData.strOk i = true) (hj : PyData.strOk j = true) : oEq [.str i, .str j] = some (.imm, .bl (i == j)) := by
  simp [oEq, D.pure, D.py, PyData.eqv, SeqAt.shaped, PyData.canLay0, PyData.depth, hi, hj]
/-! ### the dice -/
def die (ns : List Int) (i m h : Int) : D := .lst [.scr ns, .int i, .int m, .int h]
theorem next_ok (ns : List Int) (i m h many : Int) (hi : 0 ≤ i) (h0 : 0 < many) (h1 : many < 1073741824) : ∃ r i' m' h', 0 ≤ i' ∧ 0 ≤ r ∧ r < many ∧ fn__law_next [.io (die ns i m h), .t .old (.int many)] = some (.int r, [.io (die ns i' m' h'), .gone]) := by
  unfold fn__law_next fnOf fb__law_next die
  by_cases hh : 0 < h
  · refine ⟨h % many, i, m, h / many, hi, Int.emod_nonneg _ (by omega), Int.emod_lt_of_pos _ h0, ?_⟩
    simp [sSeq, sIf, bE, lift, pOp, pCons, pVar, oIx, atI, ixN, oGt, oGe, oLe, oLen, sAsg, gSet, oMod, sPut, oSetL, oDiv, oAdd, oSub, oMul, oPow, T.sl, pC, S.get, S.with, tt1, D.isTy, D.flat, D.flats, sRet, eTake, outs, S.only, Rk.pk, pJoin, Tk.join, Rk.kind, eIf, eOp, aCons, tmps, kJoin, aPtr, eCall, argS, wb, ptrs, S.back, S.wr, S.d?, S.isBor, oTup, oLst, oTuple, oInt, iSq, iSeqL, iSeqT, sk_t_own_t, sk_t_own_f, sk_t_frz_t, sk_t_frz_f, sk_t_old_t, sk_t_old_f, sk_t_val_t, sk_t_val_f, sk_t_bor_t, sk_t_bor_f, sk_f_own_t, sk_f_own_f, sk_f_frz_t, sk_f_frz_f, sk_f_old_t, sk_f_old_f, sk_f_val_t, sk_f_val_f, sk_f_bor_t, sk_f_bor_f, sFor, sLoop, Tk.mix, S.clean, wipeE, oList, bNot, bAnd, bOr, eB, pIsi, D.tyn, iRange1, hh, h0, h1]
  · by_cases hl : i + 1 ≤ ns.length
    · have hlt : i < (ns.length : Int) := by omega
      have hb : i.toNat < ns.length := by omega
      by_cases hg : (1000000000000000000 : Int) ≤ ns[i.toNat]
      · refine ⟨ns[i.toNat] % many, i + 1, m, ns[i.toNat] / many, by omega, Int.emod_nonneg _ (by omega), Int.emod_lt_of_pos _ h0, ?_⟩
        simp [sSeq, sIf, bE, lift, pOp, pCons, pVar, oIx, atI, ixN, oGt, oGe, oLe, oLen, sAsg, gSet, oMod, sPut, oSetL, oDiv, oAdd, oSub, oMul, oPow, T.sl, pC, S.get, S.with, tt1, D.isTy, D.flat, D.flats, sRet, eTake, outs, S.only, Rk.pk, pJoin, Tk.join, Rk.kind, eIf, eOp, aCons, tmps, kJoin, aPtr, eCall, argS, wb, ptrs, S.back, S.wr, S.d?, S.isBor, oTup, oLst, oTuple, oInt, iSq, iSeqL, iSeqT, sk_t_own_t, sk_t_own_f, sk_t_frz_t, sk_t_frz_f, sk_t_old_t, sk_t_old_f, sk_t_val_t, sk_t_val_f, sk_t_bor_t, sk_t_bor_f, sk_f_own_t, sk_f_own_f, sk_f_frz_t, sk_f_frz_f, sk_f_old_t, sk_f_old_f, sk_f_val_t, sk_f_val_f, sk_f_bor_t, sk_f_bor_f, sFor, sLoop, Tk.mix, S.clean, wipeE, oList, bNot, bAnd, bOr, eB, pIsi, D.tyn, iRange1, hh, h0, h1, hl, hlt, hg, hi]
      · refine ⟨ns[i.toNat] % many, i + 1, m, 0, by omega, Int.emod_nonneg _ (by omega), Int.emod_lt_of_pos _ h0, ?_⟩
        simp [sSeq, sIf, bE, lift, pOp, pCons, pVar, oIx, atI, ixN, oGt, oGe, oLe, oLen, sAsg, gSet, oMod, sPut, oSetL, oDiv, oAdd, oSub, oMul, oPow, T.sl, pC, S.get, S.with, tt1, D.isTy, D.flat, D.flats, sRet, eTake, outs, S.only, Rk.pk, pJoin, Tk.join, Rk.kind, eIf, eOp, aCons, tmps, kJoin, aPtr, eCall, argS, wb, ptrs, S.back, S.wr, S.d?, S.isBor, oTup, oLst, oTuple, oInt, iSq, iSeqL, iSeqT, sk_t_own_t, sk_t_own_f, sk_t_frz_t, sk_t_frz_f, sk_t_old_t, sk_t_old_f, sk_t_val_t, sk_t_val_f, sk_t_bor_t, sk_t_bor_f, sk_f_own_t, sk_f_own_f, sk_f_frz_t, sk_f_frz_f, sk_f_old_t, sk_f_old_f, sk_f_val_t, sk_f_val_f, sk_f_bor_t, sk_f_bor_f, sFor, sLoop, Tk.mix, S.clean, wipeE, oList, bNot, bAnd, bOr, eB, pIsi, D.tyn, iRange1, hh, h0, h1, hl, hlt, hg, hi]
    · refine ⟨m * 48271 % 2147483647 / 7 % many, i + 1, m * 48271 % 2147483647, h, by omega, Int.emod_nonneg _ (by omega), Int.emod_lt_of_pos _ h0, ?_⟩
      simp [sSeq, sIf, bE, lift, pOp, pCons, pVar, oIx, atI, ixN, oGt, oGe, oLe, oLen, sAsg, gSet, oMod, sPut, oSetL, oDiv, oAdd, oSub, oMul, oPow, T.sl, pC, S.get, S.with, tt1, D.isTy, D.flat, D.flats, sRet, eTake, outs, S.only, Rk.pk, pJoin, Tk.join, Rk.kind, eIf, eOp, aCons, tmps, kJoin, aPtr, eCall, argS, wb, ptrs, S.back, S.wr, S.d?, S.isBor, oTup, oLst, oTuple, oInt, iSq, iSeqL, iSeqT, sk_t_own_t, sk_t_own_f, sk_t_frz_t, sk_t_frz_f, sk_t_old_t, sk_t_old_f, sk_t_val_t, sk_t_val_f, sk_t_bor_t, sk_t_bor_f, sk_f_own_t, sk_f_own_f, sk_f_frz_t, sk_f_frz_f, sk_f_old_t, sk_f_old_f, sk_f_val_t, sk_f_val_f, sk_f_bor_t, sk_f_bor_f, sFor, sLoop, Tk.mix, S.clean, wipeE, oList, bNot, bAnd, bOr, eB, pIsi, D.tyn, iRange1, hh, h0, h1, hl]
theorem dice_loop : ∀ (cs : List Int) (d : D) (k : Tk) (x : Int) (s : S), ∃ y s', sLoop (gSet 2) (sAsg (lift (pOp oMod (pCons (pOp oAdd (pCons (pOp oAdd (pCons (pOp oMul (pCons (pVar [] 1) (pCons (pC (.int 48271)) (fun _ => some [])))) (pCons (pOp oMul (pCons (pOp oMod (pCons (pVar [] 2) (pCons (pC (.int 2147483647)) (fun _ => some [])))) (pCons (pC (.int 69621)) (fun _ => some [])))) (fun _ => some [])))) (pCons (pC (.int 11)) (fun _ => some [])))) (pCons (pC (.int 2147483647)) (fun _ => some []))))) (gSet 1)) (cs.map fun i => (Tk.own, D.int i)) [.t k d, .t .own (.int x), s] = some (.nx [.t k d, .t .own (.int y), s'])
  | [], d, k, x, s => ⟨x, s, rfl⟩
  | c :: cs, d, k, x, s => by
    obtain ⟨y, s', e⟩ := dice_loop cs d k ((x * 48271 + c % 2147483647 * 69621 + 11) % 2147483647) (.t .own (.int c))
    refine ⟨y, s', ?_⟩
    rw [← e]
    simp [sSeq, sIf, bE, lift, pOp, pCons, pVar, oIx, atI, ixN, oGt, oGe, oLe, oLen, sAsg, gSet, oMod, sPut, oSetL, oDiv, oAdd, oSub, oMul, oPow, T.sl, pC, S.get, S.with, tt1, D.isTy, D.flat, D.flats, sRet, eTake, outs, S.only, Rk.pk, pJoin, Tk.join, Rk.kind, eIf, eOp, aCons, tmps, kJoin, aPtr, eCall, argS, wb, ptrs, S.back, S.wr, S.d?, S.isBor, oTup, oLst, oTuple, oInt, iSq, iSeqL, iSeqT, sk_t_own_t, sk_t_own_f, sk_t_frz_t, sk_t_frz_f, sk_t_old_t, sk_t_old_f, sk_t_val_t, sk_t_val_f, sk_t_bor_t, sk_t_bor_f, sk_f_own_t, sk_f_own_f, sk_f_frz_t, sk_f_frz_f, sk_f_old_t, sk_f_old_f, sk_f_val_t, sk_f_val_f, sk_f_bor_t, sk_f_bor_f, sFor, sLoop, Tk.mix, S.clean, wipeE, oList, bNot, bAnd, bOr, eB, pIsi, D.tyn, iRange1]
theorem dice_ok (ns : List Int) : ∃ m, fn__law_dice [.t .old (.scr ns)] = some (die ns 0 m 0, [.gone]) := by
  obtain ⟨y, s', e⟩ := dice_loop ns (.scr ns) .old 0 .gone
  by_cases h2 : (2 : Int) < ns.length
  · refine ⟨y, ?_⟩
    unfold fn__law_dice fnOf fb__law_dice die
    simp [sSeq, sIf, bE, lift, pOp, pCons, pVar, oIx, atI, ixN, oGt, oGe, oLe, oLen, sAsg, gSet, oMod, sPut, oSetL, oDiv, oAdd, oSub, oMul, oPow, T.sl, pC, S.get, S.with, tt1, D.isTy, D.flat, D.flats, sRet, eTake, outs, S.only, Rk.pk, pJoin, Tk.join, Rk.kind, eIf, eOp, aCons, tmps, kJoin, aPtr, eCall, argS, wb, ptrs, S.back, S.wr, S.d?, S.isBor, oTup, oLst, oTuple, oInt, iSq, iSeqL, iSeqT, sk_t_own_t, sk_t_own_f, sk_t_frz_t, sk_t_frz_f, sk_t_old_t, sk_t_old_f, sk_t_val_t, sk_t_val_f, sk_t_bor_t, sk_t_bor_f, sk_f_own_t, sk_f_own_f, sk_f_frz_t, sk_f_frz_f, sk_f_old_t, sk_f_old_f, sk_f_val_t, sk_f_val_f, sk_f_bor_t, sk_f_bor_f, sFor, sLoop, Tk.mix, S.clean, wipeE, oList, bNot, bAnd, bOr, eB, pIsi, D.tyn, iRange1] at e
    simp [sSeq, sIf, bE, lift, pOp, pCons, pVar, oIx, atI, ixN, oGt, oGe, oLe, oLen, sAsg, gSet, oMod, sPut, oSetL, oDiv, oAdd, oSub, oMul, oPow, T.sl, pC, S.get, S.with, tt1, D.isTy, D.flat, D.flats, sRet, eTake, outs, S.only, Rk.pk, pJoin, Tk.join, Rk.kind, eIf, eOp, aCons, tmps, kJoin, aPtr, eCall, argS, wb, ptrs, S.back, S.wr, S.d?, S.isBor, oTup, oLst, oTuple, oInt, iSq, iSeqL, iSeqT, sk_t_own_t, sk_t_own_f, sk_t_frz_t, sk_t_frz_f, sk_t_old_t, sk_t_old_f, sk_t_val_t, sk_t_val_f, sk_t_bor_t, sk_t_bor_f, sk_f_own_t, sk_f_own_f, sk_f_frz_t, sk_f_frz_f, sk_f_old_t, sk_f_old_f, sk_f_val_t, sk_f_val_f, sk_f_bor_t, sk_f_bor_f, sFor, sLoop, Tk.mix, S.clean, wipeE, oList, bNot, bAnd, bOr, eB, pIsi, D.tyn, iRange1, e, h2]
  · refine ⟨0, ?_⟩
    unfold fn__law_dice fnOf fb__law_dice die
    simp [sSeq, sIf, bE, lift, pOp, pCons, pVar, oIx, atI, ixN, oGt, oGe, oLe, oLen, sAsg, gSet, oMod, sPut, oSetL, oDiv, oAdd, oSub, oMul, oPow, T.sl, pC, S.get, S.with, tt1, D.isTy, D.flat, D.flats, sRet, eTake, outs, S.only, Rk.pk, pJoin, Tk.join, Rk.kind, eIf, eOp, aCons, tmps, kJoin, aPtr, eCall, argS, wb, ptrs, S.back, S.wr, S.d?, S.isBor, oTup, oLst, oTuple, oInt, iSq, iSeqL, iSeqT, sk_t_own_t, sk_t_own_f, sk_t_frz_t, sk_t_frz_f, sk_t_old_t, sk_t_old_f, sk_t_val_t, sk_t_val_f, sk_t_bor_t, sk_t_bor_f, sk_f_own_t, sk_f_own_f, sk_f_frz_t, sk_f_frz_f, sk_f_old_t, sk_f_old_f, sk_f_val_t, sk_f_val_f, sk_f_bor_t, sk_f_bor_f, sFor, sLoop, Tk.mix, S.clean, wipeE, oList, bNot, bAnd, bOr, eB, pIsi, D.tyn, iRange1] at e
    simp [sSeq, sIf, bE, lift, pOp, pCons, pVar, oIx, atI, ixN, oGt, oGe, oLe, oLen, sAsg, gSet, oMod, sPut, oSetL, oDiv, oAdd, oSub, oMul, oPow, T.sl, pC, S.get, S.with, tt1, D.isTy, D.flat, D.flats, sRet, eTake, outs, S.only, Rk.pk, pJoin, Tk.join, Rk.kind, eIf, eOp, aCons, tmps, kJoin, aPtr, eCall, argS, wb, ptrs, S.back, S.wr, S.d?, S.isBor, oTup, oLst, oTuple, oInt, iSq, iSeqL, iSeqT, sk_t_own_t, sk_t_own_f, sk_t_frz_t, sk_t_frz_f, sk_t_old_t, sk_t_old_f, sk_t_val_t, sk_t_val_f, sk_t_bor_t, sk_t_bor_f, sk_f_own_t, sk_f_own_f, sk_f_frz_t, sk_f_frz_f, sk_f_old_t, sk_f_old_f, sk_f_val_t, sk_f_val_f, sk_f_bor_t, sk_f_bor_f, sFor, sLoop, Tk.mix, S.clean, wipeE, oList, bNot, bAnd, bOr, eB, pIsi, D.tyn, iRange1, e, h2]
/-! ### ways, bits -/
def W8 : List Str := ["apart", "meets", "over", "same", "inrim", "incore", "hasrim", "hascore"]
theorem ways_ok : fn__law_ways [] = some (.lst (W8.map D.str), []) := by kernel_rfl
theorem flats_str : ∀ (l : List Str), D.flats (l.map D.str) = true
  | [] => rfl
  | _ :: l => by simp [D.flats, D.flat, flats_str l]
theorem bits_loop (ns : List Int) : ∀ (ws : List Str) (acc : List Str) (i m h : Int) (s : S), 0 ≤ i → (∀ w ∈ ws, w ∈ W8) → (∀ w ∈ acc, w ∈ W8) → ∃ (cs : List Str) (i' m' h' : Int), 0 ≤ i' ∧ (∀ c ∈ cs, c ∈ W8) ∧ cs.length ≤ acc.length + ws.length ∧
    cLoop [2] (gSet 2) (bE (eOp oEq (aCons false (eCall 2 [0] fn__law_next (aPtr 0 (aCons false (lift (pC (.int 2))) (fun env => some ([], env))))) (aCons false (lift (pC (.int 1))) (fun env => some ([], env)))))) (lift (pVar [0] 2)) ((ws.map D.str).map fun d => (Tk.own, d)) (acc.map D.str) [.io (die ns i m h), s, .gone] = some (cs.map D.str, [.io (die ns i' m' h'), s, .gone])
  | [], acc, i, m, h, s, hi, _, ha => ⟨acc, i, m, h, hi, ha, Nat.le_refl _, rfl⟩
  | w :: ws, acc, i, m, h, s, hi, hw, ha => by
    obtain ⟨r, i1, m1, h1, hi1, r0, r2, e1⟩ := next_ok ns i m h 2 hi (by omega) (by omega)
    by_cases hr : r = 1
    · subst hr
      obtain ⟨cs, i2, m2, h2, hi2, hc, hl, e2⟩ := bits_loop ns ws (acc ++ [w]) i1 m1 h1 s hi1 (fun x hx => hw x (List.mem_cons_of_mem _ hx)) (fun x hx => by
        rcases List.mem_append.mp hx with q | q
        · exact ha x q
        · rw [List.mem_singleton.mp q]; exact hw w List.mem_cons_self)
      refine ⟨cs, i2, m2, h2, hi2, hc, by simp at hl ⊢; omega, ?_⟩
      rw [← e2]
      simp [sSeq, sIf, bE, lift, pOp, pCons, pVar, oIx, atI, ixN, oGt, oGe, oLe, oLen, sAsg, gSet, oMod, sPut, oSetL, oDiv, oAdd, oSub, oMul, oPow, T.sl, pC, S.get, S.with, tt1, D.isTy, D.flat, D.flats, sRet, eTake, outs, S.only, Rk.pk, pJoin, Tk.join, Rk.kind, eIf, eOp, aCons, tmps, kJoin, aPtr, eCall, argS, wb, ptrs, S.back, S.wr, S.d?, S.isBor, oTup, oLst, oTuple, oInt, iSq, iSeqL, iSeqT, sk_t_own_t, sk_t_own_f, sk_t_frz_t, sk_t_frz_f, sk_t_old_t, sk_t_old_f, sk_t_val_t, sk_t_val_f, sk_t_bor_t, sk_t_bor_f, sk_f_own_t, sk_f_own_f, sk_f_frz_t, sk_f_frz_f, sk_f_old_t, sk_f_old_f, sk_f_val_t, sk_f_val_f, sk_f_bor_t, sk_f_bor_f, sFor, sLoop, Tk.mix, S.clean, wipeE, oList, bNot, bAnd, bOr, eB, pIsi, D.tyn, iRange1, cLoop, e1, oEq_int]
    · obtain ⟨cs, i2, m2, h2, hi2, hc, hl, e2⟩ := bits_loop ns ws acc i1 m1 h1 s hi1 (fun x hx => hw x (List.mem_cons_of_mem _ hx)) ha
      refine ⟨cs, i2, m2, h2, hi2, hc, by simp at hl ⊢; omega, ?_⟩
      have : r = 0 := by omega
      subst this
      rw [← e2]
      simp [sSeq, sIf, bE, lift, pOp, pCons, pVar, oIx, atI, ixN, oGt, oGe, oLe, oLen, sAsg, gSet, oMod, sPut, oSetL, oDiv, oAdd, oSub, oMul, oPow, T.sl, pC, S.get, S.with, tt1, D.isTy, D.flat, D.flats, sRet, eTake, outs, S.only, Rk.pk, pJoin, Tk.join, Rk.kind, eIf, eOp, aCons, tmps, kJoin, aPtr, eCall, argS, wb, ptrs, S.back, S.wr, S.d?, S.isBor, oTup, oLst, oTuple, oInt, iSq, iSeqL, iSeqT, sk_t_own_t, sk_t_own_f, sk_t_frz_t, sk_t_frz_f, sk_t_old_t, sk_t_old_f, sk_t_val_t, sk_t_val_f, sk_t_bor_t, sk_t_bor_f, sk_f_own_t, sk_f_own_f, sk_f_frz_t, sk_f_frz_f, sk_f_old_t, sk_f_old_f, sk_f_val_t, sk_f_val_f, sk_f_bor_t, sk_f_bor_f, sFor, sLoop, Tk.mix, S.clean, wipeE, oList, bNot, bAnd, bOr, eB, pIsi, D.tyn, iRange1, cLoop, e1, oEq_int]
theorem bits_ok (ns : List Int) (i m h : Int) (hi : 0 ≤ i) : ∃ (cs : List Str) (i' m' h' : Int), 0 ≤ i' ∧ (∀ c ∈ cs, c ∈ W8) ∧ cs.length ≤ 8 ∧ fn__law_bits [.io (die ns i m h)] = some (.tup (cs.map D.str), [.io (die ns i' m' h')]) := by
  obtain ⟨r, i1, m1, h1, hi1, r0, r4, e1⟩ := next_ok ns i m h 4 hi (by omega) (by omega)
  by_cases hr0 : r = 0
  · subst hr0
    obtain ⟨r', i2, m2, h2, hi2, q0, q8, e2⟩ := next_ok ns i1 m1 h1 8 hi1 (by omega) (by omega)
    have hw : ∀ (w : Str), w ∈ W8 → (W8.map D.str)[r'.toNat]? = some (.str w) → ∃ (cs : List Str) (i' m' h' : Int), 0 ≤ i' ∧ (∀ c ∈ cs, c ∈ W8) ∧ cs.length ≤ 8 ∧ fn__law_bits [.io (die ns i m h)] = some (.tup (cs.map D.str), [.io (die ns i' m' h')]) := by
      intro w hw ew
      refine ⟨[w], i2, m2, h2, hi2, by simpa using hw, by simp, ?_⟩
      unfold fn__law_bits fnOf fb__law_bits
      have hl : r' < ((W8.map D.str).length : Int) := by simp only [List.length_map]; exact q8
      have hix : atI (W8.map D.str) r' = some (.str w) := by unfold atI ixN; rw [if_pos q0, if_pos hl]; exact ew
      have hoix : oIx [.lst (W8.map D.str), .int r'] = some (.imm, .str w) := by unfold oIx; simp [hix, D.flat]
      simp [sSeq, sIf, bE, lift, pOp, pCons, pVar, oGt, oGe, oLe, oLen, sAsg, gSet, oMod, sPut, oSetL, oDiv, oAdd, oSub, oMul, oPow, T.sl, pC, S.get, S.with, tt1, D.isTy, D.flat, D.flats, sRet, eTake, outs, S.only, Rk.pk, pJoin, Tk.join, Rk.kind, eIf, eOp, aCons, tmps, kJoin, aPtr, eCall, argS, wb, ptrs, S.back, S.wr, S.d?, S.isBor, oTup, oLst, oTuple, oInt, iSq, iSeqL, iSeqT, sk_t_own_t, sk_t_own_f, sk_t_frz_t, sk_t_frz_f, sk_t_old_t, sk_t_old_f, sk_t_val_t, sk_t_val_f, sk_t_bor_t, sk_t_bor_f, sk_f_own_t, sk_f_own_f, sk_f_frz_t, sk_f_frz_f, sk_f_old_t, sk_f_old_f, sk_f_val_t, sk_f_val_f, sk_f_bor_t, sk_f_bor_f, sFor, sLoop, Tk.mix, S.clean, wipeE, oList, bNot, bAnd, bOr, eB, pIsi, D.tyn, iRange1, e1, e2, ways_ok, oEq_int, hoix]
    have : r' = 0 ∨ r' = 1 ∨ r' = 2 ∨ r' = 3 ∨ r' = 4 ∨ r' = 5 ∨ r' = 6 ∨ r' = 7 := by omega
    rcases this with rfl | rfl | rfl | rfl | rfl | rfl | rfl | rfl
    · exact hw "apart" (by decide) rfl
    · exact hw "meets" (by decide) rfl
    · exact hw "over" (by decide) rfl
    · exact hw "same" (by decide) rfl
    · exact hw "inrim" (by decide) rfl
    · exact hw "incore" (by decide) rfl
    · exact hw "hasrim" (by decide) rfl
    · exact hw "hascore" (by decide) rfl
  · by_cases hr1 : r = 1
    · subst hr1
      obtain ⟨r', i2, m2, h2, hi2, q0, q2, e2⟩ := next_ok ns i1 m1 h1 2 hi1 (by omega) (by omega)
      have : r' = 0 ∨ r' = 1 := by omega
      rcases this with rfl | rfl
      · refine ⟨[], i2, m2, h2, hi2, by simp, by simp, ?_⟩
        unfold fn__law_bits fnOf fb__law_bits
        simp [sSeq, sIf, bE, lift, pOp, pCons, pVar, oIx, atI, ixN, oGt, oGe, oLe, oLen, sAsg, gSet, oMod, sPut, oSetL, oDiv, oAdd, oSub, oMul, oPow, T.sl, pC, S.get, S.with, tt1, D.isTy, D.flat, D.flats, sRet, eTake, outs, S.only, Rk.pk, pJoin, Tk.join, Rk.kind, eIf, eOp, aCons, tmps, kJoin, aPtr, eCall, argS, wb, ptrs, S.back, S.wr, S.d?, S.isBor, oTup, oLst, oTuple, oInt, iSq, iSeqL, iSeqT, sk_t_own_t, sk_t_own_f, sk_t_frz_t, sk_t_frz_f, sk_t_old_t, sk_t_old_f, sk_t_val_t, sk_t_val_f, sk_t_bor_t, sk_t_bor_f, sk_f_own_t, sk_f_own_f, sk_f_frz_t, sk_f_frz_f, sk_f_old_t, sk_f_old_f, sk_f_val_t, sk_f_val_f, sk_f_bor_t, sk_f_bor_f, sFor, sLoop, Tk.mix, S.clean, wipeE, oList, bNot, bAnd, bOr, eB, pIsi, D.tyn, iRange1, e1, e2, ways_ok, oEq_int, flats_str]
      · refine ⟨W8, i2, m2, h2, hi2, by simp, by decide, ?_⟩
        unfold fn__law_bits fnOf fb__law_bits
        simp [sSeq, sIf, bE, lift, pOp, pCons, pVar, oIx, atI, ixN, oGt, oGe, oLe, oLen, sAsg, gSet, oMod, sPut, oSetL, oDiv, oAdd, oSub, oMul, oPow, T.sl, pC, S.get, S.with, tt1, D.isTy, D.flat, D.flats, sRet, eTake, outs, S.only, Rk.pk, pJoin, Tk.join, Rk.kind, eIf, eOp, aCons, tmps, kJoin, aPtr, eCall, argS, wb, ptrs, S.back, S.wr, S.d?, S.isBor, oTup, oLst, oTuple, oInt, iSq, iSeqL, iSeqT, sk_t_own_t, sk_t_own_f, sk_t_frz_t, sk_t_frz_f, sk_t_old_t, sk_t_old_f, sk_t_val_t, sk_t_val_f, sk_t_bor_t, sk_t_bor_f, sk_f_own_t, sk_f_own_f, sk_f_frz_t, sk_f_frz_f, sk_f_old_t, sk_f_old_f, sk_f_val_t, sk_f_val_f, sk_f_bor_t, sk_f_bor_f, sFor, sLoop, Tk.mix, S.clean, wipeE, oList, bNot, bAnd, bOr, eB, pIsi, D.tyn, iRange1, e1, e2, ways_ok, oEq_int, flats_str]
    · obtain ⟨cs, i2, m2, h2, hi2, hc, hl, e2⟩ := bits_loop ns W8 [] i1 m1 h1 (.t .own (.int r)) hi1 (fun _ h => h) (fun _ h => by cases h)
      refine ⟨cs, i2, m2, h2, hi2, hc, by simpa [W8] using hl, ?_⟩
      unfold fn__law_bits fnOf fb__law_bits
      simp only [List.map_map, List.map_nil] at e2
      simp [sSeq, sIf, bE, lift, pOp, pCons, pVar, oIx, atI, ixN, oGt, oGe, oLe, oLen, sAsg, gSet, oMod, sPut, oSetL, oDiv, oAdd, oSub, oMul, oPow, T.sl, pC, S.get, S.with, tt1, D.isTy, D.flat, D.flats, sRet, eTake, outs, S.only, Rk.pk, pJoin, Tk.join, Rk.kind, eIf, eOp, aCons, tmps, kJoin, aPtr, eCall, argS, wb, ptrs, S.back, S.wr, S.d?, S.isBor, oTup, oLst, oTuple, oInt, iSq, iSeqL, iSeqT, sk_t_own_t, sk_t_own_f, sk_t_frz_t, sk_t_frz_f, sk_t_old_t, sk_t_old_f, sk_t_val_t, sk_t_val_f, sk_t_bor_t, sk_t_bor_f, sk_f_own_t, sk_f_own_f, sk_f_frz_t, sk_f_frz_f, sk_f_old_t, sk_f_old_f, sk_f_val_t, sk_f_val_f, sk_f_bor_t, sk_f_bor_f, sFor, sLoop, Tk.mix, S.clean, wipeE, oList, bNot, bAnd, bOr, eB, pIsi, D.tyn, iRange1, e1, ways_ok, oEq_int, flats_str, hr0, hr1, eComp, e2]
/-! ### like -/
theorem kb1 : kitB "str" "bool" = some false := by kernel_rfl
theorem kb2 : kitB "str" "str" = some true := by kernel_rfl
theorem kb3 : kitB "tuple" "bool" = some false := by kernel_rfl
theorem kb4 : kitB "tuple" "str" = some false := by kernel_rfl
theorem kb5 : kitB "tuple" "int" = some false := by kernel_rfl
theorem kb6 : kitB "tuple" "dict" = some false := by kernel_rfl
theorem kb7 : kitB "tuple" "tuple" = some true := by kernel_rfl
theorem kb8 : kitB "tuple" "list" = some false := by kernel_rfl
theorem like_str (x : Str) (hx : PyData.strOk x = true) (d : Nat) : fnRec 4 fb__law_like (d + 1) [.t .old (.str x), .t .old (.str x)] = some (.bl true, [.gone, .gone]) := by
  simp only [fnRec, fnOf]
  unfold fb__law_like
  simp [sSeq, sIf, bE, lift, pOp, pCons, pVar, oIx, atI, ixN, oGt, oGe, oLe, oLen, sAsg, gSet, oMod, sPut, oSetL, oDiv, oAdd, oSub, oMul, oPow, T.sl, pC, S.get, S.with, tt1, D.isTy, D.flat, D.flats, sRet, eTake, outs, S.only, Rk.pk, pJoin, Tk.join, Rk.kind, eIf, eOp, aCons, tmps, kJoin, aPtr, eCall, argS, wb, ptrs, S.back, S.wr, S.d?, S.isBor, oTup, oLst, oTuple, oInt, iSq, iSeqL, iSeqT, sk_t_own_t, sk_t_own_f, sk_t_frz_t, sk_t_frz_f, sk_t_old_t, sk_t_old_f, sk_t_val_t, sk_t_val_f, sk_t_bor_t, sk_t_bor_f, sk_f_own_t, sk_f_own_f, sk_f_frz_t, sk_f_frz_f, sk_f_old_t, sk_f_old_f, sk_f_val_t, sk_f_val_f, sk_f_bor_t, sk_f_bor_f, sFor, sLoop, Tk.mix, S.clean, wipeE, oList, bNot, bAnd, bOr, eB, pIsi, D.tyn, iRange1, kb1, kb2, oEq_str x x hx hx]
def likeB (r : Fn) : List S → Option Fl := (sIf (bNot (bE (eCall 2 [] r (aCons false (lift (pOp oIx (pCons (pVar [] 0) (pCons (pVar [] 3) (fun _ => some []))))) (aCons false (lift (pOp oIx (pCons (pVar [] 1) (pCons (pVar [] 3) (fun _ => some []))))) (fun env => some ([], env)))))))
    (sRet (lift (pC (.bl false))))
    (fun env => some (.nx env)))
theorem like_loop (r : Fn) (ds : List D) (hr : ∀ d ∈ ds, d.flat = true ∧ r [.t .old d, .t .old d] = some (.bl true, [.gone, .gone])) : ∀ (items : List T) (s : S), (∀ t ∈ items, ∃ i d, t = (.own, .int i) ∧ atI ds i = some d) →
    ∃ s', sLoop (gSet 3) (likeB r) items [.t .old (.tup ds), .t .old (.tup ds), .gone, s] = some (.nx [.t .old (.tup ds), .t .old (.tup ds), .gone, s'])
  | [], s, _ => ⟨s, rfl⟩
  | t :: ts, s, h => by
    obtain ⟨i, d, rfl, e⟩ := h t List.mem_cons_self
    have hm : d ∈ ds := by
      unfold atI at e
      obtain ⟨j, _, ej⟩ := Option.bind_eq_some_iff.mp e
      exact List.mem_of_getElem? ej
    obtain ⟨hf, hq⟩ := hr d hm
    obtain ⟨s', e2⟩ := like_loop r ds hr ts (.t .own (.int i)) (fun t ht => h t (List.mem_cons_of_mem _ ht))
    refine ⟨s', ?_⟩
    rw [← e2]
    have hoix : oIx [.tup ds, .int i] = some (.imm, d) := by unfold oIx; simp [e, hf]
    simp [sSeq, sIf, bE, lift, pOp, pCons, pVar, oGt, oGe, oLe, oLen, sAsg, gSet, oMod, sPut, oSetL, oDiv, oAdd, oSub, oMul, oPow, T.sl, pC, S.get, S.with, tt1, D.isTy, D.flat, D.flats, sRet, eTake, outs, S.only, Rk.pk, pJoin, Tk.join, Rk.kind, eIf, eOp, aCons, tmps, kJoin, aPtr, eCall, argS, wb, ptrs, S.back, S.wr, S.d?, S.isBor, oTup, oLst, oTuple, oInt, iSq, iSeqL, iSeqT, sk_t_own_t, sk_t_own_f, sk_t_frz_t, sk_t_frz_f, sk_t_old_t, sk_t_old_f, sk_t_val_t, sk_t_val_f, sk_t_bor_t, sk_t_bor_f, sk_f_own_t, sk_f_own_f, sk_f_frz_t, sk_f_frz_f, sk_f_old_t, sk_f_old_f, sk_f_val_t, sk_f_val_f, sk_f_bor_t, sk_f_bor_f, sFor, sLoop, Tk.mix, S.clean, wipeE, oList, bNot, bAnd, bOr, eB, pIsi, D.tyn, iRange1, likeB, hoix, hq]
theorem atI_up {ds : List D} {j : Nat} (h : j < ds.length) : ∃ d, atI ds ((0 : Int) + j) = some d := by
  refine ⟨ds[j], ?_⟩
  unfold atI ixN
  have h1 : (0 : Int) ≤ 0 + (j : Int) := by omega
  have h2 : (0 : Int) + (j : Int) < (ds.length : Int) := by omega
  rw [if_pos h1, if_pos h2]
  have : ((0 : Int) + (j : Int)).toNat = j := by omega
  simp [this, h]
theorem like_tup (ds : List D) (k : Nat) (hl : ds.length ≤ 1000) (hr : ∀ d ∈ ds, d.flat = true ∧ fnRec 4 fb__law_like k [.t .old d, .t .old d] = some (.bl true, [.gone, .gone])) : fnRec 4 fb__law_like (k + 1) [.t .old (.tup ds), .t .old (.tup ds)] = some (.bl true, [.gone, .gone]) := by
  obtain ⟨s', e⟩ := like_loop _ ds hr (upTo 0 ds.length) .gone (fun t ht => by
    obtain ⟨j, hj⟩ := List.getElem?_of_mem ht
    obtain ⟨rfl, hj2⟩ := upTo_get hj
    obtain ⟨d, hd⟩ := atI_up hj2
    exact ⟨_, d, rfl, hd⟩)
  simp only [fnRec, fnOf]
  generalize fnRec 4 fb__law_like k = R at *
  unfold fb__law_like
  unfold likeB at e
  have h1 : (-16777216 : Int) ≤ ds.length := by omega
  have h2 : (ds.length : Int) ≤ 16777216 := by omega
  simp [sSeq, sIf, bE, lift, pOp, pCons, pVar, oGt, oGe, oLe, oLen, sAsg, gSet, oMod, sPut, oSetL, oDiv, oAdd, oSub, oMul, oPow, T.sl, pC, S.get, S.with, tt1, D.isTy, D.flat, D.flats, sRet, eTake, outs, S.only, Rk.pk, pJoin, Tk.join, Rk.kind, eIf, eOp, aCons, tmps, kJoin, aPtr, eCall, argS, wb, ptrs, S.back, S.wr, S.d?, S.isBor, oTup, oLst, oTuple, oInt, iSq, iSeqL, iSeqT, sk_t_own_t, sk_t_own_f, sk_t_frz_t, sk_t_frz_f, sk_t_old_t, sk_t_old_f, sk_t_val_t, sk_t_val_f, sk_t_bor_t, sk_t_bor_f, sk_f_own_t, sk_f_own_f, sk_f_frz_t, sk_f_frz_f, sk_f_old_t, sk_f_old_f, sk_f_val_t, sk_f_val_f, sk_f_bor_t, sk_f_bor_f, sFor, sLoop, Tk.mix, S.clean, wipeE, oList, bNot, bAnd, bOr, eB, pIsi, D.tyn, iRange1] at e
  simp [sSeq, sIf, bE, lift, pOp, pCons, pVar, oGt, oGe, oLe, oLen, sAsg, gSet, oMod, sPut, oSetL, oDiv, oAdd, oSub, oMul, oPow, T.sl, pC, S.get, S.with, tt1, D.isTy, D.flat, D.flats, sRet, eTake, outs, S.only, Rk.pk, pJoin, Tk.join, Rk.kind, eIf, eOp, aCons, tmps, kJoin, aPtr, eCall, argS, wb, ptrs, S.back, S.wr, S.d?, S.isBor, oTup, oLst, oTuple, oInt, iSq, iSeqL, iSeqT, sk_t_own_t, sk_t_own_f, sk_t_frz_t, sk_t_frz_f, sk_t_old_t, sk_t_old_f, sk_t_val_t, sk_t_val_f, sk_t_bor_t, sk_t_bor_f, sk_f_own_t, sk_f_own_f, sk_f_frz_t, sk_f_frz_f, sk_f_old_t, sk_f_old_f, sk_f_val_t, sk_f_val_f, sk_f_bor_t, sk_f_bor_f, sFor, sLoop, Tk.mix, S.clean, wipeE, oList, bNot, bAnd, bOr, eB, pIsi, D.tyn, iRange1, kb3, kb4, kb5, kb6, kb7, kb8, oNe_int, oNe_bl, h1, h2, e, oIsN, D.isNon]
/-! ### letters -/
def rowR (one : Str) : List D := match t_ROWS.lookup one with
  | some (some (.tup r)) => r
  | _ => []
def rowJ (other : Str) : Nat := (idxS other y_WAYS).getD 0
def rowS (one other : Str) : Str := match (rowR one)[rowJ other]? with
  | some (.str s) => s
  | _ => ""
theorem w8_cases {P : Str → Prop} (h1 : P "apart") (h2 : P "meets") (h3 : P "over") (h4 : P "same") (h5 : P "inrim") (h6 : P "incore") (h7 : P "hasrim") (h8 : P "hascore") : ∀ w ∈ W8, P w := by
  intro w hw
  simp only [W8, List.mem_cons, List.not_mem_nil, or_false] at hw
  rcases hw with rfl | rfl | rfl | rfl | rfl | rfl | rfl | rfl <;> assumption
theorem row_r : ∀ w ∈ W8, oGIx t_ROWS [.str w] = some (.imm, .tup (rowR w)) := by
  apply w8_cases <;> kernel_rfl
theorem row_j : ∀ w ∈ W8, oTIdx y_WAYS [.str w] = some (.imm, .int (rowJ w)) := by
  apply w8_cases <;> kernel_rfl
theorem row_s : ∀ w ∈ W8, ∀ v ∈ W8, oIx [.tup (rowR w), .int (rowJ v)] = some (.imm, .str (rowS w v)) := by
  apply w8_cases <;> apply w8_cases <;> kernel_rfl
theorem row_l : ∀ w ∈ W8, ∀ v ∈ W8, (rowS w v).length ≤ 8 := by
  apply w8_cases <;> apply w8_cases <;> decide +kernel
theorem row_led : ∀ w ∈ W8, ∀ v ∈ W8, fn__law_led [.t .old (.str w), .t .old (.str v)] = some (.str (rowS w v), [.gone, .gone]) := by
  apply w8_cases <;> apply w8_cases <;> kernel_rfl
def accI (one : Str) (L : Str) (others : List Str) : Str := others.foldl (fun L o => L ++ rowS one o) L
def accO (ones others : List Str) (L : Str) : Str := ones.foldl (fun L o => accI o L others) L
theorem len_app (a b : Str) : (a ++ b).length = a.length + b.length := by
  show (a.cps ++ b.cps).size = a.cps.size + b.cps.size
  rw [Array.size_append]
theorem accI_len {one : Str} (h1 : one ∈ W8) : ∀ (others : List Str) (L : Str), (∀ o ∈ others, o ∈ W8) → (accI one L others).length ≤ L.length + 8 * others.length
  | [], L, _ => by simp [accI]
  | o :: os, L, h => by
    have := accI_len h1 os (L ++ rowS one o) (fun x hx => h x (List.mem_cons_of_mem _ hx))
    have h2 := row_l one h1 o (h o List.mem_cons_self)
    rw [len_app] at this
    show (accI one (L ++ rowS one o) os).length ≤ _
    rw [List.length_cons]
    omega
def StepOk (a b : S) (g : S) (body : List S → Option Fl) : Prop := ∀ (L one other : Str), one ∈ W8 → other ∈ W8 → L.length + 8 ≤ 16777216 →
  body [a, b, .t .own (.str L), .t .own (.str one), .t .own (.str other), g] = some (.nx [a, b, .t .own (.str (L ++ rowS one other)), .t .own (.str one), .t .own (.str other), g])
theorem inner_ok {a b g : S} {body : List S → Option Fl} (hb : StepOk a b g body) {one : Str} (h1 : one ∈ W8) : ∀ (others : List Str) (L : Str) (z : S), (∀ o ∈ others, o ∈ W8) → L.length + 8 * others.length ≤ 16777216 →
    ∃ s', sLoop (gSet 4) body ((others.map D.str).map fun d => (Tk.own, d)) [a, b, .t .own (.str L), .t .own (.str one), z, g] = some (.nx [a, b, .t .own (.str (accI one L others)), .t .own (.str one), s', g])
  | [], L, z, _, _ => ⟨z, rfl⟩
  | o :: os, L, z, h, hl => by
    rw [List.length_cons] at hl
    have ho := h o List.mem_cons_self
    have h2 := row_l one h1 o ho
    obtain ⟨s', e⟩ := inner_ok hb h1 os (L ++ rowS one o) (.t .own (.str o)) (fun x hx => h x (List.mem_cons_of_mem _ hx)) (by rw [len_app]; omega)
    refine ⟨s', ?_⟩
    have hs := hb L one o h1 ho (by omega)
    show sLoop (gSet 4) body ((Tk.own, D.str o) :: (os.map D.str).map fun d => (Tk.own, d)) _ = _
    unfold sLoop
    have hg : gSet 4 (Tk.own, D.str o) [a, b, .t .own (.str L), .t .own (.str one), z, g] = some [a, b, .t .own (.str L), .t .own (.str one), .t .own (.str o), g] := rfl
    simp only [hg, hs]
    exact e
theorem outer_ok {ones others : List Str} {g : S} {body : List S → Option Fl} (hb : StepOk (.t .old (.tup (ones.map D.str))) (.t .old (.tup (others.map D.str))) g body) (h2 : ∀ o ∈ others, o ∈ W8) (hl2 : others.length ≤ 8) : ∀ (os : List Str) (L : Str) (y z : S), (∀ o ∈ os, o ∈ W8) → L.length + 64 * os.length ≤ 16777216 →
    ∃ s s', sLoop (gSet 3) (sFor false (iSq (lift (pVar [] 1))) (gSet 4) body) ((os.map D.str).map fun d => (Tk.own, d)) [.t .old (.tup (ones.map D.str)), .t .old (.tup (others.map D.str)), .t .own (.str L), y, z, g] =
      some (.nx [.t .old (.tup (ones.map D.str)), .t .old (.tup (others.map D.str)), .t .own (.str (accO os others L)), s, s', g])
  | [], L, y, z, _, _ => ⟨y, z, rfl⟩
  | o :: os, L, y, z, h, hl => by
    rw [List.length_cons] at hl
    have ho := h o List.mem_cons_self
    have hi := accI_len ho others L h2
    obtain ⟨z', e1⟩ := inner_ok hb ho others L z h2 (by omega)
    obtain ⟨s, s', e⟩ := outer_ok hb h2 hl2 os (accI o L others) (.t .own (.str o)) z' (fun x hx => h x (List.mem_cons_of_mem _ hx)) (by omega)
    refine ⟨s, s', ?_⟩
    show sLoop (gSet 3) (sFor false (iSq (lift (pVar [] 1))) (gSet 4) body) ((Tk.own, D.str o) :: (os.map D.str).map fun d => (Tk.own, d)) _ = _
    unfold sLoop
    have hg : gSet 3 (Tk.own, D.str o) [.t .old (.tup (ones.map D.str)), .t .old (.tup (others.map D.str)), .t .own (.str L), y, z, g] = some [.t .old (.tup (ones.map D.str)), .t .old (.tup (others.map D.str)), .t .own (.str L), .t .own (.str o), z, g] := rfl
    have hf : sFor false (iSq (lift (pVar [] 1))) (gSet 4) body [.t .old (.tup (ones.map D.str)), .t .old (.tup (others.map D.str)), .t .own (.str L), .t .own (.str o), z, g] = sLoop (gSet 4) body ((others.map D.str).map fun d => (Tk.own, d)) [.t .old (.tup (ones.map D.str)), .t .old (.tup (others.map D.str)), .t .own (.str L), .t .own (.str o), z, g] := by
      simp [sFor, iSq, iSeqL, iSeqT, lift, pVar, flats_str, sk_t_old_t]
    simp only [hg, hf, e1]
    exact e
/-! ### what is picked by letters -/
def bk (c L : Str) : Bool := !(Builtin.Str.occurrences L c 0 L.length 1).isEmpty
theorem oInA_str (c L : Str) : oInA [.str c, .str L] = some (.imm, .bl (bk c L)) := rfl
theorem cLoop_flat {vs : List Nat} {ft : T → List S → Option (List S)} {fc : List S → Option (Bool × List S)} {fe : List S → Option (T × List S)} {env : List S} (b : T → Bool) (v : T → D) : ∀ (items : List T) (acc : List D),
    (∀ t ∈ items, ∃ e1 k, ft t env = some e1 ∧ fc e1 = some (b t, e1) ∧ fe e1 = some ((k, v t), e1) ∧ tt1 (k, v t) = true ∧ wipeE e1 vs = env) →
    cLoop vs ft fc fe items acc env = some (acc ++ items.flatMap (fun t => if b t then [v t] else []), env)
  | [], acc, _ => by simp [cLoop]
  | t :: ts, acc, h => by
    obtain ⟨e1, k, h1, h2, h3, h5, h4⟩ := h t List.mem_cons_self
    unfold cLoop
    simp only [h1, h2]
    have ih := fun acc => cLoop_flat b v ts acc (fun t ht => h t (List.mem_cons_of_mem _ ht))
    cases hb : b t with
    | true =>
      simp only [h3, h5, h4, if_true]
      rw [ih]
      simp [hb]
    | false =>
      simp only [h4]
      rw [ih]
      simp [hb]
def letter (w : Str) : Str := match t_LETTERS.lookup w with
  | some (some (.str s)) => s
  | _ => ""
theorem row_c : ∀ w ∈ W8, oGIx t_LETTERS [.str w] = some (.imm, .str (letter w)) := by
  apply w8_cases <;> kernel_rfl
def pickS (L : Str) : List Str := W8.flatMap fun w => if bk (letter w) L then [w] else []
theorem pick_mem {L w : Str} (h : w ∈ pickS L) : w ∈ W8 := by
  unfold pickS at h
  obtain ⟨x, hx, hw⟩ := List.mem_flatMap.mp h
  split at hw
  · rw [List.mem_singleton.mp hw]; exact hx
  · cases hw
theorem flat_if (L : Str) : ∀ (ws : List Str), (ws.map fun w => (Tk.own, D.str w)).flatMap (fun t => if (match t.2 with | .str w => bk (letter w) L | _ => false) then [t.2] else []) = (ws.flatMap fun w => if bk (letter w) L then [w] else []).map D.str
  | [] => rfl
  | w :: ws => by
    have ih := flat_if L ws
    simp only [List.map_cons, List.flatMap_cons, List.map_append, ih]
    congr 1
    cases bk (letter w) L <;> rfl
theorem pick_len : ∀ (L : Str) (ws : List Str), (ws.flatMap fun w => if bk (letter w) L then [w] else []).length ≤ ws.length
  | L, [] => Nat.le_refl _
  | L, w :: ws => by
    have := pick_len L ws
    simp only [List.flatMap_cons, List.length_append, List.length_cons]
    cases bk (letter w) L
    · simp only [Bool.false_eq_true, if_false, List.length_nil]; omega
    · simp only [if_true, List.length_cons, List.length_nil]; omega
theorem comp1_ok (a b y z : S) (L : Str) : cLoop [5] (gSet 5) (bE (eOp oInA (aCons false (eOp (oGIx t_LETTERS) (aCons false (lift (pVar [] 5)) (fun env => some ([], env)))) (aCons false (lift (pVar [] 2)) (fun env => some ([], env)))))) (lift (pVar [] 5)) ((W8.map D.str).map fun d => (Tk.own, d)) [] [a, b, .t .own (.str L), y, z, .gone] =
    some ((pickS L).map D.str, [a, b, .t .own (.str L), y, z, .gone]) := by
  have := cLoop_flat (vs := [5]) (ft := gSet 5) (fc := bE (eOp oInA (aCons false (eOp (oGIx t_LETTERS) (aCons false (lift (pVar [] 5)) (fun env => some ([], env)))) (aCons false (lift (pVar [] 2)) (fun env => some ([], env)))))) (fe := lift (pVar [] 5)) (env := [a, b, .t .own (.str L), y, z, .gone])
    (fun t => match t.2 with | .str w => bk (letter w) L | _ => false) (fun t => t.2) (W8.map fun w => (Tk.own, D.str w)) [] (fun t ht => by
      obtain ⟨w, hw, rfl⟩ := List.mem_map.mp ht
      exact ⟨[a, b, .t .own (.str L), y, z, .t .own (.str w)], .bor, rfl, by simp [sSeq, sIf, bE, lift, pOp, pCons, pVar, oGt, oGe, oLe, oLen, sAsg, gSet, oMod, sPut, oSetL, oDiv, oAdd, oSub, oMul, oPow, T.sl, pC, S.get, S.with, tt1, D.isTy, D.flat, D.flats, sRet, eTake, outs, S.only, Rk.pk, pJoin, Tk.join, Rk.kind, eIf, eOp, aCons, tmps, kJoin, aPtr, eCall, argS, wb, ptrs, S.back, S.wr, S.d?, S.isBor, oTup, oLst, oTuple, oInt, iSq, iSeqL, iSeqT, sk_t_own_t, sk_t_own_f, sk_t_frz_t, sk_t_frz_f, sk_t_old_t, sk_t_old_f, sk_t_val_t, sk_t_val_f, sk_t_bor_t, sk_t_bor_f, sk_f_own_t, sk_f_own_f, sk_f_frz_t, sk_f_frz_f, sk_f_old_t, sk_f_old_f, sk_f_val_t, sk_f_val_f, sk_f_bor_t, sk_f_bor_f, sFor, sLoop, Tk.mix, S.clean, wipeE, oList, bNot, bAnd, bOr, eB, pIsi, D.tyn, iRange1, row_c w hw, oInA_str], rfl, rfl, rfl⟩)
  rw [flat_if L W8] at this
  rw [List.map_map]
  exact this
theorem comp2_ok (a b y z : S) (L : Str) : cLoop [5] (gSet 5) (bE (lift (pOp oInA (pCons (pOp oIx (pCons (pC (.str "amosrcRC")) (pCons (pVar [] 5) (fun _ => some [])))) (pCons (pVar [] 2) (fun _ => some [])))))) (eOp oIx (aCons false (eCall 0 [] fn__law_ways (fun env => some ([], env))) (aCons false (lift (pVar [] 5)) (fun env => some ([], env))))) (upTo 0 8) [] [a, b, .t .own (.str L), y, z, .gone] =
    some ((pickS L).map D.str, [a, b, .t .own (.str L), y, z, .gone]) := by
  have hi : ∀ t ∈ upTo 0 8, ∃ i w, t = (Tk.own, D.int i) ∧ w ∈ W8 ∧ oIx [.str "amosrcRC", .int i] = some (.imm, .str (letter w)) ∧ oIx [.lst (W8.map D.str), .int i] = some (.imm, .str w) := by
    intro t ht
    simp only [upTo, List.mem_cons, List.not_mem_nil, or_false] at ht
    rcases ht with rfl | rfl | rfl | rfl | rfl | rfl | rfl | rfl
    · exact ⟨_, "apart", rfl, by decide, by kernel_rfl, by kernel_rfl⟩
    · exact ⟨_, "meets", rfl, by decide, by kernel_rfl, by kernel_rfl⟩
    · exact ⟨_, "over", rfl, by decide, by kernel_rfl, by kernel_rfl⟩
    · exact ⟨_, "same", rfl, by decide, by kernel_rfl, by kernel_rfl⟩
    · exact ⟨_, "inrim", rfl, by decide, by kernel_rfl, by kernel_rfl⟩
    · exact ⟨_, "incore", rfl, by decide, by kernel_rfl, by kernel_rfl⟩
    · exact ⟨_, "hasrim", rfl, by decide, by kernel_rfl, by kernel_rfl⟩
    · exact ⟨_, "hascore", rfl, by decide, by kernel_rfl, by kernel_rfl⟩
  have := cLoop_flat (vs := [5]) (ft := gSet 5) (fc := bE (lift (pOp oInA (pCons (pOp oIx (pCons (pC (.str "amosrcRC")) (pCons (pVar [] 5) (fun _ => some [])))) (pCons (pVar [] 2) (fun _ => some [])))))) (fe := eOp oIx (aCons false (eCall 0 [] fn__law_ways (fun env => some ([], env))) (aCons false (lift (pVar [] 5)) (fun env => some ([], env))))) (env := [a, b, .t .own (.str L), y, z, .gone])
    (fun t => match oIx [.lst (W8.map D.str), t.2] with | some (_, .str w) => bk (letter w) L | _ => false) (fun t => match oIx [.lst (W8.map D.str), t.2] with | some (_, d) => d | _ => .non) (upTo 0 8) [] (fun t ht => by
      obtain ⟨i, w, rfl, hw, h1, h2⟩ := hi t ht
      refine ⟨[a, b, .t .own (.str L), y, z, .t .own (.int i)], .own, rfl, ?_, ?_, rfl, rfl⟩
      · simp [sSeq, sIf, bE, lift, pOp, pCons, pVar, oGt, oGe, oLe, oLen, sAsg, gSet, oMod, sPut, oSetL, oDiv, oAdd, oSub, oMul, oPow, T.sl, pC, S.get, S.with, tt1, D.isTy, D.flat, D.flats, sRet, eTake, outs, S.only, Rk.pk, pJoin, Tk.join, Rk.kind, eIf, eOp, aCons, tmps, kJoin, aPtr, eCall, argS, wb, ptrs, S.back, S.wr, S.d?, S.isBor, oTup, oLst, oTuple, oInt, iSq, iSeqL, iSeqT, sk_t_own_t, sk_t_own_f, sk_t_frz_t, sk_t_frz_f, sk_t_old_t, sk_t_old_f, sk_t_val_t, sk_t_val_f, sk_t_bor_t, sk_t_bor_f, sk_f_own_t, sk_f_own_f, sk_f_frz_t, sk_f_frz_f, sk_f_old_t, sk_f_old_f, sk_f_val_t, sk_f_val_f, sk_f_bor_t, sk_f_bor_f, sFor, sLoop, Tk.mix, S.clean, wipeE, oList, bNot, bAnd, bOr, eB, pIsi, D.tyn, iRange1, h1, h2, oInA_str]
      · simp [sSeq, sIf, bE, lift, pOp, pCons, pVar, oGt, oGe, oLe, oLen, sAsg, gSet, oMod, sPut, oSetL, oDiv, oAdd, oSub, oMul, oPow, T.sl, pC, S.get, S.with, tt1, D.isTy, D.flat, D.flats, sRet, eTake, outs, S.only, Rk.pk, pJoin, Tk.join, Rk.kind, eIf, eOp, aCons, tmps, kJoin, aPtr, eCall, argS, wb, ptrs, S.back, S.wr, S.d?, S.isBor, oTup, oLst, oTuple, oInt, iSq, iSeqL, iSeqT, sk_t_own_t, sk_t_own_f, sk_t_frz_t, sk_t_frz_f, sk_t_old_t, sk_t_old_f, sk_t_val_t, sk_t_val_f, sk_t_bor_t, sk_t_bor_f, sk_f_own_t, sk_f_own_f, sk_f_frz_t, sk_f_frz_f, sk_f_old_t, sk_f_old_f, sk_f_val_t, sk_f_val_f, sk_f_bor_t, sk_f_bor_f, sFor, sLoop, Tk.mix, S.clean, wipeE, oList, bNot, bAnd, bOr, eB, pIsi, D.tyn, iRange1, h2, ways_ok])
  rw [this]
  have e : (upTo 0 8).flatMap (fun t => if (match oIx [.lst (W8.map D.str), t.2] with | some (_, .str w) => bk (letter w) L | _ => false) = true then [match oIx [.lst (W8.map D.str), t.2] with | some (_, d) => d | _ => .non] else []) = (W8.map fun w => (Tk.own, D.str w)).flatMap (fun t => if (match t.2 with | .str w => bk (letter w) L | _ => false) = true then [t.2] else []) := by kernel_rfl
  rw [e, flat_if L W8]
  rfl
theorem lc_step (a b g : S) : StepOk a b g (sAsg (eOp oAdd (aCons false (lift (pVar [] 2)) (aCons false (eOp oIx (aCons false (eOp (oGIx t_ROWS) (aCons false (lift (pVar [] 3)) (fun env => some ([], env)))) (aCons false (eOp (oTIdx y_WAYS) (aCons false (lift (pVar [] 4)) (fun env => some ([], env)))) (fun env => some ([], env))))) (fun env => some ([], env))))) (gSet 2)) := by
  intro L one other h1 h2 hl
  have hr := row_l one h1 other h2
  have ha : oAdd [.str L, .str (rowS one other)] = some (.imm, .str (L ++ rowS one other)) := by
    unfold oAdd
    simp only
    rw [if_pos (by omega)]
  simp [sSeq, sIf, bE, lift, pOp, pCons, pVar, oGt, oGe, oLe, oLen, sAsg, gSet, oMod, sPut, oSetL, oDiv, oSub, oMul, oPow, T.sl, pC, S.get, S.with, tt1, D.isTy, D.flat, D.flats, sRet, eTake, outs, S.only, Rk.pk, pJoin, Tk.join, Rk.kind, eIf, eOp, aCons, tmps, kJoin, aPtr, eCall, argS, wb, ptrs, S.back, S.wr, S.d?, S.isBor, oTup, oLst, oTuple, oInt, iSq, iSeqL, iSeqT, sk_t_own_t, sk_t_own_f, sk_t_frz_t, sk_t_frz_f, sk_t_old_t, sk_t_old_f, sk_t_val_t, sk_t_val_f, sk_t_bor_t, sk_t_bor_f, sk_f_own_t, sk_f_own_f, sk_f_frz_t, sk_f_frz_f, sk_f_old_t, sk_f_old_f, sk_f_val_t, sk_f_val_f, sk_f_bor_t, sk_f_bor_f, sFor, sLoop, Tk.mix, S.clean, wipeE, oList, bNot, bAnd, bOr, eB, pIsi, D.tyn, iRange1, row_r one h1, row_j other h2, row_s one h1 other h2, ha]
theorem un_step (a b g : S) : StepOk a b g (sAsg (eOp oAdd (aCons false (lift (pVar [] 2)) (aCons false (eCall 2 [] fn__law_led (aCons false (lift (pVar [] 3)) (aCons false (lift (pVar [] 4)) (fun env => some ([], env))))) (fun env => some ([], env))))) (gSet 2)) := by
  intro L one other h1 h2 hl
  have hr := row_l one h1 other h2
  have ha : oAdd [.str L, .str (rowS one other)] = some (.imm, .str (L ++ rowS one other)) := by
    unfold oAdd
    simp only
    rw [if_pos (by omega)]
  simp [sSeq, sIf, bE, lift, pOp, pCons, pVar, oGt, oGe, oLe, oLen, sAsg, gSet, oMod, sPut, oSetL, oDiv, oSub, oMul, oPow, T.sl, pC, S.get, S.with, tt1, D.isTy, D.flat, D.flats, sRet, eTake, outs, S.only, Rk.pk, pJoin, Tk.join, Rk.kind, eIf, eOp, aCons, tmps, kJoin, aPtr, eCall, argS, wb, ptrs, S.back, S.wr, S.d?, S.isBor, oTup, oLst, oTuple, oInt, iSq, iSeqL, iSeqT, sk_t_own_t, sk_t_own_f, sk_t_frz_t, sk_t_frz_f, sk_t_old_t, sk_t_old_f, sk_t_val_t, sk_t_val_f, sk_t_bor_t, sk_t_bor_f, sk_f_own_t, sk_f_own_f, sk_f_frz_t, sk_f_frz_f, sk_f_old_t, sk_f_old_f, sk_f_val_t, sk_f_val_f, sk_f_bor_t, sk_f_bor_f, sFor, sLoop, Tk.mix, S.clean, wipeE, oList, bNot, bAnd, bOr, eB, pIsi, D.tyn, iRange1, row_led one h1 other h2, ha]
theorem empty_len : (Str.ofString "").length = 0 := by decide +kernel
theorem lc_ok (ones others : List Str) (h1 : ∀ o ∈ ones, o ∈ W8) (h2 : ∀ o ∈ others, o ∈ W8) (l1 : ones.length ≤ 8) (l2 : others.length ≤ 8) :
    fn_led_choices [.t .old (.tup (ones.map D.str)), .t .old (.tup (others.map D.str))] = some (.tup ((pickS (accO ones others "")).map D.str), [.gone, .gone]) := by
  obtain ⟨s, s', e⟩ := outer_ok (g := .gone) (lc_step (.t .old (.tup (ones.map D.str))) (.t .old (.tup (others.map D.str))) .gone) h2 l2 ones "" .gone .gone h1 (by rw [empty_len]; omega)
  have c := comp1_ok (.t .old (.tup (ones.map D.str))) (.t .old (.tup (others.map D.str))) s s' (accO ones others "")
  unfold fn_led_choices fnOf fb_led_choices
  simp [sSeq, sIf, bE, lift, pOp, pCons, pVar, oGt, oGe, oLe, oLen, sAsg, gSet, oMod, sPut, oSetL, oDiv, oSub, oMul, oPow, T.sl, pC, S.get, S.with, tt1, D.isTy, D.flat, D.flats, sRet, eTake, outs, S.only, Rk.pk, pJoin, Tk.join, Rk.kind, eIf, eOp, aCons, tmps, kJoin, aPtr, eCall, argS, wb, ptrs, S.back, S.wr, S.d?, S.isBor, oTup, oLst, oTuple, oInt, iSq, iSeqL, iSeqT, sk_t_own_t, sk_t_own_f, sk_t_frz_t, sk_t_frz_f, sk_t_old_t, sk_t_old_f, sk_t_val_t, sk_t_val_f, sk_t_bor_t, sk_t_bor_f, sk_f_own_t, sk_f_own_f, sk_f_frz_t, sk_f_frz_f, sk_f_old_t, sk_f_old_f, sk_f_val_t, sk_f_val_f, sk_f_bor_t, sk_f_bor_f, sFor, sLoop, Tk.mix, S.clean, wipeE, oList, bNot, bAnd, bOr, eB, pIsi, D.tyn, iRange1] at e
  simp [sSeq, sIf, bE, lift, pOp, pCons, pVar, oGt, oGe, oLe, oLen, sAsg, gSet, oMod, sPut, oSetL, oDiv, oSub, oMul, oPow, T.sl, pC, S.get, S.with, tt1, D.isTy, D.flat, D.flats, sRet, eTake, outs, S.only, Rk.pk, pJoin, Tk.join, Rk.kind, eIf, eOp, aCons, tmps, kJoin, aPtr, eCall, argS, wb, ptrs, S.back, S.wr, S.d?, S.isBor, oTup, oLst, oTuple, oInt, iSq, iSeqL, iSeqT, sk_t_own_t, sk_t_own_f, sk_t_frz_t, sk_t_frz_f, sk_t_old_t, sk_t_old_f, sk_t_val_t, sk_t_val_f, sk_t_bor_t, sk_t_bor_f, sk_f_own_t, sk_f_own_f, sk_f_frz_t, sk_f_frz_f, sk_f_old_t, sk_f_old_f, sk_f_val_t, sk_f_val_f, sk_f_bor_t, sk_f_bor_f, sFor, sLoop, Tk.mix, S.clean, wipeE, oList, bNot, bAnd, bOr, eB, pIsi, D.tyn, iRange1, W8] at c
  simp [sSeq, sIf, bE, lift, pOp, pCons, pVar, oGt, oGe, oLe, oLen, sAsg, gSet, oMod, sPut, oSetL, oDiv, oSub, oMul, oPow, T.sl, pC, S.get, S.with, tt1, D.isTy, D.flat, D.flats, sRet, eTake, outs, S.only, Rk.pk, pJoin, Tk.join, Rk.kind, eIf, eOp, aCons, tmps, kJoin, aPtr, eCall, argS, wb, ptrs, S.back, S.wr, S.d?, S.isBor, oTup, oLst, oTuple, oInt, iSq, iSeqL, iSeqT, sk_t_own_t, sk_t_own_f, sk_t_frz_t, sk_t_frz_f, sk_t_old_t, sk_t_old_f, sk_t_val_t, sk_t_val_f, sk_t_bor_t, sk_t_bor_f, sk_f_own_t, sk_f_own_f, sk_f_frz_t, sk_f_frz_f, sk_f_old_t, sk_f_old_f, sk_f_val_t, sk_f_val_f, sk_f_bor_t, sk_f_bor_f, sFor, sLoop, Tk.mix, S.clean, wipeE, oList, bNot, bAnd, bOr, eB, pIsi, D.tyn, iRange1, flats_str, e, eComp, c]
theorem un_ok (ones others : List Str) (h1 : ∀ o ∈ ones, o ∈ W8) (h2 : ∀ o ∈ others, o ∈ W8) (l1 : ones.length ≤ 8) (l2 : others.length ≤ 8) :
    fn__law_union [.t .old (.tup (ones.map D.str)), .t .old (.tup (others.map D.str))] = some (.tup ((pickS (accO ones others "")).map D.str), [.gone, .gone]) := by
  obtain ⟨s, s', e⟩ := outer_ok (g := .gone) (un_step (.t .old (.tup (ones.map D.str))) (.t .old (.tup (others.map D.str))) .gone) h2 l2 ones "" .gone .gone h1 (by rw [empty_len]; omega)
  have c := comp2_ok (.t .old (.tup (ones.map D.str))) (.t .old (.tup (others.map D.str))) s s' (accO ones others "")
  unfold fn__law_union fnOf fb__law_union
  simp [sSeq, sIf, bE, lift, pOp, pCons, pVar, oGt, oGe, oLe, oLen, sAsg, gSet, oMod, sPut, oSetL, oDiv, oSub, oMul, oPow, T.sl, pC, S.get, S.with, tt1, D.isTy, D.flat, D.flats, sRet, eTake, outs, S.only, Rk.pk, pJoin, Tk.join, Rk.kind, eIf, eOp, aCons, tmps, kJoin, aPtr, eCall, argS, wb, ptrs, S.back, S.wr, S.d?, S.isBor, oTup, oLst, oTuple, oInt, iSq, iSeqL, iSeqT, sk_t_own_t, sk_t_own_f, sk_t_frz_t, sk_t_frz_f, sk_t_old_t, sk_t_old_f, sk_t_val_t, sk_t_val_f, sk_t_bor_t, sk_t_bor_f, sk_f_own_t, sk_f_own_f, sk_f_frz_t, sk_f_frz_f, sk_f_old_t, sk_f_old_f, sk_f_val_t, sk_f_val_f, sk_f_bor_t, sk_f_bor_f, sFor, sLoop, Tk.mix, S.clean, wipeE, oList, bNot, bAnd, bOr, eB, pIsi, D.tyn, iRange1] at e c
  simp [sSeq, sIf, bE, lift, pOp, pCons, pVar, oGt, oGe, oLe, oLen, sAsg, gSet, oMod, sPut, oSetL, oDiv, oSub, oMul, oPow, T.sl, pC, S.get, S.with, tt1, D.isTy, D.flat, D.flats, sRet, eTake, outs, S.only, Rk.pk, pJoin, Tk.join, Rk.kind, eIf, eOp, aCons, tmps, kJoin, aPtr, eCall, argS, wb, ptrs, S.back, S.wr, S.d?, S.isBor, oTup, oLst, oTuple, oInt, iSq, iSeqL, iSeqT, sk_t_own_t, sk_t_own_f, sk_t_frz_t, sk_t_frz_f, sk_t_old_t, sk_t_old_f, sk_t_val_t, sk_t_val_f, sk_t_bor_t, sk_t_bor_f, sk_f_own_t, sk_f_own_f, sk_f_frz_t, sk_f_frz_f, sk_f_old_t, sk_f_old_f, sk_f_val_t, sk_f_val_f, sk_f_bor_t, sk_f_bor_f, sFor, sLoop, Tk.mix, S.clean, wipeE, oList, bNot, bAnd, bOr, eB, pIsi, D.tyn, iRange1, flats_str, e, eComp, c]
/-! ### the law -/
theorem led_ok : ∀ w ∈ W8, ∀ v ∈ W8, fn_led [.t .old (.str w), .t .old (.str v)] = some (.tup ((pickS (accO [w] [v] "")).map D.str), [.gone, .gone]) := by
  apply w8_cases <;> apply w8_cases <;> kernel_rfl
def turnS (w : Str) : Str := match fn_turned [.t .old (.str w)] with
  | some (.str t, _) => t
  | _ => ""
theorem turn_ok : ∀ w ∈ W8, turnS w ∈ W8 ∧ fn_turned [.t .old (.str w)] = some (.str (turnS w), [.gone]) ∧ fn__law_turned [.t .old (.tup [.str w])] = some (.tup [.str (turnS w)], [.gone]) := by
  apply w8_cases <;> exact ⟨by decide +kernel, by kernel_rfl, by kernel_rfl⟩
theorem w8_ok : ∀ w ∈ W8, PyData.strOk w = true := by
  apply w8_cases <;> decide +kernel
theorem like_w (w : Str) (hw : w ∈ W8) : fn__law_like [.t .old (.str w), .t .old (.str w)] = some (.bl true, [.gone, .gone]) := like_str w (w8_ok w hw) 4
theorem like_ws (ws : List Str) (hw : ∀ w ∈ ws, w ∈ W8) (hl : ws.length ≤ 1000) : fn__law_like [.t .old (.tup (ws.map D.str)), .t .old (.tup (ws.map D.str))] = some (.bl true, [.gone, .gone]) :=
  like_tup (ws.map D.str) 4 (by rw [List.length_map]; exact hl) fun d hd => by
    obtain ⟨w, h, rfl⟩ := List.mem_map.mp hd
    exact ⟨rfl, like_str w (w8_ok w (hw w h)) 3⟩
theorem like_p (L : Str) : fn__law_like [.t .old (.tup ((pickS L).map D.str)), .t .old (.tup ((pickS L).map D.str))] = some (.bl true, [.gone, .gone]) :=
  like_ws _ (fun w h => pick_mem h) (Nat.le_trans (pick_len L W8) (by decide))
def lawI : List S → Option Fl := (sIf (bNot (bE (eCall 2 [1] fn__law_like (aCons false (eCall 2 [1] fn_led (aCons false (lift (pVar [1] 2)) (aCons false (lift (pVar [1] 3)) (fun env => some ([], env))))) (aCons false (eCall 2 [1] fn__law_union (aCons false (eOp oTup (aCons false (lift (pVar [1] 2)) (fun env => some ([], env)))) (aCons false (eOp oTup (aCons false (lift (pVar [1] 3)) (fun env => some ([], env)))) (fun env => some ([], env))))) (fun env => some ([], env)))))))
    (sRet (lift (pC (.bl false))))
    (fun env => some (.nx env)))
theorem lawI_loop (ns : List Int) (d : D) (w : Str) (hw : w ∈ W8) : ∀ (vs : List Str) (s : S), (∀ v ∈ vs, v ∈ W8) → ∃ s', sLoop (gSet 3) lawI (vs.map fun v => (Tk.own, D.str v)) [.t .old (.scr ns), .t .own d, .t .own (.str w), s, .gone, .gone, .gone] = some (.nx [.t .old (.scr ns), .t .own d, .t .own (.str w), s', .gone, .gone, .gone])
  | [], s, _ => ⟨s, rfl⟩
  | v :: vs, s, h => by
    obtain ⟨s', e⟩ := lawI_loop ns d w hw vs (.t .own (.str v)) (fun x hx => h x (List.mem_cons_of_mem _ hx))
    refine ⟨s', ?_⟩
    rw [← e]
    have hv := h v List.mem_cons_self
    have u := un_ok [w] [v] (by simpa using hw) (by simpa using hv) (by simp) (by simp)
    simp only [List.map_cons, List.map_nil] at u
    simp [sSeq, sIf, bE, lift, pOp, pCons, pVar, oGt, oGe, oLe, oLen, sAsg, gSet, oMod, sPut, oSetL, oDiv, oSub, oMul, oPow, T.sl, pC, S.get, S.with, tt1, D.isTy, D.flat, D.flats, sRet, eTake, outs, S.only, Rk.pk, pJoin, Tk.join, Rk.kind, eIf, eOp, aCons, tmps, kJoin, aPtr, eCall, argS, wb, ptrs, S.back, S.wr, S.d?, S.isBor, oTup, oLst, oTuple, oInt, iSq, iSeqL, iSeqT, sk_t_own_t, sk_t_own_f, sk_t_frz_t, sk_t_frz_f, sk_t_old_t, sk_t_old_f, sk_t_val_t, sk_t_val_f, sk_t_bor_t, sk_t_bor_f, sk_f_own_t, sk_f_own_f, sk_f_frz_t, sk_f_frz_f, sk_f_old_t, sk_f_old_f, sk_f_val_t, sk_f_val_f, sk_f_bor_t, sk_f_bor_f, sFor, sLoop, Tk.mix, S.clean, wipeE, oList, bNot, bAnd, bOr, eB, pIsi, D.tyn, iRange1, lawI, led_ok w hw v hv, u, like_p]
theorem lawO_loop (ns : List Int) (d : D) : ∀ (ws : List Str) (s s0 : S), (∀ v ∈ ws, v ∈ W8) → ∃ s' s'', sLoop (gSet 2) (sSeq (sIf (bNot (bE (eCall 2 [1] fn__law_like (aCons false (eCall 1 [1] fn_turned (aCons false (lift (pVar [1] 2)) (fun env => some ([], env)))) (aCons false (eOp oIx (aCons false (eCall 1 [1] fn__law_turned (aCons false (eOp oTup (aCons false (lift (pVar [1] 2)) (fun env => some ([], env)))) (fun env => some ([], env)))) (aCons false (lift (pC (.int 0))) (fun env => some ([], env))))) (fun env => some ([], env)))))))
    (sRet (lift (pC (.bl false))))
    (fun env => some (.nx env)))
    (sFor false (iSq (eCall 0 [1] fn__law_ways (fun env => some ([], env)))) (gSet 3) lawI)) (ws.map fun v => (Tk.own, D.str v)) [.t .old (.scr ns), .t .own d, s, s0, .gone, .gone, .gone] = some (.nx [.t .old (.scr ns), .t .own d, s', s'', .gone, .gone, .gone])
  | [], s, s0, _ => ⟨s, s0, rfl⟩
  | w :: ws, s, s0, h => by
    have hw := h w List.mem_cons_self
    obtain ⟨t1, t2, t3⟩ := turn_ok w hw
    obtain ⟨z, e1⟩ := lawI_loop ns d w hw W8 s0 (fun _ h => h)
    obtain ⟨s', s'', e⟩ := lawO_loop ns d ws (.t .own (.str w)) z (fun x hx => h x (List.mem_cons_of_mem _ hx))
    refine ⟨s', s'', ?_⟩
    rw [← e]
    have hix : oIx [.tup [.str (turnS w)], .int 0] = some (.imm, .str (turnS w)) := rfl
    have hf : sFor false (iSq (eCall 0 [1] fn__law_ways (fun env => some ([], env)))) (gSet 3) lawI [.t .old (.scr ns), .t .own d, .t .own (.str w), s0, .gone, .gone, .gone] = some (.nx [.t .old (.scr ns), .t .own d, .t .own (.str w), z, .gone, .gone, .gone]) := by
      rw [← e1]
      simp [sSeq, sIf, bE, lift, pOp, pCons, pVar, oGt, oGe, oLe, oLen, sAsg, gSet, oMod, sPut, oSetL, oDiv, oSub, oMul, oPow, T.sl, pC, S.get, S.with, tt1, D.isTy, D.flat, D.flats, sRet, eTake, outs, S.only, Rk.pk, pJoin, Tk.join, Rk.kind, eIf, eOp, aCons, tmps, kJoin, aPtr, eCall, argS, wb, ptrs, S.back, S.wr, S.d?, S.isBor, oTup, oLst, oTuple, oInt, iSq, iSeqL, iSeqT, sk_t_own_t, sk_t_own_f, sk_t_frz_t, sk_t_frz_f, sk_t_old_t, sk_t_old_f, sk_t_val_t, sk_t_val_f, sk_t_bor_t, sk_t_bor_f, sk_f_own_t, sk_f_own_f, sk_f_frz_t, sk_f_frz_f, sk_f_old_t, sk_f_old_f, sk_f_val_t, sk_f_val_f, sk_f_bor_t, sk_f_bor_f, sFor, sLoop, Tk.mix, S.clean, wipeE, oList, bNot, bAnd, bOr, eB, pIsi, D.tyn, iRange1, ways_ok, flats_str]
      rfl
    simp [sSeq, sIf, bE, lift, pOp, pCons, pVar, oGt, oGe, oLe, oLen, sAsg, gSet, oMod, sPut, oSetL, oDiv, oSub, oMul, oPow, T.sl, pC, S.get, S.with, tt1, D.isTy, D.flat, D.flats, sRet, eTake, outs, S.only, Rk.pk, pJoin, Tk.join, Rk.kind, eIf, eOp, aCons, tmps, kJoin, aPtr, eCall, argS, wb, ptrs, S.back, S.wr, S.d?, S.isBor, oTup, oLst, oTuple, oInt, iSq, iSeqL, iSeqT, sk_t_own_t, sk_t_own_f, sk_t_frz_t, sk_t_frz_f, sk_t_old_t, sk_t_old_f, sk_t_val_t, sk_t_val_f, sk_t_bor_t, sk_t_bor_f, sk_f_own_t, sk_f_own_f, sk_f_frz_t, sk_f_frz_f, sk_f_old_t, sk_f_old_f, sk_f_val_t, sk_f_val_f, sk_f_bor_t, sk_f_bor_f, sLoop, Tk.mix, S.clean, wipeE, oList, bNot, bAnd, bOr, eB, pIsi, D.tyn, iRange1, t2, t3, hix, like_w _ t1, hf]
theorem lawT_loop (ns : List Int) : ∀ (js : List Int) (i m h : Int) (s2 s3 s4 s5 s6 : S), 0 ≤ i → ∃ e', sLoop (gSet 4) (sSeq (sAsg (eCall 1 [1] fn__law_bits (aPtr 1 (fun env => some ([], env)))) (gSet 5))
    (sSeq (sAsg (eCall 1 [1] fn__law_bits (aPtr 1 (fun env => some ([], env)))) (gSet 6))
    (sIf (bNot (bE (eCall 2 [1] fn__law_like (aCons false (eCall 2 [1] fn_led_choices (aCons false (lift (pVar [1] 5)) (aCons false (lift (pVar [1] 6)) (fun env => some ([], env))))) (aCons false (eCall 2 [1] fn__law_union (aCons false (lift (pVar [1] 5)) (aCons false (lift (pVar [1] 6)) (fun env => some ([], env))))) (fun env => some ([], env)))))))
    (sRet (lift (pC (.bl false))))
    (fun env => some (.nx env))))) (js.map fun j => (Tk.own, D.int j)) [.t .old (.scr ns), .t .own (die ns i m h), s2, s3, s4, s5, s6] = some (.nx e')
  | [], i, m, h, s2, s3, s4, s5, s6, _ => ⟨_, rfl⟩
  | j :: js, i, m, h, s2, s3, s4, s5, s6, hi => by
    obtain ⟨c1, i1, m1, h1, hi1, hc1, hl1, e1⟩ := bits_ok ns i m h hi
    obtain ⟨c2, i2, m2, h2, hi2, hc2, hl2, e2⟩ := bits_ok ns i1 m1 h1 hi1
    obtain ⟨e', e⟩ := lawT_loop ns js i2 m2 h2 s2 s3 (.t .own (.int j)) (.t .own (.tup (c1.map D.str))) (.t .own (.tup (c2.map D.str))) hi2
    refine ⟨e', ?_⟩
    rw [← e]
    simp [sSeq, sIf, bE, lift, pOp, pCons, pVar, oGt, oGe, oLe, oLen, sAsg, gSet, oMod, sPut, oSetL, oDiv, oSub, oMul, oPow, T.sl, pC, S.get, S.with, tt1, D.isTy, D.flat, D.flats, sRet, eTake, outs, S.only, Rk.pk, pJoin, Tk.join, Rk.kind, eIf, eOp, aCons, tmps, kJoin, aPtr, eCall, argS, wb, ptrs, S.back, S.wr, S.d?, S.isBor, oTup, oLst, oTuple, oInt, iSq, iSeqL, iSeqT, sk_t_own_t, sk_t_own_f, sk_t_frz_t, sk_t_frz_f, sk_t_old_t, sk_t_old_f, sk_t_val_t, sk_t_val_f, sk_t_bor_t, sk_t_bor_f, sk_f_own_t, sk_f_own_f, sk_f_frz_t, sk_f_frz_f, sk_f_old_t, sk_f_old_f, sk_f_val_t, sk_f_val_f, sk_f_bor_t, sk_f_bor_f, sFor, sLoop, Tk.mix, S.clean, wipeE, oList, bNot, bAnd, bOr, eB, pIsi, D.tyn, iRange1, e1, e2, lc_ok c1 c2 hc1 hc2 hl1 hl2, un_ok c1 c2 hc1 hc2 hl1 hl2, like_p]
theorem law_true : ∀ ns : List Int, ns.length ≤ 63 → ∃ L1, fn_law [.t .old (.scr ns)] = some (.bl true, L1) := by
  intro ns _
  obtain ⟨m, e1⟩ := dice_ok ns
  obtain ⟨s', s'', e2⟩ := lawO_loop ns (die ns 0 m 0) W8 .gone .gone (fun _ h => h)
  obtain ⟨e', e3⟩ := lawT_loop ns [0, 1, 2, 3, 4, 5] 0 m 0 s' s'' .gone .gone .gone (by omega)
  refine ⟨outs 1 e', ?_⟩
  unfold fn_law fnOf fb_law
  unfold lawI at e2
  have h6 : ([0, 1, 2, 3, 4, 5] : List Int).map (fun j => (Tk.own, D.int j)) = upTo 0 6 := rfl
  rw [h6] at e3
  have hw : (W8.map fun v => (Tk.own, D.str v)) = (W8.map D.str).map fun d => (Tk.own, d) := rfl
  rw [hw] at e2
  simp [sSeq, sIf, bE, lift, pOp, pCons, pVar, oGt, oGe, oLe, oLen, sAsg, gSet, oMod, sPut, oSetL, oDiv, oSub, oMul, oPow, T.sl, pC, S.get, S.with, tt1, D.isTy, D.flat, D.flats, sRet, eTake, outs, S.only, Rk.pk, pJoin, Tk.join, Rk.kind, eIf, eOp, aCons, tmps, kJoin, aPtr, eCall, argS, wb, ptrs, S.back, S.wr, S.d?, S.isBor, oTup, oLst, oTuple, oInt, iSq, iSeqL, iSeqT, sk_t_own_t, sk_t_own_f, sk_t_frz_t, sk_t_frz_f, sk_t_old_t, sk_t_old_f, sk_t_val_t, sk_t_val_f, sk_t_bor_t, sk_t_bor_f, sk_f_own_t, sk_f_own_f, sk_f_frz_t, sk_f_frz_f, sk_f_old_t, sk_f_old_f, sk_f_val_t, sk_f_val_f, sk_f_bor_t, sk_f_bor_f, sFor, Tk.mix, S.clean, wipeE, oList, bNot, bAnd, bOr, eB, pIsi, D.tyn, iRange1] at e2 e3
  simp [sSeq, sIf, bE, lift, pOp, pCons, pVar, oGt, oGe, oLe, oLen, sAsg, gSet, oMod, sPut, oSetL, oDiv, oSub, oMul, oPow, T.sl, pC, S.get, S.with, tt1, D.isTy, D.flat, D.flats, sRet, eTake, outs, S.only, Rk.pk, pJoin, Tk.join, Rk.kind, eIf, eOp, aCons, tmps, kJoin, aPtr, eCall, argS, wb, ptrs, S.back, S.wr, S.d?, S.isBor, oTup, oLst, oTuple, oInt, iSq, iSeqL, iSeqT, sk_t_own_t, sk_t_own_f, sk_t_frz_t, sk_t_frz_f, sk_t_old_t, sk_t_old_f, sk_t_val_t, sk_t_val_f, sk_t_bor_t, sk_t_bor_f, sk_f_own_t, sk_f_own_f, sk_f_frz_t, sk_f_frz_f, sk_f_old_t, sk_f_old_f, sk_f_val_t, sk_f_val_f, sk_f_bor_t, sk_f_bor_f, sFor, Tk.mix, S.clean, wipeE, oList, bNot, bAnd, bOr, eB, pIsi, D.tyn, iRange1, e1, ways_ok, flats_str, e2, e3]
end RG

set_option maxRecDepth 100000
set_option maxHeartbeats 4000000
namespace RG
open PySem PySem.Spec PyProof.Rows L2
theorem all_mk {l : PySem.W.OpenLaw} {w : World} {K : PySem.W.Frag} {h : Heap} {mg : Str → Option Value} {fa : Addr} (X : K.In h) (G : h.Ns mainGlobals mg) (hfa : mg "law" = some (.ref fa))
    {f0 : Addr} {oc0 : Value} {od0 an0 : Option Addr} {sl0 : Array (Option Value)} {kV0 dc0 pm0 cd0 ct0 : Value}
    (a0 : PySem.W.nsIn K mainGlobals "_law_dice" = some (some (.ref f0))) (l0 : K.lookup f0 = some ⟨oc0, od0, .func (PySem.W.fnOf "_law_dice" "_law_dice" (defArgs s__law_dice) (defBody s__law_dice) (defScope s__law_dice) .none kV0 dc0 pm0 an0 cd0 ct0), sl0⟩) (c0 : PySem.W.codeIn K cd0 "_law_dice" = true) (k0 : PySem.W.keepIn K (.ref f0) = true)
    {f1 : Addr} {oc1 : Value} {od1 an1 : Option Addr} {sl1 : Array (Option Value)} {kV1 dc1 pm1 cd1 ct1 : Value}
    (a1 : PySem.W.nsIn K mainGlobals "_law_ways" = some (some (.ref f1))) (l1 : K.lookup f1 = some ⟨oc1, od1, .func (PySem.W.fnOf "_law_ways" "_law_ways" (defArgs s__law_ways) (defBody s__law_ways) (defScope s__law_ways) .none kV1 dc1 pm1 an1 cd1 ct1), sl1⟩) (c1 : PySem.W.codeIn K cd1 "_law_ways" = true) (k1 : PySem.W.keepIn K (.ref f1) = true)
    {f2 : Addr} {oc2 : Value} {od2 an2 : Option Addr} {sl2 : Array (Option Value)} {kV2 dc2 pm2 cd2 ct2 : Value}
    (a2 : PySem.W.nsIn K mainGlobals "_law_next" = some (some (.ref f2))) (l2 : K.lookup f2 = some ⟨oc2, od2, .func (PySem.W.fnOf "_law_next" "_law_next" (defArgs s__law_next) (defBody s__law_next) (defScope s__law_next) .none kV2 dc2 pm2 an2 cd2 ct2), sl2⟩) (c2 : PySem.W.codeIn K cd2 "_law_next" = true) (k2 : PySem.W.keepIn K (.ref f2) = true)
    {f3 : Addr} {oc3 : Value} {od3 an3 : Option Addr} {sl3 : Array (Option Value)} {kV3 dc3 pm3 cd3 ct3 : Value}
    (a3 : PySem.W.nsIn K mainGlobals "_law_bits" = some (some (.ref f3))) (l3 : K.lookup f3 = some ⟨oc3, od3, .func (PySem.W.fnOf "_law_bits" "_law_bits" (defArgs s__law_bits) (defBody s__law_bits) (defScope s__law_bits) .none kV3 dc3 pm3 an3 cd3 ct3), sl3⟩) (c3 : PySem.W.codeIn K cd3 "_law_bits" = true) (k3 : PySem.W.keepIn K (.ref f3) = true)
    {f4 : Addr} {oc4 : Value} {od4 an4 : Option Addr} {sl4 : Array (Option Value)} {kV4 dc4 pm4 cd4 ct4 : Value}
    (a4 : PySem.W.nsIn K mainGlobals "_law_like" = some (some (.ref f4))) (l4 : K.lookup f4 = some ⟨oc4, od4, .func (PySem.W.fnOf "_law_like" "_law_like" (defArgs s__law_like) (defBody s__law_like) (defScope s__law_like) .none kV4 dc4 pm4 an4 cd4 ct4), sl4⟩) (c4 : PySem.W.codeIn K cd4 "_law_like" = true) (k4 : PySem.W.keepIn K (.ref f4) = true)
    {f5 : Addr} {oc5 : Value} {od5 an5 : Option Addr} {sl5 : Array (Option Value)} {kV5 dc5 pm5 cd5 ct5 : Value}
    (a5 : PySem.W.nsIn K mainGlobals "turned" = some (some (.ref f5))) (l5 : K.lookup f5 = some ⟨oc5, od5, .func (PySem.W.fnOf "turned" "turned" (defArgs s_turned) (defBody s_turned) (defScope s_turned) .none kV5 dc5 pm5 an5 cd5 ct5), sl5⟩) (c5 : PySem.W.codeIn K cd5 "turned" = true) (k5 : PySem.W.keepIn K (.ref f5) = true)
    {f6 : Addr} {oc6 : Value} {od6 an6 : Option Addr} {sl6 : Array (Option Value)} {kV6 dc6 pm6 cd6 ct6 : Value}
    (a6 : PySem.W.nsIn K mainGlobals "led_choices" = some (some (.ref f6))) (l6 : K.lookup f6 = some ⟨oc6, od6, .func (PySem.W.fnOf "led_choices" "led_choices" (defArgs s_led_choices) (defBody s_led_choices) (defScope s_led_choices) .none kV6 dc6 pm6 an6 cd6 ct6), sl6⟩) (c6 : PySem.W.codeIn K cd6 "led_choices" = true) (k6 : PySem.W.keepIn K (.ref f6) = true)
    {f7 : Addr} {oc7 : Value} {od7 an7 : Option Addr} {sl7 : Array (Option Value)} {kV7 dc7 pm7 cd7 ct7 : Value}
    (a7 : PySem.W.nsIn K mainGlobals "_law_led" = some (some (.ref f7))) (l7 : K.lookup f7 = some ⟨oc7, od7, .func (PySem.W.fnOf "_law_led" "_law_led" (defArgs s__law_led) (defBody s__law_led) (defScope s__law_led) .none kV7 dc7 pm7 an7 cd7 ct7), sl7⟩) (c7 : PySem.W.codeIn K cd7 "_law_led" = true) (k7 : PySem.W.keepIn K (.ref f7) = true)
    {f8 : Addr} {oc8 : Value} {od8 an8 : Option Addr} {sl8 : Array (Option Value)} {kV8 dc8 pm8 cd8 ct8 : Value}
    (a8 : PySem.W.nsIn K mainGlobals "_law_union" = some (some (.ref f8))) (l8 : K.lookup f8 = some ⟨oc8, od8, .func (PySem.W.fnOf "_law_union" "_law_union" (defArgs s__law_union) (defBody s__law_union) (defScope s__law_union) .none kV8 dc8 pm8 an8 cd8 ct8), sl8⟩) (c8 : PySem.W.codeIn K cd8 "_law_union" = true) (k8 : PySem.W.keepIn K (.ref f8) = true)
    {f9 : Addr} {oc9 : Value} {od9 an9 : Option Addr} {sl9 : Array (Option Value)} {kV9 dc9 pm9 cd9 ct9 : Value}
    (a9 : PySem.W.nsIn K mainGlobals "_law_turned" = some (some (.ref f9))) (l9 : K.lookup f9 = some ⟨oc9, od9, .func (PySem.W.fnOf "_law_turned" "_law_turned" (defArgs s__law_turned) (defBody s__law_turned) (defScope s__law_turned) .none kV9 dc9 pm9 an9 cd9 ct9), sl9⟩) (c9 : PySem.W.codeIn K cd9 "_law_turned" = true) (k9 : PySem.W.keepIn K (.ref f9) = true)
    {f10 : Addr} {oc10 : Value} {od10 an10 : Option Addr} {sl10 : Array (Option Value)} {kV10 dc10 pm10 cd10 ct10 : Value}
    (a10 : PySem.W.nsIn K mainGlobals "led" = some (some (.ref f10))) (l10 : K.lookup f10 = some ⟨oc10, od10, .func (PySem.W.fnOf "led" "led" (defArgs s_led) (defBody s_led) (defScope s_led) .none kV10 dc10 pm10 an10 cd10 ct10), sl10⟩) (c10 : PySem.W.codeIn K cd10 "led" = true) (k10 : PySem.W.keepIn K (.ref f10) = true)
    {f11 : Addr} {oc11 : Value} {od11 an11 : Option Addr} {sl11 : Array (Option Value)} {kV11 dc11 pm11 cd11 ct11 : Value}
    (a11 : PySem.W.nsIn K mainGlobals "law" = some (some (.ref f11))) (l11 : K.lookup f11 = some ⟨oc11, od11, .func (PySem.W.fnOf "law" "law" (defArgs s_law) (defBody s_law) (defScope s_law) .none kV11 dc11 pm11 an11 cd11 ct11), sl11⟩) (c11 : PySem.W.codeIn K cd11 "law" = true) (k11 : PySem.W.keepIn K (.ref f11) = true)
    (z_bool : PySem.W.nsIn K mainGlobals "bool" = some none)
    (z_dict : PySem.W.nsIn K mainGlobals "dict" = some none)
    (z_int : PySem.W.nsIn K mainGlobals "int" = some none)
    (z_isinstance : PySem.W.nsIn K mainGlobals "isinstance" = some none)
    (z_len : PySem.W.nsIn K mainGlobals "len" = some none)
    (z_list : PySem.W.nsIn K mainGlobals "list" = some none)
    (z_range : PySem.W.nsIn K mainGlobals "range" = some none)
    (z_str : PySem.W.nsIn K mainGlobals "str" = some none)
    (z_tuple : PySem.W.nsIn K mainGlobals "tuple" = some none)
    {p_WAYS : Addr} {us_WAYS : List Value} {n_WAYS : Nat} {sl_WAYS : Array (Option Value)} (a_WAYS : PySem.W.nsIn K mainGlobals "WAYS" = some (some (.ref p_WAYS))) (l_WAYS : K.lookup p_WAYS = some ⟨.type "tuple", none, .seq us_WAYS.toArray n_WAYS, sl_WAYS⟩) (s_WAYS : strsAre us_WAYS y_WAYS = true) (e_WAYS : us_WAYS.length ≤ 1000)
    {p_TURNS : Addr} {es_TURNS : Array DictEntry} {n_TURNS : Nat} (a_TURNS : PySem.W.nsIn K mainGlobals "TURNS" = some (some (.ref p_TURNS))) (l_TURNS : K.lookup p_TURNS = some ⟨.type "dict", none, .dict es_TURNS n_TURNS, #[]⟩) (k_TURNS : PySem.W.KeysLit w.params es_TURNS.toList) (o_TURNS : (p_TURNS == sysModules) = false) (t_TURNS : TblOk K p_TURNS t_TURNS)
    {p_LETTERS : Addr} {es_LETTERS : Array DictEntry} {n_LETTERS : Nat} (a_LETTERS : PySem.W.nsIn K mainGlobals "LETTERS" = some (some (.ref p_LETTERS))) (l_LETTERS : K.lookup p_LETTERS = some ⟨.type "dict", none, .dict es_LETTERS n_LETTERS, #[]⟩) (k_LETTERS : PySem.W.KeysLit w.params es_LETTERS.toList) (o_LETTERS : (p_LETTERS == sysModules) = false) (t_LETTERS : TblOk K p_LETTERS t_LETTERS)
    {p_ROWS : Addr} {es_ROWS : Array DictEntry} {n_ROWS : Nat} (a_ROWS : PySem.W.nsIn K mainGlobals "ROWS" = some (some (.ref p_ROWS))) (l_ROWS : K.lookup p_ROWS = some ⟨.type "dict", none, .dict es_ROWS n_ROWS, #[]⟩) (k_ROWS : PySem.W.KeysLit w.params es_ROWS.toList) (o_ROWS : (p_ROWS == sysModules) = false) (t_ROWS : TblOk K p_ROWS t_ROWS) :
    ∃ fd : FuncData, (∀ (s : Shared) (v : Value), BindsTo s fd ⟨[v], []⟩ [("_law_script", v)]) ∧ ∀ base : Heap, K.In base → base.Ns mainGlobals mg → FnOk l.prog w K mg base CX0 6 fa fd ["_law_script"] (spOf K 1 fn_law) := by
  have e := hfa.symm.trans (PySem.W.mg_of X G a11)
  cases e
  have M : Mod K w mg := ⟨PySem.W.mg_none_of X G z_bool, PySem.W.mg_none_of X G z_dict, PySem.W.mg_none_of X G z_int, PySem.W.mg_none_of X G z_isinstance, PySem.W.mg_none_of X G z_len, PySem.W.mg_none_of X G z_list, PySem.W.mg_none_of X G z_range, PySem.W.mg_none_of X G z_str, PySem.W.mg_none_of X G z_tuple, gtup_mk (PySem.W.mg_of X G a_WAYS) l_WAYS s_WAYS rfl e_WAYS, gdict_mk (PySem.W.mg_of X G a_TURNS) l_TURNS k_TURNS o_TURNS t_TURNS, gdict_mk (PySem.W.mg_of X G a_LETTERS) l_LETTERS k_LETTERS o_LETTERS t_LETTERS, gdict_mk (PySem.W.mg_of X G a_ROWS) l_ROWS k_ROWS o_ROWS t_ROWS⟩
  have F0 := fun_mk (st := s__law_dice) l0 c0 k0
  have b0 := F0.binds (ps := ["_law_script"]) fun _ _ _ _ _ _ us hl => match us, hl with | [_], _ => rfl
  have F1 := fun_mk (st := s__law_ways) l1 c1 k1
  have b1 := F1.binds (ps := []) fun _ _ _ _ _ _ us hl => match us, hl with | [], _ => rfl
  have F2 := fun_mk (st := s__law_next) l2 c2 k2
  have b2 := F2.binds (ps := ["_law_dice_here", "_law_many"]) fun _ _ _ _ _ _ us hl => match us, hl with | [_, _], _ => rfl
  have F3 := fun_mk (st := s__law_bits) l3 c3 k3
  have b3 := F3.binds (ps := ["_law_d"]) fun _ _ _ _ _ _ us hl => match us, hl with | [_], _ => rfl
  have F4 := fun_mk (st := s__law_like) l4 c4 k4
  have b4 := F4.binds (ps := ["_law_found", "_law_due"]) fun _ _ _ _ _ _ us hl => match us, hl with | [_, _], _ => rfl
  have F5 := fun_mk (st := s_turned) l5 c5 k5
  have b5 := F5.binds (ps := ["way"]) fun _ _ _ _ _ _ us hl => match us, hl with | [_], _ => rfl
  have F6 := fun_mk (st := s_led_choices) l6 c6 k6
  have b6 := F6.binds (ps := ["ones", "others"]) fun _ _ _ _ _ _ us hl => match us, hl with | [_, _], _ => rfl
  have F7 := fun_mk (st := s__law_led) l7 c7 k7
  have b7 := F7.binds (ps := ["_law_one", "_law_other"]) fun _ _ _ _ _ _ us hl => match us, hl with | [_, _], _ => rfl
  have F8 := fun_mk (st := s__law_union) l8 c8 k8
  have b8 := F8.binds (ps := ["_law_ones", "_law_others"]) fun _ _ _ _ _ _ us hl => match us, hl with | [_, _], _ => rfl
  have F9 := fun_mk (st := s__law_turned) l9 c9 k9
  have b9 := F9.binds (ps := ["_law_choice"]) fun _ _ _ _ _ _ us hl => match us, hl with | [_], _ => rfl
  have F10 := fun_mk (st := s_led) l10 c10 k10
  have b10 := F10.binds (ps := ["one", "other"]) fun _ _ _ _ _ _ us hl => match us, hl with | [_, _], _ => rfl
  have F11 := fun_mk (st := s_law) l11 c11 k11
  refine ⟨PySem.W.fnOf "law" "law" (defArgs s_law) (defBody s_law) (defScope s_law) .none kV11 dc11 pm11 an11 cd11 ct11, fun s v => .of_eq rfl, fun base _ _ => ?_⟩
  have G__law_dice : GFn l.prog w K mg base "_law_dice" 1 1 fn__law_dice := gfnD F0 (PySem.W.mg_of X G a0) b0 sc__law_dice rfl rfl (by decide) (by decide) (b__law_dice (P := l.prog) (w := w) (K := K) (mg := mg) (base := base) (f := f0) M)
  have G__law_ways : GFn l.prog w K mg base "_law_ways" 1 0 fn__law_ways := gfnD F1 (PySem.W.mg_of X G a1) b1 sc__law_ways rfl rfl (by decide) (by decide) (b__law_ways (P := l.prog) (w := w) (K := K) (mg := mg) (base := base) (f := f1) M)
  have G__law_next : GFn l.prog w K mg base "_law_next" 1 2 fn__law_next := gfnD F2 (PySem.W.mg_of X G a2) b2 sc__law_next rfl rfl (by decide) (by decide) (b__law_next (P := l.prog) (w := w) (K := K) (mg := mg) (base := base) (f := f2) M)
  have G__law_bits : GFn l.prog w K mg base "_law_bits" 2 1 fn__law_bits := gfnD F3 (PySem.W.mg_of X G a3) b3 sc__law_bits rfl rfl (by decide) (by decide) (b__law_bits (P := l.prog) (w := w) (K := K) (mg := mg) (base := base) (f := f3) G__law_next G__law_ways M)
  have G__law_like : GFn l.prog w K mg base "_law_like" 5 2 fn__law_like := gfnR (fb := fb__law_like) F4 (PySem.W.mg_of X G a4) b4 sc__law_like rfl rfl (by decide) (by decide) (fun k r g => b__law_like (P := l.prog) (w := w) (K := K) (mg := mg) (base := base) (f := f4) g M) 5
  have G_turned : GFn l.prog w K mg base "turned" 1 1 fn_turned := gfnD F5 (PySem.W.mg_of X G a5) b5 sc_turned rfl rfl (by decide) (by decide) (b_turned (P := l.prog) (w := w) (K := K) (mg := mg) (base := base) (f := f5) M)
  have G_led_choices : GFn l.prog w K mg base "led_choices" 1 2 fn_led_choices := gfnD F6 (PySem.W.mg_of X G a6) b6 sc_led_choices rfl rfl (by decide) (by decide) (b_led_choices (P := l.prog) (w := w) (K := K) (mg := mg) (base := base) (f := f6) M)
  have G__law_led : GFn l.prog w K mg base "_law_led" 2 2 fn__law_led := gfnD F7 (PySem.W.mg_of X G a7) b7 sc__law_led rfl rfl (by decide) (by decide) (b__law_led (P := l.prog) (w := w) (K := K) (mg := mg) (base := base) (f := f7) G__law_ways M)
  have G__law_union : GFn l.prog w K mg base "_law_union" 3 2 fn__law_union := gfnD F8 (PySem.W.mg_of X G a8) b8 sc__law_union rfl rfl (by decide) (by decide) (b__law_union (P := l.prog) (w := w) (K := K) (mg := mg) (base := base) (f := f8) G__law_led G__law_ways M)
  have G__law_turned : GFn l.prog w K mg base "_law_turned" 2 1 fn__law_turned := gfnD F9 (PySem.W.mg_of X G a9) b9 sc__law_turned rfl rfl (by decide) (by decide) (b__law_turned (P := l.prog) (w := w) (K := K) (mg := mg) (base := base) (f := f9) G__law_ways M)
  have G_led : GFn l.prog w K mg base "led" 1 2 fn_led := gfnD F10 (PySem.W.mg_of X G a10) b10 sc_led rfl rfl (by decide) (by decide) (b_led (P := l.prog) (w := w) (K := K) (mg := mg) (base := base) (f := f10) M)
  obtain ⟨A, Z, hb⟩ := b_law (P := l.prog) (w := w) (K := K) (mg := mg) (base := base) (f := fa) G__law_bits G__law_dice G__law_like G__law_turned G__law_union G__law_ways G_led G_led_choices G_turned M
  exact fn_okB F11 sc_law rfl rfl (by decide) (by decide) hb
theorem walkL {l : PySem.W.OpenLaw} {q : Program} {loose : List Str} {XP : (Str → Option Value) → Heap → Prop} {YP : World → Heap → Prop} {d : DefRec} {K : Params → PySem.W.Frag} (hn : l.most = some 63) (hdf : d.params.defaults = []) (hY : ∀ (w : World) (h : Heap), YP w h → (K w.params).In h)
    (F : ∀ (w : World) (mg : Str → Option Value) (fa : Addr) (h : Heap), (K w.params).In h → h.Ns mainGlobals mg → mg d.name = some (.ref fa) →
      ∃ fd : FuncData, (∀ (s : Shared) (u : Value), BindsTo s fd ⟨[u], []⟩ [("_law_script", u)]) ∧ ∀ base : Heap, (K w.params).In base → base.Ns mainGlobals mg → FnOk l.prog w (K w.params) mg base CX0 6 fa fd ["_law_script"] (spOf (K w.params) 1 fn_law)) :
    PySem.W.WalkO q loose XP YP l.row.toRowW d [] (fun f vs => PySem.call f vs) :=
  L2.walk_of (n := 63) (k := 6) (x := "_law_script") (CX := fun _ => CX0) (sp := fun w => spOf (K w.params) 1 fn_law) hn (by decide) hdf ⟨rfl, by decide, by decide⟩ hY F (fun _ _ a ns hl hO hS => sp_law (law_true ns hl) hl hO hS) fun _ _ _ _ _ z => z
end RG
open PySem PySem.W PyProof.Rows in
set_option maxRecDepth 100000 in
set_option maxHeartbeats 0 in
theorem PySem.Challenge.cw_regionsay_k04_choices_led_holds : PySem.Challenge.rw_regionsay_k04_choices_led.Holds := by
  w_on; o_law; k_head; (case hw => w_witness2)
  k_fill
  refine RG.walkL (l := PySem.Challenge.rw_regionsay_k04_choices_led) rfl rfl (fun w h Y => PySem.W.kIn_of Y) ?F
  case F =>
    intro w mg fa h KX G hmg
    refine' RG.all_mk KX G hmg ?a0 ?l0 ?c0 ?k0 ?a1 ?l1 ?c1 ?k1 ?a2 ?l2 ?c2 ?k2 ?a3 ?l3 ?c3 ?k3 ?a4 ?l4 ?c4 ?k4 ?a5 ?l5 ?c5 ?k5 ?a6 ?l6 ?c6 ?k6 ?a7 ?l7 ?c7 ?k7 ?a8 ?l8 ?c8 ?k8 ?a9 ?l9 ?c9 ?k9 ?a10 ?l10 ?c10 ?k10 ?a11 ?l11 ?c11 ?k11 ?z_bool ?z_dict ?z_int ?z_isinstance ?z_len ?z_list ?z_range ?z_str ?z_tuple ?a_WAYS ?l_WAYS ?s_WAYS ?e_WAYS ?a_TURNS ?l_TURNS ?k_TURNS ?o_TURNS ?t_TURNS ?a_LETTERS ?l_LETTERS ?k_LETTERS ?o_LETTERS ?t_LETTERS ?a_ROWS ?l_ROWS ?k_ROWS ?o_ROWS ?t_ROWS
    (case a0 => k_is)
    (case l0 => k_is)
    (case c0 => k_is)
    (case k0 => k_is)
    (case a1 => k_is)
    (case l1 => k_is)
    (case c1 => k_is)
    (case k1 => k_is)
    (case a2 => k_is)
    (case l2 => k_is)
    (case c2 => k_is)
    (case k2 => k_is)
    (case a3 => k_is)
    (case l3 => k_is)
    (case c3 => k_is)
    (case k3 => k_is)
    (case a4 => k_is)
    (case l4 => k_is)
    (case c4 => k_is)
    (case k4 => k_is)
    (case a5 => k_is)
    (case l5 => k_is)
    (case c5 => k_is)
    (case k5 => k_is)
    (case a6 => k_is)
    (case l6 => k_is)
    (case c6 => k_is)
    (case k6 => k_is)
    (case a7 => k_is)
    (case l7 => k_is)
    (case c7 => k_is)
    (case k7 => k_is)
    (case a8 => k_is)
    (case l8 => k_is)
    (case c8 => k_is)
    (case k8 => k_is)
    (case a9 => k_is)
    (case l9 => k_is)
    (case c9 => k_is)
    (case k9 => k_is)
    (case a10 => k_is)
    (case l10 => k_is)
    (case c10 => k_is)
    (case k10 => k_is)
    (case a11 => k_is)
    (case l11 => k_is)
    (case c11 => k_is)
    (case k11 => k_is)
    (case z_bool => k_is)
    (case z_dict => k_is)
    (case z_int => k_is)
    (case z_isinstance => k_is)
    (case z_len => k_is)
    (case z_list => k_is)
    (case z_range => k_is)
    (case z_str => k_is)
    (case z_tuple => k_is)
    (case a_WAYS => k_is)
    (case l_WAYS => k_is)
    (case s_WAYS => rfl)
    (case e_WAYS => decide)
    (case a_TURNS => k_is)
    (case l_TURNS => k_is)
    (case k_TURNS => k_keys)
    (case o_TURNS => decide)
    (case t_TURNS => refine' RG.tbl_str ?_ (RG.tbl_str ?_ (RG.tbl_str ?_ (RG.tbl_str ?_ (RG.tbl_none ?_ (RG.tbl_none ?_ (RG.tbl_none ?_ (RG.tbl_none ?_ RG.tbl_nil))))))); all_goals (first | k_is | rfl | decide | skip))
    (case a_LETTERS => k_is)
    (case l_LETTERS => k_is)
    (case k_LETTERS => k_keys)
    (case o_LETTERS => decide)
    (case t_LETTERS => refine' RG.tbl_str ?_ (RG.tbl_str ?_ (RG.tbl_str ?_ (RG.tbl_str ?_ (RG.tbl_str ?_ (RG.tbl_str ?_ (RG.tbl_str ?_ (RG.tbl_str ?_ RG.tbl_nil))))))); all_goals (first | k_is | rfl | decide | skip))
    (case a_ROWS => k_is)
    (case l_ROWS => k_is)
    (case k_ROWS => k_keys)
    (case o_ROWS => decide)
    (case t_ROWS => refine' RG.tbl_tup (xs := ["amosrcRC", "amorc", "amorc", "a", "amorc", "amorc", "a", "a"]) ?_ ?_ ?_ rfl ?_ (RG.tbl_tup (xs := ["amoRC", "amosrR", "amorc", "m", "morc", "orc", "am", "a"]) ?_ ?_ ?_ rfl ?_ (RG.tbl_tup (xs := ["amoRC", "amoRC", "amosrcRC", "o", "orc", "orc", "amoRC", "amoRC"]) ?_ ?_ ?_ rfl ?_ (RG.tbl_tup (xs := ["a", "m", "o", "s", "r", "c", "R", "C"]) ?_ ?_ ?_ rfl ?_ (RG.tbl_tup (xs := ["a", "am", "amorc", "r", "rc", "c", "amosrR", "amoRC"]) ?_ ?_ ?_ rfl ?_ (RG.tbl_tup (xs := ["a", "a", "amorc", "c", "c", "c", "amorc", "amosrcRC"]) ?_ ?_ ?_ rfl ?_ (RG.tbl_tup (xs := ["amoRC", "moRC", "oRC", "R", "osrR", "orc", "RC", "C"]) ?_ ?_ ?_ rfl ?_ (RG.tbl_tup (xs := ["amoRC", "oRC", "oRC", "C", "oRC", "osrcRC", "C", "C"]) ?_ ?_ ?_ rfl ?_ RG.tbl_nil))))))); all_goals (first | k_is | rfl | decide | skip))
#print axioms PySem.Challenge.cw_regionsay_k04_choices_led_holds
