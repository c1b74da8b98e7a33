import PyProof.Rows.All
import Wide.All
import OpenK.AllK
import Wide.FinOn
import HandS.ForMost
import HandS.Deep
import HandS.Strs
import HandS.IsInst
import HandS.More
import HandS.RevRange
import HandS.TupAny
import HandS.Text
import HandS.DictEq
import HandS.DictComp
import PySem.Challenge.RW_regionsay_k17_idle_strips
set_option Elab.async false
set_option linter.all false
set_option maxRecDepth 100000
set_option maxHeartbeats 4000000
namespace RG
open PySem PySem.Spec PyProof.Rows L2

/-! deep values, and how a value of the heap stands for one; F: the cells of its lists, dicts and instances -/
inductive D where
  | non
  | bl (b : Bool)
  | int (i : Int)
  | str (x : Str)
  | tup (xs : List D)
  | lst (xs : List D)
  | scr (ns : List Int)
  | dK (kvs : List (Key × D))
  | dT (kvs : List (List Key × D))
  | ins (x : Str) (fs : List (Str × D))

def MutO : HO → Prop
  | .lst _ => True
  | .dK _ => True
  | .dT _ => True
  | .ins _ _ _ => True
  | _ => False

/-- a list that is never written: the script, or one of the written part -/
def Scr (K : PySem.W.Frag) (H : Hp) (a : Addr) (xs : List V) : Prop :=
  (∃ o, H a = some (.frz o (.lst xs))) ∨
    ∃ (o : Obj) (its : Array Value) (n : Nat), K.lookup a = some o ∧ o.cls = .type "list" ∧ o.dict = none ∧ o.data = .seq its n ∧ its.size ≤ sizeLine ∧ Vals xs its.toList
theorem Scr.sq {K : PySem.W.Frag} {H : Hp} {a : Addr} {xs : List V} (h : Scr K H a xs) : SqL K H a xs := by
  rcases h with ⟨o, h⟩ | h
  · exact .inl (.inr ⟨o, h⟩)
  · exact .inr h

mutual
inductive Rep (K : PySem.W.Frag) (H : Hp) : V → D → List Addr → Prop
  | non : Rep K H .non .non []
  | bl (b : Bool) : Rep K H (.bl b) (.bl b) []
  | int (i : Int) : Rep K H (.int i) (.int i) []
  | str (x : Str) : Rep K H (.str x) (.str x) []
  | tup {a : Addr} {vs : List V} {ds : List D} {F : List Addr} : SqT K H a vs → (vs.length = 8 ∨ H a = some (.tup vs)) → vs.length ≤ sizeLine → RepL K H vs ds F → Rep K H (.ref a) (.tup ds) F
  | lst {a : Addr} {vs : List V} {ds : List D} {F : List Addr} : H a = some (.lst vs) → vs.length ≤ sizeLine → RepL K H vs ds F → Rep K H (.ref a) (.lst ds) (a :: F)
  | scr {a : Addr} {ns : List Int} : Scr K H a (ns.map V.int) → ns.length ≤ sizeLine → Rep K H (.ref a) (.scr ns) []
  | dK {a : Addr} {kvs : List (Key × V)} {ds : List (Key × D)} : H a = some (.dK kvs) → kvs.length ≤ sizeLine → kvs.map (·.1) = ds.map (·.1) →
      RepL K H (kvs.map (·.2)) (ds.map (·.2)) [] → Rep K H (.ref a) (.dK ds) [a]
  | dT {a : Addr} {kvs : List (List Key × V)} {ds : List (List Key × D)} : H a = some (.dT kvs) → kvs.length ≤ sizeLine → kvs.map (·.1) = ds.map (·.1) →
      RepL K H (kvs.map (·.2)) (ds.map (·.2)) [] → Rep K H (.ref a) (.dT ds) [a]
  | ins {a C dx : Addr} {x : Str} {kvs : List (Str × V)} {ds : List (Str × D)} {F : List Addr} : PySem.W.nsIn K mainGlobals x = some (some (.ref C)) → H a = some (.ins C dx kvs) → kvs.map (·.1) = ds.map (·.1) →
      RepL K H (kvs.map (·.2)) (ds.map (·.2)) F → Rep K H (.ref a) (.ins x ds) (a :: F)
inductive RepL (K : PySem.W.Frag) (H : Hp) : List V → List D → List Addr → Prop
  | nil : RepL K H [] [] []
  | cons {v : V} {vs : List V} {d : D} {ds : List D} {F F' : List Addr} : Rep K H v d F → RepL K H vs ds F' → RepL K H (v :: vs) (d :: ds) (F ++ F')
end

/-- all that stood stands, but for what may be written at the cells of S -/
def Ext (S : Addr → Prop) (H H' : Hp) : Prop := ∀ a o, H a = some o → (¬ S a ∨ ¬ MutO o) → H' a = some o
theorem Ext.mono {S S' : Addr → Prop} {H H' : Hp} (x : Ext S H H') (h : ∀ a, S a → S' a) : Ext S' H H' := fun a o e n =>
  x a o e (n.elim (fun z => .inl fun q => z (h a q)) .inr)
theorem Ext.trans {S : Addr → Prop} {H H' H'' : Hp} (x : Ext S H H') (y : Ext S H' H'') : Ext S H H'' := fun a o e n => y a o (x a o e n) n
theorem ext_same {S : Addr → Prop} {H H' : Hp} (h : Same H H') : Ext S H H' := fun a o e _ => h a o e
theorem same_upd {H : Hp} {p : Addr} {o : HO} (hp : H p = none) : Same H (upd H p o) := fun b u e => by
  rw [upd_ne (ne_of_none e hp)]; exact e
theorem ext_upd {H : Hp} {p : Addr} {o : HO} {S : Addr → Prop} (hp : S p) {u : HO} (hu : H p = some u) (hm : MutO u) : Ext S H (upd H p o) := fun b w e n => by
  by_cases hb : b = p
  · subst hb
    rw [hu] at e; cases e
    rcases n with n | n
    · exact absurd hp n
    · exact absurd hm n
  · rw [upd_ne hb]; exact e

section
variable {K : PySem.W.Frag} {H H' : Hp}
theorem Ext.sqT {S : Addr → Prop} (x : Ext S H H') {a : Addr} {vs : List V} (h : SqT K H a vs) : SqT K H' a vs := by
  rcases h with (h | ⟨o, h⟩) | h
  · exact .inl (.inl (x a _ h (.inr id)))
  · exact .inl (.inr ⟨o, x a _ h (.inr id)⟩)
  · exact .inr h
theorem Ext.scr {S : Addr → Prop} (x : Ext S H H') {a : Addr} {vs : List V} (h : Scr K H a vs) : Scr K H' a vs := by
  rcases h with ⟨o, h⟩ | h
  · exact .inl ⟨o, x a _ h (.inr id)⟩
  · exact .inr h
mutual
theorem Rep.ext {S : Addr → Prop} (x : Ext S H H') : ∀ {v : V} {d : D} {F : List Addr}, Rep K H v d F → (∀ a ∈ F, ¬ S a) → Rep K H' v d F
  | _, _, _, .non, _ => .non
  | _, _, _, .bl b, _ => .bl b
  | _, _, _, .int b, _ => .int b
  | _, _, _, .str b, _ => .str b
  | _, _, _, .tup h y z r, n => .tup (x.sqT h) (y.imp_right fun q => x _ _ q (.inr id)) z (RepL.ext x r n)
  | _, _, _, .lst h z r, n => .lst (x _ _ h (.inl (n _ List.mem_cons_self))) z (RepL.ext x r fun a m => n a (List.mem_cons_of_mem _ m))
  | _, _, _, .scr h z, _ => .scr (x.scr h) z
  | _, _, _, .dK h z k r, n => .dK (x _ _ h (.inl (n _ List.mem_cons_self))) z k (RepL.ext x r fun a m => (nomatch m))
  | _, _, _, .dT h z k r, n => .dT (x _ _ h (.inl (n _ List.mem_cons_self))) z k (RepL.ext x r fun a m => (nomatch m))
  | _, _, _, .ins hc h k r, n => .ins hc (x _ _ h (.inl (n _ List.mem_cons_self))) k (RepL.ext x r fun a m => n a (List.mem_cons_of_mem _ m))
theorem RepL.ext {S : Addr → Prop} (x : Ext S H H') : ∀ {v : List V} {d : List D} {F : List Addr}, RepL K H v d F → (∀ a ∈ F, ¬ S a) → RepL K H' v d F
  | _, _, _, .nil, _ => .nil
  | _, _, _, .cons h r, n => .cons (Rep.ext x h fun a m => n a (List.mem_append_left _ m)) (RepL.ext x r fun a m => n a (List.mem_append_right _ m))
end
theorem Rep.same (x : Same H H') {v : V} {d : D} {F : List Addr} (r : Rep K H v d F) : Rep K H' v d F := r.ext (S := fun _ => False) (ext_same x) fun _ _ z => z
theorem RepL.same (x : Same H H') {v : List V} {d : List D} {F : List Addr} (r : RepL K H v d F) : RepL K H' v d F := r.ext (S := fun _ => False) (ext_same x) fun _ _ z => z
mutual
theorem Rep.dom : ∀ {v : V} {d : D} {F : List Addr}, Rep K H v d F → ∀ a ∈ F, ∃ o, H a = some o ∧ MutO o
  | _, _, _, .non, _, m => nomatch m
  | _, _, _, .bl b, _, m => nomatch m
  | _, _, _, .int b, _, m => nomatch m
  | _, _, _, .str b, _, m => nomatch m
  | _, _, _, .tup h y z r, a, m => RepL.dom r a m
  | _, _, _, .lst h z r, a, m => by
    rcases List.mem_cons.mp m with rfl | m
    · exact ⟨_, h, trivial⟩
    · exact RepL.dom r a m
  | _, _, _, .scr h z, _, m => nomatch m
  | _, _, _, .dK h z k r, a, m => by
    rcases List.mem_cons.mp m with rfl | m
    · exact ⟨_, h, trivial⟩
    · cases m
  | _, _, _, .dT h z k r, a, m => by
    rcases List.mem_cons.mp m with rfl | m
    · exact ⟨_, h, trivial⟩
    · cases m
  | _, _, _, .ins hc h k r, a, m => by
    rcases List.mem_cons.mp m with rfl | m
    · exact ⟨_, h, trivial⟩
    · exact RepL.dom r a m
theorem RepL.dom : ∀ {v : List V} {d : List D} {F : List Addr}, RepL K H v d F → ∀ a ∈ F, ∃ o, H a = some o ∧ MutO o
  | _, _, _, .nil, _, m => nomatch m
  | _, _, _, .cons h r, a, m => by
    rcases List.mem_append.mp m with m | m
    · exact Rep.dom h a m
    · exact RepL.dom r a m
end
theorem RepL.length : ∀ {v : List V} {d : List D} {F : List Addr}, RepL K H v d F → v.length = d.length
  | _, _, _, .nil => rfl
  | _, _, _, .cons _ r => congrArg (· + 1) r.length
theorem RepL.append : ∀ {v v' : List V} {d d' : List D} {F F' : List Addr}, RepL K H v d F → RepL K H v' d' F' → RepL K H (v ++ v') (d ++ d') (F ++ F')
  | _, _, _, _, _, _, .nil, s => s
  | _, _, _, _, _, _, .cons h r, s => by rw [List.append_assoc]; exact .cons h (r.append s)
theorem RepL.one {v : V} {d : D} {F : List Addr} (h : Rep K H v d F) : RepL K H [v] [d] F := by
  have := RepL.cons h (.nil (K := K) (H := H))
  rwa [List.append_nil] at this
/-- an item, and what stands before and behind it -/
theorem RepL.split : ∀ {vs : List V} {ds : List D} {F : List Addr} {i : Nat} {d : D}, RepL K H vs ds F → ds[i]? = some d →
    ∃ v F1 F2 F3, F = F1 ++ F2 ++ F3 ∧ vs[i]? = some v ∧ Rep K H v d F2 ∧ RepL K H (vs.take i) (ds.take i) F1 ∧ RepL K H (vs.drop (i + 1)) (ds.drop (i + 1)) F3
  | _, _, _, _, _, .nil, e => by simp at e
  | _, _, _, 0, _, .cons (v := v) (F := F) (F' := F') h r, e => by
    simp at e; subst e
    exact ⟨v, [], F, F', by simp, rfl, h, .nil, r⟩
  | _, _, _, i + 1, _, .cons (v := v) (F := F) (F' := F') h r, e => by
    obtain ⟨u, F1, F2, F3, e1, e2, e3, e4, e5⟩ := r.split (i := i) (by simpa using e)
    exact ⟨u, F ++ F1, F2, F3, by rw [e1]; simp, by simpa using e2, e3, by simpa using RepL.cons h e4, by simpa using e5⟩
theorem RepL.get {vs : List V} {ds : List D} {F : List Addr} {i : Nat} {d : D} (h : RepL K H vs ds F) (e : ds[i]? = some d) :
    ∃ v F2, (∀ a ∈ F2, a ∈ F) ∧ (F.Nodup → F2.Nodup) ∧ vs[i]? = some v ∧ Rep K H v d F2 := by
  obtain ⟨v, F1, F2, F3, e1, e2, e3, _, _⟩ := h.split e
  subst e1
  refine ⟨v, F2, fun a m => by simp [m], fun n => ?_, e2, e3⟩
  exact (List.nodup_append.mp (List.nodup_append.mp n).1).2.1
theorem RepL.getV {vs : List V} {ds : List D} {F : List Addr} {i : Nat} {v : V} (h : RepL K H vs ds F) (e : vs[i]? = some v) :
    ∃ d F2, (∀ a ∈ F2, a ∈ F) ∧ (F.Nodup → F2.Nodup) ∧ ds[i]? = some d ∧ Rep K H v d F2 := by
  have hi : i < vs.length := (List.getElem?_eq_some_iff.mp e).1
  have hi' : i < ds.length := by rw [← h.length]; exact hi
  obtain ⟨u, F2, h1, h2, h3, h4⟩ := h.get (i := i) (d := ds[i]) (by simp [hi'])
  rw [e] at h3; cases h3
  exact ⟨_, F2, h1, h2, by simp [hi'], h4⟩
theorem RepL.take : ∀ {vs : List V} {ds : List D} {F : List Addr} (i : Nat), RepL K H vs ds F → ∃ F1, F1.Sublist F ∧ RepL K H (vs.take i) (ds.take i) F1
  | _, _, _, 0, h => ⟨[], List.nil_sublist _, .nil⟩
  | _, _, _, i + 1, .nil => ⟨[], List.nil_sublist _, .nil⟩
  | _, _, _, i + 1, .cons h r => by
    obtain ⟨F1, s, q⟩ := r.take i
    exact ⟨_, (List.Sublist.refl _).append s, .cons h q⟩
theorem RepL.drop : ∀ {vs : List V} {ds : List D} {F : List Addr} (i : Nat), RepL K H vs ds F → ∃ F1, F1.Sublist F ∧ RepL K H (vs.drop i) (ds.drop i) F1
  | _, _, _, 0, h => ⟨_, List.Sublist.refl _, h⟩
  | _, _, _, i + 1, .nil => ⟨[], List.nil_sublist _, .nil⟩
  | _, _, _, i + 1, .cons h r => by
    obtain ⟨F1, s, q⟩ := r.drop i
    exact ⟨F1, s.trans (List.sublist_append_right _ _), q⟩
end

mutual
/-- no list, dict, instance within -/
def D.flat : D → Bool
  | .non => true
  | .bl _ => true
  | .int _ => true
  | .str _ => true
  | .tup xs => D.flats xs
  | .scr _ => true
  | _ => false
def D.flats : List D → Bool
  | [] => true
  | d :: ds => d.flat && D.flats ds
end
section
variable {K : PySem.W.Frag} {H H' : Hp}
mutual
theorem Rep.flat : ∀ {v : V} {d : D} {F : List Addr}, Rep K H v d F → d.flat = true → F = []
  | _, _, _, .non, _ => rfl
  | _, _, _, .bl b, _ => rfl
  | _, _, _, .int b, _ => rfl
  | _, _, _, .str b, _ => rfl
  | _, _, _, .tup h y z r, e => RepL.flats r (by unfold D.flat at e; exact e)
  | _, _, _, .lst h z r, e => by unfold D.flat at e; cases e
  | _, _, _, .scr h z, _ => rfl
  | _, _, _, .dK h z k r, e => by unfold D.flat at e; cases e
  | _, _, _, .dT h z k r, e => by unfold D.flat at e; cases e
  | _, _, _, .ins hc h k r, e => by unfold D.flat at e; cases e
theorem RepL.flats : ∀ {v : List V} {d : List D} {F : List Addr}, RepL K H v d F → D.flats d = true → F = []
  | _, _, _, .nil, _ => rfl
  | _, _, _, .cons h r, e => by
    unfold D.flats at e
    rw [Bool.and_eq_true] at e
    rw [Rep.flat h e.1, RepL.flats r e.2, List.append_nil]
end
end
theorem D.flats_iff : ∀ {ds : List D}, D.flats ds = true ↔ ∀ d ∈ ds, d.flat = true
  | [] => by simp [D.flats]
  | d :: ds => by
    unfold D.flats
    rw [Bool.and_eq_true, D.flats_iff]
    simp

/-! ### the state: slots and temporaries -/
inductive Tk where
  /-- its cells are new, none twice, and nobody else's -/
  | own
  /-- its cells are new, none twice, nobody's who writes -/
  | frz
  /-- its cells stood at the entry, nobody's who writes -/
  | old
  /-- its cells are nobody's who writes -/
  | val
  /-- its cells are no cells of the slots that expressions write -/
  | bor
  deriving DecidableEq
def Tk.nf : Tk → Bool
  | .own => true
  | .frz => true
  | _ => false
inductive S where
  | gone
  | io (d : D)
  | t (k : Tk) (d : D)
def S.d? : S → Option D
  | .gone => none
  | .io d => some d
  | .t _ d => some d
/-- its cells may be written through it -/
def S.wr : S → Bool
  | .io _ => true
  | .t .own _ => true
  | _ => false
def S.isBor : S → Bool
  | .t .bor _ => true
  | _ => false
def S.tree : S → Bool
  | .io _ => true
  | .t .own _ => true
  | .t .frz _ => true
  | _ => false

/-- no borrowed temporary -/
def NoBor (L : List S) : Prop := ∀ (j : Nat) (s : S), L[j]? = some s → s.isBor = false
/-- where one stands: the heap at the entry, the cells that each parameter handed in to be written had, the slots that expressions write, the number of slots -/
structure G where
  K : PySem.W.Frag
  H0 : Hp
  A0 : Nat → Addr → Prop
  W : List Nat
  n : Nat
  /-- what was handed in -/
  P : List V

structure Sim (g : G) (FS : Nat → List Addr) (L : List S) (VS : List (Option V)) (H : Hp) : Prop where
  len : L.length = VS.length
  rep : ∀ i s d, L[i]? = some s → s.d? = some d → ∃ v, VS[i]? = some (some v) ∧ Rep g.K H v d (FS i)
  nod : ∀ i s, L[i]? = some s → s.tree = true → (FS i).Nodup
  fr : ∀ (i : Nat) (k : Tk) (d : D), L[i]? = some (S.t k d) → k.nf = true → ∀ a ∈ FS i, g.H0 a = none
  od : ∀ (i : Nat) (d : D), L[i]? = some (S.t .old d) → ∀ a ∈ FS i, g.H0 a ≠ none
  fio : ∀ (i : Nat) (d : D), L[i]? = some (S.io d) → ∀ a ∈ FS i, g.A0 i a ∨ g.H0 a = none
  dis : ∀ i j s s', i ≠ j → L[i]? = some s → L[j]? = some s' → s.wr = true → s'.d?.isSome = true → (s'.isBor = true → i ∈ g.W ∨ g.n ≤ i) → ∀ a ∈ FS i, a ∉ FS j
  base : ∀ a o, g.H0 a = some o → ((∀ i, ¬ g.A0 i a) ∨ ¬ MutO o) → H a = some o
  dom : ∀ a, g.H0 a ≠ none → H a ≠ none
  sb : ∀ i s, L[i]? = some s → s.isBor = true → g.n ≤ i
  pv : ∀ (i : Nat) (d : D), L[i]? = some (S.io d) → ∃ v, g.P[i]? = some v ∧ VS[i]? = some (some v)
  wlt : ∀ i ∈ g.W, i < g.n

/-- F is fit for a new temporary of that kind -/
structure TOk (g : G) (FS : Nat → List Addr) (L : List S) (k : Tk) (F : List Addr) : Prop where
  tree : k.nf = true → F.Nodup ∧ ∀ a ∈ F, g.H0 a = none
  old : k = .old → ∀ a ∈ F, g.H0 a ≠ none
  excl : k = .own → ∀ j s, L[j]? = some s → s.d?.isSome = true → ∀ a ∈ F, a ∉ FS j
  shar : k ≠ .bor → ∀ j s, L[j]? = some s → s.wr = true → ∀ a ∈ F, a ∉ FS j
  bor : ∀ j s, L[j]? = some s → s.wr = true → j ∈ g.W ∨ g.n ≤ j → ∀ a ∈ F, a ∉ FS j

def setF (FS : Nat → List Addr) (i : Nat) (F : List Addr) : Nat → List Addr := fun j => if j = i then F else FS j
theorem setF_same {FS : Nat → List Addr} {i : Nat} {F : List Addr} : setF FS i F i = F := by unfold setF; rw [if_pos rfl]
theorem setF_ne {FS : Nat → List Addr} {i j : Nat} {F : List Addr} (h : j ≠ i) : setF FS i F j = FS j := by unfold setF; rw [if_neg h]

section
variable {g : G} {FS : Nat → List Addr} {L : List S} {VS : List (Option V)} {H H' : Hp}
theorem S.some_of_wr {s : S} (h : s.wr = true) : s.d?.isSome = true := by
  cases s with
  | gone => cases h
  | io d => rfl
  | t k d => rfl
theorem S.nb_of_wr {s : S} (h : s.wr = true) : s.isBor = false := by
  cases s with
  | gone => cases h
  | io d => rfl
  | t k d => cases k <;> first | rfl | cases h
theorem S.tree_of_wr {s : S} (h : s.wr = true) : s.tree = true := by
  cases s with
  | gone => cases h
  | io d => rfl
  | t k d => cases k <;> first | rfl | cases h
theorem S.some_of_tree {s : S} (h : s.tree = true) : s.d?.isSome = true := by
  cases s with
  | gone => cases h
  | io d => rfl
  | t k d => rfl
theorem TOk.nil (k : Tk) : TOk g FS L k [] := ⟨fun _ => ⟨.nil, fun _ m => (nomatch m)⟩, fun _ _ m => (nomatch m), fun _ _ _ _ _ _ m => (nomatch m), fun _ _ _ _ _ _ m => (nomatch m), fun _ _ _ _ _ _ m => (nomatch m)⟩
theorem TOk.sub {k : Tk} {F F' : List Addr} (t : TOk g FS L k F) (s : ∀ a ∈ F', a ∈ F) (n : F.Nodup → F'.Nodup) : TOk g FS L k F' :=
  ⟨fun e => ⟨n (t.tree e).1, fun a m => (t.tree e).2 a (s a m)⟩, fun e a m => t.old e a (s a m), fun e j u h1 h2 a m => t.excl e j u h1 h2 a (s a m), fun e j u h1 h2 a m => t.shar e j u h1 h2 a (s a m), fun j u h1 h2 h3 a m => t.bor j u h1 h2 h3 a (s a m)⟩
/-- a lesser kind -/
def Tk.le : Tk → Tk → Bool
  | .own, .old => false
  | .own, _ => true
  | .frz, .frz => true
  | .frz, .val => true
  | .frz, .bor => true
  | .old, .old => true
  | .old, .val => true
  | .old, .bor => true
  | .val, .val => true
  | .val, .bor => true
  | .bor, .bor => true
  | _, _ => false
theorem TOk.to {k k' : Tk} {F : List Addr} (t : TOk g FS L k F) (h : k.le k' = true) : TOk g FS L k' F := by
  refine ⟨fun e => t.tree ?_, fun e => t.old ?_, fun e => t.excl ?_, fun e => t.shar ?_, t.bor⟩
  all_goals (cases k <;> cases k' <;> first | rfl | exact absurd h (by decide) | exact absurd e (by decide) | decide)
theorem TOk.ofOwn {F : List Addr} (t : TOk g FS L .own F) (k : Tk) (hk : k ≠ .old) : TOk g FS L k F := t.to (by cases k <;> first | rfl | exact absurd rfl hk)
/-- cells that are new to the heap -/
theorem Sim.cells (h : Sim g FS L VS H) {j : Nat} {s : S} (e : L[j]? = some s) (hs : s.d?.isSome = true) : ∀ a ∈ FS j, ∃ o, H a = some o ∧ MutO o := by
  obtain ⟨d, hd⟩ := Option.isSome_iff_exists.mp hs
  obtain ⟨v, _, r⟩ := h.rep j s d e hd
  exact r.dom
theorem Sim.fr0 (h : Sim g FS L VS H) {a : Addr} (e : H a = none) : g.H0 a = none := by
  cases q : g.H0 a with
  | none => rfl
  | some o => exact absurd e (h.dom a (by rw [q]; exact fun z => (nomatch z)))
theorem Sim.new_ne (h : Sim g FS L VS H) {j : Nat} {s : S} {a : Addr} (e : H a = none) (ej : L[j]? = some s) (hs : s.d?.isSome = true) : a ∉ FS j := fun m => by
  obtain ⟨o, eo, _⟩ := h.cells ej hs a m
  rw [e] at eo; cases eo
theorem Sim.tokNew (h : Sim g FS L VS H) {F : List Addr} (hn : F.Nodup) (hF : ∀ a ∈ F, H a = none) : TOk g FS L .own F :=
  ⟨fun _ => ⟨hn, fun a m => h.fr0 (hF a m)⟩, fun z => (nomatch z), fun _ j s e hs a m => h.new_ne (hF a m) e hs, fun _ j s e hw a m => h.new_ne (hF a m) e (S.some_of_wr hw), fun j s e hw _ a m => h.new_ne (hF a m) e (S.some_of_wr hw)⟩
theorem Sim.same (h : Sim g FS L VS H) (x : Same H H') : Sim g FS L VS H' := by
  refine ⟨h.len, fun i s d e1 e2 => ?_, h.nod, h.fr, h.od, h.fio, h.dis, fun a o e n => x a o (h.base a o e n), fun a n => ?_, h.sb, h.pv, h.wlt⟩
  · obtain ⟨v, e, r⟩ := h.rep i s d e1 e2
    exact ⟨v, e, r.same x⟩
  · cases q : H a with
    | none => exact absurd q (h.dom a n)
    | some o => rw [x a o q]; exact fun z => nomatch z

theorem get_snoc {α : Type} {l : List α} {a s : α} {i : Nat} (e : (l ++ [a])[i]? = some s) : (i < l.length ∧ l[i]? = some s) ∨ (i = l.length ∧ s = a) := by
  by_cases h : i < l.length
  · rw [List.getElem?_append_left h] at e; exact .inl ⟨h, e⟩
  · rw [List.getElem?_append_right (Nat.le_of_not_lt h)] at e
    have : i - l.length = 0 := by
      cases q : i - l.length with
      | zero => rfl
      | succ k => rw [q] at e; simp at e
    rw [this] at e
    simp at e
    exact .inr ⟨by omega, e.symm⟩
theorem lt_of_get {α : Type} {l : List α} {s : α} {i : Nat} (e : l[i]? = some s) : i < l.length := (List.getElem?_eq_some_iff.mp e).1

/-- a temporary is put on top -/
theorem Sim.push (h : Sim g FS L VS H) {k : Tk} {d : D} {v : V} {F : List Addr} (r : Rep g.K H v d F) (t : TOk g FS L k F) (hl : k = .bor → g.n ≤ L.length) : Sim g (setF FS L.length F) (L ++ [.t k d]) (VS ++ [some v]) H := by
  have old : ∀ {i : Nat}, i < L.length → setF FS L.length F i = FS i := fun q => setF_ne (Nat.ne_of_lt q)
  refine ⟨by simp [h.len], fun i s d' e1 e2 => ?_, fun i s e1 e2 => ?_, fun i k' d' e hk => ?_, fun i d' e => ?_, fun i d' e => ?_, fun i j s s' hij e1 e2 w1 w2 w3 => ?_, h.base, h.dom, fun i s e1 e2 => ?_, fun i d' e => ?_, h.wlt⟩
  · rcases get_snoc e1 with ⟨q, e1⟩ | ⟨q, e1⟩
    · obtain ⟨u, e, r'⟩ := h.rep i s d' e1 e2
      exact ⟨u, by rw [List.getElem?_append_left (by rw [← h.len]; exact q)]; exact e, by rw [old q]; exact r'⟩
    · subst e1; subst q
      cases e2
      refine ⟨v, ?_, by rw [setF_same]; exact r⟩
      rw [h.len]; simp
  · rcases get_snoc e1 with ⟨q, e1⟩ | ⟨q, e1⟩
    · rw [old q]; exact h.nod i s e1 e2
    · subst e1; subst q
      rw [setF_same]
      exact (t.tree (by cases k <;> first | rfl | exact Bool.noConfusion e2)).1
  · rcases get_snoc e with ⟨q, e1⟩ | ⟨q, e1⟩
    · rw [old q]; exact h.fr i k' d' e1 hk
    · subst q
      cases e1
      rw [setF_same]; exact (t.tree hk).2
  · rcases get_snoc e with ⟨q, e1⟩ | ⟨q, e1⟩
    · rw [old q]; exact h.od i d' e1
    · subst q
      cases e1
      rw [setF_same]; exact t.old rfl
  · rcases get_snoc e with ⟨q, e1⟩ | ⟨q, e1⟩
    · rw [old q]; exact h.fio i d' e1
    · cases e1
  · rcases get_snoc e1 with ⟨q1, f1⟩ | ⟨q1, f1⟩ <;> rcases get_snoc e2 with ⟨q2, f2⟩ | ⟨q2, f2⟩
    · rw [old q1, old q2]; exact h.dis i j s s' hij f1 f2 w1 w2 w3
    · subst q2
      rw [old q1, setF_same]
      intro a m m'
      subst f2
      by_cases hb : k = .bor
      · subst hb
        exact t.bor i s f1 w1 (w3 rfl) a m' m
      · exact t.shar hb i s f1 w1 a m' m
    · subst q1
      rw [old q2, setF_same]
      intro a m
      subst f1
      cases k with
      | own => exact t.excl rfl j s' f2 w2 a m
      | _ => cases w1
    · exact absurd (q1.trans q2.symm) hij
  · rcases get_snoc e1 with ⟨q, e1⟩ | ⟨q, e1⟩
    · exact h.sb i s e1 e2
    · subst e1; subst q
      cases k with
      | bor => exact hl rfl
      | _ => cases e2
  · rcases get_snoc e with ⟨q, e1⟩ | ⟨q, e1⟩
    · obtain ⟨u, e2, e3⟩ := h.pv i d' e1
      exact ⟨u, e2, by rw [List.getElem?_append_left (by rw [← h.len]; exact q)]; exact e3⟩
    · cases e1
theorem Sim.pop {s : S} {x : Option V} (h : Sim g FS (L ++ [s]) (VS ++ [x]) H) : Sim g FS L VS H := by
  have hl : L.length = VS.length := by simpa using h.len
  have up : ∀ {i : Nat} {s' : S}, L[i]? = some s' → (L ++ [s])[i]? = some s' := fun e => by rw [List.getElem?_append_left (lt_of_get e)]; exact e
  refine ⟨hl, fun i s' d e1 e2 => ?_, fun i s' e1 => h.nod i s' (up e1), fun i k d e => h.fr i k d (up e), fun i d e => h.od i d (up e), fun i d e => h.fio i d (up e), fun i j s' s'' hij e1 e2 => h.dis i j s' s'' hij (up e1) (up e2), h.base, h.dom, fun i s' e1 => h.sb i s' (up e1), fun i d e1 => ?_, h.wlt⟩
  · obtain ⟨v, e, r⟩ := h.rep i s' d (up e1) e2
    refine ⟨v, ?_, r⟩
    rw [List.getElem?_append_left (by rw [← hl]; exact lt_of_get e1)] at e
    exact e
  · obtain ⟨v, e2, e3⟩ := h.pv i d (up e1)
    rw [List.getElem?_append_left (by rw [← hl]; exact lt_of_get e1)] at e3
    exact ⟨v, e2, e3⟩
theorem Tk.tree {k : Tk} {d : D} (h : k.nf = true) : (S.t k d).tree = true := by cases k <;> first | rfl | cases h
/-- an entry that is no slot handed in, against the others -/
theorem Sim.tok (h : Sim g FS L VS H) {i : Nat} {k : Tk} {d : D} (e : L[i]? = some (.t k d)) (hb : k ≠ .own ∨ NoBor L ∨ i ∈ g.W ∨ g.n ≤ i) {L' : List S} (up : ∀ {j : Nat} {s : S}, L'[j]? = some s → s.d?.isSome = true → j ≠ i ∧ L[j]? = some s) : TOk g FS L' k (FS i) := by
  refine ⟨fun z => ⟨h.nod i _ e (Tk.tree z), h.fr i k d e z⟩, fun z => ?_, fun z j s ej hs a m => ?_, fun z j s ej hw a m m' => ?_, fun j s ej hw hj a m m' => ?_⟩
  · subst z; exact h.od i d e
  · subst z
    obtain ⟨n, ej⟩ := up ej hs
    refine h.dis i j _ s (Ne.symm n) e ej rfl hs (fun q => ?_) a m
    rcases hb with z | z | z
    · exact absurd rfl z
    · rw [z j s ej] at q; cases q
    · exact z
  · obtain ⟨n, ej⟩ := up ej (S.some_of_wr hw)
    exact h.dis j i s _ n ej e hw rfl (fun q => by cases k <;> first | exact absurd rfl z | exact Bool.noConfusion q) a m' m
  · obtain ⟨n, ej⟩ := up ej (S.some_of_wr hw)
    exact h.dis j i s _ n ej e hw rfl (fun _ => hj) a m' m
theorem Sim.top {k : Tk} {d : D} {x : Option V} (h : Sim g FS (L ++ [.t k d]) (VS ++ [x]) H) (hn : g.n ≤ L.length) : ∃ v, x = some v ∧ Rep g.K H v d (FS L.length) ∧ TOk g FS L k (FS L.length) := by
  have hl : L.length = VS.length := by simpa using h.len
  have et : (L ++ [S.t k d])[L.length]? = some (.t k d) := by simp
  have hb : k ≠ .own ∨ NoBor (L ++ [S.t k d]) ∨ L.length ∈ g.W ∨ g.n ≤ L.length := .inr (.inr (.inr hn))
  obtain ⟨v, e, r⟩ := h.rep _ _ d et rfl
  refine ⟨v, ?_, r, h.tok et hb fun ej _ => ⟨Nat.ne_of_lt (lt_of_get ej), by rw [List.getElem?_append_left (lt_of_get ej)]; exact ej⟩⟩
  rw [hl] at e
  simpa using e
end

/-! ### several temporaries -/
def Tk.join : Tk → Tk → Tk
  | .own, .own => .own
  | .old, .old => .old
  | .bor, _ => .bor
  | _, .bor => .bor
  | _, _ => .val
abbrev T := Tk × D
def T.s (t : T) : S := .t t.1 t.2
def kJoin : List T → Tk
  | [] => .own
  | [t] => t.1
  | t :: ts => t.1.join (kJoin ts)
def Tk.apart : Tk → Tk → Bool
  | .own, .own => true
  | _, _ => false
section
variable {g : G} {FS : Nat → List Addr} {L : List S} {VS : List (Option V)} {H H' : Hp}
theorem TOk.join {k k' : Tk} {F F' : List Addr} (t : TOk g FS L k F) (t' : TOk g FS L k' F') (hd : k.apart k' = true → ∀ a ∈ F', a ∉ F) : TOk g FS L (k.join k') (F ++ F') := by
  refine ⟨fun e => ?_, fun e a m => ?_, fun e j s e1 e2 a m => ?_, fun e j s e1 e2 a m => ?_, fun j s e1 e2 e3 a m => ?_⟩
  · have h1 : k.nf = true := by cases k <;> cases k' <;> first | rfl | exact absurd e (by decide)
    have h2 : k'.nf = true := by cases k <;> cases k' <;> first | rfl | exact absurd e (by decide)
    have h3 : k.apart k' = true := by cases k <;> cases k' <;> first | rfl | exact absurd e (by decide)
    obtain ⟨n, f⟩ := t.tree h1
    obtain ⟨n', f'⟩ := t'.tree h2
    refine ⟨List.nodup_append.mpr ⟨n, n', fun a m b m' q => hd h3 b m' (q ▸ m)⟩, fun a m => ?_⟩
    rcases List.mem_append.mp m with m | m
    · exact f a m
    · exact f' a m
  · have h1 : k = .old := by cases k <;> cases k' <;> first | rfl | exact absurd e (by decide)
    have h2 : k' = .old := by cases k <;> cases k' <;> first | rfl | exact absurd e (by decide)
    rcases List.mem_append.mp m with m | m
    · exact t.old h1 a m
    · exact t'.old h2 a m
  · have h1 : k = .own := by cases k <;> cases k' <;> first | rfl | exact absurd e (by decide)
    have h2 : k' = .own := by cases k <;> cases k' <;> first | rfl | exact absurd e (by decide)
    rcases List.mem_append.mp m with m | m
    · exact t.excl h1 j s e1 e2 a m
    · exact t'.excl h2 j s e1 e2 a m
  · have h1 : k ≠ .bor := fun z => e (by subst z; rfl)
    have h2 : k' ≠ .bor := fun z => e (by subst z; cases k <;> rfl)
    rcases List.mem_append.mp m with m | m
    · exact t.shar h1 j s e1 e2 a m
    · exact t'.shar h2 j s e1 e2 a m
  · rcases List.mem_append.mp m with m | m
    · exact t.bor j s e1 e2 e3 a m
    · exact t'.bor j s e1 e2 e3 a m
theorem Sim.tops : ∀ {ts : List T} {vs : List V} {L : List S} {VS : List (Option V)}, Sim g FS (L ++ ts.map T.s) (VS ++ vs.map some) H → ts.length = vs.length → g.n ≤ L.length →
    ∃ F, Sim g FS L VS H ∧ RepL g.K H vs (ts.map (·.2)) F ∧ TOk g FS L (kJoin ts) F
  | [], [], L, VS, h, _, _ => ⟨[], by simpa using h, .nil, TOk.nil _⟩
  | [t], [v], L, VS, h, e, hn => by
    have h' : Sim g FS (L ++ [S.t t.1 t.2]) (VS ++ [some v]) H := by simpa [T.s] using h
    obtain ⟨u, eu, r, tk⟩ := Sim.top h' hn
    cases eu
    exact ⟨_, h'.pop, RepL.one r, tk⟩
  | t :: t1 :: ts, v :: vs, L, VS, h, e, hn => by
    have h' : Sim g FS ((L ++ [t.s]) ++ (t1 :: ts).map T.s) ((VS ++ [some v]) ++ vs.map some) H := by simpa using h
    obtain ⟨F', h1, r', t'⟩ := Sim.tops h' (by simpa using e) (by rw [List.length_append]; omega)
    obtain ⟨u, eu, r, tk⟩ := Sim.top (k := t.1) (d := t.2) h1 hn
    cases eu
    have up : ∀ {i : Nat} {s' : S}, L[i]? = some s' → (L ++ [t.s])[i]? = some s' := fun e => by rw [List.getElem?_append_left (lt_of_get e)]; exact e
    have tw : TOk g FS L (kJoin (t1 :: ts)) F' := ⟨t'.tree, t'.old, fun e j s ej => t'.excl e j s (up ej), fun e j s ej => t'.shar e j s (up ej), fun j s ej => t'.bor j s (up ej)⟩
    have et : (L ++ [t.s])[L.length]? = some t.s := by simp
    refine ⟨FS L.length ++ F', h1.pop, .cons r r', tk.join tw fun hap => ?_⟩
    obtain ⟨z1, z2⟩ : t.1 = .own ∧ kJoin (t1 :: ts) = .own := by
      revert hap
      cases t.1 <;> cases kJoin (t1 :: ts) <;> intro hap <;> first | exact ⟨rfl, rfl⟩ | exact Bool.noConfusion hap
    exact t'.excl z2 _ _ et rfl
end

/-! ### slots -/
section
variable {g : G} {FS : Nat → List Addr} {L : List S} {VS : List (Option V)} {H H' : Hp}
theorem get_set {α : Type} {l : List α} {a s : α} {i j : Nat} (e : (l.set i a)[j]? = some s) : (j = i ∧ s = a ∧ i < l.length) ∨ (j ≠ i ∧ l[j]? = some s) := by
  by_cases h : j = i
  · subst h
    have hl : j < l.length := by have := lt_of_get e; simpa using this
    rw [List.getElem?_set_self hl] at e
    exact .inl ⟨rfl, (Option.some.inj e).symm, hl⟩
  · rw [List.getElem?_set_ne (Ne.symm h)] at e
    exact .inr ⟨h, e⟩
/-- a slot is forgotten -/
theorem Sim.drop (h : Sim g FS L VS H) (i : Nat) (x : Option V) : Sim g FS (L.set i .gone) (VS.set i x) H := by
  have up : ∀ {j : Nat} {s : S}, (L.set i .gone)[j]? = some s → s.d?.isSome = true → j ≠ i ∧ L[j]? = some s := fun e z => by
    rcases get_set e with ⟨_, e, _⟩ | e
    · subst e; cases z
    · exact e
  have vs : ∀ {j : Nat}, j ≠ i → (VS.set i x)[j]? = VS[j]? := fun n => List.getElem?_set_ne (Ne.symm n)
  refine ⟨by simp [h.len], fun j s d e1 e2 => ?_, fun j s e1 e2 => h.nod j s (up e1 (S.some_of_tree e2)).2 e2, fun j k d e => h.fr j k d (up e rfl).2, fun j d e => h.od j d (up e rfl).2, fun j d e => h.fio j d (up e rfl).2,
    fun j k s s' hij e1 e2 w1 w2 => h.dis j k s s' hij (up e1 (S.some_of_wr w1)).2 (up e2 w2).2 w1 w2, h.base, h.dom, fun j s e1 e2 => h.sb j s (up e1 ?_).2 e2, fun j d e => ?_, h.wlt⟩
  · obtain ⟨n, e⟩ := up e1 (by rw [e2]; rfl)
    rw [vs n]; exact h.rep j s d e e2
  · cases s with
    | gone => cases e2
    | io d => rfl
    | t k d => rfl
  · obtain ⟨n, e⟩ := up e rfl
    rw [vs n]; exact h.pv j d e
/-- an empty slot is filled -/
theorem Sim.fill (h : Sim g FS L VS H) {i : Nat} {k : Tk} {d : D} {v : V} {F : List Addr} (hi : i < L.length) (he : L[i]? = some .gone) (r : Rep g.K H v d F) (t : TOk g FS L k F) (hk : k ≠ .bor) (nb : NoBor L ∨ i ∉ g.W) : Sim g (setF FS i F) (L.set i (.t k d)) (VS.set i (some v)) H := by
  have hv : i < VS.length := by rw [← h.len]; exact hi
  have vs : ∀ {j : Nat}, j ≠ i → (VS.set i (some v))[j]? = VS[j]? := fun n => List.getElem?_set_ne (Ne.symm n)
  refine ⟨by simp [h.len], fun j s d' e1 e2 => ?_, fun j s e1 e2 => ?_, fun j k' d' e hk' => ?_, fun j d' e => ?_, fun j d' e => ?_, fun j l s s' hij e1 e2 w1 w2 w3 => ?_, h.base, h.dom, fun j s e1 e2 => ?_, fun j d' e => ?_, h.wlt⟩
  · rcases get_set e1 with ⟨q, f, _⟩ | ⟨q, f⟩
    · subst q; subst f; cases e2
      exact ⟨v, by rw [List.getElem?_set_self hv], by rw [setF_same]; exact r⟩
    · rw [vs q, setF_ne q]; exact h.rep j s d' f e2
  · rcases get_set e1 with ⟨q, f, _⟩ | ⟨q, f⟩
    · subst q; subst f
      rw [setF_same]
      exact (t.tree (by cases k <;> first | rfl | exact Bool.noConfusion e2)).1
    · rw [setF_ne q]; exact h.nod j s f e2
  · rcases get_set e with ⟨q, f, _⟩ | ⟨q, f⟩
    · subst q; cases f; rw [setF_same]; exact (t.tree hk').2
    · rw [setF_ne q]; exact h.fr j k' d' f hk'
  · rcases get_set e with ⟨q, f, _⟩ | ⟨q, f⟩
    · subst q; cases f; rw [setF_same]; exact t.old rfl
    · rw [setF_ne q]; exact h.od j d' f
  · rcases get_set e with ⟨q, f, _⟩ | ⟨q, f⟩
    · cases f
    · rw [setF_ne q]; exact h.fio j d' f
  · rcases get_set e1 with ⟨q1, f1, _⟩ | ⟨q1, f1⟩ <;> rcases get_set e2 with ⟨q2, f2, _⟩ | ⟨q2, f2⟩
    · exact absurd (q1.trans q2.symm) hij
    · subst q1; subst f1
      rw [setF_same, setF_ne q2]
      cases k with
      | own =>
        exact t.excl rfl l s' f2 w2
      | _ => cases w1
    · subst q2; subst f2
      rw [setF_same, setF_ne q1]
      exact fun a m m' => t.shar hk j s f1 w1 a m' m
    · rw [setF_ne q1, setF_ne q2]; exact h.dis j l s s' hij f1 f2 w1 w2 w3
  · rcases get_set e1 with ⟨q, f, _⟩ | ⟨q, f⟩
    · subst f
      cases k with
      | bor => exact absurd rfl hk
      | _ => cases e2
    · exact h.sb j s f e2
  · rcases get_set e with ⟨q, f, _⟩ | ⟨q, f⟩
    · cases f
    · rw [vs q]; exact h.pv j d' f
theorem TOk.drop {k : Tk} {F : List Addr} (t : TOk g FS L k F) (i : Nat) : TOk g FS (L.set i .gone) k F := by
  have up : ∀ {j : Nat} {s : S}, (L.set i .gone)[j]? = some s → s.d?.isSome = true → L[j]? = some s := fun e z => by
    rcases get_set e with ⟨_, e, _⟩ | e
    · subst e; cases z
    · exact e.2
  exact ⟨t.tree, t.old, fun e j s ej hs => t.excl e j s (up ej hs) hs, fun e j s ej hw => t.shar e j s (up ej (S.some_of_wr hw)) hw, fun j s ej hw => t.bor j s (up ej (S.some_of_wr hw)) hw⟩
theorem Sim.nobor_drop {i : Nat} (nb : NoBor L ∨ i ∉ g.W) : NoBor (L.set i .gone) ∨ i ∉ g.W := by
  rcases nb with nb | nb
  · refine .inl fun j s e => ?_
    rcases get_set e with ⟨_, e, _⟩ | e
    · subst e; rfl
    · exact nb j s e.2
  · exact .inr nb
/-- a slot gets another content -/
theorem Sim.put (h : Sim g FS L VS H) {i : Nat} {k : Tk} {d : D} {v : V} {F : List Addr} (hi : i < L.length) (r : Rep g.K H v d F) (t : TOk g FS (L.set i .gone) k F) (hk : k ≠ .bor)
    (nb : NoBor L ∨ i ∉ g.W) : Sim g (setF FS i F) (L.set i (.t k d)) (VS.set i (some v)) H := by
  have h1 := (h.drop i none).fill (i := i) (by simpa using hi) (by rw [List.getElem?_set_self hi]) r t hk (Sim.nobor_drop nb)
  simpa using h1
/-- what a slot holds, taken out -/
theorem Sim.take (h : Sim g FS L VS H) {i : Nat} {k : Tk} {d : D} (e : L[i]? = some (.t k d)) (hb : k ≠ .own ∨ NoBor L ∨ i ∈ g.W ∨ g.n ≤ i) (x : Option V) :
    ∃ v, VS[i]? = some (some v) ∧ Rep g.K H v d (FS i) ∧ TOk g FS (L.set i .gone) k (FS i) ∧ Sim g FS (L.set i .gone) (VS.set i x) H := by
  obtain ⟨v, ev, r⟩ := h.rep i _ d e rfl
  have up : ∀ {j : Nat} {s : S}, (L.set i .gone)[j]? = some s → s.d?.isSome = true → j ≠ i ∧ L[j]? = some s := fun e z => by
    rcases get_set e with ⟨_, e, _⟩ | e
    · subst e; cases z
    · exact e
  exact ⟨v, ev, r, h.tok e hb up, h.drop i x⟩
def S.with : S → D → S
  | .gone, _ => .gone
  | .io _, d => .io d
  | .t k _, d => .t k d
theorem S.with_wr {s : S} {d : D} : (s.with d).wr = s.wr := by
  cases s with
  | gone => rfl
  | io _ => rfl
  | t k _ => cases k <;> rfl
theorem S.with_isBor {s : S} {d : D} : (s.with d).isBor = s.isBor := by
  cases s with
  | gone => rfl
  | io _ => rfl
  | t k _ => cases k <;> rfl
theorem S.with_d {s : S} {d d' : D} (h : (s.with d').d? = some d) : d' = d := by
  cases s with
  | gone => cases h
  | io _ => exact Option.some.inj h
  | t k _ => exact Option.some.inj h
/-- what a slot holds is written -/
theorem Sim.modify (h : Sim g FS L VS H) {i : Nat} {s : S} {d' : D} {v : V} {F' F2 : List Addr} (e : L[i]? = some s) (hw : s.wr = true) (ev : VS[i]? = some (some v)) (x : Ext (fun a => a ∈ FS i) H H') (dm : ∀ a, H a ≠ none → H' a ≠ none)
    (r : Rep g.K H' v d' F') (nd : F'.Nodup) (t : TOk g FS L .own F2) (nb : NoBor L ∨ i ∈ g.W ∨ g.n ≤ i) (sub : ∀ a ∈ F', a ∈ FS i ∨ a ∈ F2 ∨ H a = none) : Sim g (setF FS i F') (L.set i (s.with d')) VS H' := by
  have hi := lt_of_get e
  have fr0 : ∀ a, H a = none → g.H0 a = none := fun a e => by
    cases q : g.H0 a with
    | none => rfl
    | some o => exact absurd e (h.dom a (by rw [q]; exact fun z => (nomatch z)))
  have ds : ∀ {j : Nat} {s' : S}, j ≠ i → L[j]? = some s' → s'.d?.isSome = true → ∀ a ∈ FS i, a ∉ FS j := fun {j s'} n ej hs => h.dis i j s s' (Ne.symm n) e ej hw hs fun z => by
    rcases nb with nb | nb
    · rw [nb j s' ej] at z; cases z
    · exact nb
  have cl : ∀ {m : Nat} {s' : S}, m ≠ i → L[m]? = some s' → s'.d?.isSome = true → ∀ a ∈ F', a ∉ FS m := fun {m s'} n em hs a ha => by
    rcases sub a ha with z | z | z
    · exact ds n em hs a z
    · exact t.excl rfl m s' em hs a z
    · intro q
      obtain ⟨o, eo, _⟩ := h.cells em hs a q
      rw [z] at eo; cases eo
  refine ⟨by simp [h.len], fun j s' d e1 e2 => ?_, fun j s' e1 e2 => ?_, fun j k' d e1 hk' => ?_, fun j d e1 => ?_, fun j d e1 => ?_, fun j l s1 s2 hij e1 e2 w1 w2 w3 => ?_, fun a o eo n => ?_, fun a n => dm a (h.dom a n), fun j s' e1 e2 => ?_, fun j d e1 => ?_, h.wlt⟩
  · rcases get_set e1 with ⟨q, f, _⟩ | ⟨q, f⟩
    · subst q; subst f
      cases S.with_d e2
      exact ⟨v, ev, by rw [setF_same]; exact r⟩
    · obtain ⟨u, eu, ru⟩ := h.rep j s' d f e2
      exact ⟨u, eu, by rw [setF_ne q]; exact ru.ext x fun a m m' => ds q f (by rw [e2]; rfl) a m' m⟩
  · rcases get_set e1 with ⟨q, f, _⟩ | ⟨q, f⟩
    · subst q; rw [setF_same]; exact nd
    · rw [setF_ne q]; exact h.nod j s' f e2
  · rcases get_set e1 with ⟨q, f, _⟩ | ⟨q, f⟩
    · subst q
      rw [setF_same]
      intro a m
      rcases sub a m with z | z | z
      · cases s with
        | gone => cases hw
        | io _ => cases f
        | t k d0 =>
          cases f
          exact h.fr j _ d0 e hk' a z
      · exact (t.tree rfl).2 a z
      · exact fr0 a z
    · rw [setF_ne q]; exact h.fr j k' d f hk'
  · rcases get_set e1 with ⟨q, f, _⟩ | ⟨q, f⟩
    · subst q
      cases s with
      | gone => cases hw
      | io _ => cases f
      | t k d0 => cases f; cases hw
    · rw [setF_ne q]; exact h.od j d f
  · rcases get_set e1 with ⟨q, f, _⟩ | ⟨q, f⟩
    · subst q
      rw [setF_same]
      intro a m
      rcases sub a m with z | z | z
      · cases s with
        | gone => cases hw
        | t k d0 => cases f
        | io d0 => exact h.fio j d0 e a z
      · exact .inr ((t.tree rfl).2 a z)
      · exact .inr (fr0 a z)
    · rw [setF_ne q]; exact h.fio j d f
  · rcases get_set e1 with ⟨q1, f1, _⟩ | ⟨q1, f1⟩ <;> rcases get_set e2 with ⟨q2, f2, _⟩ | ⟨q2, f2⟩
    · exact absurd (q1.trans q2.symm) hij
    · subst q1
      rw [setF_same, setF_ne q2]
      exact cl q2 f2 w2
    · subst q2
      rw [setF_same, setF_ne q1]
      exact fun a m m' => cl q1 f1 (S.some_of_wr w1) a m' m
    · rw [setF_ne q1, setF_ne q2]; exact h.dis j l s1 s2 hij f1 f2 w1 w2 w3
  · refine x a o (h.base a o eo n) ?_
    rcases n with n | n
    · refine .inl fun m => ?_
      cases s with
      | gone => cases hw
      | io d0 => exact (h.fio i d0 e a m).elim (n i) fun q => by rw [q] at eo; cases eo
      | t k d0 =>
        cases k with
        | own => have := h.fr i _ d0 e rfl a m; rw [this] at eo; cases eo
        | _ => cases hw
    · exact .inr n
  · rcases get_set e1 with ⟨q, f, _⟩ | ⟨q, f⟩
    · subst f
      rw [S.with_isBor, S.nb_of_wr hw] at e2; cases e2
    · exact h.sb j s' f e2
  · rcases get_set e1 with ⟨q, f, _⟩ | ⟨q, f⟩
    · subst q
      cases s with
      | gone => cases hw
      | io d0 => exact h.pv j d0 e
      | t k d0 => cases f
    · exact h.pv j d f
end
end RG

set_option maxRecDepth 100000
set_option maxHeartbeats 4000000
namespace RG
open PySem PySem.Spec PyProof.Rows L2

/-! ### readings: pure expressions (no slot is written) -/
/-- none: nothing is known of the cells -/
abbrev Pk := Option Tk
structure POk (g : G) (FS : Nat → List Addr) (L : List S) (H : Hp) (k : Pk) (F : List Addr) : Prop where
  own : k = some .own → F.Nodup ∧ ∀ a ∈ F, H a = none
  oth : ∀ k', k = some k' → k' ≠ .own → TOk g FS L k' F
def RP (K : PySem.W.Frag) (n : Nat) (W : List Nat) (t : TE) (f : List S → Option (Pk × D)) : Prop :=
  ∀ (g : G) (FS : Nat → List Addr) (env τ : List S) (σ : L2.St) (tv : List (Option V)) (H : Hp) (Q : VK) (r : Pk × D), g.K = K → g.n = n → g.W = W → env.length = n → σ.length = n → Sim g FS (env ++ τ) (σ ++ tv) H → f env = some r →
    (∀ v H' F, Same H H' → Rep K H' v r.2 F → POk g FS (env ++ τ) H r.1 F → Q v H') → t σ H Q
def pJoin : List (Pk × D) → Pk
  | [] => some .own
  | [t] => t.1
  | (none, _) :: _ => none
  | (some k, _) :: ts => (pJoin ts).map k.join
def RPA (K : PySem.W.Frag) (n : Nat) (W : List Nat) (t : TA) (f : List S → Option (List (Pk × D))) : Prop :=
  ∀ (g : G) (FS : Nat → List Addr) (env τ : List S) (σ : L2.St) (tv : List (Option V)) (H : Hp) (Q : List V → Hp → Prop) (r : List (Pk × D)), g.K = K → g.n = n → g.W = W → env.length = n → σ.length = n → Sim g FS (env ++ τ) (σ ++ tv) H → f env = some r →
    (∀ vs H' F, Same H H' → RepL K H' vs (r.map (·.2)) F → POk g FS (env ++ τ) H (pJoin r) F → Q vs H') → t σ H Q
/-- .. and such as write slots -/
def RE (K : PySem.W.Frag) (n : Nat) (W : List Nat) (Y : Bool) (t : TE) (f : List S → Option (T × List S)) : Prop :=
  ∀ (g : G) (FS : Nat → List Addr) (env τ : List S) (σ : L2.St) (tv : List (Option V)) (H : Hp) (Q : VK) (r : T) (env' : List S), g.K = K → g.n = n → g.W = W → env.length = n → σ.length = n → Sim g FS (env ++ τ) (σ ++ tv) H → (Y = true → NoBor τ) → f env = some (r, env') →
    (∀ v H' FS', env'.length = n → Sim g FS' ((env' ++ τ) ++ [r.s]) ((σ ++ tv) ++ [some v]) H' → Q v H') → t σ H Q
/-- an argument: a temporary, or a slot that is written by who gets it -/
inductive Ar where
  | tmp (t : T)
  | ptr (i : Nat)
def Ar.s : Ar → S
  | .tmp t => t.s
  | .ptr _ => .gone
def Ptrs (σ : L2.St) (as : List Ar) (vs : List V) : Prop := ∀ (j i : Nat), as[j]? = some (.ptr i) → ∃ v, σ[i]? = some (some v) ∧ vs[j]? = some v
def RA (K : PySem.W.Frag) (n : Nat) (W : List Nat) (Y : Bool) (t : TA) (f : List S → Option (List Ar × List S)) : Prop :=
  ∀ (g : G) (FS : Nat → List Addr) (env τ : List S) (σ : L2.St) (tv : List (Option V)) (H : Hp) (Q : List V → Hp → Prop) (r : List Ar) (env' : List S), g.K = K → g.n = n → g.W = W → env.length = n → σ.length = n → Sim g FS (env ++ τ) (σ ++ tv) H → (Y = true → NoBor τ) → f env = some (r, env') →
    (∀ vs H' FS', env'.length = n → vs.length = r.length → Ptrs σ r vs → Sim g FS' ((env' ++ τ) ++ r.map Ar.s) ((σ ++ tv) ++ vs.map some) H' → Q vs H') → t σ H Q

/-! ### operations by values -/
inductive Rk where
  | imm
  | fresh
  | mix
  | sub
  deriving DecidableEq
/-- what is made of parts of that kind and new cells -/
def Tk.mix : Tk → Tk
  | .old => .val
  | k => k
def Rk.kind : Rk → Tk → Tk
  | .mix, k => k.mix
  | .sub, k => k
  | _, _ => .own
def Rk.pk : Rk → Pk → Pk
  | .mix, k => k.map Tk.mix
  | .sub, k => k
  | _, _ => some .own
def Rk.Ok (k : Rk) (H : Hp) (F F' : List Addr) : Prop := match k with
  | .imm => F' = []
  | .fresh => F'.Nodup ∧ ∀ a ∈ F', H a = none
  | .mix => (∀ a ∈ F', a ∈ F ∨ H a = none) ∧ (F.Nodup → F'.Nodup)
  | .sub => (∀ a ∈ F', a ∈ F) ∧ (F.Nodup → F'.Nodup)
def VOp (K : PySem.W.Frag) (r : List V → Hp → VK → Prop) (o : List D → Option (Rk × D)) : Prop :=
  ∀ (H : Hp) (vs : List V) (ds : List D) (F : List Addr) (Q : VK) (k : Rk) (d : D), RepL K H vs ds F → o ds = some (k, d) → (∀ v H' F', Same H H' → Rep K H' v d F' → k.Ok H F F' → Q v H') → r vs H Q
def tArg (ta : TA) (r : List V → Hp → VK → Prop) : TE := fun σ H Q => ta σ H fun vs H1 => r vs H1 Q
def rl2 (r : R2) : List V → Hp → VK → Prop := fun vs H Q => match vs with
  | [x, y] => r x y H Q
  | _ => False
def rl1 (r : V → Hp → VK → Prop) : List V → Hp → VK → Prop := fun vs H Q => match vs with
  | [x] => r x H Q
  | _ => False

section
variable {K : PySem.W.Frag} {n : Nat} {W : List Nat} {Y Y' : Bool}
theorem Same.dom {H H' : Hp} (x : Same H H') {a : Addr} (h : H' a = none) : H a = none := x.free h
theorem POk.tok {g : G} {FS : Nat → List Addr} {L : List S} {VS : List (Option V)} {H H' : Hp} {k : Tk} {F : List Addr} (p : POk g FS L H (some k) F) (s : Sim g FS L VS H) : TOk g FS L k F := by
  by_cases h : k = .own
  · subst h; exact s.tokNew (p.own rfl).1 (p.own rfl).2
  · exact p.oth k rfl h
theorem POk.nil {g : G} {FS : Nat → List Addr} {L : List S} {H : Hp} {k : Pk} : POk g FS L H k [] := ⟨fun _ => ⟨.nil, fun _ m => (nomatch m)⟩, fun _ _ _ => TOk.nil _⟩
theorem POk.no {g : G} {FS : Nat → List Addr} {L : List S} {H : Hp} {F : List Addr} : POk g FS L H none F := ⟨fun z => (nomatch z), fun _ z => (nomatch z)⟩
theorem POk.mono {g : G} {FS : Nat → List Addr} {L : List S} {H H' : Hp} {k : Pk} {F : List Addr} (x : Same H H') (p : POk g FS L H' k F) : POk g FS L H k F :=
  ⟨fun e => ⟨(p.own e).1, fun a m => x.free ((p.own e).2 a m)⟩, p.oth⟩

/-! #### pure arguments -/
theorem rpa_nil : RPA K n W tNil fun _ => some [] := by
  intro g FS env τ σ tv H Q r hK hn hW he hs Sm e h
  cases e
  exact h [] H [] (Same.refl _) .nil POk.nil
theorem rpa_cons {ta : TE} {tr : TA} {fa : List S → Option (Pk × D)} {fr : List S → Option (List (Pk × D))} (ha : RP K n W ta fa) (hr : RPA K n W tr fr) :
    RPA K n W (tCons ta tr) fun env => (fa env).bind fun x => (fr env).map fun xs => x :: xs := by
  intro g FS env τ σ tv H Q r hK hn hW he hs Sm e h
  dsimp only at e
  cases e1 : fa env with
  | none => rw [e1] at e; cases e
  | some x =>
    rw [e1] at e
    cases e2 : fr env with
    | none => rw [e2] at e; cases e
    | some xs =>
      rw [e2] at e; cases e
      refine ha g FS env τ σ tv H _ x hK hn hW he hs Sm e1 fun v H1 F1 s1 r1 p1 => ?_
      refine hr g FS env τ σ tv H1 _ xs hK hn hW he hs (Sm.same s1) e2 fun vs H2 F2 s2 r2 p2 => ?_
      obtain ⟨k, d⟩ := x
      cases xs with
      | nil =>
        cases r2
        exact h [v] H2 F1 (s1.trans s2) (RepL.one (r1.same s2)) p1
      | cons y ys =>
      refine h (v :: vs) H2 (F1 ++ F2) (s1.trans s2) (.cons (r1.same s2) r2) ?_
      cases k with
      | none => exact POk.no
      | some k =>
        cases e3 : pJoin (y :: ys) with
        | none => simp only [pJoin, e3]; exact POk.no
        | some k' =>
          have S1 := Sm.same s1
          rw [e3] at p2
          have hd : k.apart k' = true → ∀ a ∈ F2, a ∉ F1 := fun hap a m m' => by
            have z2 : k' = .own := by cases k <;> cases k' <;> first | rfl | exact Bool.noConfusion hap
            subst z2
            obtain ⟨o, eo, _⟩ := r1.dom a m'
            have := (p2.own rfl).2 a m
            rw [eo] at this; cases this
          have tk := (p1.tok (H' := H) Sm).join (p2.tok (H' := H) S1) hd
          simp only [pJoin, e3, Option.map_some]
          refine ⟨fun z => ?_, fun kk z hne => ?_⟩
          · obtain ⟨rfl, rfl⟩ : k = .own ∧ k' = .own := by
              cases k <;> cases k' <;> first | exact ⟨rfl, rfl⟩ | exact absurd z (by decide)
            refine ⟨(tk.tree rfl).1, fun a m => ?_⟩
            rcases List.mem_append.mp m with m | m
            · exact (p1.own rfl).2 a m
            · exact s1.free ((p2.own rfl).2 a m)
          · cases z
            exact tk

/-! #### arguments -/
theorem ra_nil : RA K n W false tNil fun env => some ([], env) := by
  intro g FS env τ σ tv H Q r env' hK hn hW he hs Sm yb e h
  cases e
  exact h [] H FS he rfl (fun j i z => by simp at z) (by simpa using Sm)
theorem NoBor.snoc {τ : List S} {s : S} (h : NoBor τ) (hs : s.isBor = false) : NoBor (τ ++ [s]) := fun j x e => by
  rcases get_snoc e with ⟨_, q⟩ | ⟨_, q⟩
  · exact h j x q
  · subst q; exact hs
def aCons (Y' : Bool) (fa : List S → Option (T × List S)) (fr : List S → Option (List Ar × List S)) : List S → Option (List Ar × List S) := fun env => match fa env with
  | none => none
  | some (x, env1) => if Y' = true ∧ x.1 = .bor then none else (fr env1).map fun xs => (.tmp x :: xs.1, xs.2)
theorem ra_cons {ta : TE} {tr : TA} {fa : List S → Option (T × List S)} {fr : List S → Option (List Ar × List S)} (ha : RE K n W Y ta fa) (hr : RA K n W Y' tr fr) :
    RA K n W (Y || Y') (tCons ta tr) (aCons Y' fa fr) := by
  intro g FS env τ σ tv H Q r env' hK hn hW he hs Sm yb e h
  unfold aCons at e
  cases e1 : fa env with
  | none => rw [e1] at e; cases e
  | some x =>
    rw [e1] at e
    obtain ⟨x, env1⟩ := x
    dsimp only at e
    split at e
    · cases e
    · rename_i hbor
      cases e2 : fr env1 with
      | none => rw [e2] at e; cases e
      | some xs =>
        obtain ⟨xs, env2⟩ := xs
        simp only [e2, Option.map_some, Option.some.injEq, Prod.mk.injEq] at e
        obtain ⟨rfl, rfl⟩ := e
        refine ha g FS env τ σ tv H _ x env1 hK hn hW he hs Sm (fun q => yb (by rw [q]; rfl)) e1 fun v H1 FS1 l1 S1 => ?_
        rw [List.append_assoc, List.append_assoc] at S1
        refine hr g FS1 env1 (τ ++ [x.s]) σ (tv ++ [some v]) H1 _ xs env2 hK hn hW l1 hs S1 (fun q => (yb (by rw [q]; cases Y <;> rfl)).snoc ?_) e2 fun vs H2 FS2 l2 lv pt S2 => ?_
        · obtain ⟨k, d⟩ := x
          cases k <;> first | rfl | exact absurd ⟨q, rfl⟩ hbor
        refine h (v :: vs) H2 FS2 l2 (by simp [lv]) (fun j i z => ?_) ?_
        · cases j with
          | zero => simp at z
          | succ j => exact pt j i (by simpa using z)
        · simpa [Ar.s] using S2
def aPtr (i : Nat) (fr : List S → Option (List Ar × List S)) : List S → Option (List Ar × List S) := fun env => match env[i]? with
  | some s => if s.wr then (fr env).map fun xs => (.ptr i :: xs.1, xs.2) else none
  | none => none
theorem ra_ptr {i : Nat} {tr : TA} {fr : List S → Option (List Ar × List S)} (hr : RA K n W Y tr fr) (hi : i < n) : RA K n W Y (tCons (tVar i) tr) (aPtr i fr) := by
  intro g FS env τ σ tv H Q r env' hK hn hW he hs Sm yb e h
  unfold aPtr at e
  cases e0 : env[i]? with
  | none => rw [e0] at e; cases e
  | some s =>
    rw [e0] at e
    by_cases hw : s.wr = true
    · simp only [hw, if_true] at e
      cases e2 : fr env with
      | none => rw [e2] at e; cases e
      | some xs =>
        obtain ⟨xs, env2⟩ := xs
        rw [e2] at e
        simp only [Option.map_some, Option.some.injEq, Prod.mk.injEq] at e
        obtain ⟨rfl, rfl⟩ := e
        obtain ⟨d, hd⟩ := Option.isSome_iff_exists.mp (S.some_of_wr hw)
        have e0' : (env ++ τ)[i]? = some s := by rw [List.getElem?_append_left (by rw [he]; exact hi)]; exact e0
        obtain ⟨v, ev, rv⟩ := Sm.rep i s d e0' hd
        have ev' : σ[i]? = some (some v) := by rw [List.getElem?_append_left (by rw [hs]; exact hi)] at ev; exact ev
        refine ⟨v, ev', ?_⟩
        have S1 : Sim g FS (env ++ (τ ++ [S.gone])) (σ ++ (tv ++ [some v])) H := by
          rw [← List.append_assoc, ← List.append_assoc]
          have up : ∀ {i : Nat} {s' : S}, ((env ++ τ) ++ [S.gone])[i]? = some s' → s'.d?.isSome = true ∨ s'.tree = true ∨ s'.isBor = true → (env ++ τ)[i]? = some s' := fun e z => by
            rcases get_snoc e with ⟨_, e⟩ | ⟨_, e⟩
            · exact e
            · subst e; rcases z with z | z | z <;> cases z
          refine ⟨by have := Sm.len; simp only [List.length_append, List.length_cons, List.length_nil] at this ⊢; omega, fun i s d e1 e2 => ?_, fun i s e1 e2 => Sm.nod i s (up e1 (.inr (.inl e2))) e2, fun i k d e => Sm.fr i k d (up e (.inl rfl)), fun i d e => Sm.od i d (up e (.inl rfl)), fun i d e => Sm.fio i d (up e (.inl rfl)),
            fun i j s s' hij e1 e2 w1 w2 => Sm.dis i j s s' hij (up e1 (.inl (S.some_of_wr w1))) (up e2 (.inl w2)) w1 w2, Sm.base, Sm.dom, fun i s e1 e2 => Sm.sb i s (up e1 (.inr (.inr e2))) e2, fun i d e => ?_, Sm.wlt⟩
          · have e1' := up e1 (.inl (by rw [e2]; rfl))
            obtain ⟨u, eu, ru⟩ := Sm.rep i s d e1' e2
            exact ⟨u, by rw [List.getElem?_append_left (by rw [← Sm.len]; exact lt_of_get e1')]; exact eu, ru⟩
          · obtain ⟨u, e2, e3⟩ := Sm.pv i d (up e (.inl rfl))
            exact ⟨u, e2, by rw [List.getElem?_append_left (by rw [← Sm.len]; exact lt_of_get (up e (.inl rfl)))]; exact e3⟩
        refine hr g FS env (τ ++ [S.gone]) σ (tv ++ [some v]) H _ xs env2 hK hn hW he hs S1 (fun q => (yb q).snoc rfl) e2 fun vs H2 FS2 l2 lv pt S2 => ?_
        refine h (v :: vs) H2 FS2 l2 (by simp [lv]) (fun j i' z => ?_) ?_
        · cases j with
          | zero => simp at z; subst z; exact ⟨v, ev', rfl⟩
          | succ j => exact pt j i' (by simpa using z)
        · simpa [Ar.s] using S2
    · simp only [hw] at e; cases e

/-- all arguments are temporaries -/
def tmps : List Ar → Option (List T)
  | [] => some []
  | .tmp t :: as => (tmps as).map (t :: ·)
  | .ptr _ :: _ => none
theorem tmps_map : ∀ {as : List Ar} {ts : List T}, tmps as = some ts → as = ts.map .tmp
  | [], ts, e => by simp [tmps] at e; subst e; rfl
  | .tmp t :: as, ts, e => by
    simp only [tmps] at e
    cases e1 : tmps as with
    | none => rw [e1] at e; cases e
    | some us =>
      rw [e1] at e
      simp at e
      subst e
      rw [tmps_map e1]
      rfl
  | .ptr _ :: _, ts, e => by simp [tmps] at e

/-! #### what is got of the values -/
theorem TOk.rk {g : G} {FS : Nat → List Addr} {L : List S} {VS : List (Option V)} {H : Hp} {k : Rk} {tk : Tk} {F F' : List Addr} (s : Sim g FS L VS H) (t : TOk g FS L tk F) (h : k.Ok H F F') : TOk g FS L (k.kind tk) F' := by
  cases k with
  | imm => cases h; exact TOk.nil _
  | fresh => exact s.tokNew h.1 h.2
  | mix =>
    refine ⟨fun e => ⟨h.2 (t.tree (by cases tk <;> first | rfl | exact Bool.noConfusion e)).1, fun a m => ?_⟩, fun e a m => ?_, fun e j s' ej hs a m => ?_, fun e j s' ej hw a m => ?_, fun j s' ej hw hj a m => ?_⟩
    · exact (h.1 a m).elim (fun z => (t.tree (by cases tk <;> first | rfl | exact Bool.noConfusion e)).2 a z) s.fr0
    · cases tk <;> exact absurd e (by decide)
    · have e' : tk = .own := by cases tk <;> first | rfl | exact absurd e (by decide)
      exact (h.1 a m).elim (fun z => t.excl e' j s' ej hs a z) fun z => s.new_ne z ej hs
    · have e' : tk ≠ .bor := fun z => e (by subst z; rfl)
      exact (h.1 a m).elim (fun z => t.shar e' j s' ej hw a z) fun z => s.new_ne z ej (S.some_of_wr hw)
    · exact (h.1 a m).elim (fun z => t.bor j s' ej hw hj a z) fun z => s.new_ne z ej (S.some_of_wr hw)
  | sub => exact t.sub h.1 h.2
def eOp (o : List D → Option (Rk × D)) (fa : List S → Option (List Ar × List S)) : List S → Option (T × List S) := fun env =>
  (fa env).bind fun as => (tmps as.1).bind fun ts => (o (ts.map (·.2))).map fun kd => ((kd.1.kind (kJoin ts), kd.2), as.2)
theorem re_op {ta : TA} {r : List V → Hp → VK → Prop} {o : List D → Option (Rk × D)} {fa : List S → Option (List Ar × List S)} (ha : RA K n W Y ta fa) (hr : VOp K r o) : RE K n W Y (tArg ta r) (eOp o fa) := by
  intro g FS env τ σ tv H Q rr env' hK hn hW he hs Sm yb e h
  unfold eOp at e
  cases e1 : fa env with
  | none => rw [e1] at e; cases e
  | some as =>
    obtain ⟨as, env1⟩ := as
    cases e2 : tmps as with
    | none => simp only [e1, Option.bind_some, e2] at e; cases e
    | some ts =>
      cases e3 : o (ts.map (·.2)) with
      | none => simp only [e1, Option.bind_some, e2, e3] at e; cases e
      | some kd =>
        obtain ⟨k, d⟩ := kd
        simp only [e1, Option.bind_some, e2, e3, Option.map_some, Option.some.injEq, Prod.mk.injEq] at e
        obtain ⟨rfl, rfl⟩ := e
        refine ha g FS env τ σ tv H _ as env1 hK hn hW he hs Sm yb e1 fun vs H1 FS1 l1 lv pt S1 => ?_
        have ea := tmps_map e2
        subst ea
        have em : (ts.map Ar.tmp).map Ar.s = ts.map T.s := by rw [List.map_map]; rfl
        rw [em] at S1
        obtain ⟨F, S2, rl, tk⟩ := Sim.tops S1 (by simpa using lv.symm) (by rw [List.length_append, l1, hn]; exact Nat.le_add_right _ _)
        subst hK
        refine hr H1 vs _ F Q k d rl e3 fun v H2 F' s2 rv ok => ?_
        have tk2 := TOk.rk S2 tk ok
        refine h v H2 _ l1 ((S2.same s2).push rv tk2 fun _ => ?_)
        rw [List.length_append, l1, hn]; exact Nat.le_add_right _ _
def pOp (o : List D → Option (Rk × D)) (fa : List S → Option (List (Pk × D))) : List S → Option (Pk × D) := fun env =>
  (fa env).bind fun ts => (o (ts.map (·.2))).map fun kd => (kd.1.pk (pJoin ts), kd.2)
theorem rp_op {ta : TA} {r : List V → Hp → VK → Prop} {o : List D → Option (Rk × D)} {fa : List S → Option (List (Pk × D))} (ha : RPA K n W ta fa) (hr : VOp K r o) : RP K n W (tArg ta r) (pOp o fa) := by
  intro g FS env τ σ tv H Q rr hK hn hW he hs Sm e h
  unfold pOp at e
  cases e1 : fa env with
  | none => rw [e1] at e; cases e
  | some ts =>
    cases e3 : o (ts.map (·.2)) with
    | none => simp only [e1, Option.bind_some, e3] at e; cases e
    | some kd =>
      obtain ⟨k, d⟩ := kd
      simp only [e1, Option.bind_some, e3, Option.map_some, Option.some.injEq] at e
      subst e
      refine ha g FS env τ σ tv H _ ts hK hn hW he hs Sm e1 fun vs H1 F s1 rl p => ?_
      refine hr H1 vs _ F Q k d rl e3 fun v H2 F' s2 rv ok => ?_
      refine h v H2 F' (s1.trans s2) rv ?_
      have S1 := Sm.same s1
      cases k with
      | imm => cases ok; exact POk.nil
      | fresh => exact ⟨fun _ => ⟨ok.1, fun a m => s1.free (ok.2 a m)⟩, fun k' z hne => by cases z; exact absurd rfl hne⟩
      | mix =>
        show POk g FS (env ++ τ) H ((pJoin ts).map Tk.mix) F'
        cases q : pJoin ts with
        | none => exact POk.no
        | some k' =>
          rw [q] at p
          refine ⟨fun z => ?_, fun k2 z hne => ?_⟩
          · have e' : k' = .own := by
              have z : k'.mix = .own := Option.some.inj z
              cases k' <;> first | rfl | exact absurd z (by decide)
            subst e'
            exact ⟨ok.2 (p.own rfl).1, fun a m => (ok.1 a m).elim ((p.own rfl).2 a) fun q => s1.free q⟩
          · have z : k'.mix = k2 := Option.some.inj z
            subst z
            have hk : k' ≠ .own := fun z => hne (by subst z; rfl)
            exact TOk.rk (k := .mix) (tk := k') S1 (p.oth k' rfl hk) ok
      | sub =>
        show POk g FS (env ++ τ) H (pJoin ts) F'
        exact ⟨fun z => ⟨ok.2 (p.own z).1, fun a m => (p.own z).2 a (ok.1 a m)⟩, fun k' z hne => (p.oth k' z hne).sub ok.1 ok.2⟩
/-- a pure expression where slots may be written -/
def lift (f : List S → Option (Pk × D)) : List S → Option (T × List S) := fun env =>
  (f env).bind fun r => match r.1 with
    | some k => some ((k, r.2), env)
    | none => if r.2.flat then some ((.own, r.2), env) else none
theorem re_lift {t : TE} {f : List S → Option (Pk × D)} (h : RP K n W t f) : RE K n W false t (lift f) := by
  intro g FS env τ σ tv H Q r env' hK hn hW he hs Sm yb e q
  unfold lift at e
  cases e1 : f env with
  | none => rw [e1] at e; cases e
  | some kd =>
    obtain ⟨k, d⟩ := kd
    rw [e1] at e
    refine h g FS env τ σ tv H Q (k, d) hK hn hW he hs Sm e1 fun v H' F s rv p => ?_
    subst hK
    have fin : ∀ k : Tk, TOk g FS (env ++ τ) k F → Q v H' ∨ True := fun _ _ => .inr trivial
    have lb : ∀ k : Tk, k = .bor → g.n ≤ (env ++ τ).length := fun _ _ => by rw [List.length_append, he, hn]; exact Nat.le_add_right _ _
    cases k with
    | some k =>
      simp only [Option.bind_some, Option.some.injEq, Prod.mk.injEq] at e
      obtain ⟨rfl, rfl⟩ := e
      exact q v H' _ he ((Sm.same s).push rv (p.tok (H' := H) Sm) (lb k))
    | none =>
      simp only [Option.bind_some] at e
      by_cases hf : d.flat = true
      · rw [if_pos hf] at e
        simp only [Option.some.injEq, Prod.mk.injEq] at e
        obtain ⟨rfl, rfl⟩ := e
        have eF := rv.flat hf
        subst eF
        exact q v H' _ he ((Sm.same s).push rv (TOk.nil _) (lb _))
      · rw [if_neg hf] at e; cases e

/-! ### names and constants -/
def dV : D → Option V
  | .non => some .non
  | .bl b => some (.bl b)
  | .int i => some (.int i)
  | .str x => some (.str x)
  | _ => none
theorem rp_c {v : V} {d : D} (h : ∀ H, Rep K H v d []) : RP K n W (tC v) fun _ => some (some .own, d) := by
  intro g FS env τ σ tv H Q r hK hn hW he hs Sm e q
  cases e
  exact q v H [] (Same.refl _) (h H) POk.nil
/-- a name that is read; W: the slots that expressions write -/
def pVar (W : List Nat) (i : Nat) : List S → Option (Pk × D) := fun env => match env[i]? with
  | some (.t .val d) => some (some .val, d)
  | some (.t .old d) => some (some .old, d)
  | some (.t .frz d) => some (some .frz, d)
  | some (.t .own d) => some (if W.contains i then none else some .bor, d)
  | some (.io d) => some (if W.contains i then none else some .bor, d)
  | _ => none

theorem rp_var {i : Nat} (hi : i < n) : RP K n W (tVar i) (pVar W i) := by
  intro g FS env τ σ tv H Q r hK hn hW he hs Sm e q
  have up : ∀ {s}, env[i]? = some s → (env ++ τ)[i]? = some s := fun e0 => by rw [List.getElem?_append_left (by rw [he]; exact hi)]; exact e0
  have dn : ∀ {v : V}, (σ ++ tv)[i]? = some (some v) → σ[i]? = some (some v) := fun ev => by rw [List.getElem?_append_left (by rw [hs]; exact hi)] at ev; exact ev
  subst hK
  have wr : ∀ {s : S} {d : D}, env[i]? = some s → s.wr = true → s.d? = some d → r = (if W.contains i then none else some .bor, d) → tVar i σ H Q := fun {s d} e0 hw hd er => by
    obtain ⟨v, ev, rv⟩ := Sm.rep i _ d (up e0) hd
    subst er
    refine ⟨v, dn ev, q v H _ (Same.refl _) rv ?_⟩
    by_cases hc : W.contains i = true
    · simp only [hc, if_true]
      exact POk.no
    · simp only [hc]
      refine ⟨fun z => (nomatch z), fun k' z _ => ?_⟩
      cases z
      refine ⟨fun z => (nomatch z), fun z => (nomatch z), fun z => (nomatch z), fun z => absurd rfl z, fun j s' ej hw' hj a m m' => ?_⟩
      have hij : j ≠ i := fun z => by
        subst z
        rcases hj with hj | hj
        · exact hc (by rw [hW] at hj; simpa using hj)
        · omega
      exact Sm.dis j i s' _ hij ej (up e0) hw' (S.some_of_wr hw) (fun z => by rw [S.nb_of_wr hw] at z; cases z) a m' m
  have rd : ∀ {k : Tk} {d : D}, env[i]? = some (.t k d) → k ≠ .own → k ≠ .bor → r = (some k, d) → tVar i σ H Q := fun {k d} e0 h1 h2 er => by
    subst er
    obtain ⟨v, ev, rv⟩ := Sm.rep i _ d (up e0) rfl
    refine ⟨v, dn ev, q v H _ (Same.refl _) rv ⟨fun z => absurd (Option.some.inj z) h1, fun k' z _ => ?_⟩⟩
    cases z
    have t0 := Sm.tok (up e0) (.inl h1) (L' := (env ++ τ).set i .gone) fun {j s} ej hs => by
      rcases get_set ej with ⟨_, f, _⟩ | f
      · subst f; cases hs
      · exact f
    have inv : ∀ {j : Nat} {s : S}, (env ++ τ)[j]? = some s → s.wr = true → ((env ++ τ).set i .gone)[j]? = some s := fun {j s} ej hw => by
      have hij : j ≠ i := fun z => by
        subst z
        rw [up e0] at ej; cases ej
        cases k <;> first | exact Bool.noConfusion hw | exact absurd rfl h1
      rw [List.getElem?_set_ne (Ne.symm hij)]; exact ej
    exact ⟨t0.tree, t0.old, fun z => absurd z h1, fun z j s ej hw => t0.shar z j s (inv ej hw) hw, fun j s ej hw => t0.bor j s (inv ej hw) hw⟩
  unfold pVar at e
  cases e0 : env[i]? with
  | none => rw [e0] at e; cases e
  | some s =>
    rw [e0] at e
    cases s with
    | gone => cases e
    | io d => exact wr e0 rfl rfl (Option.some.inj e).symm
    | t k d =>
      cases k with
      | own => exact wr e0 rfl rfl (Option.some.inj e).symm
      | bor => cases e
      | val => exact rd e0 (by decide) (by decide) (Option.some.inj e).symm
      | old => exact rd e0 (by decide) (by decide) (Option.some.inj e).symm
      | frz => exact rd e0 (by decide) (by decide) (Option.some.inj e).symm
end
end RG

set_option maxRecDepth 100000
set_option maxHeartbeats 4000000
namespace RG
open PySem PySem.Spec PyProof.Rows L2

theorem Rep.blV {K : PySem.W.Frag} {H : Hp} {v : V} {b : Bool} {F : List Addr} (h : Rep K H v (.bl b) F) : v = .bl b := by cases h; rfl
theorem Rep.intV {K : PySem.W.Frag} {H : Hp} {v : V} {b : Int} {F : List Addr} (h : Rep K H v (.int b) F) : v = .int b := by cases h; rfl
theorem Rep.strV {K : PySem.W.Frag} {H : Hp} {v : V} {b : Str} {F : List Addr} (h : Rep K H v (.str b) F) : v = .str b := by cases h; rfl
theorem Rep.nonV {K : PySem.W.Frag} {H : Hp} {v : V} {F : List Addr} (h : Rep K H v .non F) : v = .non := by cases h; rfl
theorem Rep.tupV {K : PySem.W.Frag} {H : Hp} {v : V} {ds : List D} {F : List Addr} (h : Rep K H v (.tup ds) F) : ∃ a vs, v = .ref a ∧ SqT K H a vs ∧ RepL K H vs ds F ∧ vs.length ≤ sizeLine := by cases h with | tup h1 hy hz h2 => exact ⟨_, _, rfl, h1, h2, hz⟩
theorem Rep.tupK {K : PySem.W.Frag} {H : Hp} {v : V} {ds : List D} {F : List Addr} (h : Rep K H v (.tup ds) F) (hl : ds.length ≠ 8) : ∃ a vs, v = .ref a ∧ H a = some (.tup vs) ∧ RepL K H vs ds F := by
  cases h with | tup h1 hy hz h2 => exact ⟨_, _, rfl, hy.resolve_left (by rw [h2.length]; exact hl), h2⟩
theorem Rep.lstV {K : PySem.W.Frag} {H : Hp} {v : V} {ds : List D} {F : List Addr} (h : Rep K H v (.lst ds) F) : ∃ a vs F', v = .ref a ∧ F = a :: F' ∧ H a = some (.lst vs) ∧ RepL K H vs ds F' ∧ vs.length ≤ sizeLine := by cases h with | lst h1 hz h2 => exact ⟨_, _, _, rfl, rfl, h1, h2, hz⟩

inductive Fl where
  | nx (L : List S)
  | rt (r : T) (L : List S)
  | bk (L : List S)
  | ct (L : List S)
/-- the slots that are not named are as they were -/
def Keep (A : List Nat) (σ σ' : L2.St) : Prop := ∀ j, j ∉ A → σ'[j]? = σ[j]?
theorem Keep.refl {A : List Nat} {σ : L2.St} : Keep A σ σ := fun _ _ => rfl
theorem Keep.mono {A B : List Nat} {σ σ' : L2.St} (k : Keep A σ σ') (h : ∀ j ∈ A, j ∈ B) : Keep B σ σ' := fun j n => k j fun m => n (h j m)
theorem Keep.trans {A : List Nat} {σ σ' σ'' : L2.St} (k : Keep A σ σ') (k' : Keep A σ' σ'') : Keep A σ σ'' := fun j n => (k' j n).trans (k j n)
def Post (g : G) (n : Nat) (A : List Nat) (τ : List S) (tv : List (Option V)) (σ : L2.St) (D : Ends) : Fl → Prop
  | .nx env' => ∀ (σ' : L2.St) (H' : Hp) (FS' : Nat → List Addr), env'.length = n → σ'.length = n → Keep A σ σ' → Sim g FS' (env' ++ τ) (σ' ++ tv) H' → D.nx σ' H'
  | .bk env' => ∀ (σ' : L2.St) (H' : Hp) (FS' : Nat → List Addr), env'.length = n → σ'.length = n → Keep A σ σ' → Sim g FS' (env' ++ τ) (σ' ++ tv) H' → D.bk σ' H'
  | .ct env' => ∀ (σ' : L2.St) (H' : Hp) (FS' : Nat → List Addr), env'.length = n → σ'.length = n → Keep A σ σ' → Sim g FS' (env' ++ τ) (σ' ++ tv) H' → D.ct σ' H'
  | .rt r env' => ∀ (v : V) (σ' : L2.St) (H' : Hp) (FS' : Nat → List Addr), env'.length = n → σ'.length = n → Keep A σ σ' → Sim g FS' ((env' ++ τ) ++ [r.s]) ((σ' ++ tv) ++ [some v]) H' → D.rt v H'
theorem Post.mono {g : G} {n : Nat} {A B : List Nat} {τ : List S} {tv : List (Option V)} {σ : L2.St} {D : Ends} (h : ∀ j ∈ A, j ∈ B) {r : Fl} (p : Post g n B τ tv σ D r) : Post g n A τ tv σ D r := by
  cases r with
  | nx L => exact fun σ' H' FS' l1 l2 k s => p σ' H' FS' l1 l2 (k.mono h) s
  | bk L => exact fun σ' H' FS' l1 l2 k s => p σ' H' FS' l1 l2 (k.mono h) s
  | ct L => exact fun σ' H' FS' l1 l2 k s => p σ' H' FS' l1 l2 (k.mono h) s
  | rt r L => exact fun v σ' H' FS' l1 l2 k s => p v σ' H' FS' l1 l2 (k.mono h) s
theorem Post.from {g : G} {n : Nat} {A : List Nat} {τ : List S} {tv : List (Option V)} {σ σ1 : L2.St} {D : Ends} (k : Keep A σ σ1) {r : Fl} (p : Post g n A τ tv σ D r) : Post g n A τ tv σ1 D r := by
  cases r with
  | nx L => exact fun σ' H' FS' l1 l2 k' s => p σ' H' FS' l1 l2 (k.trans k') s
  | bk L => exact fun σ' H' FS' l1 l2 k' s => p σ' H' FS' l1 l2 (k.trans k') s
  | ct L => exact fun σ' H' FS' l1 l2 k' s => p σ' H' FS' l1 l2 (k.trans k') s
  | rt r L => exact fun v σ' H' FS' l1 l2 k' s => p v σ' H' FS' l1 l2 (k.trans k') s
/-- no entry that may share its new cells -/
def Clean (τ : List S) : Prop := ∀ (j : Nat) (k : Tk) (d : D), τ[j]? = some (S.t k d) → k = .own ∨ k = .old
structure Tau (Z : Bool) (τ : List S) : Prop where
  nb : NoBor τ
  cl : Z = true → Clean τ
theorem Tau.l {Z Z' : Bool} {τ : List S} (t : Tau (Z || Z') τ) : Tau Z τ := ⟨t.nb, fun e => t.cl (by rw [e]; rfl)⟩
theorem Tau.r {Z Z' : Bool} {τ : List S} (t : Tau (Z || Z') τ) : Tau Z' τ := ⟨t.nb, fun e => t.cl (by rw [e]; cases Z <;> rfl)⟩
theorem Tau.f {Z : Bool} {τ : List S} (t : Tau Z τ) : Tau false τ := ⟨t.nb, fun e => (nomatch e)⟩
def RS (K : PySem.W.Frag) (n : Nat) (W A : List Nat) (Z : Bool) (t : TS) (f : List S → Option Fl) : Prop :=
  ∀ (g : G) (FS : Nat → List Addr) (env τ : List S) (σ : L2.St) (tv : List (Option V)) (H : Hp) (D : Ends) (r : Fl), g.K = K → g.n = n → g.W = W → env.length = n → σ.length = n → Sim g FS (env ++ τ) (σ ++ tv) H → Tau Z τ → f env = some r → Post g n A τ tv σ D r → t D σ H
def RB (K : PySem.W.Frag) (n : Nat) (W : List Nat) (Y : Bool) (t : TT) (f : List S → Option (Bool × List S)) : Prop :=
  ∀ (g : G) (FS : Nat → List Addr) (env τ : List S) (σ : L2.St) (tv : List (Option V)) (H : Hp) (Q : Bool → Hp → Prop) (b : Bool) (env' : List S), g.K = K → g.n = n → g.W = W → env.length = n → σ.length = n → Sim g FS (env ++ τ) (σ ++ tv) H → (Y = true → NoBor τ) → f env = some (b, env') →
    (∀ H' FS', env'.length = n → Sim g FS' (env' ++ τ) (σ ++ tv) H' → Q b H') → t σ H Q
/-- a target: what it gets stands on top -/
def RT (K : PySem.W.Frag) (n : Nat) (W A : List Nat) (t : TG) (f : T → List S → Option (List S)) : Prop :=
  ∀ (g : G) (FS : Nat → List Addr) (env τ : List S) (σ : L2.St) (tv : List (Option V)) (H : Hp) (v : V) (Q : L2.St → Hp → Prop) (r : T) (env' : List S), g.K = K → g.n = n → g.W = W → env.length = n → σ.length = n →
    Sim g FS ((env ++ τ) ++ [r.s]) ((σ ++ tv) ++ [some v]) H → (NoBor τ ∨ ∀ i ∈ A, i ∉ W) → f r env = some env' →
    (∀ (σ' : L2.St) (H' : Hp) (FS' : Nat → List Addr), env'.length = n → σ'.length = n → Keep A σ σ' → Sim g FS' (env' ++ τ) (σ' ++ tv) H' → Q σ' H') → t v σ H Q

section
variable {K : PySem.W.Frag} {n : Nat} {W A B : List Nat} {Z Z' Y Y' Y2 : Bool} {t u : TS} {f h : List S → Option Fl}
theorem Sim.nobor {g : G} {FS : Nat → List Addr} {env τ : List S} {VS : List (Option V)} {H : Hp} (s : Sim g FS (env ++ τ) VS H) (he : env.length = g.n) (nb : NoBor τ) : NoBor (env ++ τ) := by
  intro j x e
  cases q : x.isBor with
  | false => rfl
  | true =>
    have hl := s.sb j x e q
    rw [List.getElem?_append_right (by rw [he]; exact hl)] at e
    rw [nb _ x e] at q; cases q
theorem RS.mono (hf : RS K n W A Z t f) (s : ∀ j ∈ A, j ∈ B) : RS K n W B Z t f := fun g FS env τ σ tv H D r h1 h2 h3 h4 h5 h6 h7 h8 p => hf g FS env τ σ tv H D r h1 h2 h3 h4 h5 h6 h7 h8 (p.mono s)
def sSeq (f h : List S → Option Fl) : List S → Option Fl := fun env => match f env with
  | some (.nx env') => h env'
  | r => r
theorem rs_nil : RS K n W [] false tNext fun env => some (.nx env) := by
  intro g FS env τ σ tv H D r hK hn hW he hs Sm nb e p
  cases e
  exact p σ H FS he hs Keep.refl Sm
theorem rs_seq (hf : RS K n W A Z t f) (hh : RS K n W B Z' u h) : RS K n W (A ++ B) (Z || Z') (tSeq t u) (sSeq f h) := by
  intro g FS env τ σ tv H D r hK hn hW he hs Sm nb e p
  unfold sSeq at e
  have ml : ∀ j ∈ A, j ∈ A ++ B := fun j m => List.mem_append_left _ m
  have mr : ∀ j ∈ B, j ∈ A ++ B := fun j m => List.mem_append_right _ m
  cases e1 : f env with
  | none => rw [e1] at e; cases e
  | some r1 =>
    rw [e1] at e
    refine hf g FS env τ σ tv H _ r1 hK hn hW he hs Sm nb.l e1 ?_
    cases r1 with
    | nx env1 => exact fun σ' H' FS' l1 l2 k s => hh g FS' env1 τ σ' tv H' D r hK hn hW l1 l2 s nb.r e ((p.from (k.mono ml)).mono mr)
    | bk L => cases e; exact p.mono ml
    | ct L => cases e; exact p.mono ml
    | rt r' L => cases e; exact p.mono ml
theorem rs_pass : RS K n W [] false tNext fun env => some (.nx env) := rs_nil
theorem rs_break : RS K n W [] false tBreak fun env => some (.bk env) := by
  intro g FS env τ σ tv H D r hK hn hW he hs Sm nb e p
  cases e
  exact p σ H FS he hs Keep.refl Sm
theorem rs_cont : RS K n W [] false tCont fun env => some (.ct env) := by
  intro g FS env τ σ tv H D r hK hn hW he hs Sm nb e p
  cases e
  exact p σ H FS he hs Keep.refl Sm
theorem rs_never : RS K n W [] false tNever fun _ => none := by
  intro g FS env τ σ tv H D r hK hn hW he hs Sm nb e p
  cases e
def sRet (fe : List S → Option (T × List S)) : List S → Option Fl := fun env => (fe env).map fun r => .rt r.1 r.2
theorem rs_ret {te : TE} {fe : List S → Option (T × List S)} (ht : RE K n W Y te fe) : RS K n W [] false (tRet te) (sRet fe) := by
  intro g FS env τ σ tv H D r hK hn hW he hs Sm nb e p
  unfold sRet at e
  cases e1 : fe env with
  | none => rw [e1] at e; cases e
  | some r1 =>
    rw [e1] at e; cases e
    exact ht g FS env τ σ tv H D.rt r1.1 r1.2 hK hn hW he hs Sm (fun _ => nb.nb) e1 fun v H' FS' l s => p v σ H' FS' l hs Keep.refl s
theorem rs_retN : RS K n W [] false tRetN fun env => some (.rt (.own, .non) env) := by
  intro g FS env τ σ tv H D r hK hn hW he hs Sm nb e p
  cases e
  exact p .non σ H _ he hs Keep.refl (Sm.push .non (TOk.nil _) fun z => (nomatch z))
def sExpr (fe : List S → Option (T × List S)) : List S → Option Fl := fun env => (fe env).map fun r => .nx r.2
theorem rs_expr {te : TE} {fe : List S → Option (T × List S)} (ht : RE K n W Y te fe) : RS K n W [] false (tDrop te) (sExpr fe) := by
  intro g FS env τ σ tv H D r hK hn hW he hs Sm nb e p
  unfold sExpr at e
  cases e1 : fe env with
  | none => rw [e1] at e; cases e
  | some r1 =>
    rw [e1] at e; cases e
    exact ht g FS env τ σ tv H _ r1.1 r1.2 hK hn hW he hs Sm (fun _ => nb.nb) e1 fun v H' FS' l s => p σ H' FS' l hs Keep.refl s.pop
def sIf (fc : List S → Option (Bool × List S)) (f h : List S → Option Fl) : List S → Option Fl := fun env => match fc env with
  | some (true, env') => f env'
  | some (false, env') => h env'
  | none => none
theorem rs_if {tc : TT} {fc : List S → Option (Bool × List S)} (hc : RB K n W Y tc fc) (hf : RS K n W A Z t f) (hh : RS K n W B Z' u h) : RS K n W (A ++ B) (Z || Z') (tIfS tc t u) (sIf fc f h) := by
  intro g FS env τ σ tv H D r hK hn hW he hs Sm nb e p
  unfold sIf at e
  cases e1 : fc env with
  | none => rw [e1] at e; cases e
  | some r1 =>
    obtain ⟨b, env1⟩ := r1
    rw [e1] at e
    refine hc g FS env τ σ tv H _ b env1 hK hn hW he hs Sm (fun _ => nb.nb) e1 fun H' FS' l s => ?_
    cases b with
    | true =>
      rw [if_pos rfl]
      exact hf g FS' env1 τ σ tv H' D r hK hn hW l hs s nb.l e (p.mono fun j m => List.mem_append_left _ m)
    | false =>
      rw [if_neg Bool.false_ne_true]
      exact hh g FS' env1 τ σ tv H' D r hK hn hW l hs s nb.r e (p.mono fun j m => List.mem_append_right _ m)

/-! ### tests -/
def bE (fe : List S → Option (T × List S)) : List S → Option (Bool × List S) := fun env => match fe env with
  | some ((_, .bl b), env') => some (b, env')
  | _ => none
theorem rb_e {te : TE} {fe : List S → Option (T × List S)} (ht : RE K n W Y te fe) : RB K n W Y (tTest te) (bE fe) := by
  intro g FS env τ σ tv H Q b env' hK hn hW he hs Sm yb e h
  unfold bE at e
  split at e
  · rename_i k b' env1 e1
    cases e
    refine ht g FS env τ σ tv H _ _ _ hK hn hW he hs Sm yb e1 fun v H' FS' l s => ?_
    obtain ⟨v', ev, r, _⟩ := Sim.top s (by rw [List.length_append, l, hn]; exact Nat.le_add_right _ _)
    cases ev
    cases r.blV
    exact ⟨_, rfl, h H' FS' l s.pop⟩
  · cases e
def bNot (fc : List S → Option (Bool × List S)) : List S → Option (Bool × List S) := fun env => (fc env).map fun r => (!r.1, r.2)
theorem rb_not {tc : TT} {fc : List S → Option (Bool × List S)} (hc : RB K n W Y tc fc) : RB K n W Y (tNot tc) (bNot fc) := by
  intro g FS env τ σ tv H Q b env' hK hn hW he hs Sm yb e h
  unfold bNot at e
  cases e1 : fc env with
  | none => rw [e1] at e; cases e
  | some r1 =>
    obtain ⟨b1, env1⟩ := r1
    rw [e1] at e; cases e
    exact hc g FS env τ σ tv H _ b1 env1 hK hn hW he hs Sm yb e1 h
def bAnd (f1 f2 : List S → Option (Bool × List S)) : List S → Option (Bool × List S) := fun env => match f1 env with
  | some (true, env') => f2 env'
  | some (false, env') => some (false, env')
  | none => none
def bOr (f1 f2 : List S → Option (Bool × List S)) : List S → Option (Bool × List S) := fun env => match f1 env with
  | some (false, env') => f2 env'
  | some (true, env') => some (true, env')
  | none => none
theorem rb_and {t1 t2 : TT} {f1 f2 : List S → Option (Bool × List S)} (h1 : RB K n W Y t1 f1) (h2 : RB K n W Y' t2 f2) : RB K n W (Y || Y') (tAnd t1 t2) (bAnd f1 f2) := by
  intro g FS env τ σ tv H Q b env' hK hn hW he hs Sm yb e h
  unfold bAnd at e
  cases e1 : f1 env with
  | none => rw [e1] at e; cases e
  | some r1 =>
    obtain ⟨b1, env1⟩ := r1
    rw [e1] at e
    refine h1 g FS env τ σ tv H _ b1 env1 hK hn hW he hs Sm (fun q => yb (by simp [q])) e1 fun H' FS' l s => ?_
    cases b1 with
    | true => rw [if_pos rfl]; exact h2 g FS' env1 τ σ tv H' Q b env' hK hn hW l hs s (fun q => yb (by simp [q])) e h
    | false =>
      cases e
      rw [if_neg Bool.false_ne_true]; exact h H' FS' l s
theorem rb_or {t1 t2 : TT} {f1 f2 : List S → Option (Bool × List S)} (h1 : RB K n W Y t1 f1) (h2 : RB K n W Y' t2 f2) : RB K n W (Y || Y') (tOr t1 t2) (bOr f1 f2) := by
  intro g FS env τ σ tv H Q b env' hK hn hW he hs Sm yb e h
  unfold bOr at e
  cases e1 : f1 env with
  | none => rw [e1] at e; cases e
  | some r1 =>
    obtain ⟨b1, env1⟩ := r1
    rw [e1] at e
    refine h1 g FS env τ σ tv H _ b1 env1 hK hn hW he hs Sm (fun q => yb (by simp [q])) e1 fun H' FS' l s => ?_
    cases b1 with
    | false => rw [if_neg Bool.false_ne_true]; exact h2 g FS' env1 τ σ tv H' Q b env' hK hn hW l hs s (fun q => yb (by simp [q])) e h
    | true =>
      cases e
      rw [if_pos rfl]; exact h H' FS' l s
/-- .. as values -/
def eB (fc : List S → Option (Bool × List S)) : List S → Option (T × List S) := fun env => (fc env).map fun r => ((.own, .bl r.1), r.2)
theorem re_b {tc : TT} {fc : List S → Option (Bool × List S)} (hc : RB K n W Y tc fc) : RE K n W Y (fun σ H Q => tc σ H fun b H1 => Q (.bl b) H1) (eB fc) := by
  intro g FS env τ σ tv H Q r env' hK hn hW he hs Sm yb e h
  unfold eB at e
  cases e1 : fc env with
  | none => rw [e1] at e; cases e
  | some r1 =>
    obtain ⟨b1, env1⟩ := r1
    rw [e1] at e; cases e
    exact hc g FS env τ σ tv H _ b1 env1 hK hn hW he hs Sm yb e1 fun H' FS' l s => h (.bl b1) H' _ l (s.push (.bl b1) (TOk.nil _) fun z => (nomatch z))
theorem re_andV {ta tb : TE} {fa fb : List S → Option (T × List S)} (ha : RE K n W Y ta fa) (hb : RE K n W Y' tb fb) : RE K n W (Y || Y') (tAndV ta tb) (eB (bAnd (bE fa) (bE fb))) := by
  intro g FS env τ σ tv H Q r env' hK hn hW he hs Sm yb e h
  unfold eB bAnd bE at e
  cases e1 : fa env with
  | none => simp [e1] at e
  | some r1 =>
    obtain ⟨⟨k, d⟩, env1⟩ := r1
    refine ha g FS env τ σ tv H _ (k, d) env1 hK hn hW he hs Sm (fun q => yb (by simp [q])) e1 fun v H1 FS1 l s => ?_
    cases d with
    | bl b =>
      obtain ⟨v', ev, rv, _⟩ := Sim.top s (by rw [List.length_append, l, hn]; exact Nat.le_add_right _ _)
      cases ev
      cases rv.blV
      refine ⟨b, rfl, ?_⟩
      cases b with
      | false =>
        simp only [e1, Option.map_some, Option.some.injEq, Prod.mk.injEq] at e
        obtain ⟨rfl, rfl⟩ := e
        rw [if_neg Bool.false_ne_true]
        exact h _ H1 _ l (s.pop.push (.bl false) (TOk.nil _) fun z => (nomatch z))
      | true =>
        simp only [e1] at e
        rw [if_pos rfl]
        cases e2 : fb env1 with
        | none => simp [e2] at e
        | some r2 =>
          obtain ⟨⟨k2, d2⟩, env2⟩ := r2
          simp only [e2] at e
          refine hb g FS1 env1 τ σ tv H1 Q (k2, d2) env2 hK hn hW l hs s.pop (fun q => yb (by simp [q])) e2 fun v2 H2 FS2 l2 s2 => ?_
          cases d2 with
          | bl b2 =>
            simp only [Option.map_some, Option.some.injEq, Prod.mk.injEq] at e
            obtain ⟨rfl, rfl⟩ := e
            obtain ⟨v', ev, rv, _⟩ := Sim.top s2 (by rw [List.length_append, l2, hn]; exact Nat.le_add_right _ _)
            cases ev
            cases rv.blV
            exact h _ H2 _ l2 (s2.pop.push (.bl b2) (TOk.nil _) fun z => (nomatch z))
          | _ => simp at e
    | _ => simp [e1] at e
theorem re_orV {ta tb : TE} {fa fb : List S → Option (T × List S)} (ha : RE K n W Y ta fa) (hb : RE K n W Y' tb fb) : RE K n W (Y || Y') (tOrV ta tb) (eB (bOr (bE fa) (bE fb))) := by
  intro g FS env τ σ tv H Q r env' hK hn hW he hs Sm yb e h
  unfold eB bOr bE at e
  cases e1 : fa env with
  | none => simp [e1] at e
  | some r1 =>
    obtain ⟨⟨k, d⟩, env1⟩ := r1
    refine ha g FS env τ σ tv H _ (k, d) env1 hK hn hW he hs Sm (fun q => yb (by simp [q])) e1 fun v H1 FS1 l s => ?_
    cases d with
    | bl b =>
      obtain ⟨v', ev, rv, _⟩ := Sim.top s (by rw [List.length_append, l, hn]; exact Nat.le_add_right _ _)
      cases ev
      cases rv.blV
      refine ⟨b, rfl, ?_⟩
      cases b with
      | true =>
        simp only [e1, Option.map_some, Option.some.injEq, Prod.mk.injEq] at e
        obtain ⟨rfl, rfl⟩ := e
        rw [if_pos rfl]
        exact h _ H1 _ l (s.pop.push (.bl true) (TOk.nil _) fun z => (nomatch z))
      | false =>
        simp only [e1] at e
        rw [if_neg Bool.false_ne_true]
        cases e2 : fb env1 with
        | none => simp [e2] at e
        | some r2 =>
          obtain ⟨⟨k2, d2⟩, env2⟩ := r2
          simp only [e2] at e
          refine hb g FS1 env1 τ σ tv H1 Q (k2, d2) env2 hK hn hW l hs s.pop (fun q => yb (by simp [q])) e2 fun v2 H2 FS2 l2 s2 => ?_
          cases d2 with
          | bl b2 =>
            simp only [Option.map_some, Option.some.injEq, Prod.mk.injEq] at e
            obtain ⟨rfl, rfl⟩ := e
            obtain ⟨v', ev, rv, _⟩ := Sim.top s2 (by rw [List.length_append, l2, hn]; exact Nat.le_add_right _ _)
            cases ev
            cases rv.blV
            exact h _ H2 _ l2 (s2.pop.push (.bl b2) (TOk.nil _) fun z => (nomatch z))
          | _ => simp at e
    | _ => simp [e1] at e
theorem re_notV {ta : TE} {fa : List S → Option (T × List S)} (ha : RE K n W Y ta fa) : RE K n W Y (tNotV ta) (eB (bNot (bE fa))) := by
  intro g FS env τ σ tv H Q r env' hK hn hW he hs Sm yb e h
  unfold eB bNot bE at e
  cases e1 : fa env with
  | none => simp [e1] at e
  | some r1 =>
    obtain ⟨⟨k, d⟩, env1⟩ := r1
    refine ha g FS env τ σ tv H _ (k, d) env1 hK hn hW he hs Sm (fun q => yb (by simp [q])) e1 fun v H1 FS1 l s => ?_
    cases d with
    | bl b =>
      obtain ⟨v', ev, rv, _⟩ := Sim.top s (by rw [List.length_append, l, hn]; exact Nat.le_add_right _ _)
      cases ev
      cases rv.blV
      simp only [e1, Option.map_some, Option.some.injEq, Prod.mk.injEq] at e
      obtain ⟨rfl, rfl⟩ := e
      exact ⟨b, rfl, h _ H1 _ l (s.pop.push (.bl _) (TOk.nil _) fun z => (nomatch z))⟩
    | _ => simp [e1] at e
def eIf (fc : List S → Option (Bool × List S)) (f h : List S → Option (T × List S)) : List S → Option (T × List S) := fun env => match fc env with
  | some (true, env') => f env'
  | some (false, env') => h env'
  | none => none
theorem re_if {tc : TT} {ta tb : TE} {fc : List S → Option (Bool × List S)} {fa fb : List S → Option (T × List S)} (hc : RB K n W Y tc fc) (ha : RE K n W Y' ta fa) (hb : RE K n W Y2 tb fb) : RE K n W (Y || Y' || Y2) (tIf tc ta tb) (eIf fc fa fb) := by
  intro g FS env τ σ tv H Q r env' hK hn hW he hs Sm yb e h
  unfold eIf at e
  cases e1 : fc env with
  | none => rw [e1] at e; cases e
  | some r1 =>
    obtain ⟨b, env1⟩ := r1
    rw [e1] at e
    refine hc g FS env τ σ tv H _ b env1 hK hn hW he hs Sm (fun q => yb (by simp [q])) e1 fun H' FS' l s => ?_
    cases b with
    | true => rw [if_pos rfl]; exact ha g FS' env1 τ σ tv H' Q r env' hK hn hW l hs s (fun q => yb (by simp [q])) e h
    | false => rw [if_neg Bool.false_ne_true]; exact hb g FS' env1 τ σ tv H' Q r env' hK hn hW l hs s (fun q => yb (by simp [q])) e h

/-! ### targets, assignments -/
/-- what a slot may hold -/
def T.sl (r : T) : Option Tk := match r.1 with
  | .bor => if r.2.flat then some .own else none
  | k => some k
theorem TOk.sl {g : G} {FS : Nat → List Addr} {L : List S} {r : T} {k : Tk} {F : List Addr} {K : PySem.W.Frag} {H : Hp} {v : V} (rv : Rep K H v r.2 F) (tk : TOk g FS L r.1 F) (e : r.sl = some k) : TOk g FS L k F ∧ k ≠ .bor := by
  obtain ⟨k0, d⟩ := r
  cases k0 with
  | bor =>
    simp only [T.sl] at e
    by_cases hf : d.flat = true
    · rw [if_pos hf] at e; cases e
      rw [rv.flat hf]
      exact ⟨TOk.nil _, fun z => Tk.noConfusion z⟩
    · rw [if_neg hf] at e; cases e
  | _ => cases e; exact ⟨tk, fun z => Tk.noConfusion z⟩
theorem Sim.topSl {g : G} {FS : Nat → List Addr} {L : List S} {VS : List (Option V)} {H : Hp} {r : T} {v : V} {k : Tk} (s : Sim g FS (L ++ [r.s]) (VS ++ [some v]) H) (hn : g.n ≤ L.length) (e : r.sl = some k) :
    Rep g.K H v r.2 (FS L.length) ∧ TOk g FS L k (FS L.length) ∧ k ≠ .bor := by
  obtain ⟨v', ev, rv, tk⟩ := Sim.top (k := r.1) (d := r.2) s hn
  rw [← Option.some.inj ev] at rv
  exact ⟨rv, TOk.sl rv tk e⟩
def gSet (i : Nat) : T → List S → Option (List S) := fun r env => r.sl.map fun k => env.set i (.t k r.2)
theorem rt_name {i : Nat} (hi : i < n) : RT K n W [i] (gName i) (gSet i) := by
  intro g FS env τ σ tv H v Q r env' hK hn hW he hs Sm nb e h
  unfold gSet at e
  cases e1 : r.sl with
  | none => rw [e1] at e; cases e
  | some k =>
    rw [e1] at e; cases e
    obtain ⟨rv, tk, hk⟩ := Sim.topSl Sm (by rw [List.length_append, he, hn]; exact Nat.le_add_right _ _) e1
    have s1 := Sm.pop
    have s2 := s1.put (i := i) (by rw [List.length_append, he]; omega) rv (tk.drop i) hk (by
      rcases nb with nb | nb
      · exact .inl (s1.nobor (by rw [he, hn]) nb)
      · exact .inr (by rw [hW]; exact nb i (by simp)))
    rw [List.set_append_left _ _ (by rw [he]; exact hi), List.set_append_left _ _ (by rw [hs]; exact hi)] at s2
    refine h (σ.set i (some v)) H _ (by simpa using he) (by simpa using hs) (fun j hj => ?_) s2
    exact List.getElem?_set_ne (by intro z; subst z; simp at hj)
def sAsg (fe : List S → Option (T × List S)) (gt : T → List S → Option (List S)) : List S → Option Fl := fun env => (fe env).bind fun r => (gt r.1 r.2).map .nx
theorem rs_asg {te : TE} {gt : TG} {fe : List S → Option (T × List S)} {ft : T → List S → Option (List S)} (ht : RE K n W Y te fe) (hg : RT K n W A gt ft) : RS K n W A false (tAsg te gt) (sAsg fe ft) := by
  intro g FS env τ σ tv H D r hK hn hW he hs Sm nb e p
  unfold sAsg at e
  cases e1 : fe env with
  | none => rw [e1] at e; cases e
  | some r1 =>
    obtain ⟨r1, env1⟩ := r1
    cases e2 : ft r1 env1 with
    | none => simp only [e1, Option.bind_some, e2] at e; cases e
    | some env2 =>
      simp only [e1, Option.bind_some, e2, Option.map_some, Option.some.injEq] at e
      subst e
      exact ht g FS env τ σ tv H _ r1 env1 hK hn hW he hs Sm (fun _ => nb.nb) e1 fun v H' FS' l s => hg g FS' env1 τ σ tv H' v _ r1 env2 hK hn hW l hs s (.inl nb.nb) e2 p
/-- a tuple's parts to names -/
def gSets (k : Tk) : List Nat → List D → List S → Option (List S)
  | [], [], env => some env
  | i :: is, d :: ds, env => (gSet i (k, d) env).bind fun env' => gSets k is ds env'
  | _, _, _ => none
def gTups (is : List Nat) : T → List S → Option (List S) := fun r env => match r.2 with
  | .tup ds => gSets r.1 is ds env
  | _ => none
def gNames : List Nat → TGs
  | [] => gNil
  | i :: is => gCons (gName i) (gNames is)
theorem gNames_ok {is : List Nat} (hi : ∀ i ∈ is, i < n) : ∀ {ds : List D} {vs : List V} {F : List Addr} {k : Tk} {g : G} {FS : Nat → List Addr} {env τ : List S} {σ : L2.St} {tv : List (Option V)} {H : Hp} {Q : L2.St → Hp → Prop} {env' : List S}, g.K = K → g.n = n → g.W = W → env.length = n → σ.length = n →
    Sim g FS (env ++ τ) (σ ++ tv) H → (NoBor τ ∨ ∀ i ∈ is, i ∉ W) → RepL K H vs ds F → TOk g FS (env ++ τ) k F → F.Nodup ∨ k ≠ .own → gSets k is ds env = some env' →
    (∀ (σ' : L2.St) (H' : Hp) (FS' : Nat → List Addr), env'.length = n → σ'.length = n → Keep is σ σ' → Sim g FS' (env' ++ τ) (σ' ++ tv) H' → Q σ' H') → gNames is vs σ H Q := by
  induction is with
  | nil =>
    intro ds vs F k g FS env τ σ tv H Q env' hK hn hW he hs Sm nb rl tk nd e h
    cases ds with
    | nil =>
      cases rl
      cases e
      exact ⟨rfl, h σ H FS he hs Keep.refl Sm⟩
    | cons d ds => simp [gSets] at e
  | cons i is ih =>
    intro ds vs F k g FS env τ σ tv H Q env' hK hn hW he hs Sm nb rl tk nd e h
    cases ds with
    | nil => simp [gSets] at e
    | cons d ds =>
      cases rl with
      | cons rv rl =>
        rename_i v vs F1 F2
        simp only [gSets] at e
        cases e1 : gSet i (k, d) env with
        | none => rw [e1] at e; cases e
        | some env1 =>
          rw [e1] at e
          refine ⟨v, vs, rfl, ?_⟩
          -- the first part on top
          have tk1 : TOk g FS (env ++ τ) k F1 := tk.sub (fun a m => List.mem_append_left _ m) fun q => (List.nodup_append.mp q).1
          subst hK
          have sp : Sim g _ ((env ++ τ) ++ [T.s (k, d)]) ((σ ++ tv) ++ [some v]) H := Sm.push rv tk1 fun _ => by rw [List.length_append, he, hn]; exact Nat.le_add_right _ _
          unfold gSet at e1
          cases e2 : T.sl (k, d) with
          | none => rw [e2] at e1; cases e1
          | some k1 =>
            rw [e2] at e1; cases e1
            obtain ⟨tk2', hk⟩ := TOk.sl (r := (k, d)) rv tk1 e2
            have hil : i < n := hi i (by simp)
            have nb2 : NoBor (env ++ τ) ∨ i ∉ g.W := by
              rcases nb with nb | nb
              · exact .inl (Sm.nobor (by rw [he, hn]) nb)
              · exact .inr (by rw [hW]; exact nb i (by simp))
            have s2 := Sm.put (i := i) (by rw [List.length_append, he]; omega) rv (tk2'.drop i) hk nb2
            rw [List.set_append_left _ _ (by rw [he]; exact hil), List.set_append_left _ _ (by rw [hs]; exact hil)] at s2
            have own1 : S.wr (.t k1 d) = true → ∀ a ∈ F2, a ∉ F1 := fun hw a m m' => by
              have z1 : k1 = .own := by cases k1 <;> first | rfl | exact Bool.noConfusion hw
              subst z1
              by_cases hk1 : k = .own
              · rcases nd with nd | nd
                · exact (List.nodup_append.mp nd).2.2 a m' a m rfl
                · exact nd hk1
              · have : k = .bor := by
                  cases k <;> first | rfl | exact absurd rfl hk1 | exact absurd e2 (by simp [T.sl])
                subst this
                simp only [T.sl] at e2
                by_cases hf : d.flat = true
                · rw [rv.flat hf] at m'; cases m'
                · rw [if_neg hf] at e2; cases e2
            have tk3 : TOk g (setF FS i F1) (env.set i (.t k1 d) ++ τ) k F2 := by
              have t0 : TOk g FS (env ++ τ) k F2 := tk.sub (fun a m => List.mem_append_right _ m) fun q => (List.nodup_append.mp q).2.1
              have es : env.set i (.t k1 d) ++ τ = (env ++ τ).set i (.t k1 d) := by rw [List.set_append_left _ _ (by rw [he]; exact hil)]
              rw [es]
              refine ⟨t0.tree, t0.old, fun z j s ej hs a m => ?_, fun z j s ej hw a m => ?_, fun j s ej hw hj a m => ?_⟩
              · rcases get_set ej with ⟨q, f, _⟩ | ⟨q, f⟩
                · subst q; rw [setF_same]
                  rcases nd with nd | nd
                  · exact fun m' => (List.nodup_append.mp nd).2.2 a m' a m rfl
                  · exact absurd z nd
                · rw [setF_ne q]; exact t0.excl z j s f hs a m
              · rcases get_set ej with ⟨q, f, _⟩ | ⟨q, f⟩
                · subst q; subst f; rw [setF_same]
                  exact own1 hw a m
                · rw [setF_ne q]; exact t0.shar z j s f hw a m
              · rcases get_set ej with ⟨q, f, _⟩ | ⟨q, f⟩
                · subst q; subst f; rw [setF_same]
                  exact own1 hw a m
                · rw [setF_ne q]; exact t0.bor j s f hw hj a m
            refine ih (fun j m => hi j (List.mem_cons_of_mem _ m)) rfl hn hW (by simpa using he) (by simpa using hs) s2 (nb.imp_right fun q j m => q j (List.mem_cons_of_mem _ m)) rl tk3 (nd.imp_left fun q => (List.nodup_append.mp q).2.1) e fun σ' H' FS' l1 l2 kp s => ?_
            refine h σ' H' FS' l1 l2 (fun j hj => ?_) s
            rw [kp j fun m => hj (List.mem_cons_of_mem _ m)]
            exact List.getElem?_set_ne fun z => hj (by subst z; simp)
theorem rt_tup {is : List Nat} {m : Nat} (hi : ∀ i ∈ is, i < n) (hm : is.length = m) : RT K n W is (gTup K m (gNames is)) (gTups is) := by
  intro g FS env τ σ tv H v Q r env' hK hn hW he hs Sm nb e h
  unfold gTups at e
  obtain ⟨k, d⟩ := r
  cases d with
  | tup ds =>
    obtain ⟨v', ev, rv, tk⟩ := Sim.top (k := k) (d := .tup ds) Sm (by rw [List.length_append, he, hn]; exact Nat.le_add_right _ _)
    cases ev
    cases rv with
    | tup hq hy hz rl =>
      rename_i a vs
      have lens : ∀ {is : List Nat} {ds : List D} {env env' : List S}, gSets k is ds env = some env' → is.length = ds.length := by
        intro is
        induction is with
        | nil => intro ds env env' e; cases ds with
          | nil => rfl
          | cons d ds => simp [gSets] at e
        | cons i is ih => intro ds env env' e; cases ds with
          | nil => simp [gSets] at e
          | cons d ds =>
            simp only [gSets] at e
            cases e1 : gSet i (k, d) env with
            | none => rw [e1] at e; cases e
            | some env1 => rw [e1] at e; exact congrArg (· + 1) (ih e)
      subst hK
      refine ⟨a, vs, rfl, hq, by rw [rl.length, ← lens e]; exact hm, ?_⟩
      exact gNames_ok hi rfl hn hW he hs Sm.pop nb rl tk (by
        by_cases hk : k = .own
        · exact .inl (tk.tree (by rw [hk]; rfl)).1
        · exact .inr hk) e h
  | _ => cases e
end
end RG

set_option maxRecDepth 100000
set_option maxHeartbeats 4000000
namespace RG
open PySem PySem.Spec PyProof.Rows L2

section
variable {g : G} {FS : Nat → List Addr} {L : List S} {VS : List (Option V)} {H H' : Hp}
/-- where nothing is borrowed, the written slots don't matter -/
theorem Sim.reW (h : Sim g FS L VS H) (nb : NoBor L) (W : List Nat) (n : Nat) (hw : ∀ i ∈ W, i < n) : Sim { g with W := W, n := n } FS L VS H :=
  ⟨h.len, h.rep, h.nod, h.fr, h.od, h.fio, fun i j s s' hij e1 e2 w1 w2 w3 => h.dis i j s s' hij e1 e2 w1 w2 (fun q => by rw [nb j s' e2] at q; cases q), h.base, h.dom, (fun i s e q => by rw [nb i s e] at q; cases q), h.pv, hw⟩
/-- the first entries alone -/
theorem Sim.pre {M : List S} {WS : List (Option V)} (h : Sim g FS (L ++ M) (VS ++ WS) H) (hl : L.length = VS.length) : Sim g FS L VS H := by
  have up : ∀ {i : Nat} {s' : S}, L[i]? = some s' → (L ++ M)[i]? = some s' := fun e => by rw [List.getElem?_append_left (lt_of_get e)]; exact e
  refine ⟨hl, fun i s' d e1 e2 => ?_, fun i s' e1 => h.nod i s' (up e1), fun i k d e => h.fr i k d (up e), fun i d e => h.od i d (up e), fun i d e => h.fio i d (up e), fun i j s' s'' hij e1 e2 => h.dis i j s' s'' hij (up e1) (up e2), h.base, h.dom, fun i s' e1 => h.sb i s' (up e1), fun i d e1 => ?_, h.wlt⟩
  · obtain ⟨v, e, r⟩ := h.rep i s' d (up e1) e2
    refine ⟨v, ?_, r⟩
    rw [List.getElem?_append_left (by rw [← hl]; exact lt_of_get e1)] at e
    exact e
  · obtain ⟨v, e2, e3⟩ := h.pv i d (up e1)
    rw [List.getElem?_append_left (by rw [← hl]; exact lt_of_get e1)] at e3
    exact ⟨v, e2, e3⟩
/-- empty slots behind -/
theorem get_pad {α : Type} {l : List α} {a s : α} {i m : Nat} (e : (l ++ List.replicate m a)[i]? = some s) : l[i]? = some s ∨ (l.length ≤ i ∧ s = a) := by
  by_cases h : i < l.length
  · rw [List.getElem?_append_left h] at e; exact .inl e
  · rw [List.getElem?_append_right (Nat.le_of_not_lt h), List.getElem?_replicate] at e
    split at e
    · exact .inr ⟨Nat.le_of_not_lt h, (Option.some.inj e).symm⟩
    · cases e
theorem Sim.pad (h : Sim g FS L VS H) (m : Nat) (x : Option V) : Sim g FS (L ++ List.replicate m .gone) (VS ++ List.replicate m x) H := by
  have up : ∀ {i : Nat} {s : S}, (L ++ List.replicate m .gone)[i]? = some s → s.d?.isSome = true ∨ s.tree = true ∨ s.isBor = true → L[i]? = some s := fun e z => by
    rcases get_pad e with e | ⟨_, e⟩
    · exact e
    · subst e; rcases z with z | z | z <;> cases z
  have vs : ∀ {i : Nat} {s : S} {y : Option V}, L[i]? = some s → VS[i]? = some y → (VS ++ List.replicate m x)[i]? = some y := fun e q => by
    rw [List.getElem?_append_left (by rw [← h.len]; exact lt_of_get e)]; exact q
  refine ⟨by simp [h.len], fun i s d e1 e2 => ?_, fun i s e1 e2 => h.nod i s (up e1 (.inr (.inl e2))) e2, fun i k d e => h.fr i k d (up e (.inl rfl)), fun i d e => h.od i d (up e (.inl rfl)), fun i d e => h.fio i d (up e (.inl rfl)),
    fun i j s s' hij e1 e2 w1 w2 => h.dis i j s s' hij (up e1 (.inl (S.some_of_wr w1))) (up e2 (.inl w2)) w1 w2, h.base, h.dom, fun i s e1 e2 => h.sb i s (up e1 (.inr (.inr e2))) e2, fun i d e => ?_, h.wlt⟩
  · have e1' := up e1 (.inl (by rw [e2]; rfl))
    obtain ⟨v, ev, rv⟩ := h.rep i s d e1' e2
    exact ⟨v, vs e1' ev, rv⟩
  · have e' := up e (.inl rfl)
    obtain ⟨v, e1, e2⟩ := h.pv i d e'
    exact ⟨v, e1, vs e' e2⟩
end

/-! ### a def's promise -/
def g0 (K : PySem.W.Frag) (H : Hp) (vs : List V) (L0 : List S) (FS : Nat → List Addr) : G := ⟨K, H, fun i a => (∃ d, L0[i]? = some (S.io d)) ∧ a ∈ FS i, [], 0, vs⟩
def ArgS (L0 : List S) : Prop := ∀ (i : Nat) (s : S), L0[i]? = some s → (∃ d, s = .io d) ∨ (∃ d, s = .t .old d)
abbrev Fn := List S → Option (D × List S)
def spOf (K : PySem.W.Frag) (m : Nat) (f : Fn) : Sp := fun vs H Q _ => ∃ (L0 : List S) (FS : Nat → List Addr) (d : D) (L1 : List S), L0.length = m ∧ ArgS L0 ∧ Sim (g0 K H vs L0 FS) FS L0 (vs.map some) H ∧ f L0 = some (d, L1) ∧
  ∀ v H' FS', Sim (g0 K H vs L0 FS) FS' (L1 ++ [.t .own d]) (vs.map some ++ [some v]) H' → Q v H'
def S.only : S → S
  | .io d => .io d
  | _ => .gone
def outs (m : Nat) (env : List S) : List S := (env.take m).map S.only
/-- what a body of that meaning hands back -/
def fnOf (n : Nat) (fb : List S → Option Fl) : Fn := fun L0 => match fb (L0 ++ List.replicate (n - L0.length) .gone) with
  | some (.rt r env') => match r.sl with
    | some .own => some (r.2, outs L0.length env')
    | some .frz => some (r.2, outs L0.length env')
    | _ => if r.2.flat then some (r.2, outs L0.length env') else none
  | some (.nx env') => some (.non, outs L0.length env')
  | _ => none
section
variable {g : G} {FS : Nat → List Addr} {L : List S} {VS WS : List (Option V)} {H H' : Hp}
theorem outs_get {m : Nat} {env : List S} {i : Nat} {s : S} (e : (outs m env)[i]? = some s) (hs : s ≠ .gone) : ∃ d, s = .io d ∧ env[i]? = some (.io d) ∧ i < m := by
  unfold outs at e
  rw [List.getElem?_map, List.getElem?_take] at e
  split at e
  · rename_i hi
    cases q : env[i]? with
    | none => rw [q] at e; cases e
    | some s' =>
      rw [q] at e
      cases s' with
      | gone => cases e; exact absurd rfl hs
      | io d => cases e; exact ⟨d, rfl, rfl, hi⟩
      | t k d => cases e; exact absurd rfl hs
  · cases e
theorem Sim.done {n m : Nat} {k : Tk} {W : List Nat} {vs : List V} {env' : List S} {σ' : L2.St} {d : D} {v : V} {FS' : Nat → List Addr} {F : List Addr} {H0 : Hp} {L0 : List S} {K : PySem.W.Frag} (h : Sim { (g0 K H0 vs L0 FS) with W := W, n := n } FS' env' σ' H') (hm : L0.length = m) (he : m ≤ env'.length) (hvs : vs.length = m)
    (r : Rep K H' v d F) (hk : k.nf = true) (tk : TOk { (g0 K H0 vs L0 FS) with W := W, n := n } FS' env' k F) : Sim (g0 K H0 vs L0 FS) (setF FS' m F) (outs m env' ++ [.t .own d]) (vs.map some ++ [some v]) H' := by
  have ol : (outs m env').length = m := by unfold outs; rw [List.length_map, List.length_take]; omega
  have h1 : Sim (g0 K H0 vs L0 FS) FS' (outs m env') (vs.map some) H' := by
    refine ⟨by rw [ol, List.length_map, hvs], fun i s d e1 e2 => ?_, fun i s e1 e2 => ?_, fun i k d e hk' => ?_, fun i d e => ?_, fun i d e => ?_, fun i j s s' hij e1 e2 w1 w2 w3 => ?_, h.base, h.dom, fun i s e1 e2 => ?_, fun i d e => ?_, fun i z => (nomatch z)⟩
    · obtain ⟨d', rfl, e', _⟩ := outs_get e1 (fun z => by subst z; cases e2)
      cases e2
      obtain ⟨u, eu, ru⟩ := h.rep i _ d e' rfl
      obtain ⟨w, e3, e4⟩ := h.pv i d e'
      rw [eu] at e4
      cases e4
      exact ⟨u, by rw [List.getElem?_map]; exact (congrArg (Option.map some) e3), ru⟩
    · obtain ⟨d', rfl, e', _⟩ := outs_get e1 (fun z => by subst z; cases e2)
      exact h.nod i _ e' rfl
    · obtain ⟨d', z, _⟩ := outs_get e (fun z => by cases z)
      cases z
    · obtain ⟨d', z, _⟩ := outs_get e (fun z => by cases z)
      cases z
    · obtain ⟨d', z, e', _⟩ := outs_get e (fun z => by cases z)
      cases z
      exact h.fio i d e'
    · obtain ⟨d1, rfl, e1', _⟩ := outs_get e1 (fun z => by subst z; cases w1)
      obtain ⟨d2, rfl, e2', _⟩ := outs_get e2 (fun z => by subst z; cases w2)
      exact h.dis i j _ _ hij e1' e2' rfl rfl fun z => by cases z
    · obtain ⟨d1, rfl, _⟩ := outs_get e1 (fun z => by subst z; cases e2)
      cases e2
    · obtain ⟨d', z, e', _⟩ := outs_get e (fun z => by cases z)
      cases z
      obtain ⟨w, e3, e4⟩ := h.pv i d e'
      exact ⟨w, e3, by rw [List.getElem?_map]; exact (congrArg (Option.map some) e3)⟩
  have sh : ∀ j s, (outs m env')[j]? = some s → s.d?.isSome = true → ∀ a ∈ F, a ∉ FS' j := fun j s ej hs a ma => by
    obtain ⟨d1, rfl, e1', _⟩ := outs_get ej (fun z => by subst z; cases hs)
    exact tk.shar (fun z => by subst z; cases hk) j _ e1' rfl a ma
  have := h1.push (k := .own) (d := d) (v := v) (F := F) r ⟨fun _ => tk.tree hk, fun z => (nomatch z), fun _ j s ej hs => sh j s ej hs, fun _ j s ej hw => sh j s ej (S.some_of_wr hw), fun j s ej hw _ => sh j s ej (S.some_of_wr hw)⟩ fun z => (nomatch z)
  rwa [ol] at this
end

section
variable {P : Program} {w : World} {K : PySem.W.Frag} {mg : Str → Option Value} {base : Heap}
/-- THE RULE for a def -/
theorem fn_ok {x qual : Str} {st : Stmt} {f : Addr} {fd : FuncData} {N ps : List Str} {k m n : Nat} {W A : List Nat} {Z : Bool} {fb : List S → Option Fl} (F : Fun K x qual st f fd) (S' : FnScope N ps (defScope st)) (hm : ps.length = m) (hn : N.length = n) (hmn : m ≤ n) (hW : ∀ i ∈ W, i < n)
    (hbody : ∀ (cdv : Value) (A' : Around) (outer : List Env) (s : Shared) (H : Hp) (E : XK), Room k (A'.deeper (envOfC qual (defScope st) s.heap.objs.size f cdv)) →
      ∃ t, PSs (cxOf CX0 P w K mg base N qual (defScope st) f cdv A' outer s H E).nox (defBody st) t ∧ RS K n W A Z t fb) : FnOk P w K mg base CX0 (k + 1) f fd ps (spOf K m (fnOf n fb)) := by
  refine F.ok S' (fun vs H Q E h => ?_) (fun cdv A' outer s H vs Q E hr h => ?_)
  · obtain ⟨L0, FS, d, L1, h1, _, h3, _⟩ := h
    have := h3.len
    rw [List.length_map] at this
    omega
  · obtain ⟨t, ht, hs⟩ := hbody cdv A' outer s H E hr
    refine ⟨t, ht, ?_⟩
    obtain ⟨L0, FS, d, L1, h1, h2, h3, h4, h5⟩ := h
    have hl := h3.len
    rw [List.length_map] at hl
    have hvs : vs.length = m := by omega
    have nb : NoBor L0 := fun i s e => by
      rcases h2 i s e with ⟨d, rfl⟩ | ⟨d, rfl⟩ <;> rfl
    have h3' := (h3.reW nb W n hW).pad (n - m) none
    have est : L2.start N vs = vs.map some ++ List.replicate (n - m) none := by unfold L2.start; rw [hn, hvs]
    rw [est]
    have q1 : Sim { (g0 K H vs L0 FS) with W := W, n := n } FS ((L0 ++ List.replicate (n - m) .gone) ++ []) ((vs.map some ++ List.replicate (n - m) none) ++ []) H := by simpa using h3'
    have lenE : (L0 ++ List.replicate (n - m) S.gone).length = n := by rw [List.length_append, List.length_replicate]; omega
    have lenV : (vs.map some ++ List.replicate (n - m) (none : Option V)).length = n := by rw [List.length_append, List.length_replicate, List.length_map]; omega
    unfold fnOf at h4
    rw [h1] at h4
    cases e1 : fb (L0 ++ List.replicate (n - m) .gone) with
    | none => rw [e1] at h4; cases h4
    | some r =>
      rw [e1] at h4
      refine hs _ FS (L0 ++ List.replicate (n - m) .gone) [] (vs.map some ++ List.replicate (n - m) none) [] H _ r rfl rfl rfl lenE lenV q1 ⟨fun j s e => by simp at e, fun _ j k d e => by simp at e⟩ e1 ?_
      cases r with
      | bk L => cases h4
      | ct L => cases h4
      | nx env' =>
        cases h4
        intro σ' H' FS' l1 l2 kp s'
        rw [List.append_nil, List.append_nil] at s'
        refine h5 .non H' _ (Sim.done (k := .own) (F := []) s' h1 (by omega) hvs .non rfl (TOk.nil _))
      | rt r env' =>
        intro v σ' H' FS' l1 l2 kp s'
        rw [List.append_nil, List.append_nil] at s'
        obtain ⟨k0, d0⟩ := r
        obtain ⟨v', ev, rv, tk⟩ := Sim.top (k := k0) (d := d0) s' (by show n ≤ _; omega)
        rw [← Option.some.inj ev] at rv
        have viaFlat : D.flat d0 = true → (d0, outs m env') = (d, L1) → Q v H' := fun hf e => by
          cases e
          have := rv.flat hf
          exact h5 v H' _ (Sim.done (k := .own) (F := []) s'.pop h1 (by omega) hvs (by rw [this] at rv; exact rv) rfl (TOk.nil _))
        dsimp only at h4
        split at h4
        · rename_i e2
          cases k0 with
          | own => cases h4; exact h5 v H' _ (Sim.done s'.pop h1 (by omega) hvs rv rfl tk)
          | bor =>
            simp only [T.sl] at e2
            by_cases hf : D.flat d0 = true
            · exact viaFlat hf (Option.some.inj h4)
            · rw [if_neg hf] at e2; cases e2
          | _ => cases e2
        · rename_i e2
          cases k0 with
          | frz => cases h4; exact h5 v H' _ (Sim.done s'.pop h1 (by omega) hvs rv rfl tk)
          | bor =>
            simp only [T.sl] at e2
            by_cases hf : D.flat d0 = true
            · rw [if_pos hf] at e2; cases e2
            · rw [if_neg hf] at e2; cases e2
          | _ => cases e2
        · split at h4
          · rename_i hf
            exact viaFlat hf (Option.some.inj h4)
          · cases h4
end

/-! ### calls -/
def ptrs : List Ar → List Nat
  | [] => []
  | .ptr i :: as => i :: ptrs as
  | .tmp _ :: as => ptrs as
def argS (env : List S) : List Ar → Option (List S)
  | [] => some []
  | .tmp t :: as => (argS env as).map fun r => .t .old t.2 :: r
  | .ptr i :: as => match env[i]? with
    | some (.io d) => (argS env as).map fun r => .io d :: r
    | some (.t .own d) => (argS env as).map fun r => .io d :: r
    | _ => none
def S.back (s o : S) : S := match o with
  | .io d => s.with d
  | _ => .gone
def wb : List Ar → List S → List S → List S
  | .ptr i :: as, o :: os, env => wb as os (match env[i]? with
    | some s => env.set i (s.back o)
    | none => env)
  | .tmp _ :: as, _ :: os, env => wb as os env
  | _, _, env => env
theorem mem_ptrs : ∀ {as : List Ar} {i : Nat}, i ∈ ptrs as ↔ ∃ j : Nat, as[j]? = some (Ar.ptr i)
  | [], i => by simp [ptrs]
  | .ptr k :: as, i => by
    simp only [ptrs, List.mem_cons, mem_ptrs (as := as)]
    constructor
    · rintro (rfl | ⟨j, e⟩)
      · exact ⟨0, rfl⟩
      · exact ⟨j + 1, by simpa using e⟩
    · rintro ⟨j, e⟩
      cases j with
      | zero => simp at e; exact .inl e.symm
      | succ j => exact .inr ⟨j, by simpa using e⟩
  | .tmp t :: as, i => by
    simp only [ptrs, mem_ptrs (as := as)]
    constructor
    · rintro ⟨j, e⟩; exact ⟨j + 1, by simpa using e⟩
    · rintro ⟨j, e⟩
      cases j with
      | zero => simp at e
      | succ j => exact ⟨j, by simpa using e⟩
theorem ptr_inj : ∀ {as : List Ar} {i j j' : Nat}, (ptrs as).Nodup → as[j]? = some (.ptr i) → as[j']? = some (.ptr i) → j = j'
  | [], _, _, _, _, e, _ => by simp at e
  | a :: as, i, 0, 0, _, _, _ => rfl
  | .ptr k :: as, i, 0, j' + 1, nd, e, e' => by
    simp at e; subst e
    have : k ∈ ptrs as := mem_ptrs.mpr ⟨j', by simpa using e'⟩
    exact absurd this (List.nodup_cons.mp nd).1
  | .tmp t :: as, i, 0, j' + 1, nd, e, e' => by simp at e
  | .ptr k :: as, i, j + 1, 0, nd, e, e' => by
    simp at e'; subst e'
    have : k ∈ ptrs as := mem_ptrs.mpr ⟨j, by simpa using e⟩
    exact absurd this (List.nodup_cons.mp nd).1
  | .tmp t :: as, i, j + 1, 0, nd, e, e' => by simp at e'
  | .ptr k :: as, i, j + 1, j' + 1, nd, e, e' => congrArg (· + 1) (ptr_inj (List.nodup_cons.mp nd).2 (by simpa using e) (by simpa using e'))
  | .tmp k :: as, i, j + 1, j' + 1, nd, e, e' => congrArg (· + 1) (ptr_inj (as := as) (i := i) (show (ptrs as).Nodup from nd) (by simpa using e) (by simpa using e'))
theorem wb_length : ∀ {as : List Ar} {os env : List S}, (wb as os env).length = env.length
  | [], _, _ => by simp [wb]
  | .ptr i :: as, [], _ => by simp [wb]
  | .tmp i :: as, [], _ => by simp [wb]
  | .ptr i :: as, o :: os, env => by
    simp only [wb]
    rw [wb_length]
    split <;> simp
  | .tmp i :: as, o :: os, env => by simp only [wb]; exact wb_length
theorem wb_out : ∀ {as : List Ar} {os env : List S} {i : Nat}, i ∉ ptrs as → (wb as os env)[i]? = env[i]?
  | [], _, _, _, _ => by simp [wb]
  | .ptr i :: as, [], _, _, _ => by simp [wb]
  | .tmp i :: as, [], _, _, _ => by simp [wb]
  | .ptr k :: as, o :: os, env, i, n => by
    simp only [wb]
    simp only [ptrs, List.mem_cons, not_or] at n
    rw [wb_out n.2]
    split
    · exact List.getElem?_set_ne (Ne.symm n.1)
    · rfl
  | .tmp t :: as, o :: os, env, i, n => by simp only [wb]; exact wb_out n
theorem wb_in : ∀ {as : List Ar} {os env : List S} {i j : Nat} {o : S}, (ptrs as).Nodup → as[j]? = some (.ptr i) → os[j]? = some o → (wb as os env)[i]? = (env[i]?).map fun s => s.back o
  | [], _, _, _, _, _, _, e, _ => by simp at e
  | a :: as, [], _, _, _, _, _, _, e => by simp at e
  | .ptr k :: as, o' :: os, env, i, 0, o, nd, e, eo => by
    simp at e eo; subst e; subst eo
    simp only [wb]
    rw [wb_out (List.nodup_cons.mp nd).1]
    cases q : env[k]? with
    | none => simp [q]
    | some s => simp [q, List.getElem?_set_self (lt_of_get q)]
  | .tmp k :: as, o' :: os, env, i, 0, o, nd, e, eo => by simp at e
  | .ptr k :: as, o' :: os, env, i, j + 1, o, nd, e, eo => by
    simp only [wb]
    have hk : k ≠ i := fun z => by
      subst z
      exact (List.nodup_cons.mp nd).1 (mem_ptrs.mpr ⟨j, by simpa using e⟩)
    rw [wb_in (List.nodup_cons.mp nd).2 (by simpa using e) (by simpa using eo)]
    split
    · rw [List.getElem?_set_ne hk]
    · rfl
  | .tmp k :: as, o' :: os, env, i, j + 1, o, nd, e, eo => by
    simp only [wb]
    exact wb_in nd (by simpa using e) (by simpa using eo)
theorem argS_length : ∀ {as : List Ar} {env L0 : List S}, argS env as = some L0 → L0.length = as.length
  | [], _, _, e => by simp [argS] at e; subst e; rfl
  | .tmp t :: as, env, L0, e => by
    simp only [argS] at e
    cases q : argS env as with
    | none => rw [q] at e; cases e
    | some r => rw [q] at e; cases e; exact congrArg (· + 1) (argS_length q)
  | .ptr i :: as, env, L0, e => by
    simp only [argS] at e
    cases q : argS env as with
    | none => simp only [q, Option.map_none] at e; split at e <;> cases e
    | some r =>
      simp only [q, Option.map_some] at e
      split at e
      · cases e; exact congrArg (· + 1) (argS_length q)
      · cases e; exact congrArg (· + 1) (argS_length q)
      · cases e
theorem argS_get : ∀ {as : List Ar} {env L0 : List S} {j : Nat} {s : S}, argS env as = some L0 → L0[j]? = some s →
    (∃ k d, as[j]? = some (.tmp (k, d)) ∧ s = .t .old d) ∨ (∃ i s' d, as[j]? = some (.ptr i) ∧ env[i]? = some s' ∧ s'.wr = true ∧ s'.d? = some d ∧ s = .io d)
  | [], _, _, j, s, e, es => by simp [argS] at e; subst e; simp at es
  | .tmp t :: as, env, L0, j, s, e, es => by
    simp only [argS] at e
    cases q : argS env as with
    | none => rw [q] at e; cases e
    | some r =>
      rw [q] at e; cases e
      cases j with
      | zero => simp at es; exact .inl ⟨t.1, t.2, rfl, es.symm⟩
      | succ j => simpa using argS_get q (j := j) (s := s) (by simpa using es)
  | .ptr i :: as, env, L0, j, s, e, es => by
    simp only [argS] at e
    cases q : argS env as with
    | none => simp only [q, Option.map_none] at e; split at e <;> cases e
    | some r =>
      simp only [q, Option.map_some] at e
      split at e
      · rename_i d ed
        cases e
        cases j with
        | zero => simp at es; exact .inr ⟨i, _, d, rfl, ed, rfl, rfl, es.symm⟩
        | succ j => simpa using argS_get q (j := j) (s := s) (by simpa using es)
      · rename_i d ed
        cases e
        cases j with
        | zero => simp at es; exact .inr ⟨i, _, d, rfl, ed, rfl, rfl, es.symm⟩
        | succ j => simpa using argS_get q (j := j) (s := s) (by simpa using es)
      · cases e
def eCall (m : Nat) (W : List Nat) (f : Fn) (fa : List S → Option (List Ar × List S)) : List S → Option (T × List S) := fun env => match fa env with
  | none => none
  | some (as, env1) => if as.length = m ∧ (ptrs as).Nodup ∧ (∀ i ∈ ptrs as, i ∈ W) then
      (match argS env1 as with
      | none => none
      | some L0 => match f L0 with
        | none => none
        | some (d, L1) => some ((.own, d), wb as L1 env1))
    else none

theorem S.back_io {s o : S} {d : D} (h : s.back o = .io d) : ∃ d0 d1, s = .io d0 ∧ o = .io d1 ∧ d = d1 := by
  cases o with
  | gone => cases h
  | t k d => cases h
  | io d1 =>
    cases s with
    | gone => cases h
    | t k d => cases h
    | io d0 => cases h; exact ⟨d0, d, rfl, rfl, rfl⟩
section
variable {K : PySem.W.Frag} {n m : Nat} {W : List Nat} {Y : Bool}
open Classical in
/-- a call, its arguments on top -/
theorem call_core {f : Fn} {g : G} {FS1 : Nat → List Addr} {env1 τ : List S} {σ : L2.St} {tv : List (Option V)} {vs : List V} {as : List Ar} {H1 : Hp} {Q : VK} {L0 L1 : List S} {d : D} (hK : g.K = K) (hn : g.n = n) (hW : g.W = W) (hs : σ.length = n) (l1 : env1.length = n) (lv : vs.length = as.length) (pt : Ptrs σ as vs)
    (S1 : Sim g FS1 ((env1 ++ τ) ++ as.map Ar.s) ((σ ++ tv) ++ vs.map some) H1) (hlen : as.length = m) (hnd : (ptrs as).Nodup) (hin : ∀ i ∈ ptrs as, i ∈ W) (e2 : argS env1 as = some L0) (e3 : f L0 = some (d, L1))
    (h : ∀ (v : V) (H' : Hp) (FS' : Nat → List Addr), (wb as L1 env1).length = n → Sim g FS' ((wb as L1 env1 ++ τ) ++ [S.t .own d]) ((σ ++ tv) ++ [some v]) H' → Q v H') : spOf K m f (vs ++ []) H1 Q E0 := by
  rw [List.append_nil]
  subst hK
  have hl1 : (env1 ++ τ).length = (σ ++ tv).length := by
    have := S1.len
    simp only [List.length_append, List.length_map] at this ⊢
    omega
  -- indices
  have upE : ∀ {i : Nat} {s : S}, env1[i]? = some s → ((env1 ++ τ) ++ as.map Ar.s)[i]? = some s := fun ei => by
    rw [List.append_assoc, List.getElem?_append_left (lt_of_get ei)]; exact ei
  have upA : ∀ {j : Nat} {a : Ar}, as[j]? = some a → ((env1 ++ τ) ++ as.map Ar.s)[(env1 ++ τ).length + j]? = some a.s := fun ej => by
    rw [List.getElem?_append_right (Nat.le_add_right _ _), Nat.add_sub_cancel_left, List.getElem?_map, ej]; rfl
  have vsA : ∀ {j : Nat} {v : V}, ((σ ++ tv) ++ vs.map some)[(env1 ++ τ).length + j]? = some (some v) → vs[j]? = some v := fun {j v} ej => by
    rw [hl1, List.getElem?_append_right (Nat.le_add_right _ _), Nat.add_sub_cancel_left, List.getElem?_map] at ej
    cases q : vs[j]? with
    | none => rw [q] at ej; cases ej
    | some u => rw [q] at ej; cases ej; rfl
  have vsE : ∀ {i : Nat} {v : V}, i < n → ((σ ++ tv) ++ vs.map some)[i]? = some (some v) → σ[i]? = some (some v) := fun {i v} hi ei => by
    rw [List.append_assoc, List.getElem?_append_left (by rw [hs]; exact hi)] at ei; exact ei
  have wlt : ∀ i ∈ ptrs as, i < n := fun i m => by rw [← hn]; exact S1.wlt i (by rw [hW]; exact hin i m)
  let FS0 : Nat → List Addr := fun j => match as[j]? with
    | some (.ptr i) => FS1 i
    | _ => FS1 ((env1 ++ τ).length + j)
  have f0p : ∀ {j i : Nat}, as[j]? = some (.ptr i) → FS0 j = FS1 i := fun {j i} ej => by show (match as[j]? with | some (.ptr i) => FS1 i | _ => _) = _; rw [ej]
  have f0t : ∀ {j : Nat} {t : T}, as[j]? = some (.tmp t) → FS0 j = FS1 ((env1 ++ τ).length + j) := fun {j t} ej => by show (match as[j]? with | some (.ptr i) => FS1 i | _ => _) = _; rw [ej]
  have l0 := argS_length e2
  have S0 : Sim (g0 g.K H1 vs L0 FS0) FS0 L0 (vs.map some) H1 := by
    refine ⟨by rw [l0, List.length_map, lv], fun j s d' ej ed => ?_, fun j s ej ew => ?_, fun j k' d' ej hk' => ?_, fun j d' ej => ?_, fun j d' ej a ma => .inl ⟨⟨d', ej⟩, ma⟩, fun i j s s' hij ei ej w1 w2 w3 => ?_, fun a o ea _ => ea, fun a q => q, fun j s ej eb => ?_, fun j d' ej => ?_, fun i z => (nomatch z)⟩
    · rcases argS_get e2 ej with ⟨k, d1, ea, rfl⟩ | ⟨i, s1, d1, ea, es, ew, ed1, rfl⟩
      · cases ed
        obtain ⟨v, ev, rv⟩ := S1.rep _ _ d' (upA ea) rfl
        exact ⟨v, by rw [List.getElem?_map, vsA ev]; rfl, by rw [f0t ea]; exact rv⟩
      · cases ed
        obtain ⟨v, ev, rv⟩ := S1.rep _ _ d' (upE es) ed1
        obtain ⟨v', e5, e6⟩ := pt j i ea
        rw [vsE (wlt i (mem_ptrs.mpr ⟨j, ea⟩)) ev] at e5
        cases e5
        exact ⟨v, by rw [List.getElem?_map, e6]; rfl, by rw [f0p ea]; exact rv⟩
    · rcases argS_get e2 ej with ⟨k, d1, ea, rfl⟩ | ⟨i, s1, d1, ea, es, ew1, ed1, rfl⟩
      · cases ew
      · rw [f0p ea]; exact S1.nod i s1 (upE es) (S.tree_of_wr ew1)
    · rcases argS_get e2 ej with ⟨k, d1, ea, z⟩ | ⟨i, s1, d1, ea, es, ew1, ed1, z⟩ <;> cases z
      cases hk'
    · rcases argS_get e2 ej with ⟨k, d1, ea, z⟩ | ⟨i, s1, d1, ea, es, ew1, ed1, z⟩ <;> cases z
      intro a ma
      rw [f0t ea] at ma
      obtain ⟨o, eo, _⟩ := S1.cells (upA ea) rfl a ma
      show H1 a ≠ none
      rw [eo]; exact fun z => (nomatch z)
    · rcases argS_get e2 ei with ⟨k, d1, ea, rfl⟩ | ⟨i1, s1, d1, ea, es, ew1, ed1, rfl⟩
      · cases w1
      · rw [f0p ea]
        rcases argS_get e2 ej with ⟨k, d2, eb, rfl⟩ | ⟨i2, s2, d2, eb, es2, ew2, ed2, rfl⟩
        · rw [f0t eb]
          refine S1.dis i1 _ s1 _ ?_ (upE es) (upA eb) ew1 rfl fun _ => .inl (by rw [hW]; exact hin i1 (mem_ptrs.mpr ⟨i, ea⟩))
          have := wlt i1 (mem_ptrs.mpr ⟨i, ea⟩)
          rw [List.length_append, l1]; omega
        · rw [f0p eb]
          refine S1.dis i1 i2 s1 s2 (fun z => ?_) (upE es) (upE es2) ew1 (by rw [ed2]; rfl) fun _ => .inl (by rw [hW]; exact hin i1 (mem_ptrs.mpr ⟨i, ea⟩))
          subst z
          exact hij (ptr_inj hnd ea eb)
    · rcases argS_get e2 ej with ⟨k, d1, ea, rfl⟩ | ⟨i, s1, d1, ea, es, ew1, ed1, rfl⟩ <;> cases eb
    · rcases argS_get e2 ej with ⟨k, d1, ea, z⟩ | ⟨i, s1, d1, ea, es, ew1, ed1, z⟩
      · cases z
      · obtain ⟨v', e5, e6⟩ := pt j i ea
        exact ⟨v', e6, by rw [List.getElem?_map, e6]; rfl⟩
  refine ⟨L0, FS0, d, L1, by rw [l0]; exact hlen, fun i s es => ?_, S0, e3, fun v H2 FSo So => ?_⟩
  · rcases argS_get e2 es with ⟨k, d1, _, z⟩ | ⟨_, _, d1, _, _, _, _, z⟩
    · exact .inr ⟨d1, z⟩
    · exact .inl ⟨d1, z⟩
  have lo : L1.length = as.length := by
    have := So.len
    simp only [List.length_append, List.length_map, List.length_cons, List.length_nil] at this
    omega
  -- the cells that the callee may have written
  let SA : Addr → Prop := fun a => ∃ (i j : Nat), as[j]? = some (Ar.ptr i) ∧ a ∈ FS1 i
  have xt : Ext SA H1 H2 := fun a o ea nn => So.base a o ea (nn.elim (fun z => .inl fun j q => by
    obtain ⟨⟨d1, ed⟩, ma⟩ := q
    rcases argS_get e2 ed with ⟨k, d2, _, z'⟩ | ⟨i, s1, d2, ea', _, _, _, _⟩
    · cases z'
    · exact z ⟨i, j, ea', by rw [f0p ea'] at ma; exact ma⟩) .inr)
  have dm : ∀ a, H1 a ≠ none → H2 a ≠ none := So.dom
  have Sp : Sim g FS1 (env1 ++ τ) (σ ++ tv) H1 := S1.pre hl1
  have upO : ∀ {j : Nat} {s : S}, L1[j]? = some s → (L1 ++ [S.t .own d])[j]? = some s := fun ej => by rw [List.getElem?_append_left (lt_of_get ej)]; exact ej
  have top : (L1 ++ [S.t .own d])[L1.length]? = some (.t .own d) := by simp
  -- how the slots stand behind
  have wbl : (wb as L1 env1).length = env1.length := wb_length
  let FS2 : Nat → List Addr := fun i => if hh : ∃ j : Nat, as[j]? = some (Ar.ptr i) then FSo hh.choose else FS1 i
  have f2p : ∀ {i j : Nat}, as[j]? = some (.ptr i) → FS2 i = FSo j := fun {i j} ej => by
    have hh : ∃ j : Nat, as[j]? = some (Ar.ptr i) := ⟨j, ej⟩
    show (if hh : ∃ j : Nat, as[j]? = some (Ar.ptr i) then FSo hh.choose else FS1 i) = _
    rw [dif_pos hh, ptr_inj hnd hh.choose_spec ej]
  have f2o : ∀ {i : Nat}, (¬ ∃ j : Nat, as[j]? = some (Ar.ptr i)) → FS2 i = FS1 i := fun {i} hh => dif_neg hh
  -- an entry behind, by where it comes from
  have cas : ∀ {i : Nat} {s : S}, (wb as L1 env1 ++ τ)[i]? = some s → s.d?.isSome = true →
      (∃ (j : Nat) (s0 : S) (d1 : D), as[j]? = some (Ar.ptr i) ∧ env1[i]? = some s0 ∧ L1[j]? = some (.io d1) ∧ s = s0.with d1 ∧ s0.wr = true ∧ i ∈ ptrs as) ∨ ((¬ ∃ j : Nat, as[j]? = some (Ar.ptr i)) ∧ (env1 ++ τ)[i]? = some s) := fun {i s} es hd => by
    by_cases hh : ∃ j : Nat, as[j]? = some (Ar.ptr i)
    · obtain ⟨j, ej⟩ := hh
      have hi : i < n := wlt i (mem_ptrs.mpr ⟨j, ej⟩)
      rw [List.getElem?_append_left (by rw [wbl, l1]; exact hi)] at es
      obtain ⟨o, eo⟩ : ∃ o, L1[j]? = some o := ⟨_, List.getElem?_eq_getElem (by rw [lo]; exact lt_of_get ej)⟩
      rw [wb_in hnd ej eo] at es
      obtain ⟨s0, es0⟩ : ∃ s0, env1[i]? = some s0 := ⟨_, List.getElem?_eq_getElem (by rw [l1]; exact hi)⟩
      rw [es0] at es
      have es' : s0.back o = s := Option.some.inj es
      obtain ⟨s1, es1⟩ : ∃ s1, L0[j]? = some s1 := ⟨_, List.getElem?_eq_getElem (by rw [l0]; exact lt_of_get ej)⟩
      rcases argS_get e2 es1 with ⟨k, d2, ea', _⟩ | ⟨i', s', d2, ea', es2, ew2, _, _⟩
      · rw [ej] at ea'; cases ea'
      · rw [ej] at ea'; cases ea'
        rw [es0] at es2; cases es2
        cases o with
        | gone => subst es'; cases hd
        | t k d2 => subst es'; cases hd
        | io d1 => exact .inl ⟨j, s0, d1, ej, es0, eo, es'.symm, ew2, mem_ptrs.mpr ⟨j, ej⟩⟩
    · refine .inr ⟨hh, ?_⟩
      by_cases hi : i < n
      · rw [List.getElem?_append_left (by rw [wbl, l1]; exact hi), wb_out (fun z => hh (mem_ptrs.mp z))] at es
        rw [List.getElem?_append_left (by rw [l1]; exact hi)]; exact es
      · rw [List.getElem?_append_right (by rw [wbl, l1]; omega), wbl] at es
        rw [List.getElem?_append_right (by rw [l1]; omega)]; exact es
  -- cells of a slot that was not handed in to be written
  have noSA : ∀ {i : Nat} {s : S}, (¬ ∃ j : Nat, as[j]? = some (Ar.ptr i)) → (env1 ++ τ)[i]? = some s → s.d?.isSome = true → ∀ a ∈ FS1 i, ¬ SA a := fun {i s} hh es hd a ma ⟨i', j', ej', ma'⟩ => by
    have hi' : i' < n := wlt i' (mem_ptrs.mpr ⟨j', ej'⟩)
    obtain ⟨s1, es1⟩ : ∃ s1, L0[j']? = some s1 := ⟨_, List.getElem?_eq_getElem (by rw [l0]; exact lt_of_get ej')⟩
    rcases argS_get e2 es1 with ⟨k, d2, ea', _⟩ | ⟨i2, s', d2, ea', es2, ew2, _, _⟩
    · rw [ej'] at ea'; cases ea'
    · rw [ej'] at ea'; cases ea'
      have e4 : (env1 ++ τ)[i']? = some s' := by rw [List.getElem?_append_left (by rw [l1]; exact hi')]; exact es2
      exact Sp.dis i' i s' s (fun z => hh ⟨j', by rw [← z]; exact ej'⟩) e4 es ew2 hd (fun _ => .inl (by rw [hW]; exact hin i' (mem_ptrs.mpr ⟨j', ej'⟩))) a ma' ma
  -- new cells of the callee's outcome
  have subO : ∀ {j i : Nat} {d1 : D}, as[j]? = some (.ptr i) → L1[j]? = some (.io d1) → ∀ a ∈ FSo j, a ∈ FS1 i ∨ H1 a = none := fun {j i d1} ej eo a ma => by
    rcases So.fio j d1 (upO eo) a ma with ⟨_, q⟩ | q
    · exact .inl (by rw [f0p ej] at q; exact q)
    · exact .inr q
  have fr0 : ∀ a, H1 a = none → g.H0 a = none := fun a ea => by
    cases q : g.H0 a with
    | none => rfl
    | some o => exact absurd ea (Sp.dom a (by rw [q]; exact fun z => (nomatch z)))
  have eE : ∀ {i : Nat} {s : S}, env1[i]? = some s → (env1 ++ τ)[i]? = some s := fun ei => by rw [List.getElem?_append_left (lt_of_get ei)]; exact ei
  have S2 : Sim g FS2 (wb as L1 env1 ++ τ) (σ ++ tv) H2 := by
    have sv : ∀ {i j : Nat} {s0 : S} {d1 : D}, as[j]? = some (.ptr i) → env1[i]? = some s0 → s0.wr = true → L1[j]? = some (.io d1) → ∃ v, (σ ++ tv)[i]? = some (some v) ∧ Rep g.K H2 v d1 (FSo j) := fun {i j s0 d1} ej es ew eo => by
      obtain ⟨u, eu, ru⟩ := So.rep j _ d1 (upO eo) rfl
      obtain ⟨w, e5, e6⟩ := So.pv j d1 (upO eo)
      obtain ⟨v', e7, e8⟩ := pt j i ej
      have hjv : j < (vs.map some).length := by rw [List.length_map, lv]; exact lt_of_get ej
      rw [List.getElem?_append_left hjv, List.getElem?_map] at eu
      rw [e8] at eu; cases eu
      exact ⟨u, by rw [List.getElem?_append_left (by rw [hs]; exact wlt i (mem_ptrs.mpr ⟨j, ej⟩))]; exact e7, ru⟩
    have disO : ∀ {i j i' : Nat} {s0 s' : S} {d1 : D}, as[j]? = some (.ptr i) → env1[i]? = some s0 → s0.wr = true → L1[j]? = some (.io d1) → (¬ ∃ j : Nat, as[j]? = some (Ar.ptr i')) → (env1 ++ τ)[i']? = some s' → s'.d?.isSome = true → ∀ a ∈ FSo j, a ∉ FS1 i' := fun {i j i' s0 s' d1} ej es ew eo hh es' hd a ma ma' => by
      rcases subO ej eo a ma with z | z
      · exact noSA hh es' hd a ma' ⟨i, j, ej, z⟩
      · obtain ⟨o, eo', _⟩ := Sp.cells es' hd a ma'
        rw [z] at eo'; cases eo'
    refine ⟨by rw [List.length_append, wbl, ← List.length_append]; exact hl1, fun i s d' es ed => ?_, fun i s es ew => ?_, fun i k' d' es hk' => ?_, fun i d' es => ?_, fun i d' es => ?_, fun i i' s s' hij es es' w1 w2 w3 => ?_, fun a o ea nn => ?_, fun a na => dm a (Sp.dom a na), fun i s es eb => ?_, fun i d' es => ?_, Sp.wlt⟩
    · rcases cas es (by rw [ed]; rfl) with ⟨j, s0, d1, ej, e0, eo, rfl, ew, _⟩ | ⟨hh, e0⟩
      · cases S.with_d ed
        obtain ⟨v', ev, rv⟩ := sv ej e0 ew eo
        exact ⟨v', ev, by rw [f2p ej]; exact rv⟩
      · obtain ⟨v', ev, rv⟩ := Sp.rep i s d' e0 ed
        exact ⟨v', ev, by rw [f2o hh]; exact rv.ext xt (noSA hh e0 (by rw [ed]; rfl))⟩
    · rcases cas es (S.some_of_tree ew) with ⟨j, s0, d1, ej, e0, eo, rfl, ew, _⟩ | ⟨hh, e0⟩
      · rw [f2p ej]; exact So.nod j _ (upO eo) rfl
      · rw [f2o hh]; exact Sp.nod i s e0 ew
    · rcases cas es rfl with ⟨j, s0, d1, ej, e0, eo, z, ew, _⟩ | ⟨hh, e0⟩
      · rw [f2p ej]
        intro a ma
        rcases subO ej eo a ma with q | q
        · cases s0 with
          | gone => cases ew
          | io _ => cases z
          | t k d0 => cases z; exact Sp.fr i _ d0 (eE e0) hk' a q
        · exact fr0 a q
      · rw [f2o hh]; exact Sp.fr i k' d' e0 hk'
    · rcases cas es rfl with ⟨j, s0, d1, ej, e0, eo, z, ew, _⟩ | ⟨hh, e0⟩
      · cases s0 with
        | gone => cases ew
        | io _ => cases z
        | t k d0 => cases z; cases ew
      · rw [f2o hh]; exact Sp.od i d' e0
    · rcases cas es rfl with ⟨j, s0, d1, ej, e0, eo, z, ew, _⟩ | ⟨hh, e0⟩
      · rw [f2p ej]
        intro a ma
        rcases subO ej eo a ma with q | q
        · cases s0 with
          | gone => cases ew
          | t k d0 => cases z
          | io d0 => exact Sp.fio i d0 (eE e0) a q
        · exact .inr (fr0 a q)
      · rw [f2o hh]; exact Sp.fio i d' e0
    · rcases cas es (S.some_of_wr w1) with ⟨j, s0, d1, ej, e0, eo, rfl, ew, _⟩ | ⟨hh, e0⟩ <;> rcases cas es' w2 with ⟨j', s0', d1', ej', e0', eo', rfl, ew', _⟩ | ⟨hh', e0'⟩
      · rw [f2p ej, f2p ej']
        exact So.dis j j' _ _ (fun z => by subst z; rw [ej] at ej'; cases ej'; exact hij rfl) (upO eo) (upO eo') rfl rfl fun z => by cases z
      · rw [f2p ej, f2o hh']; exact disO ej e0 ew eo hh' e0' w2
      · rw [f2o hh, f2p ej']; exact fun a ma ma' => disO ej' e0' ew' eo' hh e0 (S.some_of_wr w1) a ma' ma
      · rw [f2o hh, f2o hh']; exact Sp.dis i i' s s' hij e0 e0' w1 w2 w3
    · refine xt a o (Sp.base a o ea nn) ?_
      rcases nn with nn | nn
      · refine .inl fun ⟨i, j, ej, ma⟩ => ?_
        obtain ⟨s1, es1⟩ : ∃ s1, L0[j]? = some s1 := ⟨_, List.getElem?_eq_getElem (by rw [l0]; exact lt_of_get ej)⟩
        rcases argS_get e2 es1 with ⟨k, d2, ea', _⟩ | ⟨i', s', d2, ea', es2, ew2, _, _⟩
        · rw [ej] at ea'; cases ea'
        · rw [ej] at ea'; cases ea'
          cases s' with
          | gone => cases ew2
          | io d0 => exact (Sp.fio i d0 (eE es2) a ma).elim (nn i) fun q => by rw [q] at ea; cases ea
          | t k d0 =>
            cases k with
            | own => have := Sp.fr i _ d0 (eE es2) rfl a ma; rw [this] at ea; cases ea
            | _ => cases ew2
      · exact .inr nn
    · have hd : s.d?.isSome = true := by
        cases s with
        | gone => cases eb
        | io d => rfl
        | t k d => rfl
      rcases cas es hd with ⟨j, s0, d1, ej, e0, eo, rfl, ew, _⟩ | ⟨hh, e0⟩
      · rw [S.with_isBor, S.nb_of_wr ew] at eb; cases eb
      · exact Sp.sb i s e0 eb
    · rcases cas es rfl with ⟨j, s0, d1, ej, e0, eo, z, ew, _⟩ | ⟨hh, e0⟩
      · cases s0 with
        | gone => cases ew
        | t k d0 => cases z
        | io d0 => exact Sp.pv i d0 (eE e0)
      · exact Sp.pv i d' e0
  -- the answer
  obtain ⟨u, eu, ru⟩ := So.rep _ _ d top rfl
  have eu' : u = v := by
    have hv : (vs.map some).length = L1.length := by rw [List.length_map, lv, lo]
    rw [← hv] at eu
    simpa using eu.symm
  subst eu'
  have tk : TOk g FS2 (wb as L1 env1 ++ τ) .own (FSo L1.length) := by
    have sh : ∀ i s, (wb as L1 env1 ++ τ)[i]? = some s → s.d?.isSome = true → ∀ a ∈ FSo L1.length, a ∉ FS2 i := fun i s es hd a ma => by
      rcases cas es hd with ⟨j, s0, d1, ej, e0, eo, rfl, ew, _⟩ | ⟨hh, e0⟩
      · rw [f2p ej]
        exact So.dis _ j _ _ (Nat.ne_of_gt (lt_of_get eo)) top (upO eo) rfl rfl (fun z => by cases z) a ma
      · rw [f2o hh]
        exact Sp.new_ne (So.fr _ _ d top rfl a ma) e0 hd
    exact ⟨fun _ => ⟨So.nod _ _ top rfl, fun a ma => fr0 a (So.fr _ _ d top rfl a ma)⟩, fun z => (nomatch z), fun _ j s es hd => sh j s es hd, fun _ j s es hw => sh j s es (S.some_of_wr hw), fun j s es hw _ => sh j s es (S.some_of_wr hw)⟩
  exact h u H2 _ (by rw [wbl]; exact l1) (S2.push ru tk fun z => (nomatch z))
theorem re_call {f : Fn} {ta : TA} {fa : List S → Option (List Ar × List S)} (ha : RA K n W Y ta fa) : RE K n W Y (tCall (spOf K m f) [] E0 ta) (eCall m W f fa) := by
  intro g FS env τ σ tv H Q r env' hK hn hW he hs Sm yb e h
  unfold eCall at e
  cases e1 : fa env with
  | none => rw [e1] at e; cases e
  | some p =>
    obtain ⟨as, env1⟩ := p
    simp only [e1] at e
    split at e
    · rename_i hc
      obtain ⟨hlen, hnd, hin⟩ := hc
      cases e2 : argS env1 as with
      | none => rw [e2] at e; cases e
      | some L0 =>
        simp only [e2] at e
        cases e3 : f L0 with
        | none => rw [e3] at e; cases e
        | some q =>
          obtain ⟨d, L1⟩ := q
          simp only [e3, Option.some.injEq, Prod.mk.injEq] at e
          obtain ⟨rfl, rfl⟩ := e
          refine ha g FS env τ σ tv H _ as env1 hK hn hW he hs Sm yb e1 fun vs H1 FS1 l1 lv pt S1 => ?_
          exact call_core hK hn hW hs l1 lv pt S1 hlen hnd hin e2 e3 h
    · cases e
end
end RG

set_option maxRecDepth 100000
set_option maxHeartbeats 4000000
namespace RG
open PySem PySem.Spec PyProof.Rows L2

section
variable {g : G} {FS : Nat → List Addr} {L : List S} {VS VS' : List (Option V)} {H H' : Hp}
/-- only what lives matters of the values -/
theorem Sim.vals (h : Sim g FS L VS H) (hl : VS'.length = VS.length) (hv : ∀ (i : Nat) (s : S), L[i]? = some s → s.d?.isSome = true → VS'[i]? = VS[i]?) : Sim g FS L VS' H := by
  refine ⟨by rw [hl]; exact h.len, fun i s d e1 e2 => ?_, h.nod, h.fr, h.od, h.fio, h.dis, h.base, h.dom, h.sb, fun i d e => ?_, h.wlt⟩
  · rw [hv i s e1 (by rw [e2]; rfl)]; exact h.rep i s d e1 e2
  · rw [hv i _ e rfl]; exact h.pv i d e
/-- slots are forgotten -/
theorem Sim.sub (h : Sim g FS L VS H) {L' : List S} (hl : L'.length = L.length) (up : ∀ {i : Nat} {s : S}, L'[i]? = some s → s.d?.isSome = true → L[i]? = some s) : Sim g FS L' VS H := by
  have d1 : ∀ {s : S}, s.isBor = true → s.d?.isSome = true := fun {s} e => by
    cases s with
    | gone => cases e
    | io d => rfl
    | t k d => rfl
  exact ⟨by rw [hl]; exact h.len, fun i s d e1 e2 => h.rep i s d (up e1 (by rw [e2]; rfl)) e2, fun i s e1 e2 => h.nod i s (up e1 (S.some_of_tree e2)) e2, fun i k d e => h.fr i k d (up e rfl), fun i d e => h.od i d (up e rfl), fun i d e => h.fio i d (up e rfl),
    fun i j s s' hij e1 e2 w1 w2 => h.dis i j s s' hij (up e1 (S.some_of_wr w1)) (up e2 w2) w1 w2, h.base, h.dom, fun i s e1 e2 => h.sb i s (up e1 (d1 e2)) e2, fun i d e => h.pv i d (up e rfl), h.wlt⟩
/-- an own slot is shared from now on -/
theorem Sim.freeze (h : Sim g FS L VS H) {i : Nat} {d : D} (e : L[i]? = some (.t .own d)) : Sim g FS (L.set i (.t .frz d)) VS H := by
  obtain ⟨v, ev, r⟩ := h.rep i _ d e rfl
  have hi := lt_of_get e
  have ne : ∀ {j : Nat}, j ≠ i → (L.set i (.t .frz d))[j]? = L[j]? := fun q => List.getElem?_set_ne (Ne.symm q)
  have at_ : (L.set i (.t .frz d))[i]? = some (.t .frz d) := List.getElem?_set_self hi
  have cs : ∀ {j : Nat} {s' : S}, (L.set i (.t .frz d))[j]? = some s' → (j = i ∧ s' = .t .frz d) ∨ (j ≠ i ∧ L[j]? = some s') := fun q => (get_set q).imp (fun z => ⟨z.1, z.2.1⟩) id
  refine ⟨by simpa using h.len, fun j s' d' e1 e2 => ?_, fun j s' e1 e2 => ?_, fun j k d' e1 hk => ?_, fun j d' e1 => ?_, fun j d' e1 => ?_, fun j l s1 s2 hij e1 e2 w1 w2 w3 => ?_, h.base, h.dom, fun j s' e1 e2 => ?_, fun j d' e1 => ?_, h.wlt⟩
  · rcases cs e1 with ⟨q, f⟩ | ⟨q, f⟩
    · subst q; subst f; cases e2; exact ⟨v, ev, r⟩
    · exact h.rep j s' d' f e2
  · rcases cs e1 with ⟨q, f⟩ | ⟨q, f⟩
    · subst q; exact h.nod _ _ e rfl
    · exact h.nod j s' f e2
  · rcases cs e1 with ⟨q, f⟩ | ⟨q, f⟩
    · subst q; exact h.fr _ _ _ e rfl
    · exact h.fr j k d' f hk
  · rcases cs e1 with ⟨q, f⟩ | ⟨q, f⟩
    · cases f
    · exact h.od j d' f
  · rcases cs e1 with ⟨q, f⟩ | ⟨q, f⟩
    · cases f
    · exact h.fio j d' f
  · rcases cs e1 with ⟨q1, f1⟩ | ⟨q1, f1⟩
    · subst f1; cases w1
    · rcases cs e2 with ⟨q2, f2⟩ | ⟨q2, f2⟩
      · subst q2; exact h.dis j _ s1 _ q1 f1 e w1 rfl (fun z => by cases z)
      · exact h.dis j l s1 s2 hij f1 f2 w1 w2 w3
  · rcases cs e1 with ⟨q, f⟩ | ⟨q, f⟩
    · subst f; cases e2
    · exact h.sb j s' f e2
  · rcases cs e1 with ⟨q, f⟩ | ⟨q, f⟩
    · cases f
    · exact h.pv j d' f
end

section
variable {K : PySem.W.Frag} {n : Nat} {W A B : List Nat} {Z Z' Y Y' : Bool} {t u : TS} {f h : List S → Option Fl}
/-- a name that is read for the last time: what it holds goes over -/
def eTake (i : Nat) : List S → Option (T × List S) := fun env => match env[i]? with
  | some (.t k d) => some ((k, d), env.set i .gone)
  | _ => none
theorem re_take {i : Nat} (hi : i < n) : RE K n W true (tVar i) (eTake i) := by
  intro g FS env τ σ tv H Q r env' hK hn hW he hs Sm yb e h
  unfold eTake at e
  split at e
  · rename_i k d e0
    cases e
    have e1 : (env ++ τ)[i]? = some (.t k d) := by rw [List.getElem?_append_left (by rw [he]; exact hi)]; exact e0
    obtain ⟨v, ev, rv, tk, s⟩ := Sm.take e1 (.inr (.inl (Sm.nobor (by rw [he, hn]) (yb rfl)))) (some V.non)
    have ev' : σ[i]? = some (some v) := by rw [List.getElem?_append_left (by rw [hs]; exact hi)] at ev; exact ev
    refine ⟨v, ev', ?_⟩
    have s1 : Sim g FS ((env ++ τ).set i .gone) (σ ++ tv) H := s.vals (by simp) fun j s' ej hd => by
      rcases get_set ej with ⟨_, f, _⟩ | ⟨q, _⟩
      · subst f; cases hd
      · rw [List.getElem?_set_ne (Ne.symm q)]
    have es : (env ++ τ).set i .gone = env.set i .gone ++ τ := by rw [List.set_append_left _ _ (by rw [he]; exact hi)]
    rw [es] at s1 tk
    subst hK
    have := s1.push rv tk fun z => by
      have := s1.sb
      rw [List.length_append, List.length_set, he, hn]; exact Nat.le_add_right _ _
    exact h v H _ (by simpa using he) this
  · cases e
/-- ahead of a statement: an own slot is shared from now on -/
def frzE (i : Nat) (env : List S) : List S := match env[i]? with
  | some (.t .own d) => env.set i (.t .frz d)
  | _ => env
theorem rs_freeze (i : Nat) (hi : i < n) (hf : RS K n W A Z t f) : RS K n W A Z t fun env => f (frzE i env) := by
  intro g FS env τ σ tv H D r hK hn hW he hs Sm nb e p
  refine hf g FS (frzE i env) τ σ tv H D r hK hn hW ?_ hs ?_ nb e p
  · unfold frzE
    split
    · simpa using he
    · exact he
  · unfold frzE
    split
    · rename_i d e0
      have e1 : (env ++ τ)[i]? = some (.t .own d) := by rw [List.getElem?_append_left (by rw [he]; exact hi)]; exact e0
      have := Sm.freeze e1
      rw [List.set_append_left _ _ (by rw [he]; exact hi)] at this
      exact this
    · exact Sm
/-- .. a shared slot is one's own again: those that may share its cells are forgotten -/
def S.lone : S → S
  | .t .frz d => if d.flat then .t .frz d else .gone
  | .t .val d => if d.flat then .t .val d else .gone
  | s => s
def ownE (i : Nat) (env : List S) : List S := match env[i]? with
  | some (.t .frz d) => (env.map S.lone).set i (.t .own d)
  | _ => env
theorem rs_own (i : Nat) (hi : i < n) (hf : RS K n W A Z t f) : RS K n W A true t fun env => f (ownE i env) := by
  intro g FS env τ σ tv H D r hK hn hW he hs Sm nb e p
  have nb' : Tau Z τ := ⟨nb.nb, fun _ => nb.cl rfl⟩
  refine hf g FS (ownE i env) τ σ tv H D r hK hn hW ?_ hs ?_ nb' e p
  · unfold ownE
    split
    · simpa using he
    · exact he
  · unfold ownE
    split
    · rename_i d e0
      have e1 : (env ++ τ)[i]? = some (.t .frz d) := by rw [List.getElem?_append_left (by rw [he]; exact hi)]; exact e0
      obtain ⟨v, ev, rv⟩ := Sm.rep i _ d e1 rfl
      -- the others alone
      have ln : (env.map S.lone).length = n := by simpa using he
      have up : ∀ {j : Nat} {s : S}, ((env.map S.lone).set i .gone ++ τ)[j]? = some s → s.d?.isSome = true → j ≠ i ∧ (env ++ τ)[j]? = some s ∧ (j < n → s = s.lone) := fun {j s} ej hd => by
        by_cases hj : j < n
        · rw [List.getElem?_append_left (by rw [List.length_set, ln]; exact hj)] at ej
          rcases get_set ej with ⟨_, q, _⟩ | ⟨q, ej⟩
          · subst q; cases hd
          · rw [List.getElem?_map] at ej
            cases q2 : env[j]? with
            | none => rw [q2] at ej; cases ej
            | some s0 =>
              rw [q2] at ej
              have ej : s0.lone = s := Option.some.inj ej
              have h0 : s0.lone = s0 := by
                cases s0 with
                | gone => rfl
                | io d => rfl
                | t k d0 =>
                  cases k with
                  | frz =>
                    by_cases hf : d0.flat = true
                    · simp [S.lone, hf]
                    · have : S.lone (.t .frz d0) = .gone := by simp [S.lone, hf]
                      rw [this] at ej; subst ej; cases hd
                  | val =>
                    by_cases hf : d0.flat = true
                    · simp [S.lone, hf]
                    · have : S.lone (.t .val d0) = .gone := by simp [S.lone, hf]
                      rw [this] at ej; subst ej; cases hd
                  | _ => rfl
              have es : s0 = s := h0.symm.trans ej
              subst es
              exact ⟨q, by rw [List.getElem?_append_left (by rw [he]; exact hj)]; exact q2, fun _ => h0.symm⟩
        · rw [List.getElem?_append_right (by rw [List.length_set, ln]; omega), List.length_set, ln] at ej
          exact ⟨by omega, by rw [List.getElem?_append_right (by rw [he]; omega), he]; exact ej, fun z => absurd z hj⟩
      have s1 : Sim g FS ((env.map S.lone).set i .gone ++ τ) (σ ++ tv) H := Sm.sub (by simp) fun ej hd => (up ej hd).2.1
      have tk : TOk g FS ((env.map S.lone).set i .gone ++ τ) .own (FS i) := by
        have dj : ∀ j s, ((env.map S.lone).set i .gone ++ τ)[j]? = some s → s.d?.isSome = true → ∀ a ∈ FS i, a ∉ FS j := fun j s ej hd a ma => by
          obtain ⟨hj, ej', hlone⟩ := up ej hd
          have hb := (Sm.nobor (by rw [he, hn]) nb.nb) j s ej'
          have wr : s.wr = true → a ∉ FS j := fun hw m => Sm.dis j i s _ hj ej' e1 hw rfl (fun z => by cases z) a m ma
          cases s with
          | gone => cases hd
          | io d0 => exact wr rfl
          | t k d0 =>
            have fl : d0.flat = true → a ∉ FS j := fun hf => by
              obtain ⟨u, _, ru⟩ := Sm.rep j _ d0 ej' rfl
              rw [ru.flat hf]; exact fun m => nomatch m
            have old : k = .old → a ∉ FS j := fun hk m => by
              subst hk
              exact Sm.od j d0 ej' a m (Sm.fr i _ d e1 rfl a ma)
            by_cases hjn : j < n
            · have h0 := hlone hjn
              cases k with
              | own => exact wr rfl
              | bor => cases hb
              | old => exact old rfl
              | frz =>
                by_cases hf : d0.flat = true
                · exact fl hf
                · simp [S.lone, hf] at h0
              | val =>
                by_cases hf : d0.flat = true
                · exact fl hf
                · simp [S.lone, hf] at h0
            · have ej2 : τ[j - n]? = some (.t k d0) := by rw [List.getElem?_append_right (by rw [he]; omega), he] at ej'; exact ej'
              rcases nb.cl rfl _ _ _ ej2 with q | q
              · subst q; exact wr rfl
              · exact old q
        exact ⟨fun _ => ⟨Sm.nod i _ e1 rfl, Sm.fr i _ d e1 rfl⟩, fun z => (nomatch z), fun _ => dj, fun _ j s ej hw => dj j s ej (S.some_of_wr hw), fun j s ej hw _ => dj j s ej (S.some_of_wr hw)⟩
      have gi : ((env.map S.lone).set i .gone ++ τ)[i]? = some .gone := by
        rw [List.getElem?_append_left (by rw [List.length_set, ln]; exact hi), List.getElem?_set_self (by rw [ln]; exact hi)]
      have s2 := s1.fill (i := i) (by rw [List.length_append, List.length_set, ln]; omega) gi rv tk (fun z => Tk.noConfusion z) (.inl (s1.nobor (by rw [List.length_set, ln, hn]) nb.nb))
      rw [List.set_append_left _ _ (by rw [List.length_set, ln]; exact hi), List.set_set] at s2
      have eF : setF FS i (FS i) = FS := by
        funext j
        by_cases hj : j = i
        · subst hj; rw [setF_same]
        · rw [setF_ne hj]
      rw [eF] at s2
      have evs : (σ ++ tv).set i (some v) = σ ++ tv := by
        apply List.ext_getElem?
        intro j
        by_cases hj : j = i
        · subst hj; rw [List.getElem?_set_self (lt_of_get ev)]; exact ev.symm
        · rw [List.getElem?_set_ne (Ne.symm hj)]
      rw [evs] at s2
      exact s2
    · exact Sm

/-! ### what is walked -/
structure SrcOk (K : PySem.W.Frag) (J : It) (s : S) (x : Option V) (items : List T) : Prop where
  go : ∀ (g : G) (FS : Nat → List Addr) (L : List S) (VS : List (Option V)) (H : Hp) (p : Nat), g.K = K → Sim g FS L VS H → L[p]? = some s → VS[p]? = some x → ∀ (i : Nat) (r : T), items[i]? = some r →
    J.go i H ∧ ∀ v H', J.yld i H v H' → Same H H' ∧ ∃ F, Rep K H' v r.2 F ∧ TOk g FS L r.1 F
  stop : ∀ (g : G) (FS : Nat → List Addr) (L : List S) (VS : List (Option V)) (H : Hp) (p : Nat), g.K = K → Sim g FS L VS H → L[p]? = some s → VS[p]? = some x → J.stop items.length H
  len : ∀ (g : G) (FS : Nat → List Addr) (L : List S) (VS : List (Option V)) (H : Hp) (p : Nat), g.K = K → Sim g FS L VS H → L[p]? = some s → VS[p]? = some x → items.length ≤ sizeLine
def RI (K : PySem.W.Frag) (n : Nat) (W : List Nat) (Y : Bool) (wi : TI) (fi : List S → Option (S × List T × List S)) : Prop :=
  ∀ (g : G) (FS : Nat → List Addr) (env τ : List S) (σ : L2.St) (tv : List (Option V)) (H : Hp) (R : It → Hp → Prop) (s : S) (items : List T) (env' : List S), g.K = K → g.n = n → g.W = W → env.length = n → σ.length = n → Sim g FS (env ++ τ) (σ ++ tv) H → (Y = true → NoBor τ) → fi env = some (s, items, env') →
    (∀ J H' FS' x, env'.length = n → Sim g FS' ((env' ++ τ) ++ [s]) ((σ ++ tv) ++ [x]) H' → SrcOk K J s x items → s.isBor = false → R J H') → wi σ H R
/-- how a list's, a tuple's parts are walked: what is kept of it, what kind its parts are of -/
def srcK (tup : Bool) (k : Tk) (fl : Bool) : Option (Tk × Tk) :=
  if fl then (match k with
    | .bor => if tup then some (.own, .own) else none
    | k => some (k, .own))
  else (match k with
    | .bor => none
    | .own => some (.frz, .frz)
    | k => some (k, k))
def iSeq (fe : List S → Option (T × List S)) : List S → Option (S × List T × List S) := fun env => match fe env with
  | some ((k, .lst ds), env') => (srcK false k (D.flats ds)).map fun q => (.t q.1 (.lst ds), ds.map fun d => (q.2, d), env')
  | some ((k, .tup ds), env') => (srcK true k (D.flats ds)).map fun q => (.t q.1 (.tup ds), ds.map fun d => (q.2, d), env')
  | some ((k, .scr ns), env') => some (.t .own (.scr ns), ns.map fun i => (.own, .int i), env')
  | _ => none
def iSeqL (fe : List S → Option (T × List S)) : List S → Option (S × List T × List S) := fun env => match fe env with
  | some ((k, .lst ds), env') => (srcK false k (D.flats ds)).map fun q => (.t q.1 (.lst ds), ds.map fun d => (q.2, d), env')
  | some ((k, .scr ns), env') => some (.t .own (.scr ns), ns.map fun i => (.own, .int i), env')
  | _ => none
def iSeqT (fe : List S → Option (T × List S)) : List S → Option (S × List T × List S) := fun env => match fe env with
  | some ((k, .tup ds), env') => (srcK true k (D.flats ds)).map fun q => (.t q.1 (.tup ds), ds.map fun d => (q.2, d), env')
  | _ => none
theorem RepL.ints {K : PySem.W.Frag} {H : Hp} : ∀ (ns : List Int), RepL K H (ns.map V.int) (ns.map D.int) []
  | [] => .nil
  | i :: ns => RepL.cons (F := []) (.int i) (RepL.ints ns)
theorem srcK_spec {tup : Bool} {k : Tk} {fl : Bool} {q : Tk × Tk} (h : srcK tup k fl = some q) : q.1 ≠ .bor ∧ q.2 ≠ .bor ∧ (fl = true ∨ q.2 = q.1 ∧ q.1 ≠ .own) ∧ (k.le q.1 = true ∨ (tup = true ∧ fl = true ∧ q.1 = .own)) := by
  revert h
  cases tup <;> cases fl <;> cases k <;> intro h <;> first
    | exact absurd h (by decide)
    | (cases h <;> decide)
theorem seq_parts {K : PySem.W.Frag} {k k2 : Tk} {ds : List D} {vs : List V} {F : List Addr} {g : G} {FS : Nat → List Addr} {L : List S} {H : Hp} (rl : RepL K H vs ds F) (hq : D.flats ds = true ∨ k2 = k ∧ k ≠ .own) (tk : D.flats ds = false → TOk g FS L k F) {i : Nat} {v : V} (ev : vs[i]? = some v) {d : D} (ed : ds[i]? = some d) :
    ∃ F', Rep K H v d F' ∧ TOk g FS L k2 F' := by
  obtain ⟨d', F2, h1, h2, h3, h4⟩ := rl.getV ev
  rw [ed] at h3; cases h3
  by_cases hf : D.flats ds = true
  · have := h4.flat (D.flats_iff.mp hf d (List.mem_of_getElem? ed))
    subst this
    exact ⟨[], h4, TOk.nil _⟩
  · rcases hq with hq | ⟨rfl, _⟩
    · exact absurd hq hf
    · exact ⟨F2, h4, (tk (by simpa using hf)).sub h1 h2⟩
/-- an entry that stands in the state, for a new one beside it -/
theorem Sim.tokAt {g : G} {FS : Nat → List Addr} {L : List S} {VS : List (Option V)} {H : Hp} (h : Sim g FS L VS H) {p : Nat} {k : Tk} {d : D} (e : L[p]? = some (.t k d)) (hk : k ≠ .own) : TOk g FS L k (FS p) := by
  have t0 := h.tok e (.inl hk) (L' := L.set p .gone) fun {j s} ej hs => by
    rcases get_set ej with ⟨_, f, _⟩ | f
    · subst f; cases hs
    · exact f
  have inv : ∀ {j : Nat} {s : S}, L[j]? = some s → s.wr = true → (L.set p .gone)[j]? = some s := fun {j s} ej hw => by
    have hij : j ≠ p := fun z => by
      subst z
      rw [e] at ej; cases ej
      cases k <;> first | exact Bool.noConfusion hw | exact absurd rfl hk
    rw [List.getElem?_set_ne (Ne.symm hij)]; exact ej
  exact ⟨t0.tree, t0.old, fun z => absurd z hk, fun z j s ej hw => t0.shar z j s (inv ej hw) hw, fun j s ej hw => t0.bor j s (inv ej hw) hw⟩
theorem rep_items {K : PySem.W.Frag} {g : G} {FS : Nat → List Addr} {L : List S} {VS : List (Option V)} {H : Hp} {k k2 : Tk} {ds : List D} {vs : List V} {F : List Addr} {p : Nat} {dd : D} (Sm : Sim g FS L VS H) (ep : L[p]? = some (.t k dd)) (rl : RepL K H vs ds F) (hF : ∀ a ∈ F, a ∈ FS p) (hN : (FS p).Nodup → F.Nodup)
    (hq : D.flats ds = true ∨ k2 = k ∧ k ≠ .own) {i : Nat} {r : T} (er : (ds.map fun d => (k2, d))[i]? = some r) : ∃ v, vs[i]? = some v ∧ ∃ F', Rep K H v r.2 F' ∧ TOk g FS L r.1 F' := by
  rw [List.getElem?_map] at er
  cases ed : ds[i]? with
  | none => rw [ed] at er; cases er
  | some d =>
    rw [ed] at er; cases er
    have hi : i < vs.length := by rw [rl.length]; exact lt_of_get ed
    refine ⟨vs[i], by simp [hi], ?_⟩
    refine seq_parts (k := k) (k2 := k2) rl hq (fun hf => ?_) (by simp [hi]) ed
    rcases hq with hq | ⟨_, hq⟩
    · rw [hf] at hq; cases hq
    · exact (Sm.tokAt ep hq).sub hF hN
theorem src_list {k k2 : Tk} {ds : List D} {a : Addr} (hq : D.flats ds = true ∨ k2 = k ∧ k ≠ .own) : SrcOk K (Itl K a) (.t k (.lst ds)) (some (.ref a)) (ds.map fun d => (k2, d)) := by
  have inv : ∀ {g : G} {FS : Nat → List Addr} {L : List S} {VS : List (Option V)} {H : Hp} {p : Nat}, g.K = K → Sim g FS L VS H → L[p]? = some (.t k (.lst ds)) → VS[p]? = some (some (.ref a)) → ∃ vs F', FS p = a :: F' ∧ H a = some (.lst vs) ∧ RepL K H vs ds F' ∧ vs.length ≤ sizeLine := fun {g FS L VS H p} hK Sm e1 e2 => by
    obtain ⟨v, ev, rv⟩ := Sm.rep p _ _ e1 rfl
    rw [e2] at ev; cases ev
    obtain ⟨a', vs, F', q1, q2, q3, q4, q5⟩ := rv.lstV
    cases q1
    subst hK
    exact ⟨vs, F', q2, q3, q4, q5⟩
  refine ⟨fun g FS L VS H p hK Sm e1 e2 i r er => ?_, fun g FS L VS H p hK Sm e1 e2 => ?_, fun g FS L VS H p hK Sm e1 e2 => ?_⟩
  · obtain ⟨vs, F', hF, hH, rl, hz⟩ := inv hK Sm e1 e2
    obtain ⟨v, ev, F2, rv, tk⟩ := rep_items Sm e1 rl (fun b m => by rw [hF]; exact List.mem_cons_of_mem _ m) (fun q => by rw [hF] at q; exact (List.nodup_cons.mp q).2) hq er
    refine ⟨⟨vs, v, SqL.of hH, ev⟩, fun u H' hy => ?_⟩
    obtain ⟨rfl, hy⟩ := hy
    have := hy vs (SqL.of hH)
    rw [ev] at this; cases this
    exact ⟨Same.refl _, F2, rv, tk⟩
  · obtain ⟨vs, F', hF, hH, rl, hz⟩ := inv hK Sm e1 e2
    exact ⟨vs, SqL.of hH, by rw [rl.length, List.length_map]; exact Nat.le_refl _⟩
  · obtain ⟨vs, F', hF, hH, rl, hz⟩ := inv hK Sm e1 e2
    rw [List.length_map, ← rl.length]; exact hz
theorem src_tup {k k2 : Tk} {ds : List D} {a : Addr} (hq : D.flats ds = true ∨ k2 = k ∧ k ≠ .own) {vs0 : List V} (hu : ∀ H vs, (∃ F, Rep K H (.ref a) (.tup ds) F) → SqT K H a vs → True) : SrcOk K (Itt K a) (.t k (.tup ds)) (some (.ref a)) (ds.map fun d => (k2, d)) := by
  have inv : ∀ {g : G} {FS : Nat → List Addr} {L : List S} {VS : List (Option V)} {H : Hp} {p : Nat}, g.K = K → Sim g FS L VS H → L[p]? = some (.t k (.tup ds)) → VS[p]? = some (some (.ref a)) → ∃ vs, SqT K H a vs ∧ RepL K H vs ds (FS p) ∧ vs.length ≤ sizeLine := fun {g FS L VS H p} hK Sm e1 e2 => by
    obtain ⟨v, ev, rv⟩ := Sm.rep p _ _ e1 rfl
    rw [e2] at ev; cases ev
    obtain ⟨a', vs, q1, q2, q3, q4⟩ := rv.tupV
    cases q1
    subst hK
    exact ⟨vs, q2, q3, q4⟩
  refine ⟨fun g FS L VS H p hK Sm e1 e2 i r er => ?_, fun g FS L VS H p hK Sm e1 e2 => ?_, fun g FS L VS H p hK Sm e1 e2 => ?_⟩
  · obtain ⟨vs, hH, rl, hz⟩ := inv hK Sm e1 e2
    obtain ⟨v, ev, F2, rv, tk⟩ := rep_items Sm e1 rl (fun b m => m) id hq er
    refine ⟨⟨vs, v, hH, ev⟩, fun u H' hy => ?_⟩
    obtain ⟨rfl, hy⟩ := hy
    have := hy vs hH
    rw [ev] at this; cases this
    exact ⟨Same.refl _, F2, rv, tk⟩
  · obtain ⟨vs, hH, rl, hz⟩ := inv hK Sm e1 e2
    exact ⟨vs, hH, by rw [rl.length, List.length_map]; exact Nat.le_refl _⟩
  · obtain ⟨vs, hH, rl, hz⟩ := inv hK Sm e1 e2
    rw [List.length_map, ← rl.length]; exact hz
theorem src_scr {ns : List Int} {a : Addr} {k : Tk} : SrcOk K (Itl K a) (.t k (.scr ns)) (some (.ref a)) (ns.map fun i => (.own, .int i)) := by
  have inv : ∀ {g : G} {FS : Nat → List Addr} {L : List S} {VS : List (Option V)} {H : Hp} {p : Nat}, g.K = K → Sim g FS L VS H → L[p]? = some (.t k (.scr ns)) → VS[p]? = some (some (.ref a)) → SqL K H a (ns.map V.int) ∧ ns.length ≤ sizeLine := fun {g FS L VS H p} hK Sm e1 e2 => by
    obtain ⟨v, ev, rv⟩ := Sm.rep p _ _ e1 rfl
    rw [e2] at ev; cases ev
    subst hK
    generalize FS p = F at rv
    cases rv with
    | scr hs hz => exact ⟨hs.sq, hz⟩
  refine ⟨fun g FS L VS H p hK Sm e1 e2 i r er => ?_, fun g FS L VS H p hK Sm e1 e2 => ?_, fun g FS L VS H p hK Sm e1 e2 => ?_⟩
  · have hH := (inv hK Sm e1 e2).1
    rw [List.getElem?_map] at er
    cases ed : ns[i]? with
    | none => rw [ed] at er; cases er
    | some d =>
      rw [ed] at er; cases er
      have ev : (ns.map V.int)[i]? = some (.int d) := by rw [List.getElem?_map, ed]; rfl
      refine ⟨⟨_, _, hH, ev⟩, fun u H' hy => ?_⟩
      obtain ⟨rfl, hy⟩ := hy
      have := hy _ hH
      rw [ev] at this; cases this
      exact ⟨Same.refl _, [], .int d, TOk.nil _⟩
  · exact ⟨_, (inv hK Sm e1 e2).1, by rw [List.length_map, List.length_map]; exact Nat.le_refl _⟩
  · rw [List.length_map]; exact (inv hK Sm e1 e2).2
theorem Sim.rekind {g : G} {FS : Nat → List Addr} {L : List S} {VS : List (Option V)} {H : Hp} {k k' : Tk} {d : D} {x : Option V} (h : Sim g FS (L ++ [.t k d]) (VS ++ [x]) H) (hn : g.n ≤ L.length) (hk : k.le k' = true ∨ d.flat = true) (hb : k' ≠ .bor) : ∃ v, x = some v ∧ Rep g.K H v d (FS L.length) ∧ Sim g (setF FS L.length (FS L.length)) (L ++ [.t k' d]) (VS ++ [x]) H := by
  obtain ⟨v, rfl, rv, tk⟩ := Sim.top h hn
  refine ⟨v, rfl, rv, h.pop.push rv ?_ fun z => absurd z hb⟩
  rcases hk with hk | hk
  · exact tk.to hk
  · rw [rv.flat hk]; exact TOk.nil _
theorem ri_list {te : TE} {fe : List S → Option (T × List S)} (ht : RE K n W Y te fe) : RI K n W Y (iList K te) (iSeqL fe) := by
  intro g FS env τ σ tv H R s items env' hK hn hW he hs Sm yb e h
  unfold iSeqL at e
  split at e
  · rename_i k ds env1 e1
    cases eq : srcK false k (D.flats ds) with
    | none => rw [eq] at e; cases e
    | some q =>
      rw [eq] at e
      simp only [Option.map_some, Option.some.injEq, Prod.mk.injEq] at e
      obtain ⟨rfl, rfl, rfl⟩ := e
      obtain ⟨q1, q2, q3, q4⟩ := srcK_spec eq
      refine ht g FS env τ σ tv H _ (k, .lst ds) env1 hK hn hW he hs Sm yb e1 fun v H' FS' l S' => ?_
      obtain ⟨v', ev, rv, S2⟩ := Sim.rekind (k' := q.1) S' (by rw [List.length_append, l, hn]; exact Nat.le_add_right _ _) (by
        rcases q4 with z | ⟨z, _⟩
        · exact .inl z
        · cases z) q1
      cases ev
      obtain ⟨a, vs, F', rfl, _, hH, _, _⟩ := rv.lstV
      exact ⟨a, rfl, ⟨vs, SqL.of hH⟩, h _ H' _ _ l S2 (src_list q3) (by cases hq : q.1 <;> first | rfl | exact absurd hq q1)⟩
  · rename_i k ns env1 e1
    simp only [Option.some.injEq, Prod.mk.injEq] at e
    obtain ⟨rfl, rfl, rfl⟩ := e
    refine ht g FS env τ σ tv H _ (k, .scr ns) env1 hK hn hW he hs Sm yb e1 fun v H' FS' l S' => ?_
    obtain ⟨v', ev, rv, S2⟩ := Sim.rekind (k' := .own) S' (by rw [List.length_append, l, hn]; exact Nat.le_add_right _ _) (.inr rfl) (fun z => Tk.noConfusion z)
    cases ev
    have : ∃ a, v = .ref a ∧ SqL g.K H' a (ns.map V.int) := by
      generalize FS' (env1 ++ τ).length = F at rv
      cases rv with
      | scr hs hz => exact ⟨_, rfl, hs.sq⟩
    obtain ⟨a, rfl, hH⟩ := this
    subst hK
    exact ⟨a, rfl, ⟨_, hH⟩, h _ H' _ _ l S2 src_scr rfl⟩
  · cases e
theorem ri_tup {te : TE} {fe : List S → Option (T × List S)} (ht : RE K n W Y te fe) : RI K n W Y (iTup K te) (iSeqT fe) := by
  intro g FS env τ σ tv H R s items env' hK hn hW he hs Sm yb e h
  unfold iSeqT at e
  split at e
  · rename_i k ds env1 e1
    cases eq : srcK true k (D.flats ds) with
    | none => rw [eq] at e; cases e
    | some q =>
      rw [eq] at e
      simp only [Option.map_some, Option.some.injEq, Prod.mk.injEq] at e
      obtain ⟨rfl, rfl, rfl⟩ := e
      obtain ⟨q1, q2, q3, q4⟩ := srcK_spec eq
      refine ht g FS env τ σ tv H _ (k, .tup ds) env1 hK hn hW he hs Sm yb e1 fun v H' FS' l S' => ?_
      obtain ⟨v', ev, rv, S2⟩ := Sim.rekind (k' := q.1) S' (by rw [List.length_append, l, hn]; exact Nat.le_add_right _ _) (by
        rcases q4 with z | ⟨_, z, _⟩
        · exact .inl z
        · exact .inr (by unfold D.flat; exact z)) q1
      cases ev
      obtain ⟨a, vs, rfl, hH, _, _⟩ := rv.tupV
      subst hK
      exact ⟨a, rfl, ⟨vs, hH⟩, h _ H' _ _ l S2 (src_tup (vs0 := []) q3 fun _ _ _ _ => trivial) (by cases hq : q.1 <;> first | rfl | exact absurd hq q1)⟩
  · cases e
/-- lo, lo + 1, .. -/
def upTo (lo : Int) : Nat → List T
  | 0 => []
  | m + 1 => (.own, .int lo) :: upTo (lo + 1) m
theorem upTo_length {lo : Int} : ∀ {m : Nat}, (upTo lo m).length = m
  | 0 => rfl
  | m + 1 => congrArg (· + 1) upTo_length
theorem upTo_get : ∀ {m : Nat} {lo : Int} {i : Nat} {r : T}, (upTo lo m)[i]? = some r → r = (.own, .int (lo + i)) ∧ i < m
  | 0, _, _, _, e => by simp [upTo] at e
  | m + 1, lo, 0, r, e => by simp [upTo] at e; subst e; simp
  | m + 1, lo, i + 1, r, e => by
    obtain ⟨h1, h2⟩ := upTo_get (m := m) (lo := lo + 1) (i := i) (by simpa [upTo] using e)
    refine ⟨?_, by omega⟩
    rw [h1]
    congr 2
    omega
theorem src_range {lo : Int} {m : Nat} {x : Option V} (hm : m ≤ 16777216) : SrcOk K (Itr lo m) .gone x (upTo lo m) := by
  refine ⟨fun g FS L VS H p hK Sm e1 e2 i r er => ?_, fun g FS L VS H p hK Sm e1 e2 => ?_, fun g FS L VS H p hK Sm e1 e2 => ?_⟩
  · obtain ⟨rfl, hi⟩ := upTo_get er
    refine ⟨hi, fun u H' hy => ?_⟩
    obtain ⟨rfl, rfl⟩ := hy
    exact ⟨Same.refl _, [], .int _, TOk.nil _⟩
  · show m ≤ (upTo lo m).length
    rw [upTo_length]; exact Nat.le_refl _
  · rw [upTo_length, sizeLine_eq]; exact hm
theorem Sim.ghost {g : G} {FS : Nat → List Addr} {L : List S} {VS : List (Option V)} {H : Hp} (h : Sim g FS L VS H) (x : Option V) : Sim g FS (L ++ [.gone]) (VS ++ [x]) H := by
  have := h.pad 1 x
  simpa using this
def iRange1 (fa : List S → Option (T × List S)) : List S → Option (S × List T × List S) := fun env => match fa env with
  | some ((_, .int j), env') => if -16777216 ≤ j ∧ j ≤ 16777216 then some (.gone, upTo 0 j.toNat, env') else none
  | _ => none
theorem ri_range1 {te : TE} {fe : List S → Option (T × List S)} (ht : RE K n W Y te fe) : RI K n W Y (iRng1 (tCons te tNil)) (iRange1 fe) := by
  intro g FS env τ σ tv H R s items env' hK hn hW he hs Sm yb e h
  unfold iRange1 at e
  split at e
  · rename_i k j env1 e1
    split at e
    · rename_i hj
      simp only [Option.some.injEq, Prod.mk.injEq] at e
      obtain ⟨rfl, rfl, rfl⟩ := e
      refine ht g FS env τ σ tv H _ (k, .int j) env1 hK hn hW he hs Sm yb e1 fun v H' FS' l S' => ?_
      obtain ⟨v', ev, rv, _⟩ := Sim.top (k := k) (d := .int j) S' (by rw [List.length_append, l, hn]; exact Nat.le_add_right _ _)
      cases ev
      cases rv.intV
      exact ⟨j, rfl, by omega, by omega, h _ H' _ none l (S'.pop.ghost none) (src_range (by omega)) rfl⟩
    · cases e
  · cases e

/-! ### for, while -/
def S.clean : S → Bool
  | .t .frz _ => false
  | .t .val _ => false
  | .t .bor _ => false
  | _ => true
def sLoop (ft : T → List S → Option (List S)) (fb : List S → Option Fl) : List T → List S → Option Fl
  | [], env => some (.nx env)
  | r :: rs, env => match ft r env with
    | none => none
    | some env1 => match fb env1 with
      | some (.nx e) => sLoop ft fb rs e
      | some (.ct e) => sLoop ft fb rs e
      | some (.bk e) => some (.nx e)
      | some (.rt r e) => some (.rt r e)
      | none => none
def sFor (Z : Bool) (fi : List S → Option (S × List T × List S)) (ft : T → List S → Option (List S)) (fb : List S → Option Fl) : List S → Option Fl := fun env => match fi env with
  | none => none
  | some (s, items, env') => if Z && !s.clean then none else sLoop ft fb items env'
theorem Tau.more {τ : List S} {s : S} (nb : Tau Z τ) (hb : s.isBor = false) (hc : (Z && !s.clean) = false) : Tau Z (τ ++ [s]) := by
  refine ⟨fun j x e => ?_, fun z j k d e => ?_⟩
  · rcases get_snoc e with ⟨_, q⟩ | ⟨_, q⟩
    · exact nb.nb j x q
    · subst q; exact hb
  · rcases get_snoc e with ⟨_, q⟩ | ⟨_, q⟩
    · exact nb.cl z j k d q
    · subst q
      rw [z] at hc
      cases k <;> first
        | exact .inl rfl
        | exact .inr rfl
        | exact absurd hc (by simp [S.clean])
theorem rs_for {wi : TI} {gt : TG} {tb : TS} {fi : List S → Option (S × List T × List S)} {ft : T → List S → Option (List S)} {fb : List S → Option Fl} (hi : RI K n W Y wi fi) (hg : RT K n W A gt ft) (hb : RS K n W B Z tb fb) : RS K n W (A ++ B) Z (tFor wi gt tb) (sFor Z fi ft fb) := by
  intro g FS env τ σ tv H D r hK hn hW he hs Sm nb e p
  unfold sFor at e
  split at e
  · cases e
  · rename_i s items env1 e1
    split at e
    · cases e
    · rename_i hcl
      have hcl : (Z && !s.clean) = false := by simpa using hcl
      refine hi g FS env τ σ tv H _ s items env1 hK hn hW he hs Sm (fun _ => nb.nb) e1 fun J H1 FS1 x l1 S1 src hbor => ?_
      have nb2 := nb.more hbor hcl
      refine ⟨fun i m σ' H' => m = items.length - i ∧ i ≤ items.length ∧ ∃ env' FS', env'.length = n ∧ σ'.length = n ∧ Keep (A ++ B) σ σ' ∧ Sim g FS' ((env' ++ τ) ++ [s]) ((σ' ++ tv) ++ [x]) H' ∧ sLoop ft fb (items.drop i) env' = some r, ⟨items.length, by simp, Nat.zero_le _, env1, FS1, l1, hs, Keep.refl, S1, e⟩, ?_⟩
      rintro i m σ' H' ⟨rfl, hle, env', FS', l2, l3, kp, S2, e2⟩
      have ep : ((env' ++ τ) ++ [s])[(env' ++ τ).length]? = some s := by simp
      have hlv : (env' ++ τ).length = (σ' ++ tv).length := S2.pop.len
      have ev : ((σ' ++ tv) ++ [x])[(env' ++ τ).length]? = some x := by rw [hlv]; simp
      by_cases hlt : i < items.length
      · obtain ⟨hgo, hy⟩ := src.go g FS' _ _ H' _ hK S2 ep ev i items[i] (by simp [hlt])
        refine .inr ⟨hgo, fun σ2 H2 => ∃ m', m' = items.length - (i + 1) ∧ i + 1 ≤ items.length ∧ ∃ env' FS', env'.length = n ∧ σ2.length = n ∧ Keep (A ++ B) σ σ2 ∧ Sim g FS' ((env' ++ τ) ++ [s]) ((σ2 ++ tv) ++ [x]) H2 ∧ sLoop ft fb (items.drop (i + 1)) env' = some r,
          fun σ2 H2 ⟨m', q1, q2, q3⟩ => ⟨m', by omega, q1, q2, q3⟩, fun v H2 hyl => ?_⟩
        obtain ⟨sm, F, rv, tk⟩ := hy v H2 hyl
        subst hK
        have S3 := (S2.same sm).push (k := items[i].1) (d := items[i].2) rv tk fun _ => by simp [l2, hn]
        rw [List.drop_eq_getElem_cons hlt] at e2
        simp only [sLoop] at e2
        cases e3 : ft items[i] env' with
        | none => rw [e3] at e2; cases e2
        | some env2 =>
          rw [e3] at e2
          rw [List.append_assoc env' τ [s], List.append_assoc σ' tv [x]] at S3
          refine hg g _ env' (τ ++ [s]) σ' (tv ++ [x]) H2 v _ items[i] env2 rfl hn hW l2 l3 S3 (.inl nb2.nb) e3 fun σ3 H3 FS3 l4 l5 k3 S4 => ?_
          cases e4 : fb env2 with
          | none => simp only [e4] at e2; cases e2
          | some r1 =>
            refine hb g FS3 env2 (τ ++ [s]) σ3 (tv ++ [x]) H3 _ r1 rfl hn hW l4 l5 S4 nb2 e4 ?_
            have kk : Keep (A ++ B) σ σ3 := kp.trans (k3.mono fun j m => List.mem_append_left _ m)
            simp only [e4] at e2
            cases r1 with
            | nx e5 => exact fun σ4 H4 FS4 l6 l7 k4 S5 => ⟨_, rfl, hlt, e5, FS4, l6, l7, kk.trans (k4.mono fun j m => List.mem_append_right _ m), by simpa using S5, e2⟩
            | ct e5 => exact fun σ4 H4 FS4 l6 l7 k4 S5 => ⟨_, rfl, hlt, e5, FS4, l6, l7, kk.trans (k4.mono fun j m => List.mem_append_right _ m), by simpa using S5, e2⟩
            | bk e5 =>
              cases e2
              exact fun σ4 H4 FS4 l6 l7 k4 S5 => p σ4 H4 FS4 l6 l7 (kk.trans (k4.mono fun j m => List.mem_append_right _ m)) (by rw [← List.append_assoc, ← List.append_assoc] at S5; exact S5.pop)
            | rt r2 e5 =>
              cases e2
              intro v' σ4 H4 FS4 l6 l7 k4 S5
              obtain ⟨v2, ev2, rv2, tk2⟩ := Sim.top (k := r2.1) (d := r2.2) S5 (by rw [List.length_append, l6, hn]; exact Nat.le_add_right _ _)
              cases ev2
              have S6 := S5.pop
              rw [← List.append_assoc, ← List.append_assoc] at S6
              have tk3 : TOk g FS4 (e5 ++ τ) r2.1 (FS4 (e5 ++ (τ ++ [s])).length) := by
                have up : ∀ {j : Nat} {s' : S}, (e5 ++ τ)[j]? = some s' → (e5 ++ (τ ++ [s]))[j]? = some s' := fun ej => by rw [← List.append_assoc, List.getElem?_append_left (lt_of_get ej)]; exact ej
                exact ⟨tk2.tree, tk2.old, fun z j s' ej => tk2.excl z j s' (up ej), fun z j s' ej => tk2.shar z j s' (up ej), fun j s' ej => tk2.bor j s' (up ej)⟩
              exact p v' σ4 H4 _ l6 l7 (kk.trans (k4.mono fun j m => List.mem_append_right _ m)) (S6.pop.push rv2 tk3 fun _ => by rw [List.length_append, l6, hn]; exact Nat.le_add_right _ _)
      · have ei : i = items.length := by omega
        subst ei
        refine .inl ⟨src.stop g FS' _ _ H' _ hK S2 ep ev, ?_⟩
        simp only [List.drop_length, sLoop, Option.some.injEq] at e2
        subst e2
        exact p σ' H' FS' l2 l3 kp S2.pop
def sWhile (fc : List S → Option (Bool × List S)) (fb : List S → Option Fl) : Nat → List S → Option Fl
  | 0, _ => none
  | m + 1, env => match fc env with
    | none => none
    | some (false, e) => some (.nx e)
    | some (true, e) => match fb e with
      | some (.nx e') => sWhile fc fb m e'
      | some (.ct e') => sWhile fc fb m e'
      | some (.bk e') => some (.nx e')
      | some (.rt r e') => some (.rt r e')
      | none => none
theorem rs_while {tc : TT} {tb : TS} {fc : List S → Option (Bool × List S)} {fb : List S → Option Fl} (N : Nat) (hc : RB K n W Y tc fc) (hb : RS K n W A Z tb fb) : RS K n W A Z (tWhile tc tb) (sWhile fc fb N) := by
  intro g FS env τ σ tv H D r hK hn hW he hs Sm nb e p
  refine ⟨fun m σ' H' => ∃ env' FS', env'.length = n ∧ σ'.length = n ∧ Keep A σ σ' ∧ Sim g FS' (env' ++ τ) (σ' ++ tv) H' ∧ sWhile fc fb m env' = some r, ⟨N, env, FS, he, hs, Keep.refl, Sm, e⟩, ?_⟩
  rintro m σ' H' ⟨env', FS', l1, l2, kp, S1, e1⟩
  cases m with
  | zero => cases e1
  | succ m =>
    simp only [sWhile] at e1
    cases e2 : fc env' with
    | none => rw [e2] at e1; cases e1
    | some q =>
      obtain ⟨b, env2⟩ := q
      refine hc g FS' env' τ σ' tv H' _ b env2 hK hn hW l1 l2 S1 (fun _ => nb.nb) e2 fun H2 FS2 l3 S2 => ?_
      cases b with
      | false =>
        rw [e2] at e1; cases e1
        rw [if_neg Bool.false_ne_true]
        exact p σ' H2 FS2 l3 l2 kp S2
      | true =>
        rw [if_pos rfl]
        simp only [e2] at e1
        cases e3 : fb env2 with
        | none => rw [e3] at e1; cases e1
        | some r1 =>
          refine ⟨fun σ3 H3 => ∃ env' FS', env'.length = n ∧ σ3.length = n ∧ Keep A σ σ3 ∧ Sim g FS' (env' ++ τ) (σ3 ++ tv) H3 ∧ sWhile fc fb m env' = some r, fun σ3 H3 q => ⟨m, Nat.lt_succ_self m, q⟩, ?_⟩
          refine hb g FS2 env2 τ σ' tv H2 _ r1 hK hn hW l3 l2 S2 nb e3 ?_
          rw [e3] at e1
          cases r1 with
          | nx e5 => exact fun σ4 H4 FS4 l6 l7 k4 S5 => ⟨e5, FS4, l6, l7, kp.trans k4, S5, e1⟩
          | ct e5 => exact fun σ4 H4 FS4 l6 l7 k4 S5 => ⟨e5, FS4, l6, l7, kp.trans k4, S5, e1⟩
          | bk e5 => cases e1; exact fun σ4 H4 FS4 l6 l7 k4 S5 => p σ4 H4 FS4 l6 l7 (kp.trans k4) S5
          | rt r2 e5 => cases e1; exact fun v σ4 H4 FS4 l6 l7 k4 S5 => p v σ4 H4 FS4 l6 l7 (kp.trans k4) S5
end
end RG

set_option maxRecDepth 100000
set_option maxHeartbeats 4000000
namespace RG
open PySem PySem.Spec PyProof.Rows L2

/-! ### list comprehensions -/
def wipeE (env : List S) : List Nat → List S
  | [] => env
  | v :: vs => (wipeE env vs).set v .gone
theorem wipeE_length (env : List S) : ∀ vs : List Nat, (wipeE env vs).length = env.length
  | [] => rfl
  | v :: vs => by unfold wipeE; rw [List.length_set, wipeE_length env vs]
theorem wipeE_get {env : List S} {i : Nat} {s : S} : ∀ {vs : List Nat}, (wipeE env vs)[i]? = some s → s.d?.isSome = true → env[i]? = some s ∧ i ∉ vs
  | [], h, _ => ⟨h, by simp⟩
  | v :: vs, h, hd => by
    unfold wipeE at h
    rcases get_set h with ⟨_, q, _⟩ | ⟨q, h⟩
    · subst q; cases hd
    · obtain ⟨h1, h2⟩ := wipeE_get h hd
      exact ⟨h1, by simp only [List.mem_cons, not_or]; exact ⟨q, h2⟩⟩
theorem wipe_at {σ : L2.St} {i : Nat} : ∀ {vs : List Nat}, i ∉ vs → (wipe σ vs)[i]? = σ[i]?
  | [], _ => rfl
  | v :: vs, h => by
    unfold wipe
    simp only [List.mem_cons, not_or] at h
    rw [List.getElem?_set_ne (Ne.symm h.1)]
    exact wipe_at h.2
theorem wipe_in {σ : L2.St} {i : Nat} : ∀ {vs : List Nat}, i ∈ vs → i < σ.length → (wipe σ vs)[i]? = some none
  | v :: vs, h, hl => by
    unfold wipe
    by_cases hv : i = v
    · subst hv; rw [List.getElem?_set_self (by rw [wipe_length]; exact hl)]
    · rw [List.getElem?_set_ne (Ne.symm hv)]
      rcases List.mem_cons.mp h with q | q
      · exact absurd q hv
      · exact wipe_in q hl
theorem wipe_keep {σ σ' : L2.St} {A vs : List Nat} (k : Keep A σ σ') (h : ∀ i ∈ A, i ∈ vs) (hl : σ'.length = σ.length) : wipe σ' vs = wipe σ vs := by
  apply List.ext_getElem?
  intro j
  by_cases hj : j ∈ vs
  · by_cases hjl : j < σ.length
    · rw [wipe_in hj hjl, wipe_in hj (by rw [hl]; exact hjl)]
    · rw [List.getElem?_eq_none (by rw [wipe_length, hl]; omega), List.getElem?_eq_none (by rw [wipe_length]; omega)]
  · rw [wipe_at hj, wipe_at hj]
    exact k j fun m => hj (h j m)
theorem wipe_wipe {σ : L2.St} {vs : List Nat} : wipe (wipe σ vs) vs = wipe σ vs := wipe_keep (A := vs) (fun j n => wipe_at n) (fun _ m => m) (wipe_length σ vs)

section
variable {K : PySem.W.Frag} {n : Nat} {W A B : List Nat} {Z Z' Y Y' Y2 : Bool}
/-- the names of a comprehension's block forgotten, on both sides -/
theorem Sim.wiped {g : G} {FS : Nat → List Addr} {env τ : List S} {σ σ' : L2.St} {tv : List (Option V)} {H : Hp} {vs : List Nat} (h : Sim g FS (env ++ τ) (σ ++ tv) H) (he : env.length = n) (hs : σ.length = n) (hs' : σ'.length = n) (hk : wipe σ' vs = wipe σ vs) : Sim g FS (wipeE env vs ++ τ) (σ' ++ tv) H := by
  have wl : (wipeE env vs).length = n := by rw [wipeE_length]; exact he
  have up : ∀ {i : Nat} {s : S}, (wipeE env vs ++ τ)[i]? = some s → s.d?.isSome = true → (env ++ τ)[i]? = some s ∧ (i < n → i ∉ vs) := fun {i s} e hd => by
    by_cases hi : i < n
    · rw [List.getElem?_append_left (by rw [wl]; exact hi)] at e
      obtain ⟨h1, h2⟩ := wipeE_get e hd
      exact ⟨by rw [List.getElem?_append_left (by rw [he]; exact hi)]; exact h1, fun _ => h2⟩
    · rw [List.getElem?_append_right (by rw [wl]; omega), wl] at e
      exact ⟨by rw [List.getElem?_append_right (by rw [he]; omega), he]; exact e, fun z => absurd z hi⟩
  refine (h.sub (L' := wipeE env vs ++ τ) (by rw [List.length_append, List.length_append, wl, he]) fun e hd => (up e hd).1).vals (by rw [List.length_append, List.length_append, hs, hs']) fun i s e hd => ?_
  by_cases hi : i < n
  · have hv := (up e hd).2 hi
    rw [List.getElem?_append_left (by rw [hs']; exact hi), List.getElem?_append_left (by rw [hs]; exact hi), ← wipe_at (σ := σ') hv, hk, wipe_at hv]
  · rw [List.getElem?_append_right (by rw [hs']; omega), List.getElem?_append_right (by rw [hs]; omega), hs, hs']
def tt1 (t : T) : Bool := (match t.1 with | .own => true | _ => false) || t.2.flat
def cLoop (vs : List Nat) (ft : T → List S → Option (List S)) (fc : List S → Option (Bool × List S)) (fe : List S → Option (T × List S)) : List T → List D → List S → Option (List D × List S)
  | [], acc, env => some (acc, env)
  | r :: rs, acc, env => match ft r env with
    | none => none
    | some env1 => match fc env1 with
      | none => none
      | some (false, env2) => cLoop vs ft fc fe rs acc (wipeE env2 vs)
      | some (true, env2) => match fe env2 with
        | none => none
        | some (t, env3) => if tt1 t then cLoop vs ft fc fe rs (acc ++ [t.2]) (wipeE env3 vs) else none
def eComp (vs : List Nat) (fi : List S → Option (S × List T × List S)) (ft : T → List S → Option (List S)) (fc : List S → Option (Bool × List S)) (fe : List S → Option (T × List S)) : List S → Option (T × List S) := fun env => match fi env with
  | none => none
  | some (_, items, env1) => match cLoop vs ft fc fe items [] (wipeE env1 vs) with
    | none => none
    | some (acc, env2) => some ((.own, .lst acc), wipeE env2 vs)
theorem re_comp {wi : TI} {gt : TG} {tt : TT} {te : TE} {vs : List Nat} {fi : List S → Option (S × List T × List S)} {ft : T → List S → Option (List S)} {fc : List S → Option (Bool × List S)} {fe : List S → Option (T × List S)}
    (hi : RI K n W Y wi fi) (hg : RT K n W A gt ft) (hc : RB K n W Y' tt fc) (he' : RE K n W Y2 te fe) (hA : ∀ i ∈ A, i ∈ vs) (hAW : ∀ i ∈ A, i ∉ W) :
    RE K n W (Y || Y' || Y2) (tLc wi gt tt te vs) (eComp vs fi ft fc fe) := by
  intro g FS env τ σ tv H Q r env' hK hn hW he hs Sm yb e h
  unfold eComp at e
  split at e
  · cases e
  · rename_i s items env1 e1
    cases e2 : cLoop vs ft fc fe items [] (wipeE env1 vs) with
    | none => rw [e2] at e; cases e
    | some q =>
      obtain ⟨acc, env2⟩ := q
      rw [e2] at e
      simp only [Option.some.injEq, Prod.mk.injEq] at e
      obtain ⟨rfl, rfl⟩ := e
      refine hi g FS env τ σ tv H _ s items env1 hK hn hW he hs Sm (fun q => yb (by simp [q])) e1 fun J H1 FS1 x l1 S1 src hbor => ?_
      intro Dn hD
      have hsw : (wipe σ vs).length = n := by rw [wipe_length]; exact hs
      have S1' : Sim g FS1 (env1 ++ (τ ++ [s])) (σ ++ (tv ++ [x])) H1 := by simpa using S1
      have S2 : Sim g FS1 (wipeE env1 vs ++ (τ ++ [s])) (wipe σ vs ++ (tv ++ [x])) H1 := S1'.wiped l1 hs hsw wipe_wipe
      have lw : (wipeE env1 vs).length = n := by rw [wipeE_length]; exact l1
      have hpn : ∀ {e0 : List S}, e0.length = n → g.n ≤ (e0 ++ (τ ++ [s])).length := fun q => by rw [List.length_append, q, hn]; exact Nat.le_add_right _ _
      have sm0 : Same H1 (upd H1 Dn (.lst [])) := same_upd hD
      have tk0 : TOk g FS1 (wipeE env1 vs ++ (τ ++ [s])) .own [Dn] := S2.tokNew (by simp) fun a m => by rw [List.mem_singleton.mp m]; exact hD
      have S3 := (S2.same sm0).push (k := .own) (d := .lst []) (v := .ref Dn) (F := [Dn]) (by subst hK; exact .lst upd_same (Nat.zero_le _) .nil) tk0 fun z => (nomatch z)
      -- the state ahead of a turn
      refine ⟨fun i m H' => m = items.length - i ∧ i ≤ items.length ∧ ∃ env' ac FS', env'.length = n ∧ ac.length ≤ i ∧ Sim g FS' ((env' ++ (τ ++ [s])) ++ [.t .own (.lst ac)]) ((wipe σ vs ++ (tv ++ [x])) ++ [some (.ref Dn)]) H' ∧ cLoop vs ft fc fe (items.drop i) ac env' = some (acc, env2),
        ⟨items.length, by simp, Nat.zero_le _, _, [], _, lw, Nat.le_refl _, S3, e2⟩, ?_⟩
      rintro i m H' ⟨rfl, hle, env', ac, FS', l2, hac, S4, e3⟩
      have ep : ((env' ++ (τ ++ [s])) ++ [S.t .own (.lst ac)])[(env' ++ τ).length]? = some s := by
        rw [List.getElem?_append_left (by simp), ← List.append_assoc]; simp
      have hlv : (env' ++ τ).length = (wipe σ vs ++ tv).length := by
        have := S4.len
        simp only [List.length_append, List.length_cons, List.length_nil] at this ⊢
        omega
      have ev : ((wipe σ vs ++ (tv ++ [x])) ++ [some (V.ref Dn)])[(env' ++ τ).length]? = some x := by
        rw [List.getElem?_append_left (by rw [hlv]; simp), ← List.append_assoc, hlv]; simp
      by_cases hlt : i < items.length
      · obtain ⟨hgo, hy⟩ := src.go g FS' _ _ H' _ hK S4 ep ev i items[i] (by simp [hlt])
        have hlen := src.len g FS' _ _ H' _ hK S4 ep ev
        refine .inr ⟨hgo, fun H2 => ∃ m', m' = items.length - (i + 1) ∧ i + 1 ≤ items.length ∧ ∃ env' ac FS', env'.length = n ∧ ac.length ≤ i + 1 ∧ Sim g FS' ((env' ++ (τ ++ [s])) ++ [.t .own (.lst ac)]) ((wipe σ vs ++ (tv ++ [x])) ++ [some (.ref Dn)]) H2 ∧ cLoop vs ft fc fe (items.drop (i + 1)) ac env' = some (acc, env2),
          fun H2 ⟨m', q1, q2, q3⟩ => ⟨m', by omega, q1, q2, q3⟩, fun v H2 hyl => ?_⟩
        obtain ⟨sm, F, rv, tk⟩ := hy v H2 hyl
        subst hK
        have S5 := (S4.same sm).push (k := items[i].1) (d := items[i].2) rv tk fun _ => by simp [l2, hn]
        rw [List.drop_eq_getElem_cons hlt] at e3
        simp only [cLoop] at e3
        cases e4 : ft items[i] env' with
        | none => rw [e4] at e3; cases e3
        | some env3 =>
          rw [e4] at e3
          rw [List.append_assoc env' (τ ++ [s]), List.append_assoc (wipe σ vs) (tv ++ [x])] at S5
          refine hg g _ env' _ (wipe σ vs) _ H2 v _ items[i] env3 rfl hn hW l2 hsw S5 (.inr hAW) e4 fun σ3 H3 FS3 l3 l4 k3 S6 => ?_
          have hw3 : wipe σ3 vs = wipe (wipe σ vs) vs := wipe_keep k3 hA (by rw [l4, hsw])
          refine ⟨hw3.trans wipe_wipe, ?_⟩
          cases e5 : fc env3 with
          | none => simp only [e5] at e3; cases e3
          | some q =>
            obtain ⟨b, env4⟩ := q
            have nbs : ∀ {yy : Bool}, (yy = true → (Y || Y' || Y2) = true) → yy = true → NoBor (τ ++ [s] ++ [S.t .own (.lst ac)]) := fun hy q => ((yb (hy q)).snoc hbor).snoc rfl
            refine hc g FS3 env3 _ σ3 _ H3 _ b env4 rfl hn hW l3 l4 S6 (nbs fun q => by simp [q]) e5 fun H4 FS4 l5 S7 => ?_
            cases b with
            | false =>
              rw [if_neg Bool.false_ne_true]
              simp only [e5] at e3
              have S8 := S7.wiped (σ' := wipe σ vs) (vs := vs) l5 l4 hsw hw3.symm
              exact ⟨_, rfl, hlt, _, ac, FS4, by rw [wipeE_length]; exact l5, Nat.le_succ_of_le hac, by simpa using S8, e3⟩
            | true =>
              rw [if_pos rfl]
              simp only [e5] at e3
              cases e6 : fe env4 with
              | none => rw [e6] at e3; cases e3
              | some q =>
                obtain ⟨t, env5⟩ := q
                rw [e6] at e3
                simp only at e3
                split at e3
                · rename_i ht1
                  refine he' g FS4 env4 _ σ3 _ H4 _ t env5 rfl hn hW l5 l4 S7 (nbs fun q => by simp [q]) e6 fun y H5 FS5 l6 S9 => ?_
                  -- the new item, off the top
                  have hge : g.n ≤ (env5 ++ (τ ++ [s] ++ [S.t .own (.lst ac)])).length := by rw [List.length_append, l6, hn]; exact Nat.le_add_right _ _
                  obtain ⟨y', ey, ry, tky⟩ := Sim.top (k := t.1) (d := t.2) S9 hge
                  cases ey
                  have tko : TOk g FS5 (env5 ++ (τ ++ [s] ++ [S.t .own (.lst ac)])) .own (FS5 (env5 ++ (τ ++ [s] ++ [S.t .own (.lst ac)])).length) := by
                    unfold tt1 at ht1
                    cases ht : t.1 with
                    | own => rw [ht] at tky; exact tky
                    | _ =>
                      rw [ht] at ht1
                      rw [ry.flat (by simpa using ht1)]; exact TOk.nil _
                  generalize hF2 : FS5 (env5 ++ (τ ++ [s] ++ [S.t .own (.lst ac)])).length = F2 at ry tko
                  have S10 := S9.pop
                  have pe : (env5 ++ (τ ++ [s] ++ [S.t .own (.lst ac)]))[(env5 ++ (τ ++ [s])).length]? = some (.t .own (.lst ac)) := by
                    rw [← List.append_assoc]; simp
                  have hlv5 : (env5 ++ (τ ++ [s])).length = (σ3 ++ (tv ++ [x])).length := by
                    have := S10.len
                    simp only [List.length_append, List.length_cons, List.length_nil] at this ⊢
                    omega
                  have pv5 : (σ3 ++ (tv ++ [x] ++ [some (V.ref Dn)]))[(env5 ++ (τ ++ [s])).length]? = some (some (.ref Dn)) := by
                    rw [← List.append_assoc, hlv5]; simp
                  obtain ⟨w, ew, rw'⟩ := S10.rep _ _ _ pe rfl
                  rw [pv5] at ew; cases ew
                  obtain ⟨a', vs', F', q1, q2, q3, q4, q5⟩ := rw'.lstV
                  cases q1
                  have hvl : vs'.length = ac.length := q4.length
                  refine ⟨vs', q3, by rw [hvl]; omega, ?_⟩
                  have hx : Ext (fun a => a ∈ FS5 (env5 ++ (τ ++ [s])).length) H5 (upd H5 Dn (.lst (vs' ++ [y]))) := ext_upd (by rw [q2]; exact List.mem_cons_self) q3 trivial
                  have hx0 : Ext (fun a => a = Dn) H5 (upd H5 Dn (.lst (vs' ++ [y]))) := ext_upd rfl q3 trivial
                  have hF' := S10.nod _ _ pe rfl
                  rw [q2] at hF'
                  have dis2 : ∀ a ∈ F2, a ∉ FS5 (env5 ++ (τ ++ [s])).length := tko.excl rfl _ _ pe rfl
                  have S11 := S10.modify (d' := .lst (ac ++ [t.2])) (v := .ref Dn) (F' := Dn :: (F' ++ F2)) (F2 := F2) pe rfl pv5 hx (fun a na => by
                      by_cases ha : a = Dn
                      · subst ha; rw [upd_same]; exact fun z => (nomatch z)
                      · rw [upd_ne ha]; exact na)
                    (.lst upd_same (by rw [List.length_append, hvl]; show ac.length + 1 ≤ _; omega) ((q4.ext hx0 fun a m z => (List.nodup_cons.mp hF').1 (z ▸ m)).append (RepL.one (ry.ext hx0 fun a m z => dis2 a m (by rw [q2, z]; exact List.mem_cons_self)))))
                    ?_ tko (.inr (.inr (by rw [List.length_append, l6, hn]; exact Nat.le_add_right _ _))) fun a m => ?_
                  · have es : (env5 ++ (τ ++ [s] ++ [S.t .own (.lst ac)])).set (env5 ++ (τ ++ [s])).length (S.with (.t .own (.lst ac)) (.lst (ac ++ [t.2]))) = env5 ++ (τ ++ [s] ++ [S.t .own (.lst (ac ++ [t.2]))]) := by
                      rw [← List.append_assoc, ← List.append_assoc, List.set_append_right _ _ (Nat.le_refl _)]
                      simp [S.with]
                    rw [es] at S11
                    have S12 := S11.wiped (σ' := wipe σ vs) (vs := vs) l6 l4 hsw hw3.symm
                    exact ⟨_, rfl, hlt, _, ac ++ [t.2], _, by rw [wipeE_length]; exact l6, by rw [List.length_append]; exact Nat.succ_le_succ hac, by simpa using S12, e3⟩
                  · refine List.nodup_cons.mpr ⟨fun m => ?_, List.nodup_append.mpr ⟨(List.nodup_cons.mp hF').2, (tko.tree rfl).1, fun a m b m' q => ?_⟩⟩
                    · rcases List.mem_append.mp m with m | m
                      · exact (List.nodup_cons.mp hF').1 m
                      · exact dis2 _ m (by rw [q2]; exact List.mem_cons_self)
                    · subst q
                      exact dis2 _ m' (by rw [q2]; exact List.mem_cons_of_mem _ m)
                  · rcases List.mem_cons.mp m with q | m
                    · exact .inl (by rw [q2, q]; exact List.mem_cons_self)
                    · rcases List.mem_append.mp m with m | m
                      · exact .inl (by rw [q2]; exact List.mem_cons_of_mem _ m)
                      · exact .inr (.inl m)
                · cases e3
      · have ei : i = items.length := by omega
        subst ei
        refine .inl ⟨src.stop g FS' _ _ H' _ hK S4 ep ev, ?_⟩
        simp only [List.drop_length, cLoop, Option.some.injEq, Prod.mk.injEq] at e3
        obtain ⟨rfl, rfl⟩ := e3
        subst hK
        obtain ⟨v', ev', rv', tk'⟩ := Sim.top S4 (hpn l2)
        cases ev'
        have S5 := S4.pop
        rw [← List.append_assoc, ← List.append_assoc] at S5
        have S6 := S5.pop.wiped (σ' := σ) (vs := vs) l2 hsw hs wipe_wipe.symm
        have up : ∀ {j : Nat} {s' : S}, (wipeE env' vs ++ τ)[j]? = some s' → s'.d?.isSome = true → (env' ++ (τ ++ [s]))[j]? = some s' := fun {j s'} ej hd => by
          rw [← List.append_assoc]
          by_cases hj : j < n
          · rw [List.getElem?_append_left (by rw [wipeE_length, l2]; exact hj)] at ej
            rw [List.append_assoc, List.getElem?_append_left (by rw [l2]; exact hj)]
            exact (wipeE_get ej hd).1
          · rw [List.getElem?_append_right (by rw [wipeE_length, l2]; omega), wipeE_length, l2] at ej
            have e9 : (env' ++ τ)[j]? = some s' := by rw [List.getElem?_append_right (by rw [l2]; omega), l2]; exact ej
            rw [List.getElem?_append_left (lt_of_get e9)]; exact e9
        have tk3 : TOk g FS' (wipeE env' vs ++ τ) .own (FS' (env' ++ (τ ++ [s])).length) :=
          ⟨tk'.tree, tk'.old, fun z j s' ej hd => tk'.excl z j s' (up ej hd) hd, fun z j s' ej hw => tk'.shar z j s' (up ej (S.some_of_wr hw)) hw, fun j s' ej hw => tk'.bor j s' (up ej (S.some_of_wr hw)) hw⟩
        exact h _ H' _ (by rw [wipeE_length]; exact l2) (S6.push rv' tk3 fun z => (nomatch z))
end
end RG

set_option maxRecDepth 100000
set_option maxHeartbeats 4000000
namespace RG
open PySem PySem.Spec PyProof.Rows L2

/-! ### contexts: a def's body, a comprehension's block -/
structure XF (P : Program) (w : World) (K : PySem.W.Frag) (mg : Str → Option Value) (base : Heap) (N : List Str) (sc : Scope) (k : Nat) (X : Cx) : Prop where
  hP : X.prog = P
  hw : X.w = w
  hK : X.K = K
  hmg : X.mg = mg
  hb : X.base = base
  hN : X.N = N
  calm : X.calm = true
  hsc : X.env.scope = sc
  room : Room k X.A
  nd : N.Nodup
  xe : X.xe = fun _ _ => False
abbrev XS := Cx → Prop
def Ctx (P : Program) (w : World) (K : PySem.W.Frag) (mg : Str → Option Value) (base : Heap) (N : List Str) (sc : Scope) (k : Nat) (C : XS) : Prop := ∀ X, C X → XF P w K mg base N sc k X
/-- a comprehension's block within -/
def blkS (C : XS) (scope : Scope) : XS := fun X => ∃ X1, C X1 ∧ ∃ (s : Shared) (H : Hp) (Cc : Addr) (cl : List (Str × Addr)) (fp : List Addr), X = X1.blk s H scope (compEnvC scope cl Cc X1.env) fp

def BE (C : XS) (K : PySem.W.Frag) (n : Nat) (W : List Nat) (Y : Bool) (e : Expr) (f : List S → Option (T × List S)) : Prop := ∃ t, (∀ X, C X → PE X e t) ∧ RE K n W Y t f
def BP (C : XS) (K : PySem.W.Frag) (n : Nat) (W : List Nat) (e : Expr) (f : List S → Option (Pk × D)) : Prop := ∃ t, (∀ X, C X → PE X e t) ∧ RP K n W t f
def BA (C : XS) (K : PySem.W.Frag) (n : Nat) (W : List Nat) (Y : Bool) (es : List Expr) (f : List S → Option (List Ar × List S)) : Prop := ∃ t, (∀ X, C X → PA X es t) ∧ RA K n W Y t f
def BPA (C : XS) (K : PySem.W.Frag) (n : Nat) (W : List Nat) (es : List Expr) (f : List S → Option (List (Pk × D))) : Prop := ∃ t, (∀ X, C X → PA X es t) ∧ RPA K n W t f
def BT (C : XS) (K : PySem.W.Frag) (n : Nat) (W : List Nat) (Y : Bool) (e : Expr) (f : List S → Option (Bool × List S)) : Prop := ∃ t, (∀ X, C X → PT X e t) ∧ RB K n W Y t f
def BW (C : XS) (K : PySem.W.Frag) (n : Nat) (W : List Nat) (Y : Bool) (e : Expr) (f : List S → Option (Bool × List S)) : Prop := ∃ t, (∀ X, C X → PW X e t) ∧ RB K n W Y t f
def BS (C : XS) (K : PySem.W.Frag) (n : Nat) (W A : List Nat) (Z : Bool) (st : Stmt) (f : List S → Option Fl) : Prop := ∃ t, (∀ X, C X → PS X st t) ∧ RS K n W A Z t f
def BSs (C : XS) (K : PySem.W.Frag) (n : Nat) (W A : List Nat) (Z : Bool) (st : List Stmt) (f : List S → Option Fl) : Prop := ∃ t, (∀ X, C X → PSs X st t) ∧ RS K n W A Z t f
def BG (C : XS) (K : PySem.W.Frag) (n : Nat) (W A : List Nat) (e : Expr) (f : T → List S → Option (List S)) : Prop := ∃ t, (∀ X, C X → PG X e t) ∧ RT K n W A t f
def BI (C : XS) (K : PySem.W.Frag) (n : Nat) (W : List Nat) (Y : Bool) (tg e : Expr) (f : List S → Option (S × List T × List S)) : Prop := ∃ t, (∀ X, C X → PI X tg e t) ∧ RI K n W Y t f

section
variable {P : Program} {w : World} {K : PySem.W.Frag} {mg : Str → Option Value} {base : Heap} {N : List Str} {sc : Scope} {k n : Nat} {C : XS} {W A B : List Nat} {Y Y' Y2 Z Z' : Bool}
variable {pos : Pos} {a b e : Expr} {es : List Expr}

/-! #### from expressions to expressions -/
theorem be_p {f : List S → Option (Pk × D)} (h : BP C K n W e f) : BE C K n W false e (lift f) := let ⟨t, h1, h2⟩ := h; ⟨t, h1, re_lift h2⟩
theorem ba_nil : BA C K n W false [] fun env => some ([], env) := ⟨_, fun _ _ => pa_nil, ra_nil⟩
theorem ba_cons {fa : List S → Option (T × List S)} {fr : List S → Option (List Ar × List S)} (ha : BE C K n W Y e fa) (hr : BA C K n W Y' es fr)
    (hs : ∀ (env : Env), starEach (e :: es) env = (false, eval e env) :: starEach es env := by intro _; rfl) : BA C K n W (Y || Y') (e :: es) (aCons Y' fa fr) :=
  let ⟨_, h1, h2⟩ := ha; let ⟨_, r1, r2⟩ := hr; ⟨_, fun X hX => pa_cons (h1 X hX) (r1 X hX) (hs _), ra_cons h2 r2⟩
theorem bpa_nil : BPA C K n W [] fun _ => some [] := ⟨_, fun _ _ => pa_nil, rpa_nil⟩
def pCons (fa : List S → Option (Pk × D)) (fr : List S → Option (List (Pk × D))) : List S → Option (List (Pk × D)) := fun env => (fa env).bind fun x => (fr env).map fun xs => x :: xs
theorem bpa_cons {fa : List S → Option (Pk × D)} {fr : List S → Option (List (Pk × D))} (ha : BP C K n W e fa) (hr : BPA C K n W es fr)
    (hs : ∀ (env : Env), starEach (e :: es) env = (false, eval e env) :: starEach es env := by intro _; rfl) : BPA C K n W (e :: es) (pCons fa fr) :=
  let ⟨_, h1, h2⟩ := ha; let ⟨_, r1, r2⟩ := hr; ⟨_, fun X hX => pa_cons (h1 X hX) (r1 X hX) (hs _), rpa_cons h2 r2⟩
/-- a slot that who gets it writes -/
theorem ba_ptr {i : Nat} {x : Str} {fr : List S → Option (List Ar × List S)} (c : Ctx P w K mg base N sc k C) (hi : N[i]? = some x) (hv : Vis sc x) (hin : i < n) (hr : BA C K n W Y es fr)
    (hs : ∀ (env : Env), starEach (.Name x pos :: es) env = (false, eval (.Name x pos) env) :: starEach es env := by intro _; rfl) (hd : (x == ("__debug__" : Str)) = false := by decide) (hcd : (x == ("__classdict__" : Str)) = false := by decide) : BA C K n W Y (.Name x pos :: es) (aPtr i fr) :=
  let ⟨_, r1, r2⟩ := hr; ⟨_, fun X hX => pa_cons (pe_var (i := i) (by rw [(c X hX).hN]; exact hi) (by rw [(c X hX).hsc]; exact hv) hd hcd) (r1 X hX) (hs _), ra_ptr r2 hin⟩

/-! #### names, constants -/
theorem bp_var {i : Nat} {x : Str} (c : Ctx P w K mg base N sc k C) (hi : N[i]? = some x) (hv : Vis sc x) (hin : i < n) (hd : (x == ("__debug__" : Str)) = false := by decide) (hcd : (x == ("__classdict__" : Str)) = false := by decide) : BP C K n W (.Name x pos) (pVar W i) :=
  ⟨_, fun X hX => pe_var (i := i) (by rw [(c X hX).hN]; exact hi) (by rw [(c X hX).hsc]; exact hv) hd hcd, rp_var hin⟩
theorem be_take {i : Nat} {x : Str} (c : Ctx P w K mg base N sc k C) (hi : N[i]? = some x) (hv : Vis sc x) (hin : i < n) (hd : (x == ("__debug__" : Str)) = false := by decide) (hcd : (x == ("__classdict__" : Str)) = false := by decide) : BE C K n W true (.Name x pos) (eTake i) :=
  ⟨_, fun X hX => pe_var (i := i) (by rw [(c X hX).hN]; exact hi) (by rw [(c X hX).hsc]; exact hv) hd hcd, re_take hin⟩
def pC (d : D) : List S → Option (Pk × D) := fun _ => some (some .own, d)
theorem bp_int {i : Int} {j : Nat} : BP C K n W (.Constant (.int i) j pos) (pC (.int i)) := ⟨_, fun _ _ => pe_int, rp_c fun _ => .int i⟩
theorem bp_bl {b : Bool} {j : Nat} : BP C K n W (.Constant (.bool b) j pos) (pC (.bl b)) := ⟨_, fun _ _ => pe_bl, rp_c fun _ => .bl b⟩
theorem bp_non {j : Nat} : BP C K n W (.Constant .none j pos) (pC .non) := ⟨_, fun _ _ => pe_non, rp_c fun _ => .non⟩
theorem bp_str {x : Str} {j : Nat} : BP C K n W (.Constant (.str x) j pos) (pC (.str x)) := ⟨_, fun _ _ => pe_str, rp_c fun _ => .str x⟩
/-- what a module's name holds, for good -/
structure GVal (K : PySem.W.Frag) (mg : Str → Option Value) (x : Str) (d : D) : Prop where
  ex : ∃ u v, mg x = some u ∧ RelV v u ∧ ∀ H, Rep K H v d []
theorem bp_glob {x : Str} {d : D} (c : Ctx P w K mg base N sc k C) (hg : sc.names.lookup x = some .globalImplicit) (h : GVal K mg x d) (hd : (x == ("__debug__" : Str)) = false := by decide) : BP C K n W (.Name x pos) (pC d) := by
  obtain ⟨u, v, h1, h2, h3⟩ := h.ex
  exact ⟨tC v, fun X hX => pe_glob (show X.env.scope.names.lookup x = _ by rw [(c X hX).hsc]; exact hg) (by rw [(c X hX).hmg]; exact h1) h2 hd, rp_c h3⟩

/-! #### operators: two expressions, an operation by values -/
def OpA (C : XS) (f : Value → Value → Sem Value) (r : R2) : Prop := ∀ X, C X → OpR X f r
theorem be_bin {op : Operator} {r : R2} {o : List D → Option (Rk × D)} {fa fb : List S → Option (T × List S)} (hop : OpA C (binaryOp op) r) (ho : VOp K (rl2 r) o) (ha : BE C K n W Y a fa) (hb : BE C K n W Y' b fb) :
    BE C K n W (Y || (Y' || false)) (.BinOp a op b pos) (eOp o (aCons (Y' || false) fa (aCons false fb fun env => some ([], env)))) := by
  obtain ⟨ta, a1, a2⟩ := ha
  obtain ⟨tb, b1, b2⟩ := hb
  exact ⟨tOp r ta tb, fun X hX => pe_op (hop X hX) (a1 X hX) (b1 X hX), re_op (r := rl2 r) (ra_cons a2 (ra_cons b2 ra_nil)) ho⟩
theorem bp_bin {op : Operator} {r : R2} {o : List D → Option (Rk × D)} {fa fb : List S → Option (Pk × D)} (hop : OpA C (binaryOp op) r) (ho : VOp K (rl2 r) o) (ha : BP C K n W a fa) (hb : BP C K n W b fb) :
    BP C K n W (.BinOp a op b pos) (pOp o (pCons fa (pCons fb fun _ => some []))) := by
  obtain ⟨ta, a1, a2⟩ := ha
  obtain ⟨tb, b1, b2⟩ := hb
  exact ⟨tOp r ta tb, fun X hX => pe_op (hop X hX) (a1 X hX) (b1 X hX), rp_op (r := rl2 r) (rpa_cons a2 (rpa_cons b2 rpa_nil)) ho⟩
theorem be_cmp {op : CmpOp} {r : R2} {o : List D → Option (Rk × D)} {fa fb : List S → Option (T × List S)} (hop : OpA C (compareOp op) r) (ho : VOp K (rl2 r) o) (ha : BE C K n W Y a fa) (hb : BE C K n W Y' b fb) (hm : behindInMarks op b = false) :
    BE C K n W (Y || (Y' || false)) (.Compare a [op] [b] pos) (eOp o (aCons (Y' || false) fa (aCons false fb fun env => some ([], env)))) := by
  obtain ⟨ta, a1, a2⟩ := ha
  obtain ⟨tb, b1, b2⟩ := hb
  exact ⟨tOp r ta tb, fun X hX => pe_cmpR (hop X hX) (a1 X hX) (b1 X hX) hm, re_op (r := rl2 r) (ra_cons a2 (ra_cons b2 ra_nil)) ho⟩
theorem bp_cmp {op : CmpOp} {r : R2} {o : List D → Option (Rk × D)} {fa fb : List S → Option (Pk × D)} (hop : OpA C (compareOp op) r) (ho : VOp K (rl2 r) o) (ha : BP C K n W a fa) (hb : BP C K n W b fb) (hm : behindInMarks op b = false) :
    BP C K n W (.Compare a [op] [b] pos) (pOp o (pCons fa (pCons fb fun _ => some []))) := by
  obtain ⟨ta, a1, a2⟩ := ha
  obtain ⟨tb, b1, b2⟩ := hb
  exact ⟨tOp r ta tb, fun X hX => pe_cmpR (hop X hX) (a1 X hX) (b1 X hX) hm, rp_op (r := rl2 r) (rpa_cons a2 (rpa_cons b2 rpa_nil)) ho⟩
theorem bt_cmp {op : CmpOp} {r : R2} {o : List D → Option (Rk × D)} {fa fb : List S → Option (T × List S)} (hop : OpA C (compareOp op) r) (ho : VOp K (rl2 r) o) (ha : BE C K n W Y a fa) (hb : BE C K n W Y' b fb) (hm : behindInMarks op b = false) :
    BT C K n W (Y || (Y' || false)) (.Compare a [op] [b] pos) (bE (eOp o (aCons (Y' || false) fa (aCons false fb fun env => some ([], env))))) := by
  obtain ⟨ta, a1, a2⟩ := ha
  obtain ⟨tb, b1, b2⟩ := hb
  exact ⟨tTest (tOp r ta tb), fun X hX => pt_cmpR (hop X hX) (a1 X hX) (b1 X hX) hm, rb_e (re_op (r := rl2 r) (ra_cons a2 (ra_cons b2 ra_nil)) ho)⟩
theorem btp_cmp {op : CmpOp} {r : R2} {o : List D → Option (Rk × D)} {fa fb : List S → Option (Pk × D)} (hop : OpA C (compareOp op) r) (ho : VOp K (rl2 r) o) (ha : BP C K n W a fa) (hb : BP C K n W b fb) (hm : behindInMarks op b = false) :
    BT C K n W false (.Compare a [op] [b] pos) (bE (lift (pOp o (pCons fa (pCons fb fun _ => some []))))) := by
  obtain ⟨ta, a1, a2⟩ := ha
  obtain ⟨tb, b1, b2⟩ := hb
  exact ⟨tTest (tOp r ta tb), fun X hX => pt_cmpR (hop X hX) (a1 X hX) (b1 X hX) hm, rb_e (re_lift (rp_op (r := rl2 r) (rpa_cons a2 (rpa_cons b2 rpa_nil)) ho))⟩
/-- a test by an expression that is True or False -/
theorem bt_val {f : List S → Option (T × List S)} (h : BE C K n W Y e f) (he : ∀ (env : Env) (whole : Sem Value), isTrue e env whole = (do let v ← whole; standAt e.pos; holding [v] (truthy v)) := by intro _ _; rfl) : BT C K n W Y e (bE f) :=
  let ⟨t, h1, h2⟩ := h; ⟨tB t, fun X hX => pt_val (h1 X hX) (he _), rb_e h2⟩
theorem bt_not {f : List S → Option (Bool × List S)} (h : BT C K n W Y a f) : BT C K n W Y (.UnaryOp .Not a pos) (bNot f) := let ⟨_, h1, h2⟩ := h; ⟨_, fun X hX => pt_not (h1 X hX), rb_not h2⟩
theorem bt_w {f : List S → Option (Bool × List S)} (h : BW C K n W Y e f) : BT C K n W Y e f := let ⟨_, h1, h2⟩ := h; ⟨_, fun X hX => (h1 X hX).pt, h2⟩
theorem bw_and1 {f : List S → Option (Bool × List S)} (h : BT C K n W Y a f) : BW C K n W Y (.BoolOp .And [a] pos) f := let ⟨_, h1, h2⟩ := h; ⟨_, fun X hX => pw_and1 (h1 X hX), h2⟩
theorem bw_or1 {f : List S → Option (Bool × List S)} (h : BT C K n W Y a f) : BW C K n W Y (.BoolOp .Or [a] pos) f := let ⟨_, h1, h2⟩ := h; ⟨_, fun X hX => pw_or1 (h1 X hX), h2⟩
theorem bw_and {f g : List S → Option (Bool × List S)} (h : BT C K n W Y a f) (r : BW C K n W Y' (.BoolOp .And (b :: es) pos) g) : BW C K n W (Y || Y') (.BoolOp .And (a :: b :: es) pos) (bAnd f g) :=
  let ⟨_, h1, h2⟩ := h; let ⟨_, r1, r2⟩ := r; ⟨_, fun X hX => pw_and (h1 X hX) (r1 X hX), rb_and h2 r2⟩
theorem bw_or {f g : List S → Option (Bool × List S)} (h : BT C K n W Y a f) (r : BW C K n W Y' (.BoolOp .Or (b :: es) pos) g) : BW C K n W (Y || Y') (.BoolOp .Or (a :: b :: es) pos) (bOr f g) :=
  let ⟨_, h1, h2⟩ := h; let ⟨_, r1, r2⟩ := r; ⟨_, fun X hX => pw_or (h1 X hX) (r1 X hX), rb_or h2 r2⟩
/-! .. as values -/
theorem be_one {op : BoolOp} {f : List S → Option (T × List S)} (h : BE C K n W Y a f) : BE C K n W Y (.BoolOp op [a] pos) f := let ⟨_, h1, h2⟩ := h; ⟨_, fun X hX => pe_one (h1 X hX), h2⟩
theorem be_and {f g : List S → Option (T × List S)} (h : BE C K n W Y a f) (r : BE C K n W Y' (.BoolOp .And (b :: es) pos) g) : BE C K n W (Y || Y') (.BoolOp .And (a :: b :: es) pos) (eB (bAnd (bE f) (bE g))) :=
  let ⟨_, h1, h2⟩ := h; let ⟨_, r1, r2⟩ := r; ⟨_, fun X hX => pe_and (h1 X hX) (r1 X hX), re_andV h2 r2⟩
theorem be_or {f g : List S → Option (T × List S)} (h : BE C K n W Y a f) (r : BE C K n W Y' (.BoolOp .Or (b :: es) pos) g) : BE C K n W (Y || Y') (.BoolOp .Or (a :: b :: es) pos) (eB (bOr (bE f) (bE g))) :=
  let ⟨_, h1, h2⟩ := h; let ⟨_, r1, r2⟩ := r; ⟨_, fun X hX => pe_or (h1 X hX) (r1 X hX), re_orV h2 r2⟩
theorem be_not {f : List S → Option (T × List S)} (h : BE C K n W Y a f) : BE C K n W Y (.UnaryOp .Not a pos) (eB (bNot (bE f))) := let ⟨_, h1, h2⟩ := h; ⟨_, fun X hX => pe_not (h1 X hX), re_notV h2⟩
theorem be_if {fc : List S → Option (Bool × List S)} {f g : List S → Option (T × List S)} {t : Expr} (c : BT C K n W Y t fc) (h : BE C K n W Y' a f) (r : BE C K n W Y2 b g) : BE C K n W (Y || Y' || Y2) (.IfExp t a b pos) (eIf fc f g) :=
  let ⟨_, c1, c2⟩ := c; let ⟨_, h1, h2⟩ := h; let ⟨_, r1, r2⟩ := r; ⟨_, fun X hX => pe_ifExp (c1 X hX) (h1 X hX) (r1 X hX), re_if c2 h2 r2⟩
/-- a < b < c -/
def oChain (o1 o2 : List D → Option (Rk × D)) : List D → Option (Rk × D) := fun ds => match ds with
  | [x, y, z] => match o1 [x, y] with
    | some (_, .bl true) => (match o2 [y, z] with
      | some (_, .bl b) => some (.imm, .bl b)
      | _ => none)
    | some (_, .bl false) => some (.imm, .bl false)
    | _ => none
  | _ => none

/-! #### displays, calls of built-ins, subscripts -/
def rlTup : List V → Hp → VK → Prop := fun xs H1 Q => xs.length ≤ sizeLine ∧ ∀ p, H1 p = none → Q (.ref p) (upd H1 p (.tup xs))
def rlLst : List V → Hp → VK → Prop := fun xs H1 Q => xs.length ≤ sizeLine ∧ ∀ p, H1 p = none → Q (.ref p) (upd H1 p (.lst xs))
def oTup : List D → Option (Rk × D) := fun ds => if ds.length ≤ 1000 then some (if D.flats ds then .imm else .mix, .tup ds) else none
def oLst : List D → Option (Rk × D) := fun ds => if ds.length ≤ 1000 then some (if D.flats ds then .fresh else .mix, .lst ds) else none
theorem small_line {m : Nat} (h : m ≤ 1000) : m ≤ sizeLine := by rw [sizeLine_eq]; omega
theorem vop_tup : VOp K rlTup oTup := by
  intro H vs ds F Q k d rl e h
  unfold oTup at e
  split at e
  · rename_i hl
    have hz : vs.length ≤ sizeLine := by rw [rl.length]; exact small_line hl
    cases e
    refine ⟨hz, fun p hp => h _ _ F (same_upd hp) (.tup (SqT.of upd_same) (.inr upd_same) hz (rl.same (same_upd hp))) ?_⟩
    by_cases hf : D.flats ds = true
    · rw [if_pos hf]; exact rl.flats hf
    · rw [if_neg hf]; exact ⟨fun a m => .inl m, id⟩
  · cases e
theorem vop_lst : VOp K rlLst oLst := by
  intro H vs ds F Q k d rl e h
  unfold oLst at e
  split at e
  · rename_i hl
    have hz : vs.length ≤ sizeLine := by rw [rl.length]; exact small_line hl
    cases e
    refine ⟨hz, fun p hp => h _ _ (p :: F) (same_upd hp) (.lst upd_same hz (rl.same (same_upd hp))) ?_⟩
    have np : p ∉ F := fun m => by
      obtain ⟨o, eo, _⟩ := rl.dom p m
      rw [hp] at eo; cases eo
    by_cases hf : D.flats ds = true
    · rw [if_pos hf]
      have := rl.flats hf
      subst this
      exact ⟨by simp, fun a m => by rw [List.mem_singleton.mp m]; exact hp⟩
    · rw [if_neg hf]
      exact ⟨fun a m => (List.mem_cons.mp m).elim (fun z => .inr (by rw [z]; exact hp)) .inl, fun q => List.nodup_cons.mpr ⟨np, q⟩⟩
  · cases e
theorem be_tup {x1 : Nat} {f : List S → Option (List Ar × List S)} (h : BA C K n W Y es f) : BE C K n W Y (.Tuple es x1 pos) (eOp oTup f) := let ⟨t, h1, h2⟩ := h; ⟨tTup t, fun X hX => pe_tup (h1 X hX), re_op (r := rlTup) h2 vop_tup⟩
theorem bp_tup {x1 : Nat} {f : List S → Option (List (Pk × D))} (h : BPA C K n W es f) : BP C K n W (.Tuple es x1 pos) (pOp oTup f) := let ⟨t, h1, h2⟩ := h; ⟨tTup t, fun X hX => pe_tup (h1 X hX), rp_op (r := rlTup) h2 vop_tup⟩
theorem be_lst {f : List S → Option (List Ar × List S)} (h : BA C K n W Y es f) : BE C K n W Y (.List es pos) (eOp oLst f) := let ⟨t, h1, h2⟩ := h; ⟨tLst t, fun X hX => pe_lst (h1 X hX), re_op (r := rlLst) h2 vop_lst⟩
theorem bp_lst {f : List S → Option (List (Pk × D))} (h : BPA C K n W es f) : BP C K n W (.List es pos) (pOp oLst f) := let ⟨t, h1, h2⟩ := h; ⟨tLst t, fun X hX => pe_lst (h1 X hX), rp_op (r := rlLst) h2 vop_lst⟩
/-- f(..), f a built-in function; T(..), T a built-in class -/
theorem be_callB {id : String} {x : Str} {p : Pos} {r : List V → Hp → VK → Prop} {o : List D → Option (Rk × D)} {f : List S → Option (List Ar × List S)} (c : Ctx P w K mg base N sc k C) (hr : ∀ X, C X → CallR X (.builtin id) r) (ho : VOp K r o) (hg : sc.names.lookup x = some .globalImplicit) (hm : mg x = none) (hv : bootBuiltins x = some (.builtin id))
    (ha : BA C K n W Y (e :: es) f) (hn : x ≠ "__name__" := by decide) (hdb : (x == ("__debug__" : Str)) = false := by decide)
    (hs : ∀ env : Env, starEach (e :: es) env = (false, eval e env) :: starEach es env := by intro _; rfl) (hpl : ∀ env : Env, (backTo pos (starEach es env)).any (·.1) = false := by intro _; rfl) :
    BE C K n W Y (.Call (.Name x p) (e :: es) [] pos) (eOp o f) := by
  obtain ⟨t, h1, h2⟩ := ha
  exact ⟨tCB r t, fun X hX => pe_callB (hr X hX) (show X.env.scope.names.lookup x = _ by rw [(c X hX).hsc]; exact hg) (by rw [(c X hX).hmg]; exact hm) hv (h1 X hX) hn hdb (hs _) (hpl _), re_op (r := r) h2 ho⟩
end
end RG

set_option maxRecDepth 100000
set_option maxHeartbeats 4000000
namespace RG
open PySem PySem.Spec PyProof.Rows L2

/-! ### operations by values -/
section
variable {K : PySem.W.Frag} {H H' : Hp}
theorem RepL.i1 {vs : List V} {d : D} {F : List Addr} (h : RepL K H vs [d] F) : ∃ v, vs = [v] ∧ Rep K H v d F := by
  cases h with
  | cons r t => cases t; exact ⟨_, rfl, by rw [List.append_nil]; exact r⟩
theorem RepL.i2 {vs : List V} {d d' : D} {F : List Addr} (h : RepL K H vs [d, d'] F) : ∃ v v' F1 F2, vs = [v, v'] ∧ F = F1 ++ F2 ∧ Rep K H v d F1 ∧ Rep K H v' d' F2 := by
  cases h with
  | cons r t =>
    obtain ⟨v', rfl, r'⟩ := t.i1
    exact ⟨_, _, _, _, rfl, rfl, r, r'⟩
theorem RepL.strs {vs : List V} {F : List Addr} : ∀ {xs : List Str}, RepL K H vs (xs.map D.str) F → vs = xs.map V.str ∧ F = [] := by
  intro xs
  induction xs generalizing vs F with
  | nil => intro h; cases h; exact ⟨rfl, rfl⟩
  | cons x xs ih =>
    intro h
    cases h with
    | cons r t =>
      obtain ⟨e1, e2⟩ := ih t
      cases r
      subst e1; subst e2
      exact ⟨rfl, rfl⟩
theorem RepL.ofStrs : ∀ (xs : List Str), RepL K H (xs.map V.str) (xs.map D.str) []
  | [] => .nil
  | x :: xs => RepL.cons (F := []) (.str x) (RepL.ofStrs xs)
end
def D.asStr : D → Option Str
  | .str x => some x
  | _ => none
def D.asInt : D → Option Int
  | .int x => some x
  | _ => none
theorem asStr_map : ∀ {ds : List D} {xs : List Str}, ds.mapM D.asStr = some xs → ds = xs.map D.str
  | [], xs, e => by simp at e; subst e; rfl
  | d :: ds, xs, e => by
    cases d with
    | str x =>
      cases e1 : ds.mapM D.asStr with
      | none => simp [D.asStr, e1] at e
      | some ys => simp [D.asStr, e1] at e; subst e; rw [asStr_map e1]; rfl
    | _ => simp [D.asStr] at e

section
variable {P : Program} {w : World} {K : PySem.W.Frag} {mg : Str → Option Value} {base : Heap} {N : List Str} {sc : Scope} {k n : Nat} {C : XS} {W A B : List Nat} {Y Y' Y2 Z Z' : Bool}
/-! #### + -/
def rAdd' : R2 := fun x y H Q => rI0 (fun i j => .int (i + j)) x y H Q ∨ (∃ i j, x = .str i ∧ y = .str j ∧ i.length + j.length ≤ sizeLine ∧ Q (.str (i ++ j)) H) ∨ rCat x y H Q
theorem opa_add : OpA C (binaryOp .Add) rAdd' := fun X _ => op_add.or (op_add_str.or op_cat)
def oAdd : List D → Option (Rk × D) := fun ds => match ds with
  | [.int i, .int j] => some (.imm, .int (i + j))
  | [.str x, .str y] => if x.length + y.length ≤ 16777216 then some (.imm, .str (x ++ y)) else none
  | [.lst xs, .lst ys] => if xs.length + ys.length ≤ 16777216 then some (if D.flats xs && D.flats ys then .fresh else .mix, .lst (xs ++ ys)) else none
  | _ => none
theorem new_lst {H : Hp} {vs : List V} {ds : List D} {F : List Addr} {Q : VK} {fl : Bool} (rl : RepL K H vs ds F) (hz : vs.length ≤ sizeLine) (hfl : fl = true → D.flats ds = true) {F0 : List Addr} (hF : ∀ a ∈ F, a ∈ F0) (hN : F0.Nodup → F.Nodup)
    (h : ∀ v H' F', Same H H' → Rep K H' v (.lst ds) F' → (if fl then Rk.fresh else Rk.mix).Ok H F0 F' → Q v H') : ∀ p, H p = none → Q (.ref p) (upd H p (.lst vs)) := fun p hp => by
  refine h _ _ (p :: F) (same_upd hp) (.lst upd_same hz (rl.same (same_upd hp))) ?_
  have np : p ∉ F := fun m => by
    obtain ⟨o, eo, _⟩ := rl.dom p m
    rw [hp] at eo; cases eo
  cases fl with
  | true =>
    have := rl.flats (hfl rfl)
    subst this
    exact ⟨by simp, fun a m => by rw [List.mem_singleton.mp m]; exact hp⟩
  | false => exact ⟨fun a m => (List.mem_cons.mp m).elim (fun z => .inr (by rw [z]; exact hp)) fun z => .inl (hF a z), fun q => List.nodup_cons.mpr ⟨np, hN q⟩⟩
theorem D.flats_append {xs ys : List D} : D.flats (xs ++ ys) = (D.flats xs && D.flats ys) := by
  induction xs with
  | nil => simp [D.flats]
  | cons x xs ih => simp [D.flats, ih, Bool.and_assoc]
theorem vop_add : VOp K (rl2 rAdd') oAdd := by
  intro H vs ds F Q k d rl e h
  unfold oAdd at e
  split at e
  · rename_i i j
    obtain ⟨v, v', F1, F2, rfl, rfl, r1, r2⟩ := rl.i2
    cases r1.intV; cases r2.intV
    cases e
    exact .inl ⟨i, j, rfl, rfl, h _ _ [] (Same.refl _) (.int _) rfl⟩
  · rename_i x y
    obtain ⟨v, v', F1, F2, rfl, rfl, r1, r2⟩ := rl.i2
    cases r1.strV; cases r2.strV
    split at e
    · rename_i hz
      cases e
      exact .inr (.inl ⟨x, y, rfl, rfl, by rw [sizeLine_eq]; exact hz, h _ _ [] (Same.refl _) (.str _) rfl⟩)
    · cases e
  · rename_i xs ys
    obtain ⟨v, v', F1, F2, rfl, rfl, r1, r2⟩ := rl.i2
    split at e
    · rename_i hz
      cases e
      obtain ⟨a, us, Fa, rfl, rfl, ha, la, za⟩ := r1.lstV
      obtain ⟨b, ws, Fb, rfl, rfl, hb, lb, zb⟩ := r2.lstV
      have hz' : us.length + ws.length ≤ sizeLine := by rw [la.length, lb.length, sizeLine_eq]; exact hz
      refine .inr (.inr ⟨a, b, us, ws, rfl, rfl, ha, hb, hz', ?_⟩)
      refine new_lst (fl := D.flats xs && D.flats ys) (la.append lb) (by rw [List.length_append]; exact hz') (fun q => by rw [D.flats_append]; exact q) (fun a m => ?_) (fun q => ?_) h
      · rcases List.mem_append.mp m with m | m
        · simp [m]
        · simp [m]
      · have q' : (Fa ++ Fb).Sublist ((a :: Fa) ++ (b :: Fb)) := (List.sublist_cons_self _ _).append (List.sublist_cons_self _ _)
        exact q.sublist q'
    · cases e
  · cases e
/-! #### -, *, %, //, ** of whole numbers -/
theorem vop_int {C : Int → Int → Prop} {g : Int → Int → Int} {o : List D → Option (Rk × D)} (ho : ∀ ds k d, o ds = some (k, d) → ∃ i j, ds = [.int i, .int j] ∧ C i j ∧ k = .imm ∧ d = .int (g i j)) : VOp K (rl2 (rI C fun i j => .int (g i j))) o := by
  intro H vs ds F Q k d rl e h
  obtain ⟨i, j, rfl, hc, rfl, rfl⟩ := ho ds k d e
  obtain ⟨v, v', F1, F2, rfl, rfl, r1, r2⟩ := rl.i2
  cases r1.intV; cases r2.intV
  exact ⟨i, j, rfl, rfl, hc, h _ _ [] (Same.refl _) (.int _) rfl⟩
theorem vop_int0 {g : Int → Int → D} {gv : Int → Int → V} {o : List D → Option (Rk × D)} (hg : ∀ i j H, Rep K H (gv i j) (g i j) []) (ho : ∀ ds k d, o ds = some (k, d) → ∃ i j, ds = [.int i, .int j] ∧ k = .imm ∧ d = g i j) : VOp K (rl2 (rI0 gv)) o := by
  intro H vs ds F Q k d rl e h
  obtain ⟨i, j, rfl, rfl, rfl⟩ := ho ds k d e
  obtain ⟨v, v', F1, F2, rfl, rfl, r1, r2⟩ := rl.i2
  cases r1.intV; cases r2.intV
  exact ⟨i, j, rfl, rfl, h _ _ [] (Same.refl _) (hg i j _) rfl⟩
def oSub : List D → Option (Rk × D) := fun ds => match ds with
  | [.int i, .int j] => some (.imm, .int (i - j))
  | _ => none
theorem opa_sub : OpA C (binaryOp .Sub) (rI0 fun i j => .int (i - j)) := fun _ _ => op_sub
theorem vop_sub : VOp K (rl2 (rI0 fun i j => .int (i - j))) oSub := vop_int0 (g := fun i j => .int (i - j)) (fun i j H => .int _) fun ds k d e => by
  unfold oSub at e; split at e
  · cases e; exact ⟨_, _, rfl, rfl, rfl⟩
  · cases e
def oMul : List D → Option (Rk × D) := fun ds => match ds with
  | [.int i, .int j] => if (-(2 ^ 64) < i ∧ i < 2 ^ 64) ∨ (-(2 ^ 64) < j ∧ j < 2 ^ 64) then some (.imm, .int (i * j)) else none
  | _ => none
theorem opa_mul : OpA C (binaryOp .Mult) (rI CMul fun i j => .int (i * j)) := fun _ _ => op_mul
theorem vop_mul : VOp K (rl2 (rI CMul fun i j => .int (i * j))) oMul := vop_int (g := fun i j => i * j) fun ds k d e => by
  unfold oMul at e; split at e
  · split at e
    · rename_i hc
      cases e; exact ⟨_, _, rfl, hc, rfl, rfl⟩
    · cases e
  · cases e
def oMod : List D → Option (Rk × D) := fun ds => match ds with
  | [.int i, .int j] => if 0 < j then some (.imm, .int (i % j)) else none
  | _ => none
theorem opa_mod : OpA C (binaryOp .Mod) (rI (fun _ j => 0 < j) fun i j => .int (i % j)) := fun _ _ => op_mod
theorem vop_mod : VOp K (rl2 (rI (fun _ j => 0 < j) fun i j => .int (i % j))) oMod := vop_int (C := fun _ j => 0 < j) (g := fun i j => i % j) fun ds k d e => by
  unfold oMod at e; split at e
  · split at e
    · rename_i hc
      cases e; exact ⟨_, _, rfl, hc, rfl, rfl⟩
    · cases e
  · cases e
def oDiv : List D → Option (Rk × D) := fun ds => match ds with
  | [.int i, .int j] => if 0 < j ∧ j < 1073741824 then some (.imm, .int (i / j)) else none
  | _ => none
theorem opa_div : OpA C (binaryOp .FloorDiv) (rI CDiv fun i j => .int (i / j)) := fun _ _ => op_fdiv
theorem vop_div : VOp K (rl2 (rI CDiv fun i j => .int (i / j))) oDiv := vop_int (g := fun i j => i / j) fun ds k d e => by
  unfold oDiv at e; split at e
  · split at e
    · rename_i hc
      cases e; exact ⟨_, _, rfl, hc, rfl, rfl⟩
    · cases e
  · cases e
def oPow : List D → Option (Rk × D) := fun ds => match ds with
  | [.int i, .int j] => if 0 ≤ j ∧ j ≤ 1000000 ∧ i.natAbs < 2 ^ 64 then some (.imm, .int (i ^ j.toNat)) else none
  | _ => none
theorem opa_pow : OpA C (binaryOp .Pow) (rI CPow fun i j => .int (i ^ j.toNat)) := fun _ _ => op_pow
theorem vop_pow : VOp K (rl2 (rI CPow fun i j => .int (i ^ j.toNat))) oPow := vop_int (g := fun i j => i ^ j.toNat) fun ds k d e => by
  unfold oPow at e; split at e
  · split at e
    · rename_i hc
      cases e; exact ⟨_, _, rfl, hc, rfl, rfl⟩
    · cases e
  · cases e
/-! #### comparisons of whole numbers -/
def oLt : List D → Option (Rk × D) := fun ds => match ds with
  | [.int i, .int j] => some (.imm, .bl (decide (i < j)))
  | [.str x, .str y] => some (.imm, .bl (decide (x.cps.toList < y.cps.toList)))
  | _ => none
def rLt' : R2 := fun x y H Q => rI0 (fun i j => .bl (decide (i < j))) x y H Q ∨ ∃ i j, x = .str i ∧ y = .str j ∧ Q (.bl (decide (i.cps.toList < j.cps.toList))) H
theorem opa_lt : OpA C (compareOp .Lt) rLt' := fun X _ => op_lt.or op_lt_str
theorem vop_lt : VOp K (rl2 rLt') oLt := by
  intro H vs ds F Q k d rl e h
  unfold oLt at e
  split at e
  · rename_i i j
    obtain ⟨v, v', F1, F2, rfl, rfl, r1, r2⟩ := rl.i2
    cases r1.intV; cases r2.intV
    cases e
    exact .inl ⟨i, j, rfl, rfl, h _ _ [] (Same.refl _) (.bl _) rfl⟩
  · rename_i i j
    obtain ⟨v, v', F1, F2, rfl, rfl, r1, r2⟩ := rl.i2
    cases r1.strV; cases r2.strV
    cases e
    exact .inr ⟨i, j, rfl, rfl, h _ _ [] (Same.refl _) (.bl _) rfl⟩
  · cases e
def oLe : List D → Option (Rk × D) := fun ds => match ds with
  | [.int i, .int j] => some (.imm, .bl (decide (i ≤ j)))
  | _ => none
theorem opa_le : OpA C (compareOp .LtE) (rI0 fun i j => .bl (decide (i ≤ j))) := fun _ _ => op_le
theorem vop_le : VOp K (rl2 (rI0 fun i j => .bl (decide (i ≤ j)))) oLe := vop_int0 (g := fun i j => .bl (decide (i ≤ j))) (fun i j H => .bl _) fun ds k d e => by
  unfold oLe at e; split at e
  · cases e; exact ⟨_, _, rfl, rfl, rfl⟩
  · cases e
def oGt : List D → Option (Rk × D) := fun ds => match ds with
  | [.int i, .int j] => some (.imm, .bl (decide (j < i)))
  | _ => none
theorem opa_gt : OpA C (compareOp .Gt) (rI0 fun i j => .bl (decide (j < i))) := fun _ _ => op_gt
theorem vop_gt : VOp K (rl2 (rI0 fun i j => .bl (decide (j < i)))) oGt := vop_int0 (g := fun i j => .bl (decide (j < i))) (fun i j H => .bl _) fun ds k d e => by
  unfold oGt at e; split at e
  · cases e; exact ⟨_, _, rfl, rfl, rfl⟩
  · cases e
def oGe : List D → Option (Rk × D) := fun ds => match ds with
  | [.int i, .int j] => some (.imm, .bl (decide (j ≤ i)))
  | _ => none
theorem opa_ge : OpA C (compareOp .GtE) (rI0 fun i j => .bl (decide (j ≤ i))) := fun _ _ => op_ge
theorem vop_ge : VOp K (rl2 (rI0 fun i j => .bl (decide (j ≤ i)))) oGe := vop_int0 (g := fun i j => .bl (decide (j ≤ i))) (fun i j H => .bl _) fun ds k d e => by
  unfold oGe at e; split at e
  · cases e; exact ⟨_, _, rfl, rfl, rfl⟩
  · cases e

/-! #### ==, != -/
mutual
def D.py : D → PyData
  | .non => .none
  | .bl b => .bool b
  | .int i => .int i
  | .str x => .str x
  | .tup xs => .tuple (D.pys xs)
  | .lst xs => .list (D.pys xs)
  | _ => .dict []
def D.pys : List D → List PyData
  | [] => []
  | d :: ds => d.py :: D.pys ds
end
mutual
/-- data alone -/
def D.pure : D → Bool
  | .non => true
  | .bl _ => true
  | .int _ => true
  | .str _ => true
  | .tup xs => D.pures xs
  | .lst xs => D.pures xs
  | _ => false
def D.pures : List D → Bool
  | [] => true
  | d :: ds => d.pure && D.pures ds
end
section
variable {H : Hp}
mutual
theorem Rep.dp : ∀ {v : V} {d : D} {F : List Addr}, Rep K H v d F → d.pure = true → Dp K H v d.py
  | _, _, _, .non, _ => by unfold D.py; exact .non
  | _, _, _, .bl b, _ => by unfold D.py; exact .bl b
  | _, _, _, .int b, _ => by unfold D.py; exact .int b
  | _, _, _, .str b, _ => by unfold D.py; exact .str b
  | _, _, _, .tup h y z r, e => by unfold D.pure at e; unfold D.py; exact .tup h (RepL.dp r e)
  | _, _, _, .lst h z r, e => by unfold D.pure at e; unfold D.py; exact .lst (SqL.of h) (RepL.dp r e)
  | _, _, _, .scr h z, e => by unfold D.pure at e; cases e
  | _, _, _, .dK h z k r, e => by unfold D.pure at e; cases e
  | _, _, _, .dT h z k r, e => by unfold D.pure at e; cases e
  | _, _, _, .ins hc h k r, e => by unfold D.pure at e; cases e
theorem RepL.dp : ∀ {v : List V} {d : List D} {F : List Addr}, RepL K H v d F → D.pures d = true → DpAll K H v (D.pys d)
  | _, _, _, .nil, _ => by unfold D.pys; exact .nil
  | _, _, _, .cons h r, e => by
    unfold D.pures at e
    rw [Bool.and_eq_true] at e
    unfold D.pys
    exact .cons (Rep.dp h e.1) (RepL.dp r e.2)
end
end
def oEq : List D → Option (Rk × D) := fun ds => match ds with
  | [x, y] => if x.pure && y.pure && SeqAt.shaped x.py && SeqAt.shaped y.py then some (.imm, .bl (PyData.eqv x.py y.py)) else none
  | _ => none
def oNe : List D → Option (Rk × D) := fun ds => match ds with
  | [x, y] => if x.pure && y.pure && SeqAt.shaped x.py && SeqAt.shaped y.py then some (.imm, .bl (!PyData.eqv x.py y.py)) else none
  | _ => none
theorem opa_eq (c : Ctx P w K mg base N sc k C) : OpA C (compareOp .Eq) (rEqD K) := fun X hX => by
  have := op_eqD (X := X) (c X hX).room.units
  rwa [(c X hX).hK] at this
theorem opa_ne (c : Ctx P w K mg base N sc k C) : OpA C (compareOp .NotEq) (rNeD K) := fun X hX => by
  have := op_neD (X := X) (c X hX).room.units
  rwa [(c X hX).hK] at this
theorem vop_eq : VOp K (rl2 (rEqD K)) oEq := by
  intro H vs ds F Q k d rl e h
  unfold oEq at e
  split at e
  · rename_i x y
    split at e
    · rename_i hc
      simp only [Bool.and_eq_true] at hc
      obtain ⟨⟨⟨h1, h2⟩, h3⟩, h4⟩ := hc
      cases e
      obtain ⟨v, v', F1, F2, rfl, rfl, r1, r2⟩ := rl.i2
      exact ⟨_, _, r1.dp h1, r2.dp h2, h3, h4, h _ _ [] (Same.refl _) (.bl _) rfl⟩
    · cases e
  · cases e
theorem vop_ne : VOp K (rl2 (rNeD K)) oNe := by
  intro H vs ds F Q k d rl e h
  unfold oNe at e
  split at e
  · rename_i x y
    split at e
    · rename_i hc
      simp only [Bool.and_eq_true] at hc
      obtain ⟨⟨⟨h1, h2⟩, h3⟩, h4⟩ := hc
      cases e
      obtain ⟨v, v', F1, F2, rfl, rfl, r1, r2⟩ := rl.i2
      exact ⟨_, _, r1.dp h1, r2.dp h2, h3, h4, h _ _ [] (Same.refl _) (.bl _) rfl⟩
    · cases e
  · cases e
/-! #### is None -/
def D.isNon : D → Bool
  | .non => true
  | _ => false
def oIsN : List D → Option (Rk × D) := fun ds => match ds with
  | [x, .non] => some (.imm, .bl x.isNon)
  | _ => none
def oNotN : List D → Option (Rk × D) := fun ds => match ds with
  | [x, .non] => some (.imm, .bl (!x.isNon))
  | _ => none
theorem Rep.isNon {H : Hp} {v : V} {d : D} {F : List Addr} (r : Rep K H v d F) : decide (v = .non) = d.isNon := by
  cases r <;> rfl
theorem opa_isN : OpA C (compareOp .Is) (fun x y H Q => y = .non ∧ Q (.bl (decide (x = .non))) H) := fun _ _ => op_isN
theorem opa_notN : OpA C (compareOp .IsNot) (fun x y H Q => y = .non ∧ Q (.bl (!decide (x = .non))) H) := fun _ _ => op_notN
theorem vop_isN : VOp K (rl2 fun x y H Q => y = .non ∧ Q (.bl (decide (x = .non))) H) oIsN := by
  intro H vs ds F Q k d rl e h
  unfold oIsN at e
  split at e
  · rename_i x
    cases e
    obtain ⟨v, v', F1, F2, rfl, rfl, r1, r2⟩ := rl.i2
    cases r2.nonV
    refine ⟨rfl, ?_⟩
    rw [r1.isNon]
    exact h _ _ [] (Same.refl _) (.bl _) rfl
  · cases e
theorem vop_notN : VOp K (rl2 fun x y H Q => y = .non ∧ Q (.bl (!decide (x = .non))) H) oNotN := by
  intro H vs ds F Q k d rl e h
  unfold oNotN at e
  split at e
  · rename_i x
    cases e
    obtain ⟨v, v', F1, F2, rfl, rfl, r1, r2⟩ := rl.i2
    cases r2.nonV
    refine ⟨rfl, ?_⟩
    rw [r1.isNon]
    exact h _ _ [] (Same.refl _) (.bl _) rfl
  · cases e
/-! #### in -/
def D.flat1 : D → Bool
  | .non => true
  | .bl _ => true
  | .int _ => true
  | .str _ => true
  | _ => false
def D.eq1 : D → D → Bool
  | .non, .non => true
  | .bl a, .bl b => a == b
  | .bl a, .int b => (if a then 1 else 0) == b
  | .int a, .bl b => a == (if b then 1 else 0)
  | .int a, .int b => a == b
  | .str a, .str b => a == b
  | _, _ => false
theorem Rep.flat1 {H : Hp} {v : V} {d : D} {F : List Addr} (r : Rep K H v d F) (h : d.flat1 = true) : flatV v = true := by cases r <;> first | rfl | cases h
theorem RepL.flat1 {H : Hp} : ∀ {vs : List V} {ds : List D} {F : List Addr}, RepL K H vs ds F → ds.all D.flat1 = true → vs.all flatV = true
  | _, _, _, .nil, _ => rfl
  | _, _, _, .cons r t, h => by
    rw [List.all_cons, Bool.and_eq_true] at h ⊢
    exact ⟨r.flat1 h.1, t.flat1 h.2⟩
theorem Rep.eq1 {H : Hp} {v v' : V} {d d' : D} {F F' : List Addr} (r : Rep K H v d F) (r' : Rep K H v' d' F') (h : d.flat1 = true) (h' : d'.flat1 = true) : eqV v v' = d.eq1 d' := by
  cases r <;> first | (cases h; done) | (cases r' <;> first | rfl | (cases h'; done))
theorem RepL.in1 {H : Hp} {v : V} {d : D} {F0 : List Addr} (r : Rep K H v d F0) (h : d.flat1 = true) : ∀ {vs : List V} {ds : List D} {F : List Addr}, RepL K H vs ds F → ds.all D.flat1 = true → inV v vs = ds.any fun y => y.eq1 d
  | _, _, _, .nil, _ => rfl
  | _, _, _, .cons r1 t, hh => by
    rw [List.all_cons, Bool.and_eq_true] at hh
    show (eqV _ v || _) = _
    rw [List.any_cons, r1.eq1 r hh.1 h]
    congr 1
    exact RepL.in1 r h t hh.2
def inRes (ds : List D) : Option Bool := match ds with
  | [.str x, .str y] => some (!(Builtin.Str.occurrences y x 0 y.length 1).isEmpty)
  | [x, .lst ys] => if x.flat1 && ys.all D.flat1 then some (ys.any fun y => y.eq1 x)
    else if x.pure && D.pures ys && SeqAt.shaped x.py && SeqAt.shaped (.list (D.pys ys)) then some ((D.pys ys).any fun z => PyData.eqv z x.py) else none
  | [x, .tup ys] => if x.flat1 && ys.all D.flat1 then some (ys.any fun y => y.eq1 x) else none
  | _ => none
def oIn : List D → Option (Rk × D) := fun ds => (inRes ds).map fun b => (.imm, .bl b)
def oNotIn : List D → Option (Rk × D) := fun ds => (inRes ds).map fun b => (.imm, .bl (!b))
def rIn' (K : PySem.W.Frag) : R2 := fun x y H Q => rIn K false x y H Q ∨ rInD K x y H Q ∨ (∃ i j, x = .str i ∧ y = .str j ∧ Q (.bl (!(Builtin.Str.occurrences j i 0 j.length 1).isEmpty)) H)
def rNotIn' (K : PySem.W.Frag) : R2 := fun x y H Q => rIn K true x y H Q ∨ rNotInD K x y H Q ∨ (∃ i j, x = .str i ∧ y = .str j ∧ Q (.bl (!(!(Builtin.Str.occurrences j i 0 j.length 1).isEmpty))) H)
theorem units65 {X : Cx} {k : Nat} (r : Room k X.A) : X.A.units + 65 < cLine := by have := r.un; omega
theorem opa_in (c : Ctx P w K mg base N sc k C) : OpA C (compareOp .In) (rIn' K) := fun X hX => by
  have := op_in_seq (X := X) |>.or ((op_inD (X := X) (units65 (c X hX).room)).or op_in_str)
  rwa [(c X hX).hK] at this
theorem opa_notIn (c : Ctx P w K mg base N sc k C) : OpA C (compareOp .NotIn) (rNotIn' K) := fun X hX => by
  have := op_notIn_seq (X := X) |>.or ((op_notInD (X := X) (units65 (c X hX).room)).or op_notIn_str)
  rwa [(c X hX).hK] at this
theorem in_cases {H : Hp} {vs : List V} {ds : List D} {F : List Addr} {b : Bool} (rl : RepL K H vs ds F) (e : inRes ds = some b) :
    (∃ x y p xs, vs = [x, y] ∧ y = .ref p ∧ (SqL K H p xs ∨ SqT K H p xs) ∧ flatV x = true ∧ xs.all flatV = true ∧ inV x xs = b) ∨
    (∃ x y d ds', vs = [x, y] ∧ Dp K H x d ∧ Dp K H y (.list ds') ∧ SeqAt.shaped d = true ∧ SeqAt.shaped (.list ds') = true ∧ (ds'.any fun z => PyData.eqv z d) = b) ∨
    (∃ i j, vs = [.str i, .str j] ∧ (!(Builtin.Str.occurrences j i 0 j.length 1).isEmpty) = b) := by
  unfold inRes at e
  split at e
  · rename_i x y
    obtain ⟨v, v', F1, F2, rfl, rfl, r1, r2⟩ := rl.i2
    cases r1.strV; cases r2.strV
    cases e
    exact .inr (.inr ⟨x, y, rfl, rfl⟩)
  · rename_i x ys _
    obtain ⟨v, v', F1, F2, rfl, rfl, r1, r2⟩ := rl.i2
    obtain ⟨a, us, Fa, rfl, rfl, ha, la, za⟩ := r2.lstV
    split at e
    · rename_i hc
      rw [Bool.and_eq_true] at hc
      cases e
      exact .inl ⟨_, _, a, us, rfl, rfl, .inl (SqL.of ha), r1.flat1 hc.1, la.flat1 hc.2, RepL.in1 r1 hc.1 la hc.2⟩
    · split at e
      · rename_i hc
        simp only [Bool.and_eq_true] at hc
        obtain ⟨⟨⟨h1, h2⟩, h3⟩, h4⟩ := hc
        cases e
        exact .inr (.inl ⟨_, _, _, _, rfl, r1.dp h1, .lst (SqL.of ha) (la.dp h2), h3, h4, rfl⟩)
      · cases e
  · rename_i x ys
    obtain ⟨v, v', F1, F2, rfl, rfl, r1, r2⟩ := rl.i2
    obtain ⟨a, us, rfl, ha, la, za⟩ := r2.tupV
    split at e
    · rename_i hc
      rw [Bool.and_eq_true] at hc
      cases e
      exact .inl ⟨_, _, a, us, rfl, rfl, .inr ha, r1.flat1 hc.1, la.flat1 hc.2, RepL.in1 r1 hc.1 la hc.2⟩
    · cases e
  · cases e
theorem vop_in : VOp K (rl2 (rIn' K)) oIn := by
  intro H vs ds F Q k d rl e h
  unfold oIn at e
  cases e1 : inRes ds with
  | none => rw [e1] at e; cases e
  | some b =>
    rw [e1] at e; cases e
    have fin := h (.bl b) H [] (Same.refl _) (.bl b) rfl
    rcases in_cases rl e1 with ⟨x, y, p, xs, rfl, rfl, q1, q2, q3, q4⟩ | ⟨x, y, d, ds', rfl, q1, q2, q3, q4, q5⟩ | ⟨i, j, rfl, q⟩
    · exact .inl ⟨p, xs, rfl, q1, q2, q3, by rw [if_neg Bool.false_ne_true, q4]; exact fin⟩
    · exact .inr (.inl ⟨d, ds', q1, q2, q3, q4, by rw [q5]; exact fin⟩)
    · exact .inr (.inr ⟨i, j, rfl, rfl, by rw [q]; exact fin⟩)
theorem vop_notIn : VOp K (rl2 (rNotIn' K)) oNotIn := by
  intro H vs ds F Q k d rl e h
  unfold oNotIn at e
  cases e1 : inRes ds with
  | none => rw [e1] at e; cases e
  | some b =>
    rw [e1] at e; cases e
    have fin := h (.bl (!b)) H [] (Same.refl _) (.bl _) rfl
    rcases in_cases rl e1 with ⟨x, y, p, xs, rfl, rfl, q1, q2, q3, q4⟩ | ⟨x, y, d, ds', rfl, q1, q2, q3, q4, q5⟩ | ⟨i, j, rfl, q⟩
    · exact .inl ⟨p, xs, rfl, q1, q2, q3, by rw [if_pos rfl, q4]; exact fin⟩
    · exact .inr (.inl ⟨d, ds', q1, q2, q3, q4, by rw [q5]; exact fin⟩)
    · exact .inr (.inr ⟨i, j, rfl, rfl, by rw [q]; exact fin⟩)
end
end RG

set_option maxRecDepth 100000
set_option maxHeartbeats 4000000
namespace RG
open PySem PySem.Spec PyProof.Rows L2

/-! ### dicts -/
def valD {κ : Type} [DecidableEq κ] (kvs : List (κ × D)) (k : κ) : Option D := (kvs.find? fun kv => decide (kv.1 = k)).map (·.2)
def putD {κ : Type} [DecidableEq κ] (kvs : List (κ × D)) (k : κ) (v : D) : List (κ × D) :=
  if kvs.any fun kv => decide (kv.1 = k) then kvs.map fun kv => if kv.1 = k then (kv.1, v) else kv else kvs ++ [(k, v)]
def D.key : D → Option Key
  | .int i => some (.inl i)
  | .str x => some (.inr x)
  | _ => none
def D.keysL : List D → Option (List Key)
  | [] => some []
  | d :: ds => match d.key, D.keysL ds with
    | some k, some ks => some (k :: ks)
    | _, _ => none
theorem key_kV {K : PySem.W.Frag} {H : Hp} {v : V} {d : D} {F : List Addr} {k : Key} (r : Rep K H v d F) (h : d.key = some k) : v = kV k := by
  cases d with
  | int i => cases h; exact r.intV
  | str i => cases h; exact r.strV
  | _ => cases h
theorem keys_kV {K : PySem.W.Frag} {H : Hp} : ∀ {vs : List V} {ds : List D} {F : List Addr} {ks : List Key}, RepL K H vs ds F → D.keysL ds = some ks → vs = ks.map kV ∧ ks.length = ds.length
  | _, _, _, ks, .nil, h => by cases h; exact ⟨rfl, rfl⟩
  | _, _, _, ks, .cons (d := d) (ds := ds) r t, h => by
    simp only [D.keysL] at h
    cases e1 : d.key with
    | none => rw [e1] at h; cases h
    | some k =>
      cases e2 : D.keysL ds with
      | none => rw [e1, e2] at h; cases h
      | some ks' =>
        rw [e1, e2] at h; cases h
        obtain ⟨h1, h2⟩ := keys_kV t e2
        exact ⟨by rw [key_kV r e1, h1]; rfl, by simp [h2]⟩
section
variable {K : PySem.W.Frag} {H : Hp} {κ : Type} [DecidableEq κ]
theorem val_rep : ∀ {kvs : List (κ × V)} {ds : List (κ × D)} {F : List Addr} {k : κ}, kvs.map (·.1) = ds.map (·.1) → RepL K H (kvs.map (·.2)) (ds.map (·.2)) F → F = [] →
    (∀ d, valD ds k = some d → ∃ v, valV kvs k = some v ∧ Rep K H v d []) ∧ (valD ds k = none → valV kvs k = none)
  | [], [], _, _, _, _, _ => ⟨fun d e => (nomatch e), fun _ => rfl⟩
  | [], _ :: _, _, _, e, _, _ => by simp at e
  | _ :: _, [], _, _, e, _, _ => by simp at e
  | (a, v) :: kvs, (b, d) :: ds, F, k, e, r, hF => by
    simp only [List.map_cons, List.cons.injEq] at e
    obtain ⟨rfl, e⟩ := e
    cases r with
    | cons r1 r2 =>
      rename_i F1 F2
      obtain ⟨rfl, rfl⟩ := List.append_eq_nil_iff.mp hF
      have ih := val_rep (k := k) e r2 rfl
      by_cases h : a = k
      · subst h
        simp only [valD, valV, List.find?_cons, decide_true, Option.map_some]
        exact ⟨fun d' e' => by cases e'; exact ⟨v, rfl, r1⟩, fun e' => by cases e'⟩
      · have h' : decide (a = k) = false := decide_eq_false h
        simp only [valD, valV, List.find?_cons, h'] at ih ⊢
        exact ih
theorem put_rep {kvs : List (κ × V)} {ds : List (κ × D)} {k : κ} {v : V} {d : D} (e : kvs.map (·.1) = ds.map (·.1)) (r : RepL K H (kvs.map (·.2)) (ds.map (·.2)) []) (rv : Rep K H v d []) :
    (putK kvs k v).map (·.1) = (putD ds k d).map (·.1) ∧ RepL K H ((putK kvs k v).map (·.2)) ((putD ds k d).map (·.2)) [] ∧ (putK kvs k v).length ≤ kvs.length + 1 := by
  have any_eq : ∀ {kvs : List (κ × V)} {ds : List (κ × D)}, kvs.map (·.1) = ds.map (·.1) → (kvs.any fun kv => decide (kv.1 = k)) = (ds.any fun kv => decide (kv.1 = k)) := by
    intro kvs
    induction kvs with
    | nil => intro ds e; cases ds with
      | nil => rfl
      | cons _ _ => simp at e
    | cons x kvs ih => intro ds e; cases ds with
      | nil => simp at e
      | cons y ds =>
        simp only [List.map_cons, List.cons.injEq] at e
        rw [List.any_cons, List.any_cons, e.1, ih e.2]
  have mapped : ∀ {kvs : List (κ × V)} {ds : List (κ × D)} {F : List Addr}, kvs.map (·.1) = ds.map (·.1) → RepL K H (kvs.map (·.2)) (ds.map (·.2)) F → F = [] →
      (kvs.map fun kv => if kv.1 = k then (kv.1, v) else kv).map (·.1) = (ds.map fun kv => if kv.1 = k then (kv.1, d) else kv).map (·.1) ∧ RepL K H ((kvs.map fun kv => if kv.1 = k then (kv.1, v) else kv).map (·.2)) ((ds.map fun kv => if kv.1 = k then (kv.1, d) else kv).map (·.2)) [] := by
    intro kvs
    induction kvs with
    | nil => intro ds F e r hF; cases ds with
      | nil => exact ⟨rfl, .nil⟩
      | cons _ _ => simp at e
    | cons x kvs ih => intro ds F e r hF; cases ds with
      | nil => simp at e
      | cons y ds =>
        simp only [List.map_cons, List.cons.injEq] at e
        cases r with
        | cons r1 r2 =>
          rename_i F1 F2
          obtain ⟨rfl, rfl⟩ := List.append_eq_nil_iff.mp hF
          obtain ⟨h1, h2⟩ := ih e.2 r2 rfl
          obtain ⟨x1, x2⟩ := x
          obtain ⟨y1, y2⟩ := y
          obtain ⟨e0, e⟩ := e
          have e0 : x1 = y1 := e0
          subst e0
          by_cases hk : x1 = k
          · subst hk
            simp only [List.map_cons, if_true]
            exact ⟨by rw [h1], RepL.cons (F := []) rv h2⟩
          · simp only [List.map_cons, if_neg hk]
            exact ⟨by rw [h1], RepL.cons (F := []) r1 h2⟩
  unfold putK putD
  rw [any_eq e]
  by_cases hc : (ds.any fun kv => decide (kv.1 = k)) = true
  · rw [if_pos hc, if_pos hc]
    obtain ⟨h1, h2⟩ := mapped e r rfl
    exact ⟨h1, h2, by simp⟩
  · rw [if_neg hc, if_neg hc]
    refine ⟨by simp [e], ?_, by simp⟩
    rw [List.map_append, List.map_append]
    exact r.append (RepL.one rv)
end
/-- what a dict holds at a key -/
def dGet : D → D → Option (Option D)
  | .dK kvs, k => k.key.map (valD kvs)
  | .dT kvs, .tup ks => if ks.length ≠ 8 then (D.keysL ks).map (valD kvs) else none
  | _, _ => none
section
variable {K : PySem.W.Frag} {H : Hp}
theorem dget_rep {v y : V} {d dk : D} {F F' : List Addr} {r : Option D} (rd : Rep K H v d F) (rk : Rep K H y dk F') (e : dGet d dk = some r) :
    ∃ a o, v = .ref a ∧ IsD H a ∧ DGet H a y o ∧ (∀ x, r = some x → ∃ u, o = some u ∧ Rep K H u x []) ∧ (r = none → o = none) := by
  unfold dGet at e
  split at e
  · rename_i kvs k
    cases e1 : dk.key with
    | none => rw [e1] at e; cases e
    | some kk =>
      rw [e1] at e; cases e
      cases rd with
      | dK hH hz hk hr =>
        rename_i a us
        obtain ⟨h1, h2⟩ := val_rep (k := kk) hk hr rfl
        cases key_kV rk e1
        exact ⟨a, _, rfl, .inl ⟨us, .inl hH⟩, DGet.k hH, fun x q => h1 x q, fun q => h2 q⟩
  · rename_i kvs ks
    split at e
    · rename_i h8
      cases e1 : D.keysL ks with
      | none => rw [e1] at e; cases e
      | some kk =>
        rw [e1] at e; cases e
        cases rd with
        | dT hH hz hk hr =>
          rename_i a us
          obtain ⟨b, ws, rfl, hb, lb⟩ := rk.tupK h8
          obtain ⟨rfl, _⟩ := keys_kV lb e1
          obtain ⟨h1, h2⟩ := val_rep (k := kk) hk hr rfl
          exact ⟨a, _, rfl, .inr ⟨us, .inl hH⟩, DGet.t hH hb, fun x q => h1 x q, fun q => h2 q⟩
    · cases e
  · cases e
end
section
variable {X : Cx}
theorem op_in_dict (hu : X.A.units + 1 < cLine) : OpR X (compareOp .In) (fun x y H Q => ∃ a o, y = .ref a ∧ DGet H a x o ∧ Q (.bl o.isSome) H) := by
  intro pins s σ H x y v u Q I rx ry h
  obtain ⟨a, o, rfl, g, q⟩ := h
  obtain rfl : u = Value.ref a := ry
  exact d_in hu I g rx fun s3 I3 => ⟨.bl o.isSome, H, I3, rfl, q⟩
theorem op_notIn_dict (hu : X.A.units + 1 < cLine) : OpR X (compareOp .NotIn) (fun x y H Q => ∃ a o, y = .ref a ∧ DGet H a x o ∧ Q (.bl (!o.isSome)) H) := by
  intro pins s σ H x y v u Q I rx ry h
  obtain ⟨a, o, rfl, g, q⟩ := h
  obtain rfl : u = Value.ref a := ry
  exact d_notIn hu I g rx fun s3 I3 => ⟨.bl (!o.isSome), H, I3, rfl, q⟩
theorem ix_dict (hu : X.A.units + 1 < cLine) : IxR X (fun x y H Q => ∃ a v, x = .ref a ∧ DGet H a y (some v) ∧ Q v H) := by
  intro value slice pins s σ H x y v u Q I rx ry h hs
  obtain ⟨a, v0, rfl, g, q⟩ := h
  obtain rfl : v = Value.ref a := rx
  have hT := dict_typeIs I g
  unfold subscriptTail
  refine wpAny_bind ?_
  rw [getitemInPython_of_ne hT.not_modules]
  refine wpAny_bind (wpAny_specialOf hT PySem.F.slot_dict_getitem.lookup ?_)
  have fin : wpAny (model X.prog X.w) X.A (subscripted slice false (.ref a) u) (fun r s₃ => wpAny (model X.prog X.w) X.A (letTemporaryGo value (.ref a) r >>= fun _ => pure r) (EP X pins σ Q) X.xe s₃) X.xe s := by
    rw [hs]
    exact wpAny_operating (d_getItem hu I g ry fun w' s3 I3 rw' => wpAny_bind (wpAny_letTemporaryGo (wpAny_pure ⟨v0, H, I3, rw', q⟩)))
  first
    | exact wpAny_pure (wpAny_bind fin)
    | exact wpAny_bind (wpAny_pure (wpAny_bind fin))
    | exact wpAny_bind fin
end

section
variable {P : Program} {w : World} {K : PySem.W.Frag} {mg : Str → Option Value} {base : Heap} {N : List Str} {sc : Scope} {k n : Nat} {C : XS} {W A B : List Nat} {Y Y' Y2 Z Z' : Bool}
variable {pos : Pos} {a b e : Expr} {es : List Expr}
theorem units1 {X : Cx} {k : Nat} (r : Room k X.A) : X.A.units + 1 < cLine := by have := r.un; omega
def oInD : List D → Option (Rk × D) := fun ds => match ds with
  | [x, d] => (dGet d x).map fun r => (.imm, .bl r.isSome)
  | _ => none
def oNotInD : List D → Option (Rk × D) := fun ds => match ds with
  | [x, d] => (dGet d x).map fun r => (.imm, .bl (!r.isSome))
  | _ => none
theorem opa_inD (c : Ctx P w K mg base N sc k C) : OpA C (compareOp .In) (fun x y H Q => ∃ a o, y = .ref a ∧ DGet H a x o ∧ Q (.bl o.isSome) H) := fun X hX => op_in_dict (units1 (c X hX).room)
theorem opa_notInD (c : Ctx P w K mg base N sc k C) : OpA C (compareOp .NotIn) (fun x y H Q => ∃ a o, y = .ref a ∧ DGet H a x o ∧ Q (.bl (!o.isSome)) H) := fun X hX => op_notIn_dict (units1 (c X hX).room)
theorem vop_inD : VOp K (rl2 fun x y H Q => ∃ a o, y = .ref a ∧ DGet H a x o ∧ Q (.bl o.isSome) H) oInD := by
  intro H vs ds F Q k d rl e h
  unfold oInD at e
  split at e
  · rename_i x dd
    obtain ⟨v, v', F1, F2, rfl, rfl, r1, r2⟩ := rl.i2
    cases e1 : dGet dd x with
    | none => rw [e1] at e; cases e
    | some r =>
      rw [e1] at e; cases e
      obtain ⟨a, o, rfl, _, g, h1, h2⟩ := dget_rep r2 r1 e1
      refine ⟨a, o, rfl, g, ?_⟩
      have : o.isSome = r.isSome := by
        cases r with
        | none => rw [h2 rfl]; rfl
        | some x => obtain ⟨u, q, _⟩ := h1 x rfl; rw [q]; rfl
      rw [this]
      exact h _ _ [] (Same.refl _) (.bl _) rfl
  · cases e
theorem vop_notInD : VOp K (rl2 fun x y H Q => ∃ a o, y = .ref a ∧ DGet H a x o ∧ Q (.bl (!o.isSome)) H) oNotInD := by
  intro H vs ds F Q k d rl e h
  unfold oNotInD at e
  split at e
  · rename_i x dd
    obtain ⟨v, v', F1, F2, rfl, rfl, r1, r2⟩ := rl.i2
    cases e1 : dGet dd x with
    | none => rw [e1] at e; cases e
    | some r =>
      rw [e1] at e; cases e
      obtain ⟨a, o, rfl, _, g, h1, h2⟩ := dget_rep r2 r1 e1
      refine ⟨a, o, rfl, g, ?_⟩
      have : o.isSome = r.isSome := by
        cases r with
        | none => rw [h2 rfl]; rfl
        | some x => obtain ⟨u, q, _⟩ := h1 x rfl; rw [q]; rfl
      rw [this]
      exact h _ _ [] (Same.refl _) (.bl _) rfl
  · cases e

/-! ### subscripts -/
def rIx' (K : PySem.W.Frag) : R2 := fun x y H Q => rIx K x y H Q ∨ ∃ a v, x = .ref a ∧ DGet H a y (some v) ∧ Q v H
def oIx : List D → Option (Rk × D) := fun ds => match ds with
  | [.lst xs, .int i] => (atI xs i).map fun d => (if d.flat then .imm else .sub, d)
  | [.tup xs, .int i] => (atI xs i).map fun d => (if d.flat then .imm else .sub, d)
  | [.scr ns, .int i] => (atI ns i).map fun m => (.imm, .int m)
  | [.str z, .int i] => if z.length ≤ 16777216 then (atI z.cps.toList i).map fun c => (.imm, .str ⟨#[c]⟩) else none
  | [d, x] => match dGet d x with
    | some (some r) => some (.imm, r)
    | _ => none
  | _ => none
theorem opx_ix (c : Ctx P w K mg base N sc k C) : ∀ X, C X → IxR X (rIx' K) := fun X hX => by
  have := (ix_seq (X := X)).or (ix_dict (units1 (c X hX).room))
  rwa [(c X hX).hK] at this
theorem atI_rep {H : Hp} {vs : List V} {ds : List D} {F : List Addr} {i : Int} {d : D} (rl : RepL K H vs ds F) (e : atI ds i = some d) : ∃ v F2, atI vs i = some v ∧ (∀ a ∈ F2, a ∈ F) ∧ (F.Nodup → F2.Nodup) ∧ Rep K H v d F2 := by
  unfold atI at e ⊢
  rw [rl.length]
  cases q : ixN ds.length i with
  | none => rw [q] at e; cases e
  | some j =>
    rw [q] at e
    obtain ⟨v, F2, h1, h2, h3, h4⟩ := rl.get (show ds[j]? = some d from e)
    exact ⟨v, F2, h3, h1, h2, h4⟩
theorem sub_ok {H : Hp} {d : D} {v : V} {F F2 : List Addr} (h1 : ∀ a ∈ F2, a ∈ F) (h2 : F.Nodup → F2.Nodup) (r : Rep K H v d F2) : (if d.flat then Rk.imm else Rk.sub).Ok H F F2 := by
  by_cases hf : d.flat = true
  · rw [if_pos hf]; exact r.flat hf
  · rw [if_neg hf]; exact ⟨h1, h2⟩
theorem vop_ix : VOp K (rl2 (rIx' K)) oIx := by
  intro H vs ds F Q k d rl e h
  unfold oIx at e
  split at e
  · rename_i xs i
    obtain ⟨v, v', F1, F2, rfl, rfl, r1, r2⟩ := rl.i2
    cases r2.intV
    obtain ⟨a, us, Fa, rfl, rfl, ha, la, za⟩ := r1.lstV
    cases e1 : atI xs i with
    | none => rw [e1] at e; cases e
    | some d0 =>
      rw [e1] at e; cases e
      obtain ⟨v, F3, h1, h2, h3, h4⟩ := atI_rep la e1
      exact .inl (.inl ⟨a, us, i, v, rfl, rfl, SqL.of ha, h1, h _ _ F3 (Same.refl _) h4 (sub_ok (fun a m => by simp [h2 a m]) (fun q => h3 (List.nodup_cons.mp (List.nodup_append.mp q).1).2) h4)⟩)
  · rename_i xs i
    obtain ⟨v, v', F1, F2, rfl, rfl, r1, r2⟩ := rl.i2
    cases r2.intV
    obtain ⟨a, us, rfl, ha, la, za⟩ := r1.tupV
    cases e1 : atI xs i with
    | none => rw [e1] at e; cases e
    | some d0 =>
      rw [e1] at e; cases e
      obtain ⟨v, F3, h1, h2, h3, h4⟩ := atI_rep la e1
      exact .inl (.inr (.inl ⟨a, us, i, v, rfl, rfl, ha, h1, h _ _ F3 (Same.refl _) h4 (sub_ok (fun a m => by simp [h2 a m]) (fun q => h3 (List.nodup_append.mp q).1) h4)⟩))
  · rename_i ns i
    obtain ⟨v, v', F1, F2, rfl, rfl, r1, r2⟩ := rl.i2
    cases r2.intV
    cases r1 with
    | scr hs hz =>
      rename_i a
      cases e1 : atI ns i with
      | none => rw [e1] at e; cases e
      | some m =>
        rw [e1] at e; cases e
        have : atI (ns.map V.int) i = some (.int m) := by
          unfold atI at e1 ⊢
          rw [List.length_map]
          cases q : ixN ns.length i with
          | none => rw [q] at e1; cases e1
          | some j =>
            rw [q] at e1
            show (ns.map V.int)[j]? = _
            rw [List.getElem?_map, show ns[j]? = some m from e1]; rfl
        exact .inl (.inl ⟨a, _, i, _, rfl, rfl, hs.sq, this, h _ _ [] (Same.refl _) (.int m) rfl⟩)
  · rename_i z i
    obtain ⟨v, v', F1, F2, rfl, rfl, r1, r2⟩ := rl.i2
    cases r2.intV; cases r1.strV
    split at e
    · rename_i hz
      cases e1 : atI z.cps.toList i with
      | none => rw [e1] at e; cases e
      | some m =>
        rw [e1] at e; cases e
        exact .inl (.inr (.inr ⟨z, i, m, rfl, rfl, by rw [sizeLine_eq]; exact hz, e1, h _ _ [] (Same.refl _) (.str _) rfl⟩))
    · cases e
  · rename_i dd x _ _ _ _
    obtain ⟨v, v', F1, F2, rfl, rfl, r1, r2⟩ := rl.i2
    split at e
    · rename_i r e1
      cases e
      obtain ⟨a, o, rfl, _, g, h1, _⟩ := dget_rep r1 r2 e1
      obtain ⟨u, rfl, ru⟩ := h1 _ rfl
      exact .inr ⟨a, u, rfl, g, h _ _ [] (Same.refl _) ru rfl⟩
    · cases e
  · cases e
theorem be_ix {fa fb : List S → Option (T × List S)} (c : Ctx P w K mg base N sc k C) (ha : BE C K n W Y a fa) (hb : BE C K n W Y' b fb) (hp : PlainIx b) :
    BE C K n W (Y || (Y' || false)) (.Subscript a b pos) (eOp oIx (aCons (Y' || false) fa (aCons false fb fun env => some ([], env)))) := by
  obtain ⟨ta, a1, a2⟩ := ha
  obtain ⟨tb, b1, b2⟩ := hb
  exact ⟨tOp (rIx' K) ta tb, fun X hX => pe_ix (opx_ix c X hX) (a1 X hX) (b1 X hX) hp, re_op (r := rl2 (rIx' K)) (ra_cons a2 (ra_cons b2 ra_nil)) vop_ix⟩
theorem bp_ix {fa fb : List S → Option (Pk × D)} (c : Ctx P w K mg base N sc k C) (ha : BP C K n W a fa) (hb : BP C K n W b fb) (hp : PlainIx b) :
    BP C K n W (.Subscript a b pos) (pOp oIx (pCons fa (pCons fb fun _ => some []))) := by
  obtain ⟨ta, a1, a2⟩ := ha
  obtain ⟨tb, b1, b2⟩ := hb
  exact ⟨tOp (rIx' K) ta tb, fun X hX => pe_ix (opx_ix c X hX) (a1 X hX) (b1 X hX) hp, rp_op (r := rl2 (rIx' K)) (rpa_cons a2 (rpa_cons b2 rpa_nil)) vop_ix⟩
/-! a dict of the module, its keys texts -/
structure GDict (K : PySem.W.Frag) (w : World) (mg : Str → Option Value) (x : Str) (tbl : List (Str × Option D)) : Prop where
  ex : ∃ p es n, mg x = some (.ref p) ∧ KDict K w p es n ∧ ∀ z r, tbl.lookup z = some r → match r with
    | none => PySem.W.nsIn K p z = some none
    | some d => ∃ u v, PySem.W.nsIn K p z = some (some u) ∧ RelV v u ∧ ∀ H, Rep K H v d []
def oGIx (tbl : List (Str × Option D)) : List D → Option (Rk × D) := fun ds => match ds with
  | [.str z] => match tbl.lookup z with
    | some (some d) => some (.imm, d)
    | _ => none
  | _ => none
def oGIn (tbl : List (Str × Option D)) : List D → Option (Rk × D) := fun ds => match ds with
  | [.str z] => (tbl.lookup z).map fun r => (.imm, .bl r.isSome)
  | _ => none
theorem be_gix {fa : List S → Option (T × List S)} {x : Str} {tbl : List (Str × Option D)} {p : Pos} (c : Ctx P w K mg base N sc k C) (hg : sc.names.lookup x = some .globalImplicit) (g : GDict K w mg x tbl) (ha : BE C K n W Y b fa) (hp : PlainIx b) (hd : (x == ("__debug__" : Str)) = false := by decide) :
    BE C K n W (Y || false) (.Subscript (.Name x p) b pos) (eOp (oGIx tbl) (aCons false fa fun env => some ([], env))) := by
  obtain ⟨pa, es, n', h1, h2, h3⟩ := g.ex
  obtain ⟨ta, a1, a2⟩ := ha
  refine ⟨tOp (rIxD K w) (tC (.ref pa)) ta, fun X hX => ?_, re_op (r := rl1 fun y H Q => rIxD K w (.ref pa) y H Q) (ra_cons a2 ra_nil) ?_⟩
  · have := ix_kdict (X := X)
    rw [(c X hX).hK, (c X hX).hw] at this
    exact pe_ix this (pe_glob (show X.env.scope.names.lookup x = _ by rw [(c X hX).hsc]; exact hg) (by rw [(c X hX).hmg]; exact h1) rfl hd) (a1 X hX) hp
  · intro H vs ds F Q k d rl e h
    unfold oGIx at e
    split at e
    · rename_i z
      obtain ⟨v, rfl, r1⟩ := rl.i1
      cases r1.strV
      split at e
      · rename_i d0 e1
        cases e
        obtain ⟨u, v, q1, q2, q3⟩ := h3 z _ e1
        exact ⟨pa, z, v, rfl, rfl, ⟨es, n', u, h2.at_, h2.lit, q1, q2⟩, h _ _ [] (Same.refl _) (q3 H) rfl⟩
      · cases e
    · cases e
theorem be_gin {fa : List S → Option (T × List S)} {x : Str} {tbl : List (Str × Option D)} {p : Pos} (c : Ctx P w K mg base N sc k C) (hg : sc.names.lookup x = some .globalImplicit) (g : GDict K w mg x tbl) (ha : BE C K n W Y a fa) (hd : (x == ("__debug__" : Str)) = false := by decide) :
    BE C K n W (Y || false) (.Compare a [.In] [.Name x p] pos) (eOp (oGIn tbl) (aCons false fa fun env => some ([], env))) := by
  obtain ⟨pa, es, n', h1, h2, h3⟩ := g.ex
  obtain ⟨ta, a1, a2⟩ := ha
  refine ⟨tOp (fun x y H Q => ∃ (z : Str) (r : Option Value), x = .str z ∧ y = .ref pa ∧ PySem.W.nsIn K pa z = some r ∧ Q (.bl r.isSome) H) ta (tC (.ref pa)), fun X hX => ?_,
    re_op (r := rl1 fun y H Q => ∃ (z : Str) (r : Option Value), y = .str z ∧ V.ref pa = .ref pa ∧ PySem.W.nsIn K pa z = some r ∧ Q (.bl r.isSome) H) (ra_cons a2 ra_nil) ?_⟩
  · have h2' : KDict X.K X.w pa es n' := by rw [(c X hX).hK, (c X hX).hw]; exact h2
    have := op_in_kd h2'
    rw [(c X hX).hK] at this
    exact pe_cmpR this (a1 X hX) (pe_glob (show X.env.scope.names.lookup x = _ by rw [(c X hX).hsc]; exact hg) (by rw [(c X hX).hmg]; exact h1) rfl hd) rfl
  · intro H vs ds F Q k d rl e h
    unfold oGIn at e
    split at e
    · rename_i z
      obtain ⟨v, rfl, r1⟩ := rl.i1
      cases r1.strV
      cases e1 : tbl.lookup z with
      | none => rw [e1] at e; cases e
      | some r =>
        rw [e1] at e; cases e
        have q := h3 z r e1
        cases r with
        | none => exact ⟨z, none, rfl, rfl, q, h _ _ [] (Same.refl _) (.bl _) rfl⟩
        | some d0 =>
          obtain ⟨u, v, q1, _, _⟩ := q
          exact ⟨z, some u, rfl, rfl, q1, h _ _ [] (Same.refl _) (.bl _) rfl⟩
    · cases e

/-! ### len, conversions -/
def oLen : List D → Option (Rk × D) := fun ds => match ds with
  | [.lst xs] => some (.imm, .int xs.length)
  | [.tup xs] => some (.imm, .int xs.length)
  | [.scr xs] => some (.imm, .int xs.length)
  | [.str z] => if z.length ≤ 16777216 then some (.imm, .int z.length) else none
  | _ => none
def rLen' (K : PySem.W.Frag) : List V → Hp → VK → Prop := fun xs H Q => (∃ p ys, xs = [.ref p] ∧ (SqL K H p ys ∨ SqT K H p ys) ∧ Q (.int ys.length) H) ∨ ∃ z, xs = [.str z] ∧ z.length ≤ sizeLine ∧ Q (.int z.length) H
theorem vop_len : VOp K (rLen' K) oLen := by
  intro H vs ds F Q k d rl e h
  unfold oLen at e
  split at e
  · obtain ⟨v, rfl, r1⟩ := rl.i1
    obtain ⟨a, us, Fa, rfl, rfl, ha, la, za⟩ := r1.lstV
    cases e
    exact .inl ⟨a, us, rfl, .inl (SqL.of ha), h _ _ [] (Same.refl _) (by rw [la.length]; exact .int _) rfl⟩
  · obtain ⟨v, rfl, r1⟩ := rl.i1
    obtain ⟨a, us, rfl, ha, la, za⟩ := r1.tupV
    cases e
    exact .inl ⟨a, us, rfl, .inr ha, h _ _ [] (Same.refl _) (by rw [la.length]; exact .int _) rfl⟩
  · obtain ⟨v, rfl, r1⟩ := rl.i1
    cases r1 with
    | scr hs hz =>
      cases e
      exact .inl ⟨_, _, rfl, .inl hs.sq, h _ _ [] (Same.refl _) (by rw [List.length_map]; exact .int _) rfl⟩
  · obtain ⟨v, rfl, r1⟩ := rl.i1
    cases r1.strV
    split at e
    · rename_i hz
      cases e
      exact .inr ⟨_, rfl, by rw [sizeLine_eq]; exact hz, h _ _ [] (Same.refl _) (.int _) rfl⟩
    · cases e
  · cases e
theorem clr_len (c : Ctx P w K mg base N sc k C) : ∀ X, C X → CallR X (.builtin "len") (rLen' K) := fun X hX => by
  have := (call_len_seq (X := X)).or call_len_str
  rwa [(c X hX).hK] at this
theorem be_callTy {T : String} {x : Str} {p : Pos} {r : List V → Hp → VK → Prop} {o : List D → Option (Rk × D)} {f : List S → Option (List Ar × List S)} (c : Ctx P w K mg base N sc k C) (hr : ∀ X, C X → CallR X (.type T) r) (ho : VOp K r o) (hg : sc.names.lookup x = some .globalImplicit) (hm : mg x = none) (hv : bootBuiltins x = some (.type T))
    (ha : BA C K n W Y (e :: es) f) (hn : x ≠ "__name__" := by decide) (hdb : (x == ("__debug__" : Str)) = false := by decide)
    (hs : ∀ env : Env, starEach (e :: es) env = (false, eval e env) :: starEach es env := by intro _; rfl) (hpl : ∀ env : Env, (backTo pos (starEach es env)).any (·.1) = false := by intro _; rfl) :
    BE C K n W Y (.Call (.Name x p) (e :: es) [] pos) (eOp o f) := by
  obtain ⟨t, h1, h2⟩ := ha
  exact ⟨tCB r t, fun X hX => pe_callTy (hr X hX) (show X.env.scope.names.lookup x = _ by rw [(c X hX).hsc]; exact hg) (by rw [(c X hX).hmg]; exact hm) hv (h1 X hX) hn hdb (hs _) (hpl _), re_op (r := r) h2 ho⟩
theorem bp_callB {id : String} {x : Str} {p : Pos} {r : List V → Hp → VK → Prop} {o : List D → Option (Rk × D)} {f : List S → Option (List (Pk × D))} (c : Ctx P w K mg base N sc k C) (hr : ∀ X, C X → CallR X (.builtin id) r) (ho : VOp K r o) (hg : sc.names.lookup x = some .globalImplicit) (hm : mg x = none) (hv : bootBuiltins x = some (.builtin id))
    (ha : BPA C K n W (e :: es) f) (hn : x ≠ "__name__" := by decide) (hdb : (x == ("__debug__" : Str)) = false := by decide)
    (hs : ∀ env : Env, starEach (e :: es) env = (false, eval e env) :: starEach es env := by intro _; rfl) (hpl : ∀ env : Env, (backTo pos (starEach es env)).any (·.1) = false := by intro _; rfl) :
    BP C K n W (.Call (.Name x p) (e :: es) [] pos) (pOp o f) := by
  obtain ⟨t, h1, h2⟩ := ha
  exact ⟨tCB r t, fun X hX => pe_callB (hr X hX) (show X.env.scope.names.lookup x = _ by rw [(c X hX).hsc]; exact hg) (by rw [(c X hX).hmg]; exact hm) hv (h1 X hX) hn hdb (hs _) (hpl _), rp_op (r := r) h2 ho⟩
theorem bp_callTy {T : String} {x : Str} {p : Pos} {r : List V → Hp → VK → Prop} {o : List D → Option (Rk × D)} {f : List S → Option (List (Pk × D))} (c : Ctx P w K mg base N sc k C) (hr : ∀ X, C X → CallR X (.type T) r) (ho : VOp K r o) (hg : sc.names.lookup x = some .globalImplicit) (hm : mg x = none) (hv : bootBuiltins x = some (.type T))
    (ha : BPA C K n W (e :: es) f) (hn : x ≠ "__name__" := by decide) (hdb : (x == ("__debug__" : Str)) = false := by decide)
    (hs : ∀ env : Env, starEach (e :: es) env = (false, eval e env) :: starEach es env := by intro _; rfl) (hpl : ∀ env : Env, (backTo pos (starEach es env)).any (·.1) = false := by intro _; rfl) :
    BP C K n W (.Call (.Name x p) (e :: es) [] pos) (pOp o f) := by
  obtain ⟨t, h1, h2⟩ := ha
  exact ⟨tCB r t, fun X hX => pe_callTy (hr X hX) (show X.env.scope.names.lookup x = _ by rw [(c X hX).hsc]; exact hg) (by rw [(c X hX).hmg]; exact hm) hv (h1 X hX) hn hdb (hs _) (hpl _), rp_op (r := r) h2 ho⟩
/-! int(b), int(i) -/
def oInt : List D → Option (Rk × D) := fun ds => match ds with
  | [.int i] => some (.imm, .int i)
  | [.bl b] => some (.imm, .int (if b then 1 else 0))
  | _ => none
theorem vop_toInt : VOp K (fun xs H Q => (∃ i, xs = [.int i] ∧ Q (.int i) H) ∨ ∃ k, xs = [.bl k] ∧ Q (.int (if k then 1 else 0)) H) oInt := by
  intro H vs ds F Q k d rl e h
  unfold oInt at e
  split at e
  · obtain ⟨v, rfl, r1⟩ := rl.i1
    cases r1.intV; cases e
    exact .inl ⟨_, rfl, h _ _ [] (Same.refl _) (.int _) rfl⟩
  · obtain ⟨v, rfl, r1⟩ := rl.i1
    cases r1.blV; cases e
    exact .inr ⟨_, rfl, h _ _ [] (Same.refl _) (.int _) rfl⟩
  · cases e
theorem clr_int : ∀ X, C X → CallR X (.type "int") (fun xs H Q => (∃ i, xs = [.int i] ∧ Q (.int i) H) ∨ ∃ k, xs = [.bl k] ∧ Q (.int (if k then 1 else 0)) H) := fun _ _ => call_int1
/-! list(xs), tuple(xs) -/
def oList : List D → Option (Rk × D) := fun ds => match ds with
  | [.lst xs] => some (if D.flats xs then .fresh else .mix, .lst xs)
  | [.tup xs] => some (if D.flats xs then .fresh else .mix, .lst xs)
  | _ => none
theorem vop_list : VOp K (fun xs H Q => ∃ p ys, xs = [.ref p] ∧ (SqL K H p ys ∨ SqT K H p ys) ∧ ∀ l, H l = none → Q (.ref l) (upd H l (.lst ys))) oList := by
  intro H vs ds F Q k d rl e h
  unfold oList at e
  split at e
  · obtain ⟨v, rfl, r1⟩ := rl.i1
    obtain ⟨a, us, Fa, rfl, rfl, ha, la, za⟩ := r1.lstV
    cases e
    exact ⟨a, us, rfl, .inl (SqL.of ha), new_lst la za id (fun a m => List.mem_cons_of_mem _ m) (fun q => (List.nodup_cons.mp q).2) h⟩
  · obtain ⟨v, rfl, r1⟩ := rl.i1
    obtain ⟨a, us, rfl, ha, la, za⟩ := r1.tupV
    cases e
    exact ⟨a, us, rfl, .inr ha, new_lst la za id (fun a m => m) id h⟩
  · cases e
theorem clr_list (c : Ctx P w K mg base N sc k C) : ∀ X, C X → CallR X (.type "list") (fun xs H Q => ∃ p ys, xs = [.ref p] ∧ (SqL K H p ys ∨ SqT K H p ys) ∧ ∀ l, H l = none → Q (.ref l) (upd H l (.lst ys))) := fun X hX => by
  have := call_list_of (X := X)
  rwa [(c X hX).hK] at this
def oTuple : List D → Option (Rk × D) := fun ds => match ds with
  | [.lst xs] => some (if D.flats xs then .imm else .mix, .tup xs)
  | [.tup xs] => some (if D.flats xs then .imm else .sub, .tup xs)
  | _ => none
theorem vop_tuple : VOp K (fun xs H Q => ∃ p ys, xs = [.ref p] ∧ ((SqL K H p ys ∧ ∀ l, H l = none → Q (.ref l) (upd H l (.tup ys))) ∨ (SqT K H p ys ∧ Q (.ref p) H))) oTuple := by
  intro H vs ds F Q k d rl e h
  unfold oTuple at e
  split at e
  · rename_i xs
    obtain ⟨v, rfl, r1⟩ := rl.i1
    obtain ⟨a, us, Fa, rfl, rfl, ha, la, za⟩ := r1.lstV
    cases e
    refine ⟨a, us, rfl, .inl ⟨SqL.of ha, fun p hp => h _ _ Fa (same_upd hp) (.tup (SqT.of upd_same) (.inr upd_same) za (la.same (same_upd hp))) ?_⟩⟩
    by_cases hf : D.flats xs = true
    · rw [if_pos hf]; exact la.flats hf
    · rw [if_neg hf]; exact ⟨fun a m => .inl (List.mem_cons_of_mem _ m), fun q => (List.nodup_cons.mp q).2⟩
  · rename_i xs
    obtain ⟨v, rfl, r1⟩ := rl.i1
    obtain ⟨a, us, rfl, ha, la, za⟩ := r1.tupV
    cases e
    refine ⟨a, us, rfl, .inr ⟨ha, h _ _ F (Same.refl _) r1 ?_⟩⟩
    by_cases hf : D.flats xs = true
    · rw [if_pos hf]; exact la.flats hf
    · rw [if_neg hf]; exact ⟨fun a m => m, id⟩
  · cases e
theorem clr_tuple (c : Ctx P w K mg base N sc k C) : ∀ X, C X → CallR X (.type "tuple") (fun xs H Q => ∃ p ys, xs = [.ref p] ∧ ((SqL K H p ys ∧ ∀ l, H l = none → Q (.ref l) (upd H l (.tup ys))) ∨ (SqT K H p ys ∧ Q (.ref p) H))) := fun X hX => by
  have := call_tuple_of (X := X)
  rwa [(c X hX).hK] at this
end
end RG

set_option maxRecDepth 100000
set_option maxHeartbeats 4000000
namespace RG
open PySem PySem.Spec PyProof.Rows L2

section
variable {P : Program} {w : World} {K : PySem.W.Frag} {mg : Str → Option Value} {base : Heap} {N : List Str} {sc : Scope} {k n : Nat} {C : XS} {W A B : List Nat} {Y Y' Y2 Z Z' : Bool}
variable {pos : Pos} {a b e : Expr} {es : List Expr}

/-! ### methods of built-in types, by values -/
def D.isTy (T : String) : D → Bool
  | .str _ => T == "str"
  | .lst _ => T == "list"
  | .scr _ => T == "list"
  | .dK _ => T == "dict"
  | .dT _ => T == "dict"
  | _ => false
theorem Rep.isTy {H : Hp} {v : V} {d : D} {F : List Addr} {T : String} (r : Rep K H v d F) (h : d.isTy T = true) : tyV K T v H := by
  cases r with
  | str x => show T = "str"; simpa [D.isTy] using h
  | lst ha z rl => exact .inl ⟨by simpa [D.isTy] using h, _, SqL.of ha⟩
  | scr hs z => exact .inl ⟨by simpa [D.isTy] using h, _, hs.sq⟩
  | dK ha z k rl => exact .inr (.inr (.inl ⟨by simpa [D.isTy] using h, .inl ⟨_, ha⟩⟩))
  | dT ha z k rl => exact .inr (.inr (.inl ⟨by simpa [D.isTy] using h, .inr ⟨_, ha⟩⟩))
  | _ => cases h
def rlM (r : V → List V → Hp → VK → Prop) : List V → Hp → VK → Prop := fun vs H Q => match vs with
  | x :: xs => r x xs H Q
  | [] => False
def aConsT (T : String) (Y' : Bool) (fa : List S → Option (RG.T × List S)) (fr : List S → Option (List Ar × List S)) : List S → Option (List Ar × List S) := fun env => match fa env with
  | none => none
  | some (x, env1) => if (Y' = true ∧ x.1 = .bor) ∨ x.2.isTy T = false then none else (fr env1).map fun xs => (.tmp x :: xs.1, xs.2)
theorem re_meth {T : String} {to : TE} {t : TA} {r : V → List V → Hp → VK → Prop} {o : List D → Option (Rk × D)} {fo : List S → Option (RG.T × List S)} {fa : List S → Option (List Ar × List S)} (ho : RE K n W Y to fo) (ha : RA K n W Y' t fa) (hr : VOp K (rlM r) o) :
    RE K n W (Y || Y') (tBM K T r to t) (eOp o (aConsT T Y' fo fa)) := by
  intro g FS env τ σ tv H Q rr env' hK hn hW he hs Sm yb e h
  unfold eOp aConsT at e
  cases e1 : fo env with
  | none => simp only [e1] at e; cases e
  | some x =>
    obtain ⟨x, env1⟩ := x
    simp only [e1] at e
    split at e
    · cases e
    · rename_i hc
      simp only [not_or, Bool.not_eq_false] at hc
      refine ho g FS env τ σ tv H _ x env1 hK hn hW he hs Sm (fun q => yb (by simp [q])) e1 fun v H1 FS1 l1 S1 => ?_
      obtain ⟨v', ev, rv, _⟩ := Sim.top (k := x.1) (d := x.2) S1 (by rw [List.length_append, l1, hn]; exact Nat.le_add_right _ _)
      cases ev
      refine ⟨by subst hK; exact rv.isTy hc.2, ?_⟩
      cases e2 : fa env1 with
      | none => rw [e2] at e; cases e
      | some xs =>
        obtain ⟨xs, env2⟩ := xs
        simp only [e2, Option.map_some, Option.bind_some] at e
        cases e3 : tmps xs with
        | none => simp [tmps, e3] at e
        | some ts =>
          simp only [tmps, e3, Option.map_some, Option.bind_some] at e
          cases e4 : o ((x :: ts).map (·.2)) with
          | none => rw [e4] at e; cases e
          | some kd =>
            obtain ⟨k, d⟩ := kd
            simp only [e4, Option.map_some, Option.some.injEq, Prod.mk.injEq] at e
            obtain ⟨rfl, rfl⟩ := e
            rw [List.append_assoc, List.append_assoc] at S1
            refine ha g FS1 env1 (τ ++ [x.s]) σ (tv ++ [some v]) H1 _ xs env2 hK hn hW l1 hs S1 (fun q => (yb (by simp [q])).snoc ?_) e2 fun vs H2 FS2 l2 lv pt S2 => ?_
            · obtain ⟨kx, dx⟩ := x
              cases kx <;> first | rfl | exact absurd ⟨q, rfl⟩ hc.1
            have ea := tmps_map e3
            subst ea
            have S3 : Sim g FS2 ((env2 ++ τ) ++ (x :: ts).map RG.T.s) ((σ ++ tv) ++ (v :: vs).map some) H2 := by
              have em : (ts.map Ar.tmp).map Ar.s = ts.map RG.T.s := by rw [List.map_map]; rfl
              rw [em] at S2
              simpa using S2
            obtain ⟨F, S4, rl, tk⟩ := Sim.tops S3 (by simp at lv ⊢; omega) (by rw [List.length_append, l2, hn]; exact Nat.le_add_right _ _)
            subst hK
            have := hr H2 (v :: vs) _ F Q k d rl e4 fun v H3 F' s3 rv ok => h v H3 _ l2 ((S4.same s3).push rv (TOk.rk S4 tk ok) fun _ => by rw [List.length_append, l2, hn]; exact Nat.le_add_right _ _)
            exact this
theorem be_meth {T id : String} {name : Str} {apos cpos : Pos} {o' : Expr} {r : V → List V → Hp → VK → Prop} {o : List D → Option (Rk × D)} {fo : List S → Option (RG.T × List S)} {fa : List S → Option (List Ar × List S)} (c : Ctx P w K mg base N sc k C) (pa : PlainAttrs T) (slot : Slot T name id) (hty : typeOf (.builtin id) = pure (.type "method_descriptor"))
    (hm : ∀ X, C X → MtR X id r) (ho : VOp K (rlM r) o) (hv : BE C K n W Y o' fo) (ha : BA C K n W Y' (e :: es) fa)
    (hbase : ∀ env : Env, attributeBase o' name env (eval o' env) = eval o' env := by intro _; rfl)
    (hfew : ∀ env : Env, ((backTo cpos (starEach (e :: es) env)).all (fun x => !x.1) && (backToKw cpos (keywordEach [] env)).all (fun x => x.1.isSome)
      && decide ((e :: es).length + ([] : List Keyword).length + (if ([] : List Keyword).isEmpty then 0 else 1) < 30)) = true := by intro _; rfl)
    (hline : (apos.endLine == cpos.line) = true := by rfl) (hs : ∀ env : Env, starEach (e :: es) env = (false, eval e env) :: starEach es env := by intro _; rfl) (hplain : ∀ env : Env, (backTo cpos (starEach es env)).any (·.1) = false := by intro _; rfl) :
    BE C K n W (Y || Y') (.Call (.Attribute o' name apos) (e :: es) [] cpos) (eOp o (aConsT T Y' fo fa)) := by
  obtain ⟨to, o1, o2⟩ := hv
  obtain ⟨ta, a1, a2⟩ := ha
  refine ⟨tBM K T r to ta, fun X hX => ?_, re_meth o2 a2 ho⟩
  have := pe_bm (X := X) pa slot hty (hm X hX) (o1 X hX) (a1 X hX) (hbase _) (hfew _) hline (hs _) (hplain _)
  rwa [(c X hX).hK] at this
/-! #### texts -/
def strsOf (ds : List D) : Option (List Str) := ds.mapM D.asStr
def oJoin : List D → Option (Rk × D) := fun ds => match ds with
  | [.str x, .lst ys] => (strsOf ys).bind fun zs => if (zs.map (·.length)).sum + zs.length * x.length ≤ 16777216 then some (.imm, .str (Txt.join x zs)) else none
  | [.str x, .tup ys] => (strsOf ys).bind fun zs => if (zs.map (·.length)).sum + zs.length * x.length ≤ 16777216 then some (.imm, .str (Txt.join x zs)) else none
  | _ => none
def rJoin' (K : PySem.W.Frag) : V → List V → Hp → VK → Prop := fun x xs H Q => ∃ a p, ∃ ys : List Str, x = .str a ∧ xs = [.ref p] ∧ (SqL K H p (ys.map V.str) ∨ SqT K H p (ys.map V.str)) ∧
    (ys.map (·.length)).sum + ys.length * a.length ≤ 16777216 ∧ Q (.str (Txt.join a ys)) H
theorem vop_join : VOp K (rlM (rJoin' K)) oJoin := by
  intro H vs ds F Q k d rl e h
  unfold oJoin at e
  split at e
  · rename_i x ys
    obtain ⟨v, v', F1, F2, rfl, rfl, r1, r2⟩ := rl.i2
    cases r1.strV
    obtain ⟨a, us, Fa, rfl, rfl, ha, la, za⟩ := r2.lstV
    cases e1 : strsOf ys with
    | none => rw [e1] at e; cases e
    | some zs =>
      simp only [e1, Option.bind_some] at e
      split at e
      · rename_i hz
        cases e
        have ey := asStr_map e1
        subst ey
        obtain ⟨rfl, _⟩ := la.strs
        exact ⟨x, a, zs, rfl, rfl, .inl (SqL.of ha), hz, h _ _ [] (Same.refl _) (.str _) rfl⟩
      · cases e
  · rename_i x ys
    obtain ⟨v, v', F1, F2, rfl, rfl, r1, r2⟩ := rl.i2
    cases r1.strV
    obtain ⟨a, us, rfl, ha, la, za⟩ := r2.tupV
    cases e1 : strsOf ys with
    | none => rw [e1] at e; cases e
    | some zs =>
      simp only [e1, Option.bind_some] at e
      split at e
      · rename_i hz
        cases e
        have ey := asStr_map e1
        subst ey
        obtain ⟨rfl, _⟩ := la.strs
        exact ⟨x, a, zs, rfl, rfl, .inr ha, hz, h _ _ [] (Same.refl _) (.str _) rfl⟩
      · cases e
  · cases e
theorem mtr_join (c : Ctx P w K mg base N sc k C) : ∀ X, C X → MtR X "str.join" (rJoin' K) := fun X hX => by
  have := mt_join (X := X)
  rwa [(c X hX).hK] at this
def oSplit : List D → Option (Rk × D) := fun ds => match ds with
  | [.str x, .str y] => if (y.length == 0) = false ∧ x.length + 2 ≤ 16777216 ∧ (Txt.split x y).length ≤ 16777216 then some (.fresh, .lst ((Txt.split x y).map D.str)) else none
  | _ => none
theorem vop_split : VOp K (rlM fun x xs H Q => ∃ a b, x = .str a ∧ xs = [.str b] ∧ (b.length == 0) = false ∧ a.length + 2 ≤ sizeLine ∧ rNewStrs (Txt.split a b) H Q) oSplit := by
  intro H vs ds F Q k d rl e h
  unfold oSplit at e
  split at e
  · rename_i x y
    obtain ⟨v, v', F1, F2, rfl, rfl, r1, r2⟩ := rl.i2
    cases r1.strV; cases r2.strV
    split at e
    · rename_i hc
      cases e
      refine ⟨x, y, rfl, rfl, hc.1, by rw [sizeLine_eq]; exact hc.2.1, fun p hp => h _ _ [p] (same_upd hp) (.lst upd_same (by rw [List.length_map, sizeLine_eq]; exact hc.2.2) (RepL.ofStrs _)) ⟨by simp, fun a m => by rw [List.mem_singleton.mp m]; exact hp⟩⟩
    · cases e
  · cases e
theorem mtr_split : ∀ X, C X → MtR X "str.split" (fun x xs H Q => ∃ a b, x = .str a ∧ xs = [.str b] ∧ (b.length == 0) = false ∧ a.length + 2 ≤ sizeLine ∧ rNewStrs (Txt.split a b) H Q) := fun _ _ => mt_split
/-! #### xs.index(y), flat things; d.get(k, x) -/
def idx1 (y : D) : List D → Option Nat
  | [] => none
  | d :: ds => if d.eq1 y then some 0 else (idx1 y ds).map (· + 1)
theorem idx1_spec {H : Hp} {v : V} {y : D} {F0 : List Addr} (ry : Rep K H v y F0) (hy : y.flat1 = true) : ∀ {vs : List V} {ds : List D} {F : List Addr} {j : Nat}, RepL K H vs ds F → ds.all D.flat1 = true → idx1 y ds = some j →
    ∃ z, vs[j]? = some z ∧ eqV z v = true ∧ ∀ (m : Nat) (z' : V), m < j → vs[m]? = some z' → eqV z' v = false
  | _, _, _, j, .nil, _, e => by cases e
  | _, _, _, j, .cons (v := v1) (d := d1) r t, hf, e => by
    rw [List.all_cons, Bool.and_eq_true] at hf
    simp only [idx1] at e
    by_cases hd : d1.eq1 y = true
    · rw [if_pos hd] at e; cases e
      exact ⟨v1, rfl, by rw [r.eq1 ry hf.1 hy]; exact hd, fun m z' hm => absurd hm (Nat.not_lt_zero _)⟩
    · rw [if_neg hd] at e
      cases e1 : idx1 y _ with
      | none => rw [e1] at e; cases e
      | some j' =>
        rw [e1] at e; cases e
        obtain ⟨z, h1, h2, h3⟩ := idx1_spec ry hy t hf.2 e1
        refine ⟨z, h1, h2, fun m z' hm hz => ?_⟩
        cases m with
        | zero => cases hz; rw [r.eq1 ry hf.1 hy]; simpa using hd
        | succ m => exact h3 m z' (Nat.lt_of_succ_lt_succ hm) hz
def oIndex : List D → Option (Rk × D) := fun ds => match ds with
  | [.lst xs, y] => if y.flat1 && xs.all D.flat1 then (idx1 y xs).map fun j => (.imm, .int j) else none
  | _ => none
theorem vop_index : VOp K (rlM (rIndex K)) oIndex := by
  intro H vs ds F Q k d rl e h
  unfold oIndex at e
  split at e
  · rename_i xs y
    obtain ⟨v, v', F1, F2, rfl, rfl, r1, r2⟩ := rl.i2
    obtain ⟨a, us, Fa, rfl, rfl, ha, la, za⟩ := r1.lstV
    split at e
    · rename_i hc
      rw [Bool.and_eq_true] at hc
      cases e1 : idx1 y xs with
      | none => rw [e1] at e; cases e
      | some j =>
        rw [e1] at e; cases e
        obtain ⟨z, h1, h2, h3⟩ := idx1_spec r2 hc.1 la hc.2 e1
        exact ⟨a, us, v', j, z, rfl, rfl, SqL.of ha, r2.flat1 hc.1, la.flat1 hc.2, h1, h2, h3, h _ _ [] (Same.refl _) (.int _) rfl⟩
    · cases e
  · cases e
theorem mtr_index (c : Ctx P w K mg base N sc k C) : ∀ X, C X → MtR X "list.index" (rIndex K) := fun X hX => by
  have := mt_index (X := X)
  rwa [(c X hX).hK] at this
/-! WAYS.index(e): a tuple of texts of the module -/
structure GTup (K : PySem.W.Frag) (mg : Str → Option Value) (x : Str) (ys : List Str) : Prop where
  ex : ∃ p o, mg x = some (.ref p) ∧ K.lookup p = some o ∧ o.cls = .type "tuple" ∧ o.dict = none ∧ (∀ H, SqT K H p (ys.map V.str)) ∧ ys.length = 8
theorem GTup.val {x : Str} {ys : List Str} (g : GTup K mg x ys) : GVal K mg x (.tup (ys.map D.str)) := by
  obtain ⟨p, o, h1, h2, h3, h4, h5, h6⟩ := g.ex
  exact ⟨_, .ref p, h1, rfl, fun H => .tup (h5 H) (.inl (by rw [List.length_map]; exact h6)) (by rw [List.length_map, h6, sizeLine_eq]; decide) (RepL.ofStrs _)⟩
def idxS (z : Str) : List Str → Option Nat
  | [] => none
  | y :: ys => if y = z then some 0 else (idxS z ys).map (· + 1)
theorem idxS_spec {z : Str} : ∀ {ys : List Str} {j : Nat}, idxS z ys = some j → ys[j]? = some z ∧ ∀ m, m < j → ys[m]? ≠ some z
  | [], j, e => by cases e
  | y :: ys, j, e => by
    simp only [idxS] at e
    by_cases h : y = z
    · rw [if_pos h] at e; cases e
      exact ⟨by rw [h]; rfl, fun m hm => absurd hm (Nat.not_lt_zero _)⟩
    · rw [if_neg h] at e
      cases e1 : idxS z ys with
      | none => rw [e1] at e; cases e
      | some j' =>
        rw [e1] at e; cases e
        obtain ⟨h1, h2⟩ := idxS_spec e1
        refine ⟨h1, fun m hm q => ?_⟩
        cases m with
        | zero => exact h (Option.some.inj q)
        | succ m => exact h2 m (Nat.lt_of_succ_lt_succ hm) q
def oTIdx (ys : List Str) : List D → Option (Rk × D) := fun ds => match ds with
  | [.str z] => (idxS z ys).map fun j => (.imm, .int j)
  | _ => none
theorem be_tidx {x : Str} {ys : List Str} {p apos cpos : Pos} {fa : List S → Option (T × List S)} (c : Ctx P w K mg base N sc k C) (hg : sc.names.lookup x = some .globalImplicit) (g : GTup K mg x ys) (ha : BE C K n W Y e fa) (hd : (x == ("__debug__" : Str)) = false := by decide)
    (hs : ∀ env : Env, starEach [e] env = (false, eval e env) :: starEach [] env := by intro _; rfl) (hline : (apos.endLine == cpos.line) = true := by rfl)
    (hfew : ∀ env : Env, ((backTo cpos (starEach [e] env)).all (fun x => !x.1) && (backToKw cpos (keywordEach [] env)).all (fun x => x.1.isSome)
      && decide (([e] : List Expr).length + ([] : List Keyword).length + (if ([] : List Keyword).isEmpty then 0 else 1) < 30)) = true := by intro _; rfl) :
    BE C K n W (Y || false) (.Call (.Attribute (.Name x p) "index" apos) [e] [] cpos) (eOp (oTIdx ys) (aCons false fa fun env => some ([], env))) := by
  obtain ⟨pa, o, h1, h2, h3, h4, h5, h6⟩ := g.ex
  obtain ⟨ta, a1, a2⟩ := ha
  refine ⟨tBM K "tuple" (fun x xs H Q => ∃ p, ∃ ys : List Str, ∃ z j, x = .ref p ∧ xs = [.str z] ∧ SqT K H p (ys.map V.str) ∧ ys[j]? = some z ∧ (∀ m, m < j → ys[m]? ≠ some z) ∧ Q (.int (j : Nat)) H) (tC (.ref pa)) (tCons ta tNil), fun X hX => ?_, ?_⟩
  · have hm := mt_tup_index (X := X)
    rw [(c X hX).hK] at hm
    have := pe_bm (X := X) (apos := apos) (cpos := cpos) PySem.F.plainAttrs_tuple PySem.F.slot_tuple_index PySem.F.type_tuple_index hm (pe_glob (pos := p) (v := .ref pa) (show X.env.scope.names.lookup x = _ by rw [(c X hX).hsc]; exact hg) (by rw [(c X hX).hmg]; exact h1) rfl hd) (pa_cons (a1 X hX) pa_nil (hs _)) rfl (hfew _) hline (hs _) rfl
    rw [(c X hX).hK] at this
    exact this
  · intro g' FS env τ σ tv H Q r env' hK hn hW he hs Sm yb e h
    show tyV K "tuple" (.ref pa) H ∧ _
    refine ⟨.inr (.inl ⟨rfl, o, h2, h3, h4⟩), ?_⟩
    refine (re_op (r := fun vs H Q => ∃ p, ∃ ys : List Str, ∃ z j, V.ref pa = .ref p ∧ vs = [.str z] ∧ SqT K H p (ys.map V.str) ∧ ys[j]? = some z ∧ (∀ m, m < j → ys[m]? ≠ some z) ∧ Q (.int (j : Nat)) H) (o := oTIdx ys) (ra_cons a2 ra_nil) ?_) g' FS env τ σ tv H Q r env' hK hn hW he hs Sm yb e h
    intro H vs ds F Q k d rl e h
    unfold oTIdx at e
    split at e
    · rename_i z
      obtain ⟨v, rfl, r1⟩ := rl.i1
      cases r1.strV
      cases e1 : idxS z ys with
      | none => rw [e1] at e; cases e
      | some j =>
        rw [e1] at e; cases e
        obtain ⟨q1, q2⟩ := idxS_spec e1
        exact ⟨pa, ys, z, j, rfl, rfl, h5 H, q1, q2, h _ _ [] (Same.refl _) (.int _) rfl⟩
    · cases e
/-! #### d.get(k, x) -/
def oGet2 : List D → Option (Rk × D) := fun ds => match ds with
  | [d, x, y] => match dGet d x with
    | some (some r) => some (.imm, r)
    | some none => if y.flat then some (.imm, y) else none
    | none => none
  | _ => none
def isDict : D → Bool
  | .dK _ => true
  | .dT _ => true
  | _ => false
def aConsD (Y' : Bool) (fa : List S → Option (RG.T × List S)) (fr : List S → Option (List Ar × List S)) : List S → Option (List Ar × List S) := fun env => match fa env with
  | none => none
  | some (x, env1) => if (Y' = true ∧ x.1 = .bor) ∨ isDict x.2 = false then none else (fr env1).map fun xs => (.tmp x :: xs.1, xs.2)
theorem Rep.isDict {H : Hp} {v : V} {d : D} {F : List Addr} (r : Rep K H v d F) (h : isDict d = true) : ∃ a, v = .ref a ∧ IsD H a := by
  cases r with
  | dK ha z k rl => exact ⟨_, rfl, .inl ⟨_, .inl ha⟩⟩
  | dT ha z k rl => exact ⟨_, rfl, .inr ⟨_, .inl ha⟩⟩
  | _ => cases h
theorem be_get2 {apos cpos : Pos} {o' e f : Expr} {fo fe ff : List S → Option (T × List S)} (c : Ctx P w K mg base N sc k C) (ho : BE C K n W Y o' fo) (he : BE C K n W Y' e fe) (hf : BE C K n W Y2 f ff) (m : ∀ X, M2 X o' "get" apos e f cpos) :
    BE C K n W (Y || (Y' || (Y2 || false))) (.Call (.Attribute o' "get" apos) [e, f] [] cpos) (eOp oGet2 (aConsD (Y' || (Y2 || false)) fo (aCons (Y2 || false) fe (aCons false ff fun env => some ([], env))))) := by
  obtain ⟨to, o1, o2⟩ := ho
  obtain ⟨te, e1, e2⟩ := he
  obtain ⟨tf, f1, f2⟩ := hf
  refine ⟨tDGet2 to te tf, fun X hX => pe_dget2 (units1 (c X hX).room) (o1 X hX) (e1 X hX) (f1 X hX) (m X), ?_⟩
  intro g FS env τ σ tv H Q rr env' hK hn hW hen hs Sm yb ev h
  have ha := ra_cons e2 (ra_cons f2 (ra_nil (K := K) (n := n) (W := W)))
  generalize hfa : aCons (Y2 || false) fe (aCons false ff fun env => some ([], env)) = fa at ev ha
  unfold eOp aConsD at ev
  cases q1 : fo env with
  | none => simp only [q1] at ev; cases ev
  | some x =>
    obtain ⟨x, env1⟩ := x
    simp only [q1] at ev
    split at ev
    · cases ev
    · rename_i hc
      simp only [not_or, Bool.not_eq_false] at hc
      refine o2 g FS env τ σ tv H _ x env1 hK hn hW hen hs Sm (fun q => yb (by simp [q])) q1 fun v H1 FS1 l1 S1 => ?_
      obtain ⟨v', evv, rv, _⟩ := Sim.top (k := x.1) (d := x.2) S1 (by rw [List.length_append, l1, hn]; exact Nat.le_add_right _ _)
      cases evv
      obtain ⟨a, rfl, hD⟩ := rv.isDict hc.2
      refine ⟨a, rfl, hD, ?_⟩
      cases q2 : fa env1 with
      | none => rw [q2] at ev; cases ev
      | some xs =>
        obtain ⟨xs, env2⟩ := xs
        simp only [q2, Option.map_some, Option.bind_some] at ev
        cases q3 : tmps xs with
        | none => simp [tmps, q3] at ev
        | some ts =>
          simp only [tmps, q3, Option.map_some, Option.bind_some] at ev
          cases q4 : oGet2 ((x :: ts).map (·.2)) with
          | none => rw [q4] at ev; cases ev
          | some kd =>
            obtain ⟨k, d⟩ := kd
            simp only [q4, Option.map_some, Option.some.injEq, Prod.mk.injEq] at ev
            obtain ⟨rfl, rfl⟩ := ev
            rw [List.append_assoc, List.append_assoc] at S1
            have hnb : (Y' || (Y2 || false)) = true → NoBor (τ ++ [x.s]) := fun q => (yb (by simp at q ⊢; exact .inr q)).snoc (by
              obtain ⟨kx, dx⟩ := x
              cases kx <;> first | rfl | exact absurd ⟨q, rfl⟩ hc.1)
            have := ha g FS1 env1 (τ ++ [x.s]) σ (tv ++ [some (.ref a)]) H1 (fun vs H3 => match vs with
              | [y, z] => ∃ o, DGet H3 a y o ∧ Q (o.getD z) H3
              | _ => False) xs env2 hK hn hW l1 hs S1 hnb q2 fun vs H2 FS2 l2 lv pt S2 => ?_
            · exact this
            · have ea := tmps_map q3
              subst ea
              have S3 : Sim g FS2 ((env2 ++ τ) ++ (x :: ts).map RG.T.s) ((σ ++ tv) ++ (V.ref a :: vs).map some) H2 := by
                have em : (ts.map Ar.tmp).map Ar.s = ts.map RG.T.s := by rw [List.map_map]; rfl
                rw [em] at S2
                simpa using S2
              obtain ⟨F, S4, rl, tk⟩ := Sim.tops S3 (by simp at lv ⊢; omega) (by rw [List.length_append, l2, hn]; exact Nat.le_add_right _ _)
              subst hK
              have fin : ∀ (v : V) (d : D) (k : Rk), Rep g.K H2 v d [] → Sim g _ ((env2 ++ τ) ++ [RG.T.s (Rk.imm.kind (kJoin (x :: ts)), d)]) ((σ ++ tv) ++ [some v]) H2 := fun v d k r => S4.push r (TOk.nil _) fun z => (nomatch z)
              unfold oGet2 at q4
              split at q4
              · rename_i dd xx yy hds
                rw [hds] at rl
                cases rl with
                | cons r1 t1 =>
                  cases t1 with
                  | cons r2 t2 =>
                    obtain ⟨v3, rfl, r3⟩ := t2.i1
                    split at q4
                    · rename_i r e9
                      cases q4
                      obtain ⟨a', o, ea', _, gg, g1, _⟩ := dget_rep r1 r2 e9
                      cases ea'
                      obtain ⟨u, rfl, ru⟩ := g1 _ rfl
                      exact ⟨_, gg, h _ H2 _ l2 (fin _ _ .imm ru)⟩
                    · rename_i e9
                      split at q4
                      · rename_i hfl
                        cases q4
                        obtain ⟨a', o, ea', _, gg, _, g2⟩ := dget_rep r1 r2 e9
                        cases ea'
                        rw [g2 rfl] at gg
                        have := r3.flat hfl
                        subst this
                        exact ⟨_, gg, h _ H2 _ l2 (fin _ _ .imm r3)⟩
                      · cases q4
                    · cases q4
              · cases q4
end
end RG

set_option maxRecDepth 100000
set_option maxHeartbeats 4000000
namespace RG
open PySem PySem.Spec PyProof.Rows L2

/-! ### what is written through a slot -/
/-- a method that writes its receiver: by content and arguments the new content and the result -/
def VMut (K : PySem.W.Frag) (r : V → List V → Hp → VK → Prop) (o : D → List D → Option (D × D)) : Prop :=
  ∀ (H : Hp) (l : Addr) (d : D) (F : List Addr) (us : List V) (as : List D) (F2 : List Addr) (Q : VK) (d' res : D), Rep K H (.ref l) d F → RepL K H us as F2 → F.Nodup → F2.Nodup → (∀ a ∈ F2, a ∉ F) → o d as = some (d', res) →
    (∀ v H' F', Ext (fun a => a ∈ F) H H' → (∀ a, H a ≠ none → H' a ≠ none) → Rep K H' (.ref l) d' F' → F'.Nodup → (∀ a ∈ F', a ∈ F ∨ a ∈ F2 ∨ H a = none) → Rep K H' v res [] → Q v H') → r (.ref l) us H Q
def S.get : S → Option D
  | .io d => some d
  | .t .own d => some d
  | _ => none
theorem S.get_spec {s : S} {d : D} (h : s.get = some d) : s.wr = true ∧ s.d? = some d := by
  cases s with
  | gone => cases h
  | io _ => cases h; exact ⟨rfl, rfl⟩
  | t k _ => cases k <;> first | (cases h; exact ⟨rfl, rfl⟩) | cases h
def tts (ts : List T) : Bool := (match kJoin ts with | .own => true | _ => false) || D.flats (ts.map (·.2))
section
variable {P : Program} {w : World} {K : PySem.W.Frag} {mg : Str → Option Value} {base : Heap} {N : List Str} {sc : Scope} {k n : Nat} {C : XS} {W A B : List Nat} {Y Y' Y2 Z Z' : Bool}
variable {pos : Pos} {a b e : Expr} {es : List Expr}
theorem Rep.isRef {K : PySem.W.Frag} {H : Hp} {v : V} {d : D} {F : List Addr} {T : String} (h : Rep K H v d F) (e : d.isTy T = true) (hT : T ≠ "str") : ∃ l, v = .ref l := by
  cases h with
  | lst _ _ _ => exact ⟨_, rfl⟩
  | tup _ _ _ _ => exact ⟨_, rfl⟩
  | scr _ _ => exact ⟨_, rfl⟩
  | dK _ _ _ _ => exact ⟨_, rfl⟩
  | dT _ _ _ _ => exact ⟨_, rfl⟩
  | ins _ _ _ _ => exact ⟨_, rfl⟩
  | str _ => exfalso; unfold D.isTy at e; split at e <;> simp_all
  | _ => exfalso; revert e; unfold D.isTy; split <;> simp_all
theorem upd_dom {H : Hp} {p : Addr} {o : HO} {a : Addr} (h : H a ≠ none) : upd H p o a ≠ none := by
  by_cases ha : a = p
  · subst ha; rw [upd_same]; exact fun z => (nomatch z)
  · rw [upd_ne ha]; exact h
def eMut (i : Nat) (T : String) (o : D → List D → Option (D × D)) (fa : List S → Option (List Ar × List S)) : List S → Option (RG.T × List S) := fun env => match (env[i]?).bind S.get with
  | none => none
  | some d0 => if d0.isTy T = false then none else match fa env with
    | none => none
    | some (as, env1) => match tmps as with
      | none => none
      | some ts => if tts ts = false then none else match env1[i]? with
        | none => none
        | some s1 => match s1.get with
          | none => none
          | some d1 => match o d1 (ts.map (·.2)) with
            | none => none
            | some (d', res) => some ((.own, res), env1.set i (s1.with d'))
theorem re_mut {i : Nat} {T : String} {ta : TA} {r : V → List V → Hp → VK → Prop} {o : D → List D → Option (D × D)} {fa : List S → Option (List Ar × List S)} (hi : i < n) (hT : T ≠ "str") (ha : RA K n W Y ta fa) (hr : VMut K r o) : RE K n W true (tBM K T r (tVar i) ta) (eMut i T o fa) := by
  intro g FS env τ σ tv H Q rr env' hK hn hW he hs Sm yb e h
  unfold eMut at e
  cases e0 : (env[i]?).bind S.get with
  | none => rw [e0] at e; cases e
  | some d0 =>
    simp only [e0] at e
    split at e
    · cases e
    · rename_i hty
      have hty : d0.isTy T = true := by simpa using hty
      obtain ⟨s0, es0, eg0⟩ := Option.bind_eq_some_iff.mp e0
      obtain ⟨w0, q0⟩ := S.get_spec eg0
      have up : ∀ {env : List S} {s : S}, env.length = n → env[i]? = some s → (env ++ τ)[i]? = some s := fun hl es => by rw [List.getElem?_append_left (by rw [hl]; exact hi)]; exact es
      obtain ⟨v, ev, rv⟩ := Sm.rep i s0 d0 (up he es0) q0
      have ev' : σ[i]? = some (some v) := by rw [List.getElem?_append_left (by rw [hs]; exact hi)] at ev; exact ev
      subst hK
      refine ⟨v, ev', rv.isTy hty, ?_⟩
      cases e1 : fa env with
      | none => rw [e1] at e; cases e
      | some p =>
        obtain ⟨as, env1⟩ := p
        simp only [e1] at e
        cases e2 : tmps as with
        | none => rw [e2] at e; cases e
        | some ts =>
          simp only [e2] at e
          split at e
          · cases e
          · rename_i htt
            have htt : tts ts = true := by simpa using htt
            cases e3 : env1[i]? with
            | none => rw [e3] at e; cases e
            | some s1 =>
              simp only [e3] at e
              cases e4 : s1.get with
              | none => rw [e4] at e; cases e
              | some d1 =>
                simp only [e4] at e
                cases e5 : o d1 (ts.map (·.2)) with
                | none => rw [e5] at e; cases e
                | some q =>
                  obtain ⟨d', res⟩ := q
                  simp only [e5, Option.some.injEq, Prod.mk.injEq] at e
                  obtain ⟨rfl, rfl⟩ := e
                  refine ha g FS env τ σ tv H _ as env1 rfl hn hW he hs Sm (fun _ => yb rfl) e1 fun us H1 FS1 l1 lv pt S1 => ?_
                  have ea := tmps_map e2
                  subst ea
                  have em : (ts.map Ar.tmp).map Ar.s = ts.map RG.T.s := by rw [List.map_map]; rfl
                  rw [em] at S1
                  obtain ⟨F2, S2, rl, tk⟩ := Sim.tops S1 (by simpa using lv.symm) (by rw [List.length_append, l1, hn]; exact Nat.le_add_right _ _)
                  have tko : TOk g FS1 (env1 ++ τ) .own F2 := by
                    unfold tts at htt
                    cases hk : kJoin ts with
                    | own => rw [hk] at tk; exact tk
                    | _ =>
                      rw [hk] at htt
                      rw [rl.flats (by simpa using htt)]; exact TOk.nil _
                  obtain ⟨w1, q1⟩ := S.get_spec e4
                  have e3' := up l1 e3
                  obtain ⟨v1, ev1, rv1⟩ := S2.rep i s1 d1 e3' q1
                  rw [ev] at ev1; cases ev1
                  obtain ⟨l, rfl⟩ := rv.isRef hty hT
                  have nb := S2.nobor (by rw [l1, hn]) (yb rfl)
                  refine hr H1 l d1 (FS1 i) us _ F2 Q d' res rv1 rl (S2.nod i s1 e3' (S.tree_of_wr w1)) (tko.tree rfl).1 (fun a m => tko.excl rfl i s1 e3' (S.some_of_wr w1) a m) e5 fun v' H' F' hx dm rd nd sub rres => ?_
                  have S3 := S2.modify (d' := d') (v := .ref l) (F' := F') (F2 := F2) e3' w1 ev hx dm rd nd tko (.inl nb) sub
                  rw [List.set_append_left _ _ (by rw [l1]; exact hi)] at S3
                  exact h v' H' _ (by simpa using l1) (S3.push rres (TOk.nil _) fun z => (nomatch z))

/-! ### d[k] = v, xs[i] = v of a slot -/
abbrev PutR := V → V → V → Hp → (Hp → Prop) → Prop
def VPut (K : PySem.W.Frag) (t : PutR) (o : D → D → D → Option D) : Prop :=
  ∀ (H : Hp) (l : Addr) (d : D) (F : List Addr) (kv : V) (dk : D) (Fk : List Addr) (v : V) (dv : D) (Fv : List Addr) (Q : Hp → Prop) (d' : D), Rep K H (.ref l) d F → Rep K H kv dk Fk → Rep K H v dv Fv → F.Nodup → Fv.Nodup → (∀ a ∈ Fv, a ∉ F) → o d dk dv = some d' →
    (∀ H' F', Ext (fun a => a ∈ F) H H' → (∀ a, H a ≠ none → H' a ≠ none) → Rep K H' (.ref l) d' F' → F'.Nodup → (∀ a ∈ F', a ∈ F ∨ a ∈ Fv ∨ H a = none) → Q H') → t (.ref l) kv v H Q
def tPut (tv td ty : TE) (t : PutR) : TS := fun D σ H => tv σ H fun v H1 => td σ H1 fun x H2 => ty σ H2 fun y H3 => t x y v H3 fun H4 => D.nx σ H4
def rDPut : PutR := fun x y v H Q => ∃ a H4, x = .ref a ∧ DPut H a y v H4 ∧ Q H4
def sPut (i : Nat) (o : D → D → D → Option D) (fv fk : List S → Option (RG.T × List S)) : List S → Option Fl := fun env => match fv env with
  | none => none
  | some (r1, env1) => if tt1 r1 = false then none else if ((env1[i]?).bind S.get).isNone then none else match fk env1 with
    | none => none
    | some (rk, env2) => match (env2[i]?).bind S.get with
      | none => none
      | some d => match env2[i]? with
        | none => none
        | some s => match d.isTy "list" || d.isTy "dict" with
          | false => none
          | true => match o d rk.2 r1.2 with
            | none => none
            | some d' => some (.nx (env2.set i (s.with d')))
theorem rs_put {i : Nat} {tv ty : TE} {t : PutR} {o : D → D → D → Option D} {fv fk : List S → Option (RG.T × List S)} (hi : i < n) (hv : RE K n W Y tv fv) (hk : RE K n W Y' ty fk) (hr : VPut K t o) : RS K n W [] false (tPut tv (tVar i) ty t) (sPut i o fv fk) := by
  intro g FS env τ σ tvs H D r hK hn hW he hs Sm nb e p
  unfold sPut at e
  cases e1 : fv env with
  | none => rw [e1] at e; cases e
  | some q =>
    obtain ⟨r1, env1⟩ := q
    simp only [e1] at e
    split at e
    · cases e
    · rename_i htt
      have htt : tt1 r1 = true := by simpa using htt
      split at e
      · cases e
      rename_i hge
      obtain ⟨d1, hge⟩ : ∃ d1, (env1[i]?).bind S.get = some d1 := by
        cases hq : (env1[i]?).bind S.get with
        | none => rw [hq] at hge; exact absurd rfl hge
        | some d1 => exact ⟨d1, rfl⟩
      obtain ⟨s1, es1, eg1⟩ := Option.bind_eq_some_iff.mp hge
      cases e2 : fk env1 with
      | none => rw [e2] at e; cases e
      | some q =>
        obtain ⟨rk, env2⟩ := q
        simp only [e2] at e
        cases e3 : env2[i]? with
        | none => rw [e3] at e; cases e
        | some s =>
          simp only [e3, Option.bind_some] at e
          cases e4 : s.get with
          | none => rw [e4] at e; cases e
          | some d =>
            simp only [e4] at e
            split at e
            · cases e
            · rename_i hty
              cases e5 : o d rk.2 r1.2 with
              | none => rw [e5] at e; cases e
              | some d' =>
                simp only [e5, Option.some.injEq] at e
                subst e
                refine hv g FS env τ σ tvs H _ r1 env1 hK hn hW he hs Sm (fun _ => nb.nb) e1 fun v H1 FS1 l1 S1 => ?_
                have hnl : g.n ≤ (env1 ++ τ).length := by rw [List.length_append, l1, hn]; exact Nat.le_add_right _ _
                -- the value as an own one
                obtain ⟨v', ev, rv, tkv⟩ := Sim.top S1 hnl
                cases ev
                have S1' : ∃ FS1', Sim g FS1' ((env1 ++ τ) ++ [S.t .own r1.2]) ((σ ++ tvs) ++ [some v]) H1 := by
                  obtain ⟨k1, d1⟩ := r1
                  cases hk1 : k1 with
                  | own => subst hk1; exact ⟨FS1, S1⟩
                  | _ =>
                    subst hk1
                    have hf : d1.flat = true := by simpa [tt1] using htt
                    refine ⟨_, (Sim.pop S1).push (F := []) ?_ (TOk.nil _) fun z => (nomatch z)⟩
                    have := rv
                    rw [rv.flat hf] at this
                    exact this
                obtain ⟨FS1', S1⟩ := S1'
                -- the object: its address is a slot's value
                have hσ : ∃ x, σ[i]? = some x := ⟨σ[i]'(by rw [hs]; exact hi), List.getElem?_eq_getElem _⟩
                obtain ⟨x0, ex0⟩ := hσ
                have go : ∀ (H2 : Hp) (FS2 : Nat → List Addr) (v2 : V), env2.length = n → Sim g FS2 ((env2 ++ (τ ++ [S.t .own r1.2])) ++ [rk.s]) ((σ ++ (tvs ++ [some v])) ++ [some v2]) H2 → ∃ l, x0 = some (.ref l) ∧ t (.ref l) v2 v H2 fun H4 => D.nx σ H4 := by
                  intro H2 FS2 v2 l2 S2
                  obtain ⟨v2', ev2, rk2, _⟩ := Sim.top S2 (by rw [List.length_append, l2, hn]; exact Nat.le_add_right _ _)
                  cases ev2
                  have S3 := Sim.pop S2
                  rw [← List.append_assoc, ← List.append_assoc] at S3
                  obtain ⟨v3, ev3, rv3, tk3⟩ := Sim.top (k := .own) S3 (by rw [List.length_append, l2, hn]; exact Nat.le_add_right _ _)
                  cases ev3
                  have S4 := Sim.pop S3
                  obtain ⟨w1, q1⟩ := S.get_spec e4
                  have e3' : (env2 ++ τ)[i]? = some s := by rw [List.getElem?_append_left (by rw [l2]; exact hi)]; exact e3
                  obtain ⟨vi, evi, rvi⟩ := S4.rep i s d e3' q1
                  have evi' : σ[i]? = some (some vi) := by rw [List.getElem?_append_left (by rw [hs]; exact hi)] at evi; exact evi
                  rw [ex0] at evi'
                  cases evi'
                  obtain ⟨l, rfl⟩ : ∃ l, vi = .ref l := by
                    rcases Bool.or_eq_true_iff.mp hty with z | z
                    · exact rvi.isRef z (by decide)
                    · exact rvi.isRef z (by decide)
                  refine ⟨l, rfl, ?_⟩
                  subst hK
                  refine hr H2 l d _ v2 rk.2 _ v r1.2 _ _ d' rvi rk2 rv3 (S4.nod i s e3' (S.tree_of_wr w1)) (tk3.tree rfl).1 (fun a m => tk3.excl rfl i s e3' (S.some_of_wr w1) a m) e5 fun H' F' hx dm rd nd sub => ?_
                  have S5 := S4.modify (d' := d') (v := .ref l) (F' := F') e3' w1 evi hx dm rd nd tk3 (by
                    by_cases hin : i < g.n
                    · exact .inl (S4.nobor (by rw [l2, hn]) nb.nb)
                    · exact .inr (.inr (Nat.le_of_not_lt hin))) sub
                  rw [List.set_append_left _ _ (by rw [l2]; exact hi)] at S5
                  exact p σ H' _ (by simpa using l2) hs Keep.refl S5
                have Sa : Sim g FS1' (env1 ++ (τ ++ [S.t .own r1.2])) (σ ++ (tvs ++ [some v])) H1 := by rw [← List.append_assoc, ← List.append_assoc]; exact S1
                have nb2 : NoBor (τ ++ [S.t .own r1.2]) := nb.nb.snoc rfl
                -- the slot's value is some address: by the run itself
                cases hx0 : x0 with
                | none =>
                  subst hx0
                  exfalso
                  obtain ⟨vi, evi, _⟩ := S1.rep i s1 d1 (by rw [List.append_assoc, List.getElem?_append_left (by rw [l1]; exact hi)]; exact es1) (S.get_spec eg1).2
                  rw [List.append_assoc, List.getElem?_append_left (by rw [hs]; exact hi), ex0] at evi
                  cases evi
                | some vx =>
                  subst hx0
                  refine ⟨vx, ex0, hk g FS1' env1 _ σ _ H1 _ rk env2 hK hn hW l1 hs Sa (fun _ => nb2) e2 fun v2 H2 FS2 l2 S2 => ?_⟩
                  obtain ⟨l, el, q⟩ := go H2 FS2 v2 l2 S2
                  cases el
                  exact q

/-! ### the writers -/
theorem RepL.o1 {H : Hp} {us : List V} {as : List D} {F : List Addr} {d : D} (r : RepL K H us [d] F) : ∃ u, us = [u] ∧ Rep K H u d F := by
  cases r with
  | cons r t => cases t with
    | nil => exact ⟨_, rfl, by rw [List.append_nil]; exact r⟩
theorem RepL.o0 {H : Hp} {us : List V} {F : List Addr} (r : RepL K H us [] F) : us = [] ∧ F = [] := by
  cases r; exact ⟨rfl, rfl⟩
theorem lst_ext {H : Hp} {l : Addr} {F : List Addr} {o u : HO} (h : H l = some u) (hm : MutO u) : Ext (fun a => a ∈ l :: F) H (upd H l o) := ext_upd (S := fun a => a ∈ l :: F) List.mem_cons_self h hm
/-- the parts of a list stand when the list itself is written -/
theorem parts_upd {H : Hp} {l : Addr} {o u : HO} {vs : List V} {ds : List D} {F : List Addr} (h : H l = some u) (hm : MutO u) (r : RepL K H vs ds F) (n : l ∉ F) : RepL K (upd H l o) vs ds F :=
  r.ext (S := fun a => a = l) (ext_upd rfl h hm) fun a m z => n (z ▸ m)
theorem part_upd {H : Hp} {l : Addr} {o u : HO} {v : V} {d : D} {F : List Addr} (h : H l = some u) (hm : MutO u) (r : Rep K H v d F) (n : l ∉ F) : Rep K (upd H l o) v d F :=
  r.ext (S := fun a => a = l) (ext_upd rfl h hm) fun a m z => n (z ▸ m)
def mAppend : D → List D → Option (D × D) := fun d as => match d, as with
  | .lst ds, [x] => if ds.length < 16777216 then some (.lst (ds ++ [x]), .non) else none
  | _, _ => none
theorem vm_append : VMut K rAppend mAppend := by
  intro H l d F us as F2 Q d' res r ru nF nF2 dj e h
  unfold mAppend at e
  split at e
  · rename_i ds x
    split at e
    · rename_i hl
      cases e
      cases r with
      | lst hH hz rl =>
        rename_i vs F1
        obtain ⟨u, rfl, rx⟩ := ru.o1 (as := [])
        have hln : vs.length = ds.length := rl.length
        have hn1 : l ∉ F1 := (List.nodup_cons.mp nF).1
        have hn2 : l ∉ F2 := fun m => dj l m List.mem_cons_self
        have hz' : vs.length < sizeLine := by rw [sizeLine_eq, hln]; omega
        refine ⟨l, vs, u, rfl, rfl, hH, hz', h _ _ (l :: (F1 ++ F2)) (lst_ext hH trivial) (fun a n => upd_dom n) (.lst (upd_same ..) (by rw [List.length_append, List.length_singleton]; omega) ((parts_upd hH trivial rl hn1).append (RepL.one (part_upd hH trivial rx hn2)))) ?_ ?_ .non⟩
        · refine List.nodup_cons.mpr ⟨fun m => (List.mem_append.mp m).elim hn1 hn2, List.nodup_append.mpr ⟨(List.nodup_cons.mp nF).2, nF2, fun a m b m' z => dj b m' (z ▸ List.mem_cons_of_mem _ m)⟩⟩
        · intro a m
          rcases List.mem_cons.mp m with rfl | m
          · exact .inl List.mem_cons_self
          · exact (List.mem_append.mp m).elim (fun z => .inl (List.mem_cons_of_mem _ z)) fun z => .inr (.inl z)
    · cases e
  · cases e
/-- a list of flat things only: written anew -/
theorem flat_lst {H : Hp} {l : Addr} {d : List D} {vs vs' : List V} {F : List Addr} {d' : List D} (hH : H l = some (.lst vs)) (hz : vs'.length ≤ sizeLine) (r : RepL K H vs' d' F) (n : l ∉ F) : Rep K (upd H l (.lst vs')) (.ref l) (.lst d') (l :: F) :=
  .lst (upd_same ..) hz (parts_upd hH trivial r n)
theorem RepL.dropLast : ∀ {vs : List V} {ds : List D} {F : List Addr} {H : Hp}, RepL K H vs ds F → ∃ F1, F1.Sublist F ∧ RepL K H vs.dropLast ds.dropLast F1 := by
  intro vs ds F H r
  obtain ⟨F1, s, r1⟩ := r.take (vs.length - 1)
  refine ⟨F1, s, ?_⟩
  rw [List.dropLast_eq_take, List.dropLast_eq_take, ← r.length]
  exact r1
def mPop : D → List D → Option (D × D) := fun d as => match d, as with
  | .lst ds, [] => match ds[ds.length - 1]? with
    | some x => if x.flat then some (.lst ds.dropLast, x) else none
    | none => none
  | _, _ => none
theorem vm_pop : VMut K rPop mPop := by
  intro H l d F us as F2 Q d' res r ru nF nF2 dj e h
  unfold mPop at e
  split at e
  · rename_i ds
    split at e
    · rename_i x ex
      split at e
      · rename_i hf
        cases e
        cases r with
        | lst hH hz rl =>
          rename_i vs F1
          obtain ⟨rfl, rfl⟩ := ru.o0
          have hln : vs.length = ds.length := rl.length
          have hn1 : l ∉ F1 := (List.nodup_cons.mp nF).1
          obtain ⟨y, Fy, _, _, ey, ry⟩ := rl.get ex
          have hFy := ry.flat hf
          subst hFy
          obtain ⟨F3, s3, r3⟩ := rl.dropLast
          refine ⟨l, vs, y, rfl, rfl, hH, by rw [hln]; exact ey, h _ _ (l :: F3) (lst_ext hH trivial) (fun a n => upd_dom n) (flat_lst (d := []) hH (by rw [List.length_dropLast]; omega) r3 fun m => hn1 (s3.subset m)) (List.nodup_cons.mpr ⟨fun m => hn1 (s3.subset m), (List.nodup_cons.mp nF).2.sublist s3⟩) (fun a m => .inl ?_) (part_upd hH trivial ry (fun m => (nomatch m)))⟩
          rcases List.mem_cons.mp m with rfl | m
          · exact List.mem_cons_self
          · exact List.mem_cons_of_mem _ (s3.subset m)
      · cases e
    · cases e
  · cases e
theorem RepL.eraseIdx : ∀ {vs : List V} {ds : List D} {F : List Addr} {H : Hp} (i : Nat), RepL K H vs ds F → ∃ F1, F1.Sublist F ∧ RepL K H (vs.eraseIdx i) (ds.eraseIdx i) F1
  | _, _, _, _, i, .nil => ⟨[], List.Sublist.refl _, by cases i <;> exact .nil⟩
  | _, _, _, _, 0, .cons (F := F) (F' := F') r t => ⟨F', List.sublist_append_right _ _, t⟩
  | _, _, _, _, i + 1, .cons (F := F) (F' := F') r t => by
    obtain ⟨F1, s, r1⟩ := t.eraseIdx i
    exact ⟨F ++ F1, List.Sublist.append (List.Sublist.refl _) s, .cons r r1⟩
def mPopAt : D → List D → Option (D × D) := fun d as => match d, as with
  | .lst ds, [.int i] => if -(2 ^ 63) ≤ i ∧ i < 2 ^ 63 then match seqIndex? i ds.length with
    | some j => match ds[j]? with
      | some x => if x.flat then some (.lst (ds.eraseIdx j), x) else none
      | none => none
    | none => none
    else none
  | _, _ => none
theorem vm_popAt : VMut K rPopAt mPopAt := by
  intro H l d F us as F2 Q d' res r ru nF nF2 dj e h
  unfold mPopAt at e
  split at e
  · rename_i ds i
    split at e
    · rename_i hb
      split at e
      · rename_i j ej
        split at e
        · rename_i x ex
          split at e
          · rename_i hf
            cases e
            cases r with
            | lst hH hz rl =>
              rename_i vs F1
              obtain ⟨u, rfl, rx⟩ := ru.o1 (as := [])
              cases rx.intV
              have hln : vs.length = ds.length := rl.length
              have hn1 : l ∉ F1 := (List.nodup_cons.mp nF).1
              obtain ⟨y, Fy, _, _, ey, ry⟩ := rl.get ex
              have hFy := ry.flat hf
              subst hFy
              obtain ⟨F3, s3, r3⟩ := rl.eraseIdx j
              refine ⟨l, vs, i, j, y, rfl, rfl, hH, hb.1, hb.2, by rw [hln]; exact ej, ey, h _ _ (l :: F3) (lst_ext hH trivial) (fun a n => upd_dom n) (flat_lst (d := []) hH (Nat.le_trans (by rw [List.length_eraseIdx]; split <;> omega) hz) r3 fun m => hn1 (s3.subset m)) (List.nodup_cons.mpr ⟨fun m => hn1 (s3.subset m), (List.nodup_cons.mp nF).2.sublist s3⟩) (fun a m => .inl ?_) (part_upd hH trivial ry (fun m => (nomatch m)))⟩
              rcases List.mem_cons.mp m with rfl | m
              · exact List.mem_cons_self
              · exact List.mem_cons_of_mem _ (s3.subset m)
          · cases e
        · cases e
      · cases e
    · cases e
  · cases e
def rInsert : V → List V → Hp → VK → Prop := fun x vs H Q => ∃ (l : Addr) (xs : List V) (i : Int) (y : V), x = .ref l ∧ vs = [.int i, y] ∧ H l = some (.lst xs) ∧ xs.length < sizeLine ∧ 0 ≤ i ∧ i < 2 ^ 63 ∧
    Q .non (upd H l (.lst (xs.take i.toNat ++ [y] ++ xs.drop i.toNat)))
def mInsert : D → List D → Option (D × D) := fun d as => match d, as with
  | .lst ds, [.int i, x] => if ds.length < 16777216 ∧ 0 ≤ i ∧ i < 2 ^ 63 then some (.lst (ds.take i.toNat ++ [x] ++ ds.drop i.toNat), .non) else none
  | _, _ => none
theorem RepL.cut {H : Hp} : ∀ {vs : List V} {ds : List D} {F : List Addr} (i : Nat), RepL K H vs ds F → ∃ F1 F2, F = F1 ++ F2 ∧ RepL K H (vs.take i) (ds.take i) F1 ∧ RepL K H (vs.drop i) (ds.drop i) F2
  | _, _, F, 0, r => ⟨[], F, rfl, .nil, r⟩
  | _, _, _, i + 1, .nil => ⟨[], [], rfl, .nil, .nil⟩
  | _, _, _, i + 1, .cons (F := F) r t => by
    obtain ⟨F1, F2, rfl, a, b⟩ := RepL.cut i t
    exact ⟨F ++ F1, F2, by rw [List.append_assoc], .cons r a, b⟩
theorem vm_insert : VMut K rInsert mInsert := by
  intro H l d F us as F2 Q d' res r ru nF nF2 dj e h
  unfold mInsert at e
  split at e
  · rename_i ds i x
    split at e
    · rename_i hl
      cases e
      cases r with
      | lst hH hz rl =>
        rename_i vs F1
        cases ru with
        | cons ri ru =>
        cases ri.intV
        cases ri
        obtain ⟨u, rfl, rx⟩ := ru.o1 (as := [])
        have hln : vs.length = ds.length := rl.length
        have hn1 : l ∉ F1 := (List.nodup_cons.mp nF).1
        rename_i F2
        have hn2 : l ∉ F2 := fun m => dj l (by simpa using m) List.mem_cons_self
        have hz' : vs.length < sizeLine := by rw [sizeLine_eq, hln]; omega
        obtain ⟨Fa, Fb, rfl, ra, rb⟩ := rl.cut i.toNat
        have nF1 := (List.nodup_cons.mp nF).2
        have nF2' : F2.Nodup := by simpa using nF2
        have R := ((parts_upd (o := .lst (vs.take i.toNat ++ [u] ++ vs.drop i.toNat)) hH trivial ra (fun m => hn1 (List.mem_append_left _ m))).append (RepL.one (part_upd hH trivial rx hn2))).append (parts_upd hH trivial rb (fun m => hn1 (List.mem_append_right _ m)))
        refine ⟨l, vs, i, u, rfl, rfl, hH, hz', hl.2.1, hl.2.2, h _ _ (l :: (Fa ++ F2 ++ Fb)) (lst_ext hH trivial) (fun a n => upd_dom n) (.lst (upd_same ..) ?_ R) ?_ ?_ .non⟩
        · rw [List.length_append, List.length_append, List.length_take, List.length_drop, List.length_singleton]; omega
        · refine List.nodup_cons.mpr ⟨fun m => ?_, ?_⟩
          · simp only [List.mem_append] at m hn1
            rcases m with (m | m) | m
            · exact hn1 (.inl m)
            · exact hn2 m
            · exact hn1 (.inr m)
          · have d1 := List.nodup_append.mp nF1
            refine List.nodup_append.mpr ⟨List.nodup_append.mpr ⟨d1.1, nF2', fun a m b m' z => dj b (by simpa using m') (z ▸ List.mem_cons_of_mem _ (List.mem_append_left _ m))⟩, d1.2.1, fun a m b m' z => ?_⟩
            subst z
            rcases List.mem_append.mp m with m | m
            · exact d1.2.2 a m a m' rfl
            · exact dj a (by simpa using m) (List.mem_cons_of_mem _ (List.mem_append_right _ m'))
        · intro a m
          rcases List.mem_cons.mp m with rfl | m
          · exact .inl List.mem_cons_self
          · simp only [List.mem_append] at m
            rcases m with (m | m) | m
            · exact .inl (List.mem_cons_of_mem _ (List.mem_append_left _ m))
            · exact .inr (.inl (by simpa using m))
            · exact .inl (List.mem_cons_of_mem _ (List.mem_append_right _ m))
    · cases e
  · cases e
def mClear : D → List D → Option (D × D) := fun d as => match d, as with
  | .lst _, [] => some (.lst [], .non)
  | _, _ => none
theorem vm_clear : VMut K rClear mClear := by
  intro H l d F us as F2 Q d' res r ru nF nF2 dj e h
  unfold mClear at e
  split at e
  · rename_i ds
    cases e
    cases r with
    | lst hH hz rl =>
      rename_i vs F1
      obtain ⟨rfl, rfl⟩ := ru.o0
      exact ⟨l, vs, rfl, rfl, hH, h _ _ [l] (lst_ext hH trivial) (fun a n => upd_dom n) (.lst (upd_same ..) (Nat.zero_le _) .nil) (List.nodup_cons.mpr ⟨fun m => (nomatch m), .nil⟩) (fun a m => .inl (by rcases List.mem_cons.mp m with rfl | m; exact List.mem_cons_self; cases m)) .non⟩
  · cases e
/-! ### stores -/
def oDPut : D → D → D → Option D := fun d k v => match d, k with
  | .dK kvs, k => if v.flat = true ∧ kvs.length < 16777215 then (k.key).map fun kk => .dK (putD kvs kk v) else none
  | .dT kvs, .tup ks => if v.flat = true ∧ kvs.length < 16777215 ∧ ks.length ≠ 8 then (D.keysL ks).map fun kk => .dT (putD kvs kk v) else none
  | _, _ => none
theorem vp_dput : VPut K rDPut oDPut := by
  intro H l d F kv dk Fk v dv Fv Q d' r rk rv nF nFv dj e h
  unfold oDPut at e
  split at e
  · rename_i kvs
    split at e
    · rename_i hc
      cases e1 : dk.key with
      | none => rw [e1] at e; cases e
      | some kk =>
        rw [e1] at e; cases e
        cases r with
        | dK hH hz hk hr =>
          rename_i us
          have hv0 := rv.flat hc.1
          subst hv0
          cases key_kV rk e1
          have hln : us.length = kvs.length := by have := congrArg List.length hk; simpa using this
          obtain ⟨h1, h2, h3⟩ := put_rep (k := kk) hk hr rv
          refine ⟨l, _, rfl, DPut.k hH (by rw [sizeLine_eq, hln]; omega), h _ [l] (ext_upd (S := fun a => a ∈ [l]) List.mem_cons_self hH trivial) (fun a n => upd_dom n) (.dK (upd_same ..) (by rw [sizeLine_eq]; omega) h1 (parts_upd hH trivial h2 (fun m => (nomatch m)))) nF (fun a m => .inl m)⟩
    · cases e
  · rename_i kvs ks
    split at e
    · rename_i hc
      cases e1 : D.keysL ks with
      | none => rw [e1] at e; cases e
      | some kk =>
        rw [e1] at e; cases e
        cases r with
        | dT hH hz hk hr =>
          rename_i us
          have hv0 := rv.flat hc.1
          subst hv0
          obtain ⟨b, ws, rfl, hb, lb⟩ := rk.tupK hc.2.2
          obtain ⟨rfl, _⟩ := keys_kV lb e1
          have hln : us.length = kvs.length := by have := congrArg List.length hk; simpa using this
          obtain ⟨h1, h2, h3⟩ := put_rep (k := kk) hk hr rv
          refine ⟨l, _, rfl, DPut.t hH hb (by rw [sizeLine_eq, hln]; omega), h _ [l] (ext_upd (S := fun a => a ∈ [l]) List.mem_cons_self hH trivial) (fun a n => upd_dom n) (.dT (upd_same ..) (by rw [sizeLine_eq]; omega) h1 (parts_upd hH trivial h2 (fun m => (nomatch m)))) nF (fun a m => .inl m)⟩
    · cases e
  · cases e
def oSetL : D → D → D → Option D := fun d k v => match d, k with
  | .lst ds, .int i => match ixN ds.length i with
    | some j => if v.flat then some (.lst (ds.set j v)) else none
    | none => none
  | _, _ => none
theorem RepL.set {H : Hp} {v : V} {d : D} : ∀ {vs : List V} {ds : List D} {F : List Addr} (i : Nat), RepL K H vs ds F → Rep K H v d [] → ∃ F1, F1.Sublist F ∧ RepL K H (vs.set i v) (ds.set i d) F1
  | _, _, _, i, .nil, _ => ⟨[], List.Sublist.refl _, .nil⟩
  | _, _, _, 0, .cons (F := F) (F' := F') r t, rv => ⟨F', List.sublist_append_right _ _, RepL.cons (F := []) rv t⟩
  | _, _, _, i + 1, .cons (F := F) (F' := F') r t, rv => by
    obtain ⟨F1, s, r1⟩ := RepL.set i t rv
    exact ⟨F ++ F1, List.Sublist.append (List.Sublist.refl _) s, .cons r r1⟩
theorem vp_setL : VPut K rSetL oSetL := by
  intro H l d F kv dk Fk v dv Fv Q d' r rk rv nF nFv dj e h
  unfold oSetL at e
  split at e
  · rename_i ds i
    split at e
    · rename_i j ej
      split at e
      · rename_i hf
        cases e
        cases r with
        | lst hH hz rl =>
          rename_i vs F1
          have hv0 := rv.flat hf
          subst hv0
          cases rk.intV
          have hln : vs.length = ds.length := rl.length
          have hn1 : l ∉ F1 := (List.nodup_cons.mp nF).1
          obtain ⟨F3, s3, r3⟩ := rl.set j rv
          refine ⟨l, vs, i, j, rfl, rfl, hH, by rw [hln]; exact ej, h _ (l :: F3) (lst_ext hH trivial) (fun a n => upd_dom n) (flat_lst (d := []) hH (by rw [List.length_set]; exact hz) r3 fun m => hn1 (s3.subset m)) (List.nodup_cons.mpr ⟨fun m => hn1 (s3.subset m), (List.nodup_cons.mp nF).2.sublist s3⟩) (fun a m => .inl ?_)⟩
          rcases List.mem_cons.mp m with rfl | m
          · exact List.mem_cons_self
          · exact List.mem_cons_of_mem _ (s3.subset m)
      · cases e
    · cases e
  · cases e
end
end RG

set_option maxRecDepth 100000
set_option maxHeartbeats 4000000
namespace RG
open PySem PySem.Spec PyProof.Rows L2

/-! ### contexts -/
def bodyS (P : Program) (w : World) (K : PySem.W.Frag) (mg : Str → Option Value) (base : Heap) (N : List Str) (qual : Str) (sc : Scope) (f : Addr) (k : Nat) : XS := fun X =>
  ∃ (cdv : Value) (A' : Around) (outer : List Env) (s : Shared) (H : Hp) (E : XK), Room k (A'.deeper (envOfC qual sc s.heap.objs.size f cdv)) ∧ X = (cxOf CX0 P w K mg base N qual sc f cdv A' outer s H E).nox
def FnX (C : XS) (x : Str) : Prop := ∀ X, C X → X.fn x = true ∨ X.env.scope.names.lookup x = some .local
def BTs (C : XS) (K : PySem.W.Frag) (n : Nat) (W : List Nat) (Y : Bool) (es : List Expr) (f : List S → Option (Bool × List S)) : Prop := ∃ t, (∀ X, C X → PTs X es t) ∧ RB K n W Y t f
/-- targets that are names -/
def BGN (C : XS) (es : List Expr) (is : List Nat) : Prop := ∀ X, C X → PGs X es (gNames is)
/-- a def of the module, by its promise -/
structure GFn (P : Program) (w : World) (K : PySem.W.Frag) (mg : Str → Option Value) (base : Heap) (x : Str) (k m : Nat) (fn : Fn) : Prop where
  ex : ∃ (f : Addr) (fd : FuncData) (ps : List Str), FnOk P w K mg base CX0 k f fd ps (spOf K m fn) ∧ mg x = some (.ref f) ∧ PySem.W.keepIn K (.ref f) = true ∧ Binds K fd ps []
section
variable {P : Program} {w : World} {K : PySem.W.Frag} {mg : Str → Option Value} {base : Heap} {N : List Str} {sc : Scope} {k n : Nat} {C : XS} {W A B : List Nat} {Y Y' Y2 Z Z' : Bool}
variable {pos : Pos} {a b e : Expr} {es : List Expr} {st : Stmt} {sts : List Stmt}
theorem ctx_body {qual : Str} {f : Addr} (nd : N.Nodup) : Ctx P w K mg base N sc k (bodyS P w K mg base N qual sc f k) := by
  rintro X ⟨cdv, A', outer, s, H, E, hr, rfl⟩
  exact ⟨rfl, rfl, rfl, rfl, rfl, rfl, rfl, rfl, hr, nd, rfl⟩
theorem ctx_blk {scope : Scope} (c : Ctx P w K mg base N sc k C) : Ctx P w K mg base N (relS scope sc) k (blkS C scope) := by
  rintro X ⟨X1, h1, s, H, Cc, cl, fp, rfl⟩
  have q := c X1 h1
  refine ⟨q.hP, q.hw, q.hK, q.hmg, q.hb, q.hN, q.calm, ?_, q.room, q.nd, rfl⟩
  show relS scope X1.env.scope = relS scope sc
  rw [q.hsc]
theorem fnx_body {qual : Str} {f : Addr} {x : Str} : FnX (bodyS P w K mg base N qual sc f k) x := by
  rintro X ⟨cdv, A', outer, s, H, E, hr, rfl⟩
  exact .inl rfl
theorem fnx_local {x : Str} (c : Ctx P w K mg base N sc k C) (h : sc.names.lookup x = some .local) : FnX C x := fun X hX => .inr (by rw [(c X hX).hsc]; exact h)
theorem fnx_cell {scope : Scope} {x : Str} (h : scope.names.lookup x = some .cell) : FnX (blkS C scope) x := by
  rintro X ⟨X1, h1, s, H, Cc, cl, fp, rfl⟩
  refine .inl ?_
  show (scope.names.lookup x == some .cell) = true
  rw [h]; rfl
/-- THE RULE for a def -/
theorem fn_okB {x qual : Str} {st : Stmt} {f : Addr} {fd : FuncData} {N ps : List Str} {k m n : Nat} {W A : List Nat} {Z : Bool} {fb : List S → Option Fl} (F : Fun K x qual st f fd) (S' : FnScope N ps (defScope st)) (hm : ps.length = m) (hn : N.length = n) (hmn : m ≤ n) (hW : ∀ i ∈ W, i < n)
    (hb : BSs (bodyS P w K mg base N qual (defScope st) f k) K n W A Z (defBody st) fb) : FnOk P w K mg base CX0 (k + 1) f fd ps (spOf K m (fnOf n fb)) := by
  obtain ⟨t, h1, h2⟩ := hb
  exact fn_ok F S' hm hn hmn hW fun cdv A' outer s H E hr => ⟨t, h1 _ ⟨cdv, A', outer, s, H, E, hr, rfl⟩, h2⟩
theorem gfn {x y qual : Str} {st : Stmt} {f : Addr} {fd : FuncData} {N ps : List Str} {k m n : Nat} {W A : List Nat} {Z : Bool} {fb : List S → Option Fl} (F : Fun K x qual st f fd) (hmg : mg y = some (.ref f)) (hbi : Binds K fd ps []) (S' : FnScope N ps (defScope st)) (hm : ps.length = m) (hn : N.length = n) (hmn : m ≤ n) (hW : ∀ i ∈ W, i < n)
    (hb : BSs (bodyS P w K mg base N qual (defScope st) f k) K n W A Z (defBody st) fb) : GFn P w K mg base y (k + 1) m (fnOf n fb) :=
  ⟨f, fd, ps, fn_okB F S' hm hn hmn hW hb, hmg, F.kp, hbi⟩
theorem GFn.mono {x : Str} {j m : Nat} {fn : Fn} (g : GFn P w K mg base x j m fn) (h : j ≤ k) : GFn P w K mg base x k m fn := by
  obtain ⟨f, fd, ps, F, q⟩ := g.ex
  exact ⟨f, fd, ps, F.mono h, q⟩

/-! ### calls -/
theorem be_call {x : Str} {p : Pos} {j m : Nat} {fn : Fn} {fa : List S → Option (List Ar × List S)} (c : Ctx P w K mg base N sc k C) (G : GFn P w K mg base x j m fn) (hj : j ≤ k) (hg : sc.names.lookup x = some .globalImplicit) (ha : BA C K n W Y (e :: es) fa)
    (hdb : (x == ("__debug__" : Str)) = false := by decide) (hs : ∀ env : Env, starEach (e :: es) env = (false, eval e env) :: starEach es env := by intro _; rfl) (hpl : ∀ env : Env, (backTo pos (starEach es env)).any (·.1) = false := by intro _; rfl) :
    BE C K n W Y (.Call (.Name x p) (e :: es) [] pos) (eCall m W fn fa) := by
  obtain ⟨f, fd, ps, F, hm, hk, hb⟩ := G.ex
  obtain ⟨t, h1, h2⟩ := ha
  refine ⟨tCall (spOf K m fn) [] E0 t, fun X hX => ?_, re_call h2⟩
  have q := c X hX
  have hsc := q.hsc
  have hP := q.hP
  have hw := q.hw
  have hK := q.hK
  have hmg := q.hmg
  have hbs := q.hb
  subst hP hw hK hmg hbs
  exact pe_call F (q.room.mono hj) (show X.env.scope.names.lookup x = _ by rw [hsc]; exact hg) hm hk hb .nil pass0 (h1 X hX) hdb (hs _) (hpl _)
theorem be_call0 {x : Str} {p : Pos} {j m : Nat} {fn : Fn} (c : Ctx P w K mg base N sc k C) (G : GFn P w K mg base x j m fn) (hj : j ≤ k) (hg : sc.names.lookup x = some .globalImplicit) (hdb : (x == ("__debug__" : Str)) = false := by decide) :
    BE C K n W false (.Call (.Name x p) [] [] pos) (eCall m W fn fun env => some ([], env)) := by
  obtain ⟨f, fd, ps, F, hm, hk, hb⟩ := G.ex
  refine ⟨tCall (spOf K m fn) [] E0 tNil, fun X hX => ?_, re_call ra_nil⟩
  have q := c X hX
  have hsc := q.hsc
  have hP := q.hP
  have hw := q.hw
  have hK := q.hK
  have hmg := q.hmg
  have hbs := q.hb
  subst hP hw hK hmg hbs
  exact pe_call0 F (q.room.mono hj) (show X.env.scope.names.lookup x = _ by rw [hsc]; exact hg) hm hk hb .nil pass0 hdb

/-! ### targets -/
theorem bg_name {i : Nat} {x : Str} (c : Ctx P w K mg base N sc k C) (hi : N[i]? = some x) (hx : Loc sc x) (hin : i < n) (hf : FnX C x) : BG C K n W [i] (.Name x pos) (gSet i) :=
  ⟨gName i, fun X hX => pg_name (i := i) (by rw [(c X hX).hN]; exact (c X hX).nd) (by rw [(c X hX).hN]; exact hi) (by rw [(c X hX).hsc]; exact hx) (hf X hX), rt_name hin⟩
theorem bgn_nil : BGN C [] [] := fun _ _ => pgs_nil
theorem bgn_cons {i : Nat} {is : List Nat} {x : Str} (c : Ctx P w K mg base N sc k C) (hi : N[i]? = some x) (hx : Loc sc x) (hf : FnX C x) (hr : BGN C es is)
    (hs : ∀ env : Env, (assignEach (.Name x pos :: es) env).map (·.2) = assign (.Name x pos) env :: (assignEach es env).map (·.2) := by intro _; rfl) : BGN C (.Name x pos :: es) (i :: is) := fun X hX =>
  pgs_cons (pg_name (i := i) (by rw [(c X hX).hN]; exact (c X hX).nd) (by rw [(c X hX).hN]; exact hi) (by rw [(c X hX).hsc]; exact hx) (hf X hX)) (hr X hX) (hs _)
theorem bg_tup {is : List Nat} {j m : Nat} (c : Ctx P w K mg base N sc k C) (h : BGN C es is) (hi : ∀ i ∈ is, i < n) (hm : is.length = m)
    (hn : ∀ env : Env, (assignEach es env).length = m := by intro _; rfl) (hst : ∀ env : Env, (assignEach es env).findIdx? (·.1) = none := by intro _; rfl) : BG C K n W is (.Tuple es j pos) (gTups is) :=
  ⟨gTup K m (gNames is), fun X hX => by have := pg_tup (pos := pos) (k := j) (c X hX).calm (h X hX) (hn _) (hst _); rwa [(c X hX).hK] at this, rt_tup hi hm⟩

/-! ### what is walked -/
theorem bi_list {tg : Expr} {fe : List S → Option (T × List S)} (c : Ctx P w K mg base N sc k C) (he : BE C K n W Y e fe) : BI C K n W Y tg e (iSeqL fe) := by
  obtain ⟨t, h1, h2⟩ := he
  exact ⟨iList K t, fun X hX => by have := pi_list (tg := tg) (h1 X hX); rwa [(c X hX).hK] at this, ri_list h2⟩
theorem bi_tup {tg : Expr} {fe : List S → Option (T × List S)} (c : Ctx P w K mg base N sc k C) (he : BE C K n W Y e fe) : BI C K n W Y tg e (iSeqT fe) := by
  obtain ⟨t, h1, h2⟩ := he
  exact ⟨iTup K t, fun X hX => by have := pi_tup (tg := tg) (h1 X hX); rwa [(c X hX).hK] at this, ri_tup h2⟩
theorem bi_range1 {tg : Expr} {p : Pos} {fe : List S → Option (T × List S)} (c : Ctx P w K mg base N sc k C) (hg : sc.names.lookup ("range" : Str) = some .globalImplicit) (hm : mg "range" = none) (he : BE C K n W Y e fe)
    (hs : ∀ env : Env, starEach [e] env = [(false, eval e env)] := by intro _; rfl) : BI C K n W Y tg (.Call (.Name "range" p) [e] [] pos) (iRange1 fe) := by
  obtain ⟨t, h1, h2⟩ := he
  exact ⟨iRng1 (tCons t tNil), fun X hX => pi_range1 (show X.env.scope.names.lookup ("range" : Str) = _ by rw [(c X hX).hsc]; exact hg) (by rw [(c X hX).hmg]; exact hm) (pa_cons (h1 X hX) pa_nil (hs _)) (hs _), ri_range1 h2⟩

/-! ### comprehensions -/
theorem bts_nil : BTs C K n W false [] fun env => some (true, env) := ⟨tYes, fun _ _ => pts_nil, fun g FS env τ σ tv H Q b env' hK hn hW he hs Sm yb e h => by cases e; exact h H FS he Sm⟩
theorem bts_one {f : List S → Option (Bool × List S)} (h : BT C K n W Y e f) : BTs C K n W Y [e] f := let ⟨t, h1, h2⟩ := h; ⟨t, fun X hX => pts_one (h1 X hX), h2⟩
theorem be_comp {elt tg iter : Expr} {ifs : List Expr} {scope : Scope} {own : List (Str × Nat)} {fi : List S → Option (S × List T × List S)} {ft : T → List S → Option (List S)} {fc : List S → Option (Bool × List S)} {fe : List S → Option (T × List S)}
    (c : Ctx P w K mg base N sc k C) (hi : BI C K n W Y tg iter fi) (ok : blkC N sc scope own = true) (hg : BG (blkS C scope) K n W A tg ft) (ht : BTs (blkS C scope) K n W Y' ifs fc) (he : BE (blkS C scope) K n W Y2 elt fe) (hA : ∀ i ∈ A, i ∈ own.map (·.2)) (hAW : ∀ i ∈ A, i ∉ W)
    (hs : ∀ (env : Env) (x : Value), foldedSetIterable iter env x = pure x := by intro _ _; rfl) : BE C K n W (Y || Y' || Y2) (.ListComp elt [⟨tg, iter, ifs, 0⟩] scope pos) (eComp (own.map (·.2)) fi ft fc fe) := by
  obtain ⟨wi, i1, i2⟩ := hi
  obtain ⟨gt, g1, g2⟩ := hg
  obtain ⟨tt, t1, t2⟩ := ht
  obtain ⟨te, e1, e2⟩ := he
  exact ⟨tLc wi gt tt te (own.map (·.2)), fun X hX => pe_lc (c X hX).calm (by rw [(c X hX).hN]; exact (c X hX).nd) (i1 X hX) (by rw [(c X hX).hN, (c X hX).hsc]; exact blkOk_by ok)
    (fun s H Cc cl fp => g1 _ ⟨X, hX, s, H, Cc, cl, fp, rfl⟩) (fun s H Cc cl fp => t1 _ ⟨X, hX, s, H, Cc, cl, fp, rfl⟩) (fun s H Cc cl fp => e1 _ ⟨X, hX, s, H, Cc, cl, fp, rfl⟩) (hs _), re_comp i2 g2 t2 e2 hA hAW⟩
theorem bs_setLc {i : Nat} {y : Str} {py spos : Pos} {elt tg iter : Expr} {ifs : List Expr} {scope : Scope} {own : List (Str × Nat)} {fi : List S → Option (S × List T × List S)} {ft : T → List S → Option (List S)} {fc : List S → Option (Bool × List S)} {fe : List S → Option (T × List S)}
    (c : Ctx P w K mg base N sc k C) (hy : N[i]? = some y) (hyl : sc.names.lookup y = some .local) (hin : i < n) (hk : sc.kind = .function) (hl : (py.line == pos.line) = true) (hn : (scope.names.any fun (n, k) => n == y && (k == .local || k == .cell)) = false)
    (hi : BI C K n W Y tg iter fi) (ok : blkC N sc scope own = true) (hg : BG (blkS C scope) K n W A tg ft) (ht : BTs (blkS C scope) K n W Y' ifs fc) (he : BE (blkS C scope) K n W Y2 elt fe) (hA : ∀ i ∈ A, i ∈ own.map (·.2)) (hAW : ∀ i ∈ A, i ∉ W)
    (hs : ∀ (env : Env) (x : Value), foldedSetIterable iter env x = pure x := by intro _ _; rfl) : BS C K n W [i] false (.Assign [.Name y py] (.ListComp elt [⟨tg, iter, ifs, 0⟩] scope pos) spos) (sAsg (eComp (own.map (·.2)) fi ft fc fe) (gSet i)) := by
  obtain ⟨wi, i1, i2⟩ := hi
  obtain ⟨gt, g1, g2⟩ := hg
  obtain ⟨tt, t1, t2⟩ := ht
  obtain ⟨te, e1, e2⟩ := he
  exact ⟨tAsg (tLc wi gt tt te (own.map (·.2))) (gName i), fun X hX => ps_setLc (c X hX).calm (by rw [(c X hX).hN]; exact (c X hX).nd) (by rw [(c X hX).hN]; exact hy) (by rw [(c X hX).hsc]; exact hyl) (sw_true (by rw [(c X hX).hsc]; exact hk) (by rw [(c X hX).hsc]; exact hyl) hl hn) (i1 X hX) (by rw [(c X hX).hN, (c X hX).hsc]; exact blkOk_by ok)
    (fun s H Cc cl fp => g1 _ ⟨X, hX, s, H, Cc, cl, fp, rfl⟩) (fun s H Cc cl fp => t1 _ ⟨X, hX, s, H, Cc, cl, fp, rfl⟩) (fun s H Cc cl fp => e1 _ ⟨X, hX, s, H, Cc, cl, fp, rfl⟩) (hs _), rs_asg (re_comp i2 g2 t2 e2 hA hAW) (rt_name hin)⟩

/-! ### statements -/
theorem bss_nil : BSs C K n W [] false [] fun env => some (.nx env) := ⟨tNext, fun _ _ => pss_nil, rs_nil⟩
theorem bss_one {f : List S → Option Fl} (h : BS C K n W A Z st f) : BSs C K n W A Z [st] f := let ⟨t, h1, h2⟩ := h; ⟨t, fun X hX => pss_one (h1 X hX), h2⟩
theorem bss_cons {f g : List S → Option Fl} (h : BS C K n W A Z st f) (r : BSs C K n W B Z' sts g) : BSs C K n W (A ++ B) (Z || Z') (st :: sts) (sSeq f g) :=
  let ⟨t, h1, h2⟩ := h; let ⟨u, r1, r2⟩ := r; ⟨tSeq t u, fun X hX => pss_cons (h1 X hX) (r1 X hX), rs_seq h2 r2⟩
theorem bss_frz {f : List S → Option Fl} (i : Nat) (hi : i < n) (h : BSs C K n W A Z sts f) : BSs C K n W A Z sts fun env => f (frzE i env) := let ⟨t, h1, h2⟩ := h; ⟨t, h1, rs_freeze i hi h2⟩
theorem bss_own {f : List S → Option Fl} (i : Nat) (hi : i < n) (h : BSs C K n W A Z sts f) : BSs C K n W A true sts fun env => f (ownE i env) := let ⟨t, h1, h2⟩ := h; ⟨t, h1, rs_own i hi h2⟩
theorem bs_set {i : Nat} {x : Str} {px : Pos} {fe : List S → Option (T × List S)} (c : Ctx P w K mg base N sc k C) (hi : N[i]? = some x) (hx : Loc sc x) (hin : i < n) (hf : FnX C x) (he : BE C K n W Y e fe)
    (hs : ∀ env : Env, swapsWith e (some (.Name x px)) pos.line env = pure false := by intro _; rfl) : BS C K n W [i] false (.Assign [.Name x px] e pos) (sAsg fe (gSet i)) :=
  let ⟨t, h1, h2⟩ := he; ⟨tAsg t (gName i), fun X hX => ps_set (i := i) (by rw [(c X hX).hN]; exact (c X hX).nd) (by rw [(c X hX).hN]; exact hi) (by rw [(c X hX).hsc]; exact hx) (h1 X hX) (hs _) (hf X hX), rs_asg h2 (rt_name hin)⟩
theorem bs_asg {tg : Expr} {fe : List S → Option (T × List S)} {ft : T → List S → Option (List S)} (he : BE C K n W Y e fe) (hg : BG C K n W A tg ft)
    (hs : ∀ env : Env, swapsWithSole [tg] e pos.line env = pure false := by intro _; rfl) (hw : ∀ env : Env, swappedStores [tg] e env = pure none := by intro _; rfl) (h1 : ∀ env : Env, (assignEach [tg] env).map (·.2) = [assign tg env] := by intro _; rfl) :
    BS C K n W A false (.Assign [tg] e pos) (sAsg fe ft) :=
  let ⟨t, q1, q2⟩ := he; let ⟨g, g1, g2⟩ := hg; ⟨tAsg t g, fun X hX => ps_asg (q1 X hX) (g1 X hX) (hs _) (hw _) (h1 _), rs_asg q2 g2⟩
theorem bs_expr {fe : List S → Option (T × List S)} (he : BE C K n W Y e fe) (hs : ∀ env : Env, swapsWith e none pos.line env = pure false := by intro _; rfl) : BS C K n W [] false (.Expr e pos) (sExpr fe) :=
  let ⟨t, h1, h2⟩ := he; ⟨tDrop t, fun X hX => ps_expr (h1 X hX) (hs _), rs_expr h2⟩
theorem bs_ret {fe : List S → Option (T × List S)} (he : BE C K n W Y e fe) : BS C K n W [] false (.Return (some e) pos) (sRet fe) :=
  let ⟨t, h1, h2⟩ := he; ⟨tRet t, fun X hX => ps_ret (h1 X hX), rs_ret h2⟩
theorem bs_retN : BS C K n W [] false (.Return none pos) fun env => some (.rt (.own, .non) env) := ⟨tRetN, fun _ _ => ps_retN, rs_retN⟩
theorem bs_pass : BS C K n W [] false (.Pass pos) fun env => some (.nx env) := ⟨tNext, fun _ _ => ps_pass, rs_pass⟩
theorem bs_break : BS C K n W [] false (.Break pos) fun env => some (.bk env) := ⟨tBreak, fun _ _ => ps_break, rs_break⟩
theorem bs_cont : BS C K n W [] false (.Continue pos) fun env => some (.ct env) := ⟨tCont, fun _ _ => ps_continue, rs_cont⟩
theorem bs_never : BS C K n W [] false st fun _ => none := ⟨tNever, fun _ _ => ps_never, rs_never⟩
theorem bs_if {s1 s2 : List Stmt} {fc : List S → Option (Bool × List S)} {f g : List S → Option Fl} (hc : BT C K n W Y e fc) (h : BSs C K n W A Z s1 f) (r : BSs C K n W B Z' s2 g) : BS C K n W (A ++ B) (Z || Z') (.If e s1 s2 pos) (sIf fc f g) :=
  let ⟨tc, c1, c2⟩ := hc; let ⟨t, h1, h2⟩ := h; let ⟨u, r1, r2⟩ := r; ⟨tIfS tc t u, fun X hX => ps_if (c1 X hX) (h1 X hX) (r1 X hX), rs_if c2 h2 r2⟩
theorem passes {X : Cx} (c : Ctx P w K mg base N sc k C) (hX : C X) : PassesOwn (model X.prog X.w) X.A X.env X.xe := by rw [(c X hX).xe]; exact PassesOwn.never
theorem bs_for {tg iter : Expr} {body : List Stmt} {fi : List S → Option (S × List T × List S)} {ft : T → List S → Option (List S)} {fb : List S → Option Fl} (c : Ctx P w K mg base N sc k C) (hi : BI C K n W Y tg iter fi) (hg : BG C K n W A tg ft) (hb : BSs C K n W B Z body fb)
    (hs : ∀ (env : Env) (x : Value), foldedSetIterable iter env x = pure x := by intro _ _; rfl) : BS C K n W (A ++ B) Z (.For tg iter body [] pos) (sFor Z fi ft fb) :=
  let ⟨wi, i1, i2⟩ := hi; let ⟨g, g1, g2⟩ := hg; let ⟨t, b1, b2⟩ := hb; ⟨tFor wi g t, fun X hX => ps_for (passes c hX) (c X hX).calm (i1 X hX) (g1 X hX) (b1 X hX) (hs _), rs_for i2 g2 b2⟩
theorem bs_while {body : List Stmt} {fc : List S → Option (Bool × List S)} {fb : List S → Option Fl} (M : Nat) (c : Ctx P w K mg base N sc k C) (hc : BT C K n W Y e fc) (hb : BSs C K n W A Z body fb) : BS C K n W A Z (.While e body [] pos) (sWhile fc fb M) :=
  let ⟨tc, c1, c2⟩ := hc; let ⟨t, b1, b2⟩ := hb; ⟨tWhile tc t, fun X hX => ps_while (passes c hX) (c1 X hX) (b1 X hX), rs_while M c2 b2⟩
/-! #### stores into slots -/
theorem bs_dput {i : Nat} {x : Str} {px psub : Pos} {v : Expr} {fv fk : List S → Option (T × List S)} (c : Ctx P w K mg base N sc k C) (hi : N[i]? = some x) (hx : Vis sc x) (hin : i < n) (hv : BE C K n W Y v fv) (hk : BE C K n W Y' e fk)
    (hs : ∀ env : Env, swapsWith v (some (.Subscript (.Name x px) e psub)) pos.line env = pure false := by intro _; rfl) (hd : (x == ("__debug__" : Str)) = false := by decide) (hcd : (x == ("__classdict__" : Str)) = false := by decide) :
    BS C K n W [] false (.Assign [.Subscript (.Name x px) e psub] v pos) (sPut i oDPut fv fk) :=
  let ⟨tv, v1, v2⟩ := hv; let ⟨tk, k1, k2⟩ := hk
  ⟨tPut tv (tVar i) tk rDPut, fun X hX => ps_dput (units1 (c X hX).room) (pe_var (i := i) (by rw [(c X hX).hN]; exact hi) (by rw [(c X hX).hsc]; exact hx) hd hcd) (k1 X hX) (v1 X hX) (hs _), rs_put hin v2 k2 vp_dput⟩
theorem bs_lput {i : Nat} {x : Str} {px psub : Pos} {v : Expr} {fv fk : List S → Option (T × List S)} (c : Ctx P w K mg base N sc k C) (hi : N[i]? = some x) (hx : Vis sc x) (hin : i < n) (hv : BE C K n W Y v fv) (hk : BE C K n W Y' e fk)
    (hs : ∀ env : Env, swapsWithSole [.Subscript (.Name x px) e psub] v pos.line env = pure false := by intro _; rfl) (hw : ∀ env : Env, swappedStores [.Subscript (.Name x px) e psub] v env = pure none := by intro _; rfl) (h1 : ∀ env : Env, (assignEach [.Subscript (.Name x px) e psub] env).map (·.2) = [assign (.Subscript (.Name x px) e psub) env] := by intro _; rfl)
    (ha : ∀ (env : Env) (u : Value), assign (.Subscript (.Name x px) e psub) env u = (do
      let ov ← holding [u] (eval (.Name x px) env)
      let iv ← holding [u, ov] (eval e env)
      standAt psub
      holding [u, ov, iv] (setItem ov iv u)
      release [u, ov, iv] []) := by intro _ _; rfl) (hd : (x == ("__debug__" : Str)) = false := by decide) (hcd : (x == ("__classdict__" : Str)) = false := by decide) :
    BS C K n W [] false (.Assign [.Subscript (.Name x px) e psub] v pos) (sPut i oSetL fv fk) :=
  let ⟨tv, v1, v2⟩ := hv; let ⟨tk, k1, k2⟩ := hk
  ⟨tPut tv (tVar i) tk rSetL, fun X hX => ps_asg (v1 X hX) (pg_sub (pe_var (i := i) (by rw [(c X hX).hN]; exact hi) (by rw [(c X hX).hsc]; exact hx) hd hcd) (k1 X hX) set_list (ha _)) (hs _) (hw _) (h1 _), rs_put hin v2 k2 vp_setL⟩
/-! #### methods that write a slot -/
theorem be_mut {i : Nat} {x : Str} {px apos cpos : Pos} {T id : String} {name : Str} {r : V → List V → Hp → VK → Prop} {o : D → List D → Option (D × D)} {fa : List S → Option (List Ar × List S)} (c : Ctx P w K mg base N sc k C) (pa : PlainAttrs T) (slot : Slot T name id) (hty : typeOf (.builtin id) = pure (.type "method_descriptor"))
    (hT : T ≠ "str") (hm : ∀ X : Cx, MtR X id r) (ho : VMut K r o) (hi : N[i]? = some x) (hx : Vis sc x) (hin : i < n) (ha : BA C K n W Y (e :: es) fa)
    (hbase : ∀ env : Env, attributeBase (.Name x px) name env (eval (.Name x px) env) = eval (.Name x px) env := by intro _; rfl)
    (hfew : ∀ env : Env, ((backTo cpos (starEach (e :: es) env)).all (fun x => !x.1) && (backToKw cpos (keywordEach [] env)).all (fun x => x.1.isSome)
      && decide ((e :: es).length + ([] : List Keyword).length + (if ([] : List Keyword).isEmpty then 0 else 1) < 30)) = true := by intro _; rfl)
    (hline : (apos.endLine == cpos.line) = true := by rfl) (hs : ∀ env : Env, starEach (e :: es) env = (false, eval e env) :: starEach es env := by intro _; rfl) (hplain : ∀ env : Env, (backTo cpos (starEach es env)).any (·.1) = false := by intro _; rfl)
    (hd : (x == ("__debug__" : Str)) = false := by decide) (hcd : (x == ("__classdict__" : Str)) = false := by decide) :
    BE C K n W true (.Call (.Attribute (.Name x px) name apos) (e :: es) [] cpos) (eMut i T o fa) := by
  obtain ⟨ta, a1, a2⟩ := ha
  refine ⟨tBM K T r (tVar i) ta, fun X hX => ?_, re_mut hin hT a2 ho⟩
  have := pe_bm (X := X) pa slot hty (hm X) (pe_var (i := i) (pos := px) (by rw [(c X hX).hN]; exact hi) (by rw [(c X hX).hsc]; exact hx) hd hcd) (a1 X hX) (hbase _) (hfew _) hline (hs _) (hplain _)
  rwa [(c X hX).hK] at this
theorem be_mut0 {i : Nat} {x : Str} {px apos cpos : Pos} {T id : String} {name : Str} {r : V → List V → Hp → VK → Prop} {o : D → List D → Option (D × D)} (c : Ctx P w K mg base N sc k C) (pa : PlainAttrs T) (slot : Slot T name id) (hty : typeOf (.builtin id) = pure (.type "method_descriptor"))
    (hT : T ≠ "str") (hm : ∀ X : Cx, MtR X id r) (ho : VMut K r o) (hi : N[i]? = some x) (hx : Vis sc x) (hin : i < n)
    (hbase : ∀ env : Env, attributeBase (.Name x px) name env (eval (.Name x px) env) = eval (.Name x px) env := by intro _; rfl)
    (hline : (apos.endLine == cpos.line) = true := by rfl) (hd : (x == ("__debug__" : Str)) = false := by decide) (hcd : (x == ("__classdict__" : Str)) = false := by decide) :
    BE C K n W true (.Call (.Attribute (.Name x px) name apos) [] [] cpos) (eMut i T o fun env => some ([], env)) := by
  refine ⟨tBM K T r (tVar i) tNil, fun X hX => ?_, re_mut hin hT ra_nil ho⟩
  have := pe_bm0 (X := X) pa slot hty (hm X) (pe_var (i := i) (pos := px) (by rw [(c X hX).hN]; exact hi) (by rw [(c X hX).hsc]; exact hx) hd hcd) (hbase _) hline
  rw [(c X hX).hK] at this
  exact this
end
end RG

set_option maxRecDepth 100000
set_option maxHeartbeats 4000000
namespace RG
open PySem PySem.Spec PyProof.Rows L2

/-! ### dict displays with written keys and values -/
def mergeD (kvs : List (Key × D)) : List (Key × D) → List (Key × D) := List.foldl (fun acc kv => putD acc kv.1 kv.2) kvs
/-- a written value -/
inductive Lit : V → D → Prop where
  | non : Lit .non .non
  | bl (b : Bool) : Lit (.bl b) (.bl b)
  | int (i : Int) : Lit (.int i) (.int i)
  | str (x : Str) : Lit (.str x) (.str x)
theorem Lit.rep {K : PySem.W.Frag} {H : Hp} {v : V} {d : D} (h : Lit v d) : Rep K H v d [] := by
  cases h with
  | non => exact .non
  | bl b => exact .bl b
  | int i => exact .int i
  | str x => exact .str x
structure Dpair where
  k : Key
  v : V
  d : D
  l : Lit v d
def Dpair.tr (p : Dpair) : TE × TE := (tC (kV p.k), tC p.v)
theorem pairs_run {σ : L2.St} {H : Hp} {Q : List (V × V) → Hp → Prop} : ∀ {ps : List Dpair} {acc : List (V × V)}, Q (acc ++ ps.map fun p => (kV p.k, p.v)) H → tPairs (ps.map Dpair.tr) σ H (fun qs H' => Q (acc ++ qs) H')
  | [], acc, h => by
    show Q (acc ++ []) H
    simpa using h
  | p :: ps, acc, h => by
    show tPairs (ps.map Dpair.tr) σ H (fun qs H' => Q (acc ++ (kV p.k, p.v) :: qs) H')
    have := pairs_run (ps := ps) (acc := acc ++ [(kV p.k, p.v)]) (Q := Q) (σ := σ) (H := H) (by simpa using h)
    simpa using this
section
variable {P : Program} {w : World} {K : PySem.W.Frag} {mg : Str → Option Value} {base : Heap} {N : List Str} {sc : Scope} {k n : Nat} {C : XS} {W A B : List Nat} {Y Y' Y2 Z Z' : Bool}
variable {pos : Pos} {a b e : Expr} {es : List Expr} {st : Stmt} {sts : List Stmt}
theorem merge_rep {H : Hp} : ∀ {ps : List Dpair} {kvs : List (Key × V)} {ds : List (Key × D)}, kvs.map (·.1) = ds.map (·.1) → RepL K H (kvs.map (·.2)) (ds.map (·.2)) [] →
    (mergeK kvs (ps.map fun p => (p.k, p.v))).map (·.1) = (mergeD ds (ps.map fun p => (p.k, p.d))).map (·.1) ∧ RepL K H ((mergeK kvs (ps.map fun p => (p.k, p.v))).map (·.2)) ((mergeD ds (ps.map fun p => (p.k, p.d))).map (·.2)) []
  | [], _, _, e, r => ⟨e, r⟩
  | p :: ps, kvs, ds, e, r => by
    obtain ⟨h1, h2, _⟩ := put_rep (k := p.k) e r (p.l.rep (K := K) (H := H))
    exact merge_rep (ps := ps) h1 h2
theorem rp_disp {ps : List Dpair} (h15 : ps.length ≤ 15) : RP K n W (tDisp (ps.map Dpair.tr)) fun _ => some (some .own, .dK (mergeD [] (ps.map fun p => (p.k, p.d)))) := by
  intro g FS env τ σ tv H Q r hK hn hW he hs Sm e h
  cases e
  intro p hp
  refine pairs_run (acc := []) (Q := fun ps H2 => H2 p = some (.dK []) ∧ ∃ kvs : List (Key × V), ps = kvs.map (fun kv => (kV kv.1, kv.2)) ∧ kvs.length ≤ 15 ∧ Q (.ref p) (upd H2 p (.dK (mergeK [] kvs)))) ?_
  refine ⟨upd_same .., ps.map fun q => (q.k, q.v), by simp [List.map_map, Function.comp_def], by simpa using h15, ?_⟩
  obtain ⟨h1, h2⟩ := merge_rep (K := K) (H := upd (upd H p (.dK [])) p (.dK (mergeK [] (ps.map fun q => (q.k, q.v))))) (ps := ps) (kvs := []) (ds := []) rfl .nil
  refine h _ _ [p] (fun b o eb => ?_) (.dK (upd_same ..) ?_ h1 h2) ⟨fun _ => ⟨by simp, fun a m => by rw [List.mem_singleton.mp m]; exact hp⟩, fun k' e n => by cases e; exact absurd rfl n⟩
  · have : b ≠ p := ne_of_none eb hp
    rw [upd_ne this, upd_ne this]; exact eb
  · have q1 := length_mergeK (ps.map fun q => (q.k, q.v)) []
    rw [List.length_map, List.length_nil] at q1
    rw [sizeLine_eq]; omega
def BD (C : XS) (pos : Pos) (keys : List (Option Expr)) (values : List Expr) (ps : List Dpair) : Prop := ∀ X, C X → PPs X pos keys values (ps.map Dpair.tr)
theorem bd_nil : BD C pos [] [] [] := fun _ _ => pps_nil
theorem bd_ss {x y : Str} {i j : Nat} {p1 p2 : Pos} {ks : List (Option Expr)} {vs : List Expr} {ps : List Dpair} (h : BD C pos ks vs ps) : BD C pos (some (.Constant (.str x) i p1) :: ks) (.Constant (.str y) j p2 :: vs) (⟨.inr x, .str y, .str y, .str y⟩ :: ps) := fun X hX =>
  pps_cons pe_str pe_str (h X hX)
theorem bd_si {x : Str} {y : Int} {i j : Nat} {p1 p2 : Pos} {ks : List (Option Expr)} {vs : List Expr} {ps : List Dpair} (h : BD C pos ks vs ps) : BD C pos (some (.Constant (.str x) i p1) :: ks) (.Constant (.int y) j p2 :: vs) (⟨.inr x, .int y, .int y, .int y⟩ :: ps) := fun X hX =>
  pps_cons pe_str pe_int (h X hX)
theorem bp_disp {keys : List (Option Expr)} {values : List Expr} {ps : List Dpair} (h : BD C pos keys values ps) (h15 : ps.length ≤ 15) (hall : keys.all (·.isSome) = true := by rfl) (hl : keys.length = values.length := by rfl) (h0 : keys ≠ [] := by exact fun z => nomatch z) (hk : keys.length ≤ 15 := by decide) :
    BP C K n W (.Dict keys values pos) fun _ => some (some .own, .dK (mergeD [] (ps.map fun p => (p.k, p.d)))) := ⟨_, fun X hX => pe_disp (h X hX) hall hl h0 hk, rp_disp h15⟩
theorem rp_new {o : HO} {d : D} (hr : ∀ (H : Hp) (p : Addr), H p = none → Rep K (upd H p o) (.ref p) d [p]) : RP K n W (fun _ H Q => ∀ p, H p = none → Q (.ref p) (upd H p o)) fun _ => some (some .own, d) := by
  intro g FS env τ σ tv H Q r hK hn hW he hs Sm e h
  cases e
  intro p hp
  exact h _ _ [p] (same_upd hp) (hr H p hp) ⟨fun _ => ⟨by simp, fun a m => by rw [List.mem_singleton.mp m]; exact hp⟩, fun k' e n => by cases e; exact absurd rfl n⟩
theorem bp_dnewK : BP C K n W (.Dict [] [] pos) fun _ => some (some .own, .dK []) := ⟨tDNewK, fun _ _ => pe_dnewK, rp_new fun H p hp => .dK (upd_same ..) (Nat.zero_le _) rfl .nil⟩
theorem bp_dnewT : BP C K n W (.Dict [] [] pos) fun _ => some (some .own, .dT []) := ⟨tDNewT, fun _ _ => pe_dnewT, rp_new fun H p hp => .dT (upd_same ..) (Nat.zero_le _) rfl .nil⟩

/-! ### isinstance(x, T), T a built-in type -/
def D.tyn : D → Option String
  | .non => some "NoneType"
  | .bl _ => some "bool"
  | .int _ => some "int"
  | .str _ => some "str"
  | .tup _ => some "tuple"
  | .lst _ => some "list"
  | .scr _ => some "list"
  | .dK _ => some "dict"
  | .dT _ => some "dict"
  | .ins _ _ => none
theorem Rep.tyX {H : Hp} {v : V} {d : D} {F : List Addr} {t : String} (r : Rep K H v d F) (h : d.tyn = some t) : TyX K H v (.type t) := by
  cases r with
  | non => cases h; exact .base .non
  | bl b => cases h; exact .base (.bl b)
  | int i => cases h; exact .base (.int i)
  | str x => cases h; exact .base (.str x)
  | tup q _ _ _ =>
    cases h
    rcases q with (q | ⟨o, q⟩) | ⟨o, its, m, q1, q2, _⟩
    · exact .base (.tup q)
    · exact .fTuple q
    · exact .kTuple q1 q2
  | lst q _ _ => cases h; exact .base (.lst q)
  | scr q _ =>
    cases h
    rcases q with ⟨o, q⟩ | ⟨o, its, m, q1, q2, _⟩
    · exact .base (.frz q)
    · exact .kList q1 q2
  | dK q _ _ _ => cases h; exact .base (.dK q)
  | dT q _ _ _ => cases h; exact .base (.dT q)
  | ins _ q _ _ => cases h
def pIsi (T : String) (f : List S → Option (Pk × D)) : List S → Option (Pk × D) := fun env => (f env).bind fun r => (r.2.tyn).bind fun t => (kitB t T).map fun b => (some .own, .bl b)
theorem rp_isi {T : String} {t : TE} {f : List S → Option (Pk × D)} (h : RP K n W t f) : RP K n W (tCB (rIsi K) (tCons t (tCons (tC (.ty T)) tNil))) (pIsi T f) := by
  intro g FS env τ σ tv H Q r hK hn hW he hs Sm e hq
  unfold pIsi at e
  cases e1 : f env with
  | none => rw [e1] at e; cases e
  | some r1 =>
    simp only [e1, Option.bind_some] at e
    cases e2 : r1.2.tyn with
    | none => rw [e2] at e; cases e
    | some t1 =>
      simp only [e2, Option.bind_some] at e
      cases e3 : kitB t1 T with
      | none => rw [e3] at e; cases e
      | some bb =>
        simp only [e3, Option.map_some, Option.some.injEq] at e
        subst e
        refine h g FS env τ σ tv H _ r1 hK hn hW he hs Sm e1 fun v H' F sm rv pk => ?_
        exact ⟨v, .ty T, _, _, bb, rfl, .ty T, rv.tyX e2, kit_ty e3, hq _ _ _ sm (.bl bb) POk.nil⟩
theorem bp_isi {T : String} {x : Str} {p1 p2 : Pos} {f : List S → Option (Pk × D)} (c : Ctx P w K mg base N sc k C) (h : BP C K n W e f) (hg : sc.names.lookup ("isinstance" : Str) = some .globalImplicit) (hm : mg "isinstance" = none) (hgT : sc.names.lookup x = some .globalImplicit) (hmT : mg x = none) (hvT : bootBuiltins x = some (.type T))
    (hv : bootBuiltins ("isinstance" : Str) = some (.builtin "isinstance") := by rfl) (hn : x ≠ "__name__" := by decide) (hdb : (x == ("__debug__" : Str)) = false := by decide)
    (hs : ∀ env : Env, starEach [e, .Name x p2] env = (false, eval e env) :: starEach [.Name x p2] env := by intro _; rfl) (hpl : ∀ env : Env, (backTo pos (starEach [.Name x p2] env)).any (·.1) = false := by intro _; rfl) :
    BP C K n W (.Call (.Name "isinstance" p1) [e, .Name x p2] [] pos) (pIsi T f) := by
  obtain ⟨t, h1, h2⟩ := h
  refine ⟨_, fun X hX => ?_, rp_isi h2⟩
  have q := c X hX
  have hT : PE X (.Name x p2) (tC (.ty T)) := pe_bltn (show X.env.scope.names.lookup x = _ by rw [q.hsc]; exact hgT) (by rw [q.hmg]; exact hmT) hvT rfl hn hdb
  have := pe_callB (X := X) (p := p1) (pos := pos) call_isi (show X.env.scope.names.lookup ("isinstance" : Str) = _ by rw [q.hsc]; exact hg) (by rw [q.hmg]; exact hm) hv (pa_cons (h1 X hX) (pa_cons hT pa_nil) (hs _)) (by decide) (by decide) (hs _) (hpl _)
  rwa [q.hK] at this

def pDisp (kvs : List (Key × D)) : List S → Option (Pk × D) := fun _ => some (some .own, .dK (mergeD [] kvs))
theorem bp_dispC {keys : List (Option Expr)} {values : List Expr} {ps : List Dpair} {kvs : List (Key × D)} (h : BD C pos keys values ps) (h15 : ps.length ≤ 15) (e : ps.map (fun p => (p.k, p.d)) = kvs) (hall : keys.all (·.isSome) = true := by rfl) (hl : keys.length = values.length := by rfl) (h0 : keys ≠ [] := by exact fun z => nomatch z) (hk : keys.length ≤ 15 := by decide) :
    BP C K n W (.Dict keys values pos) (pDisp kvs) := by
  subst e
  exact bp_disp h h15 hall hl h0 hk
/-! ### one or the other -/
def oOr (o o' : List D → Option (Rk × D)) : List D → Option (Rk × D) := fun ds => match o ds with
  | some r => some r
  | none => o' ds
theorem vop_or {r r' : List V → Hp → VK → Prop} {o o' : List D → Option (Rk × D)} (h : VOp K r o) (h' : VOp K r' o') : VOp K (fun vs H Q => r vs H Q ∨ r' vs H Q) (oOr o o') := by
  intro H vs ds F Q k d rl e q
  unfold oOr at e
  split at e
  · rename_i e1
    cases e
    exact .inl (h H vs ds F Q k d rl e1 q)
  · exact .inr (h' H vs ds F Q k d rl e q)
theorem vop_or2 {r r' : R2} {o o' : List D → Option (Rk × D)} (h : VOp K (rl2 r) o) (h' : VOp K (rl2 r') o') : VOp K (rl2 fun x y H Q => r x y H Q ∨ r' x y H Q) (oOr o o') := by
  intro H vs ds F Q k d rl e q
  have := vop_or h h' H vs ds F Q k d rl e q
  unfold rl2 at this ⊢
  split <;> simp_all
theorem opa_or {f : Value → Value → Sem Value} {r r' : R2} (h : OpA C f r) (h' : OpA C f r') : OpA C f (fun x y H Q => r x y H Q ∨ r' x y H Q) := fun X hX => (h X hX).or (h' X hX)
def oInA := oOr oIn oInD
def oNotInA := oOr oNotIn oNotInD
theorem opa_inA (c : Ctx P w K mg base N sc k C) : OpA C (compareOp .In) (fun x y H Q => rIn' K x y H Q ∨ ∃ a o, y = .ref a ∧ DGet H a x o ∧ Q (.bl o.isSome) H) := opa_or (opa_in c) (opa_inD c)
theorem opa_notInA (c : Ctx P w K mg base N sc k C) : OpA C (compareOp .NotIn) (fun x y H Q => rNotIn' K x y H Q ∨ ∃ a o, y = .ref a ∧ DGet H a x o ∧ Q (.bl (!o.isSome)) H) := opa_or (opa_notIn c) (opa_notInD c)
theorem vop_inA : VOp K (rl2 fun x y H Q => rIn' K x y H Q ∨ ∃ a o, y = .ref a ∧ DGet H a x o ∧ Q (.bl o.isSome) H) oInA := vop_or2 vop_in vop_inD
theorem vop_notInA : VOp K (rl2 fun x y H Q => rNotIn' K x y H Q ∨ ∃ a o, y = .ref a ∧ DGet H a x o ∧ Q (.bl (!o.isSome)) H) oNotInA := vop_or2 vop_notIn vop_notInD
/-- a list, a tuple or the script is walked -/
def iSq (fe : List S → Option (T × List S)) : List S → Option (S × List T × List S) := fun env => match iSeqL fe env with
  | some r => some r
  | none => iSeqT fe env
theorem ri_sq {te : TE} {fe : List S → Option (T × List S)} (ht : RE K n W Y te fe) : RI K n W Y (fun σ H R => iList K te σ H R ∨ iTup K te σ H R) (iSq fe) := by
  intro g FS env τ σ tv H R s items env' hK hn hW he hs Sm yb e h
  unfold iSq at e
  split at e
  · rename_i e1
    cases e
    exact .inl (ri_list ht g FS env τ σ tv H R s items env' hK hn hW he hs Sm yb e1 h)
  · exact .inr (ri_tup ht g FS env τ σ tv H R s items env' hK hn hW he hs Sm yb e h)
theorem bi_sq {tg : Expr} {fe : List S → Option (T × List S)} (c : Ctx P w K mg base N sc k C) (he : BE C K n W Y e fe) : BI C K n W Y tg e (iSq fe) := by
  obtain ⟨t, h1, h2⟩ := he
  refine ⟨_, fun X hX => ⟨fun pins s σ H R I q => ?_⟩, ri_sq h2⟩
  have a := pi_list (tg := tg) (h1 X hX)
  have b := pi_tup (tg := tg) (h1 X hX)
  rw [(c X hX).hK] at a b
  rcases q with q | q
  · exact a.run pins s σ H R I q
  · exact b.run pins s σ H R I q
/-- xs.pop(i), xs.pop() of a list -/
theorem m2_get {o' e f : Expr} {apos cpos : Pos} (hbase : ∀ env : Env, attributeBase o' "get" env (eval o' env) = eval o' env := by intro _; rfl)
    (hfew : ∀ env : Env, ((backTo cpos (starEach [e, f] env)).all (fun x => !x.1) && (backToKw cpos (keywordEach [] env)).all (fun x => x.1.isSome)
    && decide (([e, f] : List Expr).length + ([] : List Keyword).length + (if ([] : List Keyword).isEmpty then 0 else 1) < 30)) = true := by intro _; rfl)
    (hl : (apos.endLine == cpos.line) = true := by rfl) (ht : ∀ env : Env, backTo cpos (starEach [e, f] env) = [(false, eval e env), (false, eval f env)] := by intro _; rfl) : ∀ X, M2 X o' "get" apos e f cpos := fun X => ⟨hbase _, hfew _, hl, ht _⟩
def BDef (C : XS) (K : PySem.W.Frag) (n : Nat) (W : List Nat) (st : List Stmt) (f : List S → Option Fl) : Prop := ∃ A Z, BSs C K n W A Z st f
theorem BDef.of {f : List S → Option Fl} (h : BSs C K n W A Z sts f) : BDef C K n W sts f := ⟨A, Z, h⟩
theorem gfnD {x y qual : Str} {st : Stmt} {f : Addr} {fd : FuncData} {N ps : List Str} {k m n : Nat} {W : List Nat} {fb : List S → Option Fl} (F : Fun K x qual st f fd) (hmg : mg y = some (.ref f)) (hbi : Binds K fd ps []) (S' : FnScope N ps (defScope st)) (hm : ps.length = m) (hn : N.length = n) (hmn : m ≤ n) (hW : ∀ i ∈ W, i < n)
    (hb : BDef (bodyS P w K mg base N qual (defScope st) f k) K n W (defBody st) fb) : GFn P w K mg base y (k + 1) m (fnOf n fb) := by
  obtain ⟨A, Z, hb⟩ := hb
  exact gfn F hmg hbi S' hm hn hmn hW hb
end
end RG

set_option maxRecDepth 100000
set_option maxHeartbeats 4000000
namespace RG
open PySem PySem.Spec PyProof.Rows L2

section
variable {P : Program} {w : World} {K : PySem.W.Frag} {mg : Str → Option Value} {base : Heap} {N : List Str} {sc : Scope} {k n : Nat} {C : XS} {W A B : List Nat} {Y Y' Y2 Z Z' : Bool}
variable {pos : Pos} {a b e : Expr} {es : List Expr} {st : Stmt} {sts : List Stmt}
theorem sw_cell {y : Str} {py : Pos} {l : Nat} {env : Env} (h : env.scope.names.lookup y = some .cell) : swapsWith e (some (.Name y py)) l env = pure false := by
  have ky : env.kindOf y = some .cell := h
  unfold swapsWith
  have z : (some NameKind.cell == some NameKind.local) = false := rfl
  cases e <;> first | rfl | (simp only [ky, z, Bool.and_false, Bool.false_and])
/-- name = e, the name's place a cell -/
theorem bs_setC {i : Nat} {x : Str} {px : Pos} {fe : List S → Option (T × List S)} (c : Ctx P w K mg base N sc k C) (hi : N[i]? = some x) (hx : sc.names.lookup x = some .cell) (hin : i < n) (hf : FnX C x) (he : BE C K n W Y e fe) : BS C K n W [i] false (.Assign [.Name x px] e pos) (sAsg fe (gSet i)) :=
  let ⟨t, h1, h2⟩ := he; ⟨tAsg t (gName i), fun X hX => ps_set (i := i) (by rw [(c X hX).hN]; exact (c X hX).nd) (by rw [(c X hX).hN]; exact hi) (by rw [(c X hX).hsc]; exact .inr hx) (h1 X hX) (sw_cell (by rw [(c X hX).hsc]; exact hx)) (hf X hX), rs_asg h2 (rt_name hin)⟩
theorem vop_gin {x : Str} {tbl : List (Str × Option D)} {pa : Addr} (h3 : ∀ z r, tbl.lookup z = some r → match r with
    | none => PySem.W.nsIn K pa z = some none
    | some d => ∃ u v, PySem.W.nsIn K pa z = some (some u) ∧ RelV v u ∧ ∀ H, Rep K H v d []) : VOp K (rl1 fun y H Q => ∃ (z : Str) (r : Option Value), y = .str z ∧ V.ref pa = .ref pa ∧ PySem.W.nsIn K pa z = some r ∧ Q (.bl r.isSome) H) (oGIn tbl) := by
  intro H vs ds F Q k d rl e h
  unfold oGIn at e
  split at e
  · rename_i z
    obtain ⟨v, rfl, r1⟩ := rl.i1
    cases r1.strV
    cases e1 : tbl.lookup z with
    | none => rw [e1] at e; cases e
    | some r =>
      rw [e1] at e; cases e
      have q := h3 z r e1
      cases r with
      | none => exact ⟨z, none, rfl, rfl, q, h _ _ [] (Same.refl _) (.bl _) rfl⟩
      | some d0 =>
        obtain ⟨u, v, q1, _, _⟩ := q
        exact ⟨z, some u, rfl, rfl, q1, h _ _ [] (Same.refl _) (.bl _) rfl⟩
  · cases e
theorem bt_gin {fa : List S → Option (T × List S)} {x : Str} {tbl : List (Str × Option D)} {p : Pos} (c : Ctx P w K mg base N sc k C) (hg : sc.names.lookup x = some .globalImplicit) (g : GDict K w mg x tbl) (ha : BE C K n W Y a fa) (hd : (x == ("__debug__" : Str)) = false := by decide) :
    BT C K n W (Y || false) (.Compare a [.In] [.Name x p] pos) (bE (eOp (oGIn tbl) (aCons false fa fun env => some ([], env)))) := by
  obtain ⟨pa, es, n', h1, h2, h3⟩ := g.ex
  obtain ⟨ta, a1, a2⟩ := ha
  refine ⟨tTest (tOp (fun x y H Q => ∃ (z : Str) (r : Option Value), x = .str z ∧ y = .ref pa ∧ PySem.W.nsIn K pa z = some r ∧ Q (.bl r.isSome) H) ta (tC (.ref pa))), fun X hX => ?_,
    rb_e (re_op (r := rl1 fun y H Q => ∃ (z : Str) (r : Option Value), y = .str z ∧ V.ref pa = .ref pa ∧ PySem.W.nsIn K pa z = some r ∧ Q (.bl r.isSome) H) (ra_cons a2 ra_nil) (vop_gin (x := x) h3))⟩
  have h2' : KDict X.K X.w pa es n' := by rw [(c X hX).hK, (c X hX).hw]; exact h2
  have := op_in_kd h2'
  rw [(c X hX).hK] at this
  exact pt_cmpR this (a1 X hX) (pe_glob (show X.env.scope.names.lookup x = _ by rw [(c X hX).hsc]; exact hg) (by rw [(c X hX).hmg]; exact h1) rfl hd) rfl
/-! ### a def that calls itself: how deep, is counted -/
def fnRec (n : Nat) (fb : Fn → List S → Option Fl) : Nat → Fn
  | 0 => fun _ => none
  | d + 1 => fnOf n (fb (fnRec n fb d))
theorem gfnR {x y qual : Str} {st : Stmt} {f : Addr} {fd : FuncData} {N ps : List Str} {m n : Nat} {W : List Nat} {fb : Fn → List S → Option Fl} (F : Fun K x qual st f fd) (hmg : mg y = some (.ref f)) (hbi : Binds K fd ps []) (S' : FnScope N ps (defScope st)) (hm : ps.length = m) (hn : N.length = n) (hmn : m ≤ n) (hW : ∀ i ∈ W, i < n)
    (hb : ∀ (k : Nat) (r : Fn), GFn P w K mg base y k m r → BDef (bodyS P w K mg base N qual (defScope st) f k) K n W (defBody st) (fb r)) : ∀ d, GFn P w K mg base y d m (fnRec n fb d)
  | 0 => ⟨f, fd, ps, ⟨fun vs H Q E h => (by obtain ⟨_, _, _, _, _, _, _, e, _⟩ := h; cases e), fun A o s H ar us vs Q E _ _ _ _ h => (by obtain ⟨_, _, _, _, _, _, _, e, _⟩ := h; cases e)⟩, hmg, F.kp, hbi⟩
  | d + 1 => gfnD F hmg hbi S' hm hn hmn hW (hb d _ (gfnR F hmg hbi S' hm hn hmn hW hb d))
end
end RG

set_option maxRecDepth 100000
set_option maxHeartbeats 4000000
namespace RG
open PySem PySem.Spec PyProof.Rows L2

/-! ### what the module has written -/
def TblOk (K : PySem.W.Frag) (p : Addr) : List (Str × Option D) → Prop
  | [] => True
  | (z, r) :: l => (match r with
    | none => PySem.W.nsIn K p z = some none
    | some d => ∃ u v, PySem.W.nsIn K p z = some (some u) ∧ RelV v u ∧ ∀ H, Rep K H v d []) ∧ TblOk K p l
section
variable {K : PySem.W.Frag} {w : World} {mg : Str → Option Value} {p : Addr}
theorem TblOk.get : ∀ {tbl : List (Str × Option D)} {z : Str} {r : Option D}, TblOk K p tbl → tbl.lookup z = some r → match r with
    | none => PySem.W.nsIn K p z = some none
    | some d => ∃ u v, PySem.W.nsIn K p z = some (some u) ∧ RelV v u ∧ ∀ H, Rep K H v d []
  | [], _, _, _, e => by cases e
  | (y, q) :: l, z, r, h, e => by
    rw [List.lookup_cons] at e
    split at e
    · rename_i hz
      cases e
      have := eq_of_beq hz
      subst this
      exact h.1
    · exact TblOk.get h.2 e
theorem tbl_nil : TblOk K p [] := trivial
theorem tbl_none {z : Str} {l : List (Str × Option D)} (e : PySem.W.nsIn K p z = some none) (h : TblOk K p l) : TblOk K p ((z, none) :: l) := ⟨e, h⟩
theorem tbl_str {z x : Str} {t : Tok} {l : List (Str × Option D)} (e : PySem.W.nsIn K p z = some (some (.str x t))) (h : TblOk K p l) : TblOk K p ((z, some (.str x)) :: l) := ⟨⟨_, .str x, e, ⟨t, rfl⟩, fun H => .str x⟩, h⟩
def strsAre : List Value → List Str → Bool
  | [], [] => true
  | .str y _ :: us, x :: xs => y == x && strsAre us xs
  | _, _ => false
theorem strs_vals : ∀ {us : List Value} {xs : List Str}, strsAre us xs = true → Vals (xs.map V.str) us := by
  intro us
  induction us with
  | nil => intro xs h; cases xs with
    | nil => exact .nil
    | cons x xs => cases h
  | cons u us ih => intro xs h; cases xs with
    | nil => cases u <;> cases h
    | cons x xs =>
      cases u with
      | str y t =>
        simp only [strsAre, Bool.and_eq_true] at h
        have := eq_of_beq h.1
        subst this
        exact .cons ⟨t, rfl⟩ (ih h.2)
      | _ => cases h
theorem sqT_lit {q : Addr} {o : Obj} {us : List Value} {xs : List Str} {n : Nat} (l : K.lookup q = some o) (hc : o.cls = .type "tuple") (hd : o.dict = none) (ho : o.data = .seq us.toArray n) (hs : strsAre us xs = true) (hl : us.length ≤ 1000) (H : Hp) : SqT K H q (xs.map V.str) :=
  .inr ⟨o, us.toArray, n, l, hc, ho, by rw [List.size_toArray, sizeLine_eq]; omega, by simpa using strs_vals hs⟩
theorem tbl_tup {z : Str} {q : Addr} {us : List Value} {xs : List Str} {n : Nat} {sl : Array (Option Value)} {l : List (Str × Option D)} (e : PySem.W.nsIn K p z = some (some (.ref q))) (lq : K.lookup q = some ⟨.type "tuple", none, .seq us.toArray n, sl⟩) (hs : strsAre us xs = true) (h8 : xs.length = 8) (hl : us.length ≤ 1000) (h : TblOk K p l) :
    TblOk K p ((z, some (.tup (xs.map D.str))) :: l) :=
  ⟨⟨_, .ref q, e, rfl, fun H => .tup (sqT_lit lq rfl rfl rfl hs hl H) (.inl (by rw [List.length_map]; exact h8)) (by rw [List.length_map, h8, sizeLine_eq]; decide) (RepL.ofStrs _)⟩, h⟩
theorem gdict_mk {x : Str} {tbl : List (Str × Option D)} {es : Array DictEntry} {n : Nat} (hm : mg x = some (.ref p)) (l : K.lookup p = some ⟨.type "dict", none, .dict es n, #[]⟩) (k : PySem.W.KeysLit w.params es.toList) (lo : (p == sysModules) = false) (h : TblOk K p tbl) : GDict K w mg x tbl :=
  ⟨p, es, n, hm, ⟨l, k, lo⟩, fun z r e => h.get e⟩
theorem gtup_mk {x : Str} {q : Addr} {us : List Value} {xs : List Str} {n : Nat} {sl : Array (Option Value)} (hm : mg x = some (.ref q)) (lq : K.lookup q = some ⟨.type "tuple", none, .seq us.toArray n, sl⟩) (hs : strsAre us xs = true) (h8 : xs.length = 8) (hl : us.length ≤ 1000) : GTup K mg x xs :=
  ⟨q, _, hm, lq, rfl, rfl, sqT_lit lq rfl rfl rfl hs hl, h8⟩
theorem gval_int {x : Str} {i : Int} {t : Tok} (hm : mg x = some (.int i t)) : GVal K mg x (.int i) := ⟨_, .int i, hm, ⟨t, rfl⟩, fun H => .int i⟩
theorem gval_str {x y : Str} {t : Tok} (hm : mg x = some (.str y t)) : GVal K mg x (.str y) := ⟨_, .str y, hm, ⟨t, rfl⟩, fun H => .str y⟩

/-! ### the law at a script -/
theorem sp_law {fn : Fn} {H : Hp} {a : Addr} {ns : List Int} {E : XK} (h : ∃ L1, fn [.t .old (.scr ns)] = some (.bl true, L1)) (hl : ns.length ≤ 63) (hO : Only H) (hS : SqL K H a (ns.map V.int)) : spOf K 1 fn [.ref a] H (fun v _ => v = .bl true) E := by
  obtain ⟨L1, e⟩ := h
  have hS' : Scr K H a (ns.map V.int) := by
    rcases hS with (q | q) | q
    · rcases hO a with z | ⟨o, xs, z⟩
      · rw [z] at q; cases q
      · rw [z] at q; cases q
    · exact .inl q
    · exact .inr q
  refine ⟨[.t .old (.scr ns)], fun _ => [], _, L1, rfl, fun i s e => ?_, ?_, e, fun v H' FS' S => ?_⟩
  · cases i with
    | zero => cases e; exact .inr ⟨_, rfl⟩
    | succ i => cases e
  · have one : ∀ {i : Nat} {s : S}, ([S.t .old (.scr ns)] : List S)[i]? = some s → i = 0 ∧ s = S.t .old (.scr ns) := fun {i s} e => by
      cases i with
      | zero => cases e; exact ⟨rfl, rfl⟩
      | succ i => cases e
    refine ⟨rfl, fun i s d e1 e2 => ?_, fun i s e1 e2 => List.nodup_nil, fun i k d e1 e2 a m => (nomatch m), fun i d e a m => (nomatch m), fun i d e a m => (nomatch m), fun i j s s' hij e1 e2 w1 w2 w3 a m => (nomatch m), fun a o q _ => q, fun a q => q, fun i s e1 e2 => ?_, fun i d e1 => ?_, fun i z => (nomatch z)⟩
    · obtain ⟨rfl, rfl⟩ := one e1
      cases e2
      exact ⟨_, rfl, .scr hS' (by rw [sizeLine_eq]; omega)⟩
    · obtain ⟨rfl, rfl⟩ := one e1
      cases e2
    · obtain ⟨_, z⟩ := one e1
      cases z
  · have len := S.len
    rw [List.length_append, List.length_append, List.length_map] at len
    have hl1 : L1.length = 1 := by simpa using len
    obtain ⟨u, e1, r⟩ := S.rep 1 (.t .own (.bl true)) (.bl true) (by rw [List.getElem?_append_right (by omega), hl1]; rfl) rfl
    have e1 : some (some v) = some (some u) := e1
    cases e1
    exact r.blV
end
end RG

set_option maxRecDepth 100000
set_option maxHeartbeats 4000000
namespace RG
open PySem PySem.Spec PyProof.Rows L2

/-! ### slices -/
/-- a slice's part -/
def ROE (K : PySem.W.Frag) (n : Nat) (W : List Nat) (Y : Bool) (t : TO) (f : List S → Option (Option Int × List S)) : Prop :=
  ∀ (g : G) (FS : Nat → List Addr) (env τ : List S) (σ : L2.St) (tv : List (Option V)) (H : Hp) (Q : Option Int → Hp → Prop) (o : Option Int) (env' : List S), g.K = K → g.n = n → g.W = W → env.length = n → σ.length = n → Sim g FS (env ++ τ) (σ ++ tv) H → (Y = true → NoBor τ) → f env = some (o, env') →
    (∀ H' FS', env'.length = n → Sim g FS' (env' ++ τ) (σ ++ tv) H' → Q o H') → t σ H Q
def VSl (K : PySem.W.Frag) (r : V → Option Int → Option Int → Hp → VK → Prop) (o : D → Option Int → Option Int → Option (Rk × D)) : Prop :=
  ∀ (H : Hp) (v : V) (d : D) (F : List Addr) (lo hi : Option Int) (Q : VK) (k : Rk) (d' : D), Rep K H v d F → o d lo hi = some (k, d') → (∀ v' H' F', Same H H' → Rep K H' v' d' F' → k.Ok H F F' → Q v' H') → r v lo hi H Q
def cutD {α : Type} (xs : List α) (lo hi : Option Int) : List α := (xs.drop (HT.sIx xs.length 0 lo)).take (HT.sIx xs.length xs.length hi - HT.sIx xs.length 0 lo)
def oSl : D → Option Int → Option Int → Option (Rk × D) := fun d lo hi => match d with
  | .lst xs => some (if D.flats (cutD xs lo hi) then .fresh else .mix, .lst (cutD xs lo hi))
  | .tup xs => if HT.sIx xs.length 0 lo = 0 ∧ HT.sIx xs.length xs.length hi = xs.length then some (if D.flats xs then .imm else .sub, .tup xs) else some (if D.flats (cutD xs lo hi) then .imm else .sub, .tup (cutD xs lo hi))
  | .str z => if z.length ≤ 16777216 then some (.imm, .str (cutS z lo hi)) else none
  | _ => none
def noP : List S → Option (Option Int × List S) := fun env => some (none, env)
def isP (f : List S → Option (T × List S)) : List S → Option (Option Int × List S) := fun env => match f env with
  | some ((_, .int i), env') => some (some i, env')
  | _ => none
def eSl (fe : List S → Option (T × List S)) (fl fh : List S → Option (Option Int × List S)) : List S → Option (T × List S) := fun env => match fe env with
  | none => none
  | some (r, env1) => match fl env1 with
    | none => none
    | some (lo, env2) => match fh env2 with
      | none => none
      | some (hi, env3) => (oSl r.2 lo hi).map fun kd => ((kd.1.kind r.1, kd.2), env3)
section
variable {K : PySem.W.Frag} {n : Nat} {W : List Nat} {Y Y' Y2 : Bool}
theorem roe_none : ROE K n W false tNoPart noP := by
  intro g FS env τ σ tv H Q o env' hK hn hW he hs Sm yb e h
  cases e
  exact h H FS he Sm
theorem roe_some {te : TE} {f : List S → Option (T × List S)} (ht : RE K n W Y te f) : ROE K n W Y (tPart te) (isP f) := by
  intro g FS env τ σ tv H Q o env' hK hn hW he hs Sm yb e h
  unfold isP at e
  split at e
  · rename_i k i env1 e1
    cases e
    refine ht g FS env τ σ tv H _ _ _ hK hn hW he hs Sm yb e1 fun v H' FS' l S1 => ?_
    obtain ⟨v', ev, rv, _⟩ := Sim.top S1 (by rw [List.length_append, l, hn]; exact Nat.le_add_right _ _)
    cases ev
    exact ⟨i, rv.intV, h H' FS' l (Sim.pop S1)⟩
  · cases e
theorem cut_repL {H : Hp} {vs : List V} {ds : List D} {F : List Addr} (r : RepL K H vs ds F) (lo hi : Option Int) : ∃ F1, F1.Sublist F ∧ RepL K H (cutV vs lo hi) (cutD ds lo hi) F1 := by
  unfold cutV cutD
  rw [r.length]
  obtain ⟨F1, s1, r1⟩ := r.drop (HT.sIx ds.length 0 lo)
  obtain ⟨F2, s2, r2⟩ := r1.take (HT.sIx ds.length ds.length hi - HT.sIx ds.length 0 lo)
  exact ⟨F2, s2.trans s1, r2⟩
theorem vsl : VSl K (fun x lo hi H Q => (rSlL K x lo hi H Q ∨ rSlA K x lo hi H Q) ∨ rSlS x lo hi H Q) oSl := by
  intro H v d F lo hi Q k d' rv e h
  unfold oSl at e
  split at e
  · rename_i xs
    obtain ⟨a, vs, F', rfl, rfl, ha, rl, hz⟩ := rv.lstV
    cases e
    obtain ⟨F1, s1, r1⟩ := cut_repL rl lo hi
    exact .inl (.inl ⟨a, vs, rfl, SqL.of ha, new_lst r1 (Nat.le_trans (cutV_length vs lo hi) hz) id (fun a m => List.mem_cons_of_mem _ (s1.subset m)) (fun q => (List.nodup_cons.mp q).2.sublist s1) h⟩)
  · rename_i xs
    obtain ⟨a, vs, rfl, ha, rl, hz⟩ := rv.tupV
    have hl := rl.length
    split at e
    · rename_i hw
      cases e
      refine .inl (.inr ⟨a, vs, rfl, ha, fun _ => h _ _ F (Same.refl _) rv ?_, fun hn => absurd (by rw [hl]; exact hw) hn⟩)
      by_cases hf : D.flats xs = true
      · rw [if_pos hf]; exact rl.flats hf
      · rw [if_neg hf]; exact ⟨fun _ m => m, id⟩
    · rename_i hw
      cases e
      obtain ⟨F1, s1, r1⟩ := cut_repL rl lo hi
      refine .inl (.inr ⟨a, vs, rfl, ha, fun q => absurd (by rw [hl] at q; exact q) hw, fun _ p hp => h _ _ F1 (same_upd hp) (.tup (SqT.of (upd_same ..)) (.inr (upd_same ..)) (Nat.le_trans (cutV_length vs lo hi) hz) (r1.same (same_upd hp))) ?_⟩)
      by_cases hf : D.flats (cutD xs lo hi) = true
      · rw [if_pos hf]; exact r1.flats hf
      · rw [if_neg hf]; exact ⟨fun _ m => s1.subset m, fun q => q.sublist s1⟩
  · rename_i z
    split at e
    · rename_i hz
      cases e
      cases rv.strV
      exact .inr ⟨z, rfl, by rw [sizeLine_eq]; exact hz, h _ _ [] (Same.refl _) (.str _) rfl⟩
    · cases e
  · cases e
theorem re_sl {te : TE} {tl th : TO} {r : V → Option Int → Option Int → Hp → VK → Prop} {fe : List S → Option (T × List S)} {fl fh : List S → Option (Option Int × List S)} (he' : RE K n W Y te fe) (hl : ROE K n W Y' tl fl) (hh : ROE K n W Y2 th fh) (hr : VSl K r oSl) :
    RE K n W (Y || Y' || Y2) (tSl r te tl th) (fun env => match fe env with
      | some (r, _) => if (Y' || Y2) && r.s.isBor then none else eSl fe fl fh env
      | none => none) := by
  intro g FS env τ σ tv H Q rr env' hK hn hW he hs Sm yb e h
  cases e1 : fe env with
  | none => simp only [e1] at e; cases e
  | some q =>
    obtain ⟨r1, env1⟩ := q
    simp only [e1] at e
    split at e
    · cases e
    · rename_i hb
      unfold eSl at e
      simp only [e1] at e
      cases e2 : fl env1 with
      | none => rw [e2] at e; cases e
      | some q =>
        obtain ⟨lo, env2⟩ := q
        simp only [e2] at e
        cases e3 : fh env2 with
        | none => rw [e3] at e; cases e
        | some q =>
          obtain ⟨hi, env3⟩ := q
          simp only [e3] at e
          cases e4 : oSl r1.2 lo hi with
          | none => rw [e4] at e; cases e
          | some kd =>
            simp only [e4, Option.map_some, Option.some.injEq, Prod.mk.injEq] at e
            obtain ⟨rfl, rfl⟩ := e
            have nb : (Y' || Y2) = true → NoBor τ → NoBor (τ ++ [r1.s]) := fun q t => t.snoc (by
              cases hs : r1.s.isBor with
              | false => rfl
              | true => rw [q, hs] at hb; exact absurd rfl hb)
            refine he' g FS env τ σ tv H _ r1 env1 hK hn hW he hs Sm (fun q => yb (by simp [q])) e1 fun v H1 FS1 l1 S1 => ?_
            rw [List.append_assoc, List.append_assoc] at S1
            refine hl g FS1 env1 _ σ _ H1 _ lo env2 hK hn hW l1 hs S1 (fun q => nb (by simp [q]) (yb (by simp [q]))) e2 fun H2 FS2 l2 S2 => ?_
            refine hh g FS2 env2 _ σ _ H2 _ hi env3 hK hn hW l2 hs S2 (fun q => nb (by simp [q]) (yb (by simp [q]))) e3 fun H3 FS3 l3 S3 => ?_
            rw [← List.append_assoc, ← List.append_assoc] at S3
            have hnl : g.n ≤ (env3 ++ τ).length := by rw [List.length_append, l3, hn]; exact Nat.le_add_right _ _
            obtain ⟨v', ev, rv, tk⟩ := Sim.top S3 hnl
            cases ev
            have S4 := Sim.pop S3
            subst hK
            refine hr H3 v r1.2 _ lo hi Q kd.1 kd.2 rv e4 fun v' H' F' sm rv' ok => ?_
            exact h v' H' _ l3 ((S4.same sm).push rv' (TOk.rk S4 tk ok) fun _ => hnl)
end
section
variable {P : Program} {w : World} {K : PySem.W.Frag} {mg : Str → Option Value} {base : Heap} {N : List Str} {sc : Scope} {k n : Nat} {C : XS} {W A B : List Nat} {Y Y' Y2 Z Z' : Bool}
variable {pos : Pos} {a b e : Expr} {es : List Expr}
def BO (C : XS) (K : PySem.W.Frag) (n : Nat) (W : List Nat) (Y : Bool) (e : Option Expr) (f : List S → Option (Option Int × List S)) : Prop := ∃ t, (∀ X, C X → PO X e t) ∧ ROE K n W Y t f
theorem bo_none : BO C K n W false none noP := ⟨_, fun _ _ => po_none, roe_none⟩
theorem bo_some {f : List S → Option (T × List S)} (h : BE C K n W Y e f) : BO C K n W Y (some e) (isP f) := let ⟨t, h1, h2⟩ := h; ⟨_, fun X hX => po_some (h1 X hX), roe_some h2⟩
def eSlB (yb : Bool) (fe : List S → Option (T × List S)) (fl fh : List S → Option (Option Int × List S)) : List S → Option (T × List S) := fun env => match fe env with
  | some (r, _) => if yb && r.s.isBor then none else eSl fe fl fh env
  | none => none
theorem be_sl {lo hi : Option Expr} {p2 : Pos} {fe : List S → Option (T × List S)} {fl fh : List S → Option (Option Int × List S)} (c : Ctx P w K mg base N sc k C) (he : BE C K n W Y e fe) (hl : BO C K n W Y' lo fl) (hh : BO C K n W Y2 hi fh) :
    BE C K n W (Y || Y' || Y2) (.Subscript e (.Slice lo hi none p2) pos) (eSlB (Y' || Y2) fe fl fh) := by
  obtain ⟨te, e1, e2⟩ := he
  obtain ⟨tl, l1, l2⟩ := hl
  obtain ⟨th, h1, h2⟩ := hh
  refine ⟨_, fun X hX => ?_, re_sl e2 l2 h2 vsl⟩
  have := pe_slice (X := X) (p2 := p2) (pos := pos) (((sl_list (X := X)).or sl_tupA).or sl_str) (e1 X hX) (l1 X hX) (h1 X hX)
  rwa [(c X hX).hK] at this

/-! ### a op b op' c -/
def pChain (o1 o2 : List D → Option (Rk × D)) (fa fb fc : List S → Option (Pk × D)) : List S → Option (Pk × D) := fun env => match fa env with
  | none => none
  | some x => match fb env with
    | none => none
    | some y => match o1 [x.2, y.2] with
      | some (_, .bl true) => (match fc env with
        | none => none
        | some z => match o2 [y.2, z.2] with
          | some (_, .bl v) => some (some .own, .bl v)
          | _ => none)
      | some (_, .bl false) => some (some .own, .bl false)
      | _ => none
theorem rp_chain {ta tb tc : TE} {r r' : R2} {o1 o2 : List D → Option (Rk × D)} {fa fb fc : List S → Option (Pk × D)} (ha : RP K n W ta fa) (hb : RP K n W tb fb) (hc : RP K n W tc fc) (h1 : VOp K (rl2 r) o1) (h2 : VOp K (rl2 r') o2) : RP K n W (tChain r r' ta tb tc) (pChain o1 o2 fa fb fc) := by
  intro g FS env τ σ tv H Q rr hK hn hW he hs Sm e h
  unfold pChain at e
  cases e1 : fa env with
  | none => rw [e1] at e; cases e
  | some x =>
    simp only [e1] at e
    cases e2 : fb env with
    | none => rw [e2] at e; cases e
    | some y =>
      simp only [e2] at e
      refine ha g FS env τ σ tv H _ x hK hn hW he hs Sm e1 fun v H1 F1 s1 rv _ => ?_
      refine hb g FS env τ σ tv H1 _ y hK hn hW he hs (Sm.same s1) e2 fun u H2 F2 s2 ru _ => ?_
      split at e
      · rename_i k eo
        refine h1 H2 [v, u] [x.2, y.2] _ _ _ _ (RepL.cons (rv.same s2) (RepL.one ru)) eo fun z H3 F3 s3 rz _ => ?_
        refine ⟨true, rz.blV, ?_⟩
        rw [if_pos rfl]
        cases e3 : fc env with
        | none => rw [e3] at e; cases e
        | some zz =>
          simp only [e3] at e
          split at e
          · rename_i k2 b eo2
            cases e
            refine hc g FS env τ σ tv H3 _ zz hK hn hW he hs (((Sm.same s1).same s2).same s3) e3 fun w' H4 F4 s4 rw' _ => ?_
            refine h2 H4 [u, w'] [y.2, zz.2] _ _ _ _ (RepL.cons ((ru.same s3).same s4) (RepL.one rw')) eo2 fun q H5 F5 s5 rq _ => ?_
            have := rq.blV
            subst this
            exact h _ H5 [] (((s1.trans s2).trans s3).trans (s4.trans s5)) (.bl b) POk.nil
          · cases e
      · rename_i k eo
        cases e
        refine h1 H2 [v, u] [x.2, y.2] _ _ _ _ (RepL.cons (rv.same s2) (RepL.one ru)) eo fun z H3 F3 s3 rz _ => ?_
        refine ⟨false, rz.blV, ?_⟩
        rw [if_neg (by decide)]
        exact h _ H3 [] ((s1.trans s2).trans s3) (.bl false) POk.nil
      · cases e
theorem bp_chain {op op' : CmpOp} {r r' : R2} {o1 o2 : List D → Option (Rk × D)} {fa fb fc : List S → Option (Pk × D)} {cc : Expr} (hop : OpA C (compareOp op) r) (h1 : VOp K (rl2 r) o1) (hop' : OpA C (compareOp op') r') (h2 : VOp K (rl2 r') o2) (ha : BP C K n W a fa) (hb : BP C K n W b fb) (hc : BP C K n W cc fc)
    (hm : lastMarks [op, op'] [b, cc] = false := by with_unfolding_all rfl) : BP C K n W (.Compare a [op, op'] [b, cc] pos) (pChain o1 o2 fa fb fc) := by
  obtain ⟨ta, a1, a2⟩ := ha
  obtain ⟨tb, b1, b2⟩ := hb
  obtain ⟨tc, c1, c2⟩ := hc
  exact ⟨tChain r r' ta tb tc, fun X hX => pe_chain (hop X hX) (hop' X hX) (a1 X hX) (b1 X hX) (c1 X hX) hm, rp_chain a2 b2 c2 h1 h2⟩
theorem btp_chain {op op' : CmpOp} {r r' : R2} {o1 o2 : List D → Option (Rk × D)} {fa fb fc : List S → Option (Pk × D)} {cc : Expr} (hop : OpA C (compareOp op) r) (h1 : VOp K (rl2 r) o1) (hop' : OpA C (compareOp op') r') (h2 : VOp K (rl2 r') o2) (ha : BP C K n W a fa) (hb : BP C K n W b fb) (hc : BP C K n W cc fc)
    (hm : lastMarks [op, op'] [b, cc] = false := by with_unfolding_all rfl) : BT C K n W false (.Compare a [op, op'] [b, cc] pos) (bE (lift (pChain o1 o2 fa fb fc))) := by
  obtain ⟨ta, a1, a2⟩ := ha
  obtain ⟨tb, b1, b2⟩ := hb
  obtain ⟨tc, c1, c2⟩ := hc
  exact ⟨tTest (tChain r r' ta tb tc), fun X hX => pt_chain (hop X hX) (hop' X hX) (a1 X hX) (b1 X hX) (c1 X hX) hm, rb_e (re_lift (rp_chain a2 b2 c2 h1 h2))⟩

/-! ### sorted, of texts -/
theorem asStr_some {ds : List D} {zs : List Str} (e : strsOf ds = some zs) : ds = zs.map D.str := asStr_map e
/-- the sorted texts: insertion -/
def insS (x : Str) : List Str → List Str
  | [] => [x]
  | y :: ys => if decide (y.cps.toList < x.cps.toList) then y :: insS x ys else x :: y :: ys
def sortS (xs : List Str) : List Str := xs.foldr insS []

abbrev leS (a b : Str) : Prop := a.cps.toList ≤ b.cps.toList
theorem leS_of {a b : Str} (h : ltCps b.cps.toList a.cps.toList = false) : leS a b := by
  rw [ltCps_eq] at h
  exact List.not_lt.mp (of_decide_eq_false h)
theorem leS_anti {a b : Str} (h : leS a b) (h' : leS b a) : a = b := by
  have := List.le_antisymm h h'
  obtain ⟨⟨x⟩⟩ := a
  obtain ⟨⟨y⟩⟩ := b
  simp at this
  rw [this]
theorem rising_pw : ∀ {ys : List Str} {p : Str}, risingS p ys = true → (p :: ys).Pairwise leS
  | [], p, _ => List.pairwise_cons.mpr ⟨fun a m => (nomatch m), .nil⟩
  | y :: ys, p, h => by
    simp only [risingS, Bool.and_eq_true, Bool.not_eq_true'] at h
    have ih := rising_pw h.2
    have hp := leS_of h.1
    refine List.pairwise_cons.mpr ⟨fun a m => ?_, ih⟩
    rcases List.mem_cons.mp m with rfl | m
    · exact hp
    · exact List.le_trans hp ((List.pairwise_cons.mp ih).1 a m)
theorem sorted_pw {ys : List Str} (h : sortedS ys = true) : ys.Pairwise leS := by
  cases ys with
  | nil => exact .nil
  | cons y ys => exact rising_pw h
theorem insS_perm (x : Str) : ∀ ys : List Str, (insS x ys).Perm (x :: ys)
  | [] => List.Perm.refl _
  | y :: ys => by
    unfold insS
    split
    · exact ((insS_perm x ys).cons y).trans (List.Perm.swap x y ys)
    · exact List.Perm.refl _
theorem sortS_perm : ∀ xs : List Str, (sortS xs).Perm xs
  | [] => List.Perm.refl _
  | x :: xs => (insS_perm x _).trans ((sortS_perm xs).cons x)
theorem insS_pw {x : Str} : ∀ {ys : List Str}, ys.Pairwise leS → (insS x ys).Pairwise leS
  | [], _ => List.pairwise_cons.mpr ⟨fun a m => (nomatch m), .nil⟩
  | y :: ys, h => by
    unfold insS
    split
    · rename_i hy
      have hy : y.cps.toList < x.cps.toList := of_decide_eq_true hy
      refine List.pairwise_cons.mpr ⟨fun a m => ?_, insS_pw (List.pairwise_cons.mp h).2⟩
      rcases List.mem_cons.mp ((insS_perm x ys).mem_iff.mp m) with rfl | m
      · exact List.le_of_lt hy
      · exact (List.pairwise_cons.mp h).1 a m
    · rename_i hy
      have hy : leS x y := List.not_lt.mp (fun q => hy (decide_eq_true q))
      refine List.pairwise_cons.mpr ⟨fun a m => ?_, h⟩
      rcases List.mem_cons.mp m with rfl | m
      · exact hy
      · exact List.le_trans hy ((List.pairwise_cons.mp h).1 a m)
theorem sortS_pw : ∀ xs : List Str, (sortS xs).Pairwise leS
  | [] => .nil
  | x :: xs => insS_pw (sortS_pw xs)
theorem sort_uniq {xs ys : List Str} (p : ys.Perm xs) (h : sortedS ys = true) : ys = sortS xs :=
  List.Perm.eq_of_pairwise (le := leS) (fun a b _ _ h1 h2 => leS_anti h1 h2) (sorted_pw h) (sortS_pw xs) (p.trans (sortS_perm xs).symm)
def keyS : List (Key × D) → Option (List Str)
  | [] => some []
  | (.inr x, _) :: r => (keyS r).map (x :: ·)
  | _ :: _ => none
theorem keyS_map : ∀ {l : List (Key × D)} {ks : List Str}, keyS l = some ks → l.map (·.1) = ks.map Sum.inr
  | [], ks, e => by cases e; rfl
  | (.inr x, _) :: r, ks, e => by
    simp only [keyS, Option.map_eq_some_iff] at e
    obtain ⟨ks', e, rfl⟩ := e
    simp [keyS_map e]
  | (.inl i, _) :: r, ks, e => by cases e
def oSorted : List D → Option (Rk × D) := fun ds => match ds with
  | [.lst xs] => (strsOf xs).bind fun zs => if zs.length < 64 then some (.fresh, .lst ((sortS zs).map D.str)) else none
  | [.dK kvs] => (keyS kvs).bind fun zs => if zs.length < 64 then some (.fresh, .lst ((sortS zs).map D.str)) else none
  | _ => none
def rSortD : List V → Hp → VK → Prop := fun xs H Q => ∃ (a : Addr) (kvs : List (Key × V)) (ks : List Str), xs = [.ref a] ∧ Rd H a (.dK kvs) ∧ kvs.map (·.1) = ks.map Sum.inr ∧ ks.length < 64 ∧
    ∀ ys p, ys.Perm ks → sortedS ys = true → H p = none → Q (.ref p) (upd H p (.lst (ys.map V.str)))
theorem sorted_lst {H : Hp} {zs : List Str} {Q : VK} {F : List Addr} (h64 : zs.length < 64) (h : ∀ v H' F', Same H H' → Rep K H' v (.lst ((sortS zs).map D.str)) F' → Rk.fresh.Ok H F F' → Q v H') :
    ∀ (ys : List Str) (p : Addr), ys.Perm zs → sortedS ys = true → H p = none → Q (.ref p) (upd H p (.lst (ys.map V.str))) := by
  intro ys p hp hs hn
  have e := sort_uniq hp hs
  subst e
  refine h _ _ [p] (same_upd hn) (.lst (upd_same ..) (by rw [List.length_map, hp.length_eq, sizeLine_eq]; omega) (RepL.ofStrs _)) ⟨by simp, fun a m => by rw [List.mem_singleton.mp m]; exact hn⟩
theorem vop_sorted : VOp K (fun vs H Q => rSortedS K vs H Q ∨ rSortD vs H Q) oSorted := by
  intro H vs ds F Q k d rl e h
  unfold oSorted at e
  split at e
  · rename_i xs
    cases e1 : strsOf xs with
    | none => rw [e1] at e; cases e
    | some zs =>
      simp only [e1, Option.bind_some] at e
      split at e
      · rename_i h64
        cases e
        obtain ⟨v, rfl, r1⟩ := rl.i1
        obtain ⟨a, us, Fa, rfl, rfl, ha, la, za⟩ := r1.lstV
        have ey := asStr_map e1
        subst ey
        obtain ⟨rfl, _⟩ := la.strs
        exact .inl ⟨a, zs, rfl, SqL.of ha, h64, sorted_lst h64 h⟩
      · cases e
  · rename_i kvs
    cases e1 : keyS kvs with
    | none => rw [e1] at e; cases e
    | some zs =>
      simp only [e1, Option.bind_some] at e
      split at e
      · rename_i h64
        cases e
        obtain ⟨v, rfl, r1⟩ := rl.i1
        cases r1 with
        | dK hH hz hk hr => exact .inr ⟨_, _, zs, rfl, .inl hH, hk.trans (keyS_map e1), h64, sorted_lst h64 h⟩
      · cases e
  · cases e
theorem clr_sorted (c : Ctx P w K mg base N sc k C) : ∀ X, C X → CallR X (.builtin "sorted") (fun vs H Q => rSortedS K vs H Q ∨ rSortD vs H Q) := fun X hX => by
  have := (cr_sortedS (X := X)).or (call_sortedD (X := X) (c X hX).calm)
  rw [(c X hX).hK] at this
  exact this
end
end RG

set_option maxRecDepth 100000
set_option maxHeartbeats 4000000
namespace RG
open PySem PySem.Spec PyProof.Rows L2

section
variable {P : Program} {w : World} {K : PySem.W.Frag} {mg : Str → Option Value} {base : Heap} {N : List Str} {sc : Scope} {k n : Nat} {C : XS} {W A B : List Nat} {Y Y' Y2 Z Z' : Bool}
variable {pos : Pos} {a b e : Expr} {es : List Expr}
/-! ### -i -/
def oNeg : List D → Option (Rk × D) := fun ds => match ds with
  | [.int i] => some (.imm, .int (-i))
  | _ => none
theorem vop_neg : VOp K (rl1 (rU fun i => .int (-i))) oNeg := by
  intro H vs ds F Q k d rl e h
  unfold oNeg at e
  split at e
  · cases e
    obtain ⟨v, rfl, r1⟩ := rl.i1
    cases r1.intV
    exact ⟨_, rfl, h _ _ [] (Same.refl _) (.int _) rfl⟩
  · cases e
theorem bp_neg {f : List S → Option (Pk × D)} (h : BP C K n W a f) : BP C K n W (.UnaryOp .USub a pos) (pOp oNeg (pCons f fun _ => some [])) := by
  obtain ⟨t, h1, h2⟩ := h
  exact ⟨tUn (rU fun i => .int (-i)) t, fun X hX => pe_un un_neg (h1 X hX), rp_op (r := rl1 (rU fun i => .int (-i))) (rpa_cons h2 rpa_nil) vop_neg⟩
/-! ### a text is walked -/
def signs (x : Str) : List T := x.cps.toList.map fun c => (.own, .str ⟨#[c]⟩)
theorem src_str {x : Str} {y : Option V} (hm : x.length ≤ 16777216) : SrcOk K (Its x) .gone y (signs x) := by
  refine ⟨fun g FS L VS H p hK Sm e1 e2 i r er => ?_, fun g FS L VS H p hK Sm e1 e2 => ?_, fun g FS L VS H p hK Sm e1 e2 => ?_⟩
  · unfold signs at er
    rw [List.getElem?_map] at er
    cases ec : x.cps.toList[i]? with
    | none => rw [ec] at er; cases er
    | some c =>
      rw [ec] at er
      cases er
      have ec' : x.cps[i]? = some c := by rw [← Array.getElem?_toList]; exact ec
      refine ⟨(Array.getElem?_eq_some_iff.mp ec').1, fun u H' hy => ?_⟩
      obtain ⟨rfl, c', e', rfl⟩ := hy
      rw [ec'] at e'
      cases e'
      exact ⟨Same.refl _, [], .str _, TOk.nil _⟩
  · show x.cps.size ≤ (signs x).length
    unfold signs
    simp
  · unfold signs
    rw [List.length_map, Array.length_toList, sizeLine_eq]
    exact hm
def iSigns (fa : List S → Option (T × List S)) : List S → Option (S × List T × List S) := fun env => match fa env with
  | some ((_, .str x), env') => if x.length ≤ 16777216 then some (.gone, signs x, env') else none
  | _ => none
theorem ri_str {te : TE} {fe : List S → Option (T × List S)} (ht : RE K n W Y te fe) : RI K n W Y (iStr te) (iSigns fe) := by
  intro g FS env τ σ tv H R s items env' hK hn hW he hs Sm yb e h
  unfold iSigns at e
  split at e
  · rename_i k j env1 e1
    split at e
    · rename_i hj
      simp only [Option.some.injEq, Prod.mk.injEq] at e
      obtain ⟨rfl, rfl, rfl⟩ := e
      refine ht g FS env τ σ tv H _ (k, .str j) env1 hK hn hW he hs Sm yb e1 fun v H' FS' l S' => ?_
      obtain ⟨v', ev, rv, _⟩ := Sim.top (k := k) (d := .str j) S' (by rw [List.length_append, l, hn]; exact Nat.le_add_right _ _)
      cases ev
      cases rv.strV
      exact ⟨j, rfl, h _ H' _ none l (S'.pop.ghost none) (src_str hj) rfl⟩
    · cases e
  · cases e
theorem bi_str {tg : Expr} {fe : List S → Option (T × List S)} (he : BE C K n W Y e fe) : BI C K n W Y tg e (iSigns fe) := by
  obtain ⟨t, h1, h2⟩ := he
  exact ⟨iStr t, fun X hX => pi_str (h1 X hX), ri_str h2⟩
end
end RG

set_option maxRecDepth 100000
set_option maxHeartbeats 4000000
namespace RG
open PySem PySem.Spec PyProof.Rows L2

/-! ### typed values as deep values -/
section
variable {α β γ σ ρ : Type}
def eL (e : α → D) (xs : List α) : D := .lst (xs.map e)
def eT (e : α → D) (xs : List α) : D := .tup (xs.map e)
def eP2 (e1 : α → D) (e2 : β → D) (p : α × β) : D := .tup [e1 p.1, e2 p.2]
def eP3 (e1 : α → D) (e2 : β → D) (e3 : γ → D) (p : α × β × γ) : D := .tup [e1 p.1, e2 p.2.1, e3 p.2.2]
def eO (e : α → D) : Option α → D
  | none => .non
  | some a => e a
def eU (_ : Unit) : D := .non
def kvK (e : α → D) (kv : Str × α) : Key × D := (.inr kv.1, e kv.2)
def kvT (e : α → D) (kv : (Str × Str) × α) : List Key × D := ([.inr kv.1.1, .inr kv.1.2], e kv.2)
def eDK (e : α → D) (kvs : List (Str × α)) : D := .dK (kvs.map (kvK e))
def eDT (e : α → D) (kvs : List ((Str × Str) × α)) : D := .dT (kvs.map (kvT e))
structure Die where
  ns : List Int
  i : Int
  m : Int
  h : Int
def eDie (d : Die) : D := .lst [.scr d.ns, .int d.i, .int d.m, .int d.h]

class FlatE (e : α → D) : Prop where
  out : ∀ x, (e x).flat = true
class NFlat (e : α → D) : Prop where
  out : ∀ x, (e x).flat = false
instance : FlatE D.int := ⟨fun _ => rfl⟩
instance : FlatE D.str := ⟨fun _ => rfl⟩
instance : FlatE D.bl := ⟨fun _ => rfl⟩
instance : FlatE D.scr := ⟨fun _ => rfl⟩
instance : FlatE eU := ⟨fun _ => rfl⟩
theorem flats_map (e : α → D) [FlatE e] : ∀ xs : List α, D.flats (xs.map e) = true
  | [] => rfl
  | x :: xs => by rw [List.map_cons]; unfold D.flats; rw [FlatE.out, flats_map e xs]; rfl
instance (e : α → D) [FlatE e] : FlatE (eT e) := ⟨fun xs => flats_map e xs⟩
instance (e1 : α → D) (e2 : β → D) [FlatE e1] [FlatE e2] : FlatE (eP2 e1 e2) := ⟨fun p => by show (D.flats _) = true; simp [D.flats, FlatE.out]⟩
instance (e1 : α → D) (e2 : β → D) (e3 : γ → D) [FlatE e1] [FlatE e2] [FlatE e3] : FlatE (eP3 e1 e2 e3) := ⟨fun p => by show (D.flats _) = true; simp [D.flats, FlatE.out]⟩
instance (e : α → D) [h : FlatE e] : FlatE (eO e) := ⟨fun x => match x with
  | none => rfl
  | some a => h.out a⟩
instance (e : α → D) : NFlat (eL e) := ⟨fun _ => rfl⟩
instance (e : α → D) : NFlat (eDK e) := ⟨fun _ => rfl⟩
instance (e : α → D) : NFlat (eDT e) := ⟨fun _ => rfl⟩
instance : NFlat eDie := ⟨fun _ => rfl⟩
instance (priority := low) nf21 (e1 : α → D) (e2 : β → D) [NFlat e1] : NFlat (eP2 e1 e2) := ⟨fun p => by show (D.flats _) = false; simp [D.flats, NFlat.out]⟩
instance (priority := low) nf22 (e1 : α → D) (e2 : β → D) [NFlat e2] : NFlat (eP2 e1 e2) := ⟨fun p => by show (D.flats _) = false; simp [D.flats, NFlat.out]⟩

/-! ### readings at a state -/
variable {env env1 env2 env3 : List S} {W : List Nat} {i m : Nat} {d d' : D} {k : Tk} {pk : Pk} {b c : Bool}
def Tk.isB : Tk → Bool
  | .bor => true
  | _ => false
theorem tp_c : pC d env = some (some .own, d) := rfl
theorem tv_own (h : env[i]? = some (.t .own d)) (hw : W.contains i = false) : pVar W i env = some (some .bor, d) := by unfold pVar; rw [h]; simp only [hw]; rfl
theorem tv_ownW (h : env[i]? = some (.t .own d)) (hw : W.contains i = true) : pVar W i env = some (none, d) := by unfold pVar; rw [h]; simp only [hw]; rfl
theorem tv_io (h : env[i]? = some (.io d)) (hw : W.contains i = false) : pVar W i env = some (some .bor, d) := by unfold pVar; rw [h]; simp only [hw]; rfl
theorem tv_ioW (h : env[i]? = some (.io d)) (hw : W.contains i = true) : pVar W i env = some (none, d) := by unfold pVar; rw [h]; simp only [hw]; rfl
theorem tv_val (h : env[i]? = some (.t .val d)) : pVar W i env = some (some .val, d) := by unfold pVar; rw [h]
theorem tv_old (h : env[i]? = some (.t .old d)) : pVar W i env = some (some .old, d) := by unfold pVar; rw [h]
theorem tv_frz (h : env[i]? = some (.t .frz d)) : pVar W i env = some (some .frz, d) := by unfold pVar; rw [h]
theorem tp_nil : (fun _ : List S => some ([] : List (Pk × D))) env = some [] := rfl
theorem tp_cons {fa : List S → Option (Pk × D)} {fr : List S → Option (List (Pk × D))} {x : Pk × D} {xs : List (Pk × D)} (h1 : fa env = some x) (h2 : fr env = some xs) : pCons fa fr env = some (x :: xs) := by unfold pCons; rw [h1, h2]; rfl
theorem tp_op {o : List D → Option (Rk × D)} {fa : List S → Option (List (Pk × D))} {ts : List (Pk × D)} {rk : Rk} (h1 : fa env = some ts) (h2 : o (ts.map (·.2)) = some (rk, d)) (h3 : rk.pk (pJoin ts) = pk) : pOp o fa env = some (pk, d) := by
  unfold pOp; rw [h1]; show (o (ts.map (·.2))).map _ = _; rw [h2]; show some (rk.pk (pJoin ts), d) = _; rw [h3]
theorem tp_chT {o1 o2 : List D → Option (Rk × D)} {fa fb fc : List S → Option (Pk × D)} {x y z : Pk × D} {k1 k2 : Rk} (h1 : fa env = some x) (h2 : fb env = some y) (h3 : fc env = some z) (e1 : o1 [x.2, y.2] = some (k1, .bl b)) (e2 : o2 [y.2, z.2] = some (k2, .bl c)) : pChain o1 o2 fa fb fc env = some (some .own, .bl (b && c)) := by
  unfold pChain; rw [h1, h2]; simp only [e1]; cases b
  · rfl
  · simp only [h3, e2]; rfl
theorem tp_isi {T : String} {f : List S → Option (Pk × D)} {t : String} (h : f env = some (pk, d)) (h1 : d.tyn = some t) (h2 : kitB t T = some b) : pIsi T f env = some (some .own, .bl b) := by
  unfold pIsi; rw [h]; show ((d.tyn).bind _) = _; rw [h1]; show (kitB t T).map _ = _; rw [h2]; rfl
theorem te_lift {f : List S → Option (Pk × D)} (h : f env = some (some k, d)) : lift f env = some ((k, d), env) := by unfold lift; rw [h]; rfl
theorem te_liftN {f : List S → Option (Pk × D)} (h : f env = some (none, d)) (hf : d.flat = true) : lift f env = some ((.own, d), env) := by
  unfold lift; rw [h]; show (if d.flat then _ else _) = _; rw [if_pos hf]
theorem te_cast {fe : List S → Option (T × List S)} (h : fe env = some ((k, d), env1)) (e : d = d') : fe env = some ((k, d'), env1) := by rw [h, e]
theorem ta_nil : (fun env : List S => some (([] : List Ar), env)) env = some ([], env) := rfl
theorem ta_cons {fa : List S → Option (T × List S)} {fr : List S → Option (List Ar × List S)} {as : List Ar} (h1 : fa env = some ((k, d), env1)) (h2 : fr env1 = some (as, env2)) : aCons false fa fr env = some (.tmp (k, d) :: as, env2) := by
  unfold aCons; rw [h1]; simp only [h2]; rfl
theorem ta_consY {fa : List S → Option (T × List S)} {fr : List S → Option (List Ar × List S)} {as : List Ar} (h1 : fa env = some ((k, d), env1)) (hk : k.isB = false) (h2 : fr env1 = some (as, env2)) : aCons true fa fr env = some (.tmp (k, d) :: as, env2) := by
  unfold aCons; rw [h1]; simp only [h2]; rw [if_neg]; rfl; intro h; rw [h.2] at hk; cases hk
theorem ta_ptr {fr : List S → Option (List Ar × List S)} {as : List Ar} {s : S} (h : env[i]? = some s) (hs : s.wr = true) (h2 : fr env = some (as, env1)) : aPtr i fr env = some (.ptr i :: as, env1) := by
  unfold aPtr; rw [h]; simp only [hs, if_true, h2]; rfl
theorem te_op {o : List D → Option (Rk × D)} {fa : List S → Option (List Ar × List S)} {as : List Ar} {ts : List T} {rk : Rk} (h1 : fa env = some (as, env1)) (ht : tmps as = some ts) (h2 : o (ts.map (·.2)) = some (rk, d)) (h3 : rk.kind (kJoin ts) = k) : eOp o fa env = some ((k, d), env1) := by
  unfold eOp; rw [h1]; simp only [Option.bind_some, ht, h2, Option.map_some, h3]
theorem te_take (h : env[i]? = some (.t k d)) : eTake i env = some ((k, d), env.set i .gone) := by unfold eTake; rw [h]
def chkA (m : Nat) (W : List Nat) (as : List Ar) : Bool := as.length == m && decide (ptrs as).Nodup && (ptrs as).all W.contains
theorem te_call {f : Fn} {fa : List S → Option (List Ar × List S)} {as : List Ar} {L0 L1 : List S} (ha : fa env = some (as, env1)) (hc : chkA m W as = true) (h0 : argS env1 as = some L0) (hf : f L0 = some (d, L1)) (hw : wb as L1 env1 = env2) : eCall m W f fa env = some ((.own, d), env2) := by
  unfold chkA at hc
  simp only [Bool.and_eq_true, beq_iff_eq, decide_eq_true_eq, List.all_eq_true] at hc
  unfold eCall
  rw [ha]
  simp only
  rw [if_pos ⟨hc.1.1, hc.1.2, fun i hi => by simpa using hc.2 i hi⟩, h0]
  simp only [hf, hw]
theorem te_if {fc : List S → Option (Bool × List S)} {f h : List S → Option (T × List S)} {r : T} (hc : fc env = some (b, env1)) (h1 : b = true → f env1 = some (r, env2)) (h2 : b = false → h env1 = some (r, env2)) : eIf fc f h env = some (r, env2) := by
  unfold eIf; rw [hc]; cases b
  · exact h2 rfl
  · exact h1 rfl
theorem tb_e {fe : List S → Option (T × List S)} (h : fe env = some ((k, .bl b), env1)) : bE fe env = some (b, env1) := by unfold bE; rw [h]
theorem tb_not {fc : List S → Option (Bool × List S)} (h : fc env = some (b, env1)) : bNot fc env = some (!b, env1) := by unfold bNot; rw [h]; rfl
theorem tb_andP {f1 f2 : List S → Option (Bool × List S)} (h1 : f1 env = some (b, env)) (h2 : f2 env = some (c, env)) : bAnd f1 f2 env = some (b && c, env) := by
  unfold bAnd; rw [h1]; cases b
  · rfl
  · simpa using h2
theorem tb_orP {f1 f2 : List S → Option (Bool × List S)} (h1 : f1 env = some (b, env)) (h2 : f2 env = some (c, env)) : bOr f1 f2 env = some (b || c, env) := by
  unfold bOr; rw [h1]; cases b
  · simpa using h2
  · rfl
theorem tb_and {f1 f2 : List S → Option (Bool × List S)} (h1 : f1 env = some (b, env1)) (h2 : b = true → f2 env1 = some (c, env2)) (h3 : b = false → c = false ∧ env2 = env1) : bAnd f1 f2 env = some (c, env2) := by
  unfold bAnd; rw [h1]; cases b
  · obtain ⟨e1, e2⟩ := h3 rfl; rw [e1, e2]
  · exact h2 rfl
theorem tb_or {f1 f2 : List S → Option (Bool × List S)} (h1 : f1 env = some (b, env1)) (h2 : b = false → f2 env1 = some (c, env2)) (h3 : b = true → c = true ∧ env2 = env1) : bOr f1 f2 env = some (c, env2) := by
  unfold bOr; rw [h1]; cases b
  · exact h2 rfl
  · obtain ⟨e1, e2⟩ := h3 rfl; rw [e1, e2]
theorem te_b {fc : List S → Option (Bool × List S)} (h : fc env = some (b, env1)) : eB fc env = some ((.own, .bl b), env1) := by unfold eB; rw [h]; rfl
theorem tb_yes : (fun env : List S => some (true, env)) env = some (true, env) := rfl

/-! ### statements -/
theorem ts_asg {fe : List S → Option (T × List S)} {gt : T → List S → Option (List S)} {r : T} (h : fe env = some (r, env1)) (hg : gt r env1 = some env2) : sAsg fe gt env = some (.nx env2) := by unfold sAsg; rw [h]; simp only [Option.bind_some, hg]; rfl
theorem ts_expr {fe : List S → Option (T × List S)} {r : T} (h : fe env = some (r, env1)) : sExpr fe env = some (.nx env1) := by unfold sExpr; rw [h]; rfl
theorem ts_ret {fe : List S → Option (T × List S)} {r : T} (h : fe env = some (r, env1)) : sRet fe env = some (.rt r env1) := by unfold sRet; rw [h]; rfl
theorem tg_bor (hf : d.flat = true) : gSet i (.bor, d) env = some (env.set i (.t .own d)) := by unfold gSet T.sl; simp only [hf, if_true]; rfl
theorem tg_set (hk : k.isB = false) : gSet i (k, d) env = some (env.set i (.t k d)) := by unfold gSet T.sl; cases k <;> first | rfl | cases hk
theorem ts_put {o : D → D → D → Option D} {fv fk : List S → Option (T × List S)} {r1 rk : T} {s : S} {d0 d1 : D} (hv : fv env = some (r1, env1)) (ht : tt1 r1 = true) (hs1 : ((env1[i]?).bind S.get).isNone = false) (hk : fk env1 = some (rk, env2)) (hs : env2[i]? = some s) (hg : s.get = some d0) (hty : (d0.isTy "list" || d0.isTy "dict") = true) (ho : o d0 rk.2 r1.2 = some d1) (hE : env2.set i (s.with d1) = env3) :
    sPut i o fv fk env = some (.nx env3) := by
  subst hE; unfold sPut; rw [hv]; simp only [ht, hs1, hk, hs, Option.bind_some, hg, hty, ho]; rfl
theorem te_mut {T : String} {o : D → List D → Option (D × D)} {fa : List S → Option (List Ar × List S)} {as : List Ar} {ts : List RG.T} {s s0 : S} {d0 d1 d2 res : D} (hs0 : env[i]? = some s0) (hg0 : s0.get = some d0) (hty : d0.isTy T = true) (ha : fa env = some (as, env1)) (ht : tmps as = some ts) (htt : tts ts = true) (hs : env1[i]? = some s) (hg : s.get = some d1) (ho : o d1 (ts.map (·.2)) = some (d2, res)) (hE : env1.set i (s.with d2) = env2) :
    eMut i T o fa env = some ((.own, res), env2) := by
  subst hE; unfold eMut; simp only [hs0, Option.bind_some, hg0, hty, ha, ht, htt, hs, hg, ho]; rfl

/-! ### what follows -/
def Go (x : Option Fl) (Φ : Fl → Prop) : Prop := ∃ fl, x = some fl ∧ Φ fl
variable {Φ : Fl → Prop} {f g h : List S → Option Fl}
theorem go_seq (h1 : f env = some (.nx env1)) (h2 : Go (g env1) Φ) : Go (sSeq f g env) Φ := by unfold Go sSeq; rw [h1]; exact h2
theorem go_one (h1 : f env = some (.nx env1)) (h2 : Φ (.nx env1)) : Go (f env) Φ := ⟨_, h1, h2⟩
theorem go_skip (h2 : Φ (.nx env)) : Go ((fun env => some (Fl.nx env)) env) Φ := ⟨_, rfl, h2⟩
theorem go_skipS (h2 : Go (g env) Φ) : Go (sSeq (fun env => some (Fl.nx env)) g env) Φ := h2
theorem go_ret {r : T} (h1 : f env = some (.rt r env1)) (h2 : Φ (.rt r env1)) : Go (f env) Φ := ⟨_, h1, h2⟩
theorem go_retS {r : T} (h1 : f env = some (.rt r env1)) (h2 : Φ (.rt r env1)) : Go (sSeq f g env) Φ := ⟨_, by unfold sSeq; rw [h1], h2⟩
theorem go_assoc (h1 : Go (sSeq f (sSeq g h) env) Φ) : Go (sSeq (sSeq f g) h env) Φ := by
  obtain ⟨fl, e, q⟩ := h1
  refine ⟨fl, ?_, q⟩
  rw [← e]
  unfold sSeq
  cases f env with
  | none => rfl
  | some r => cases r <;> rfl
theorem go_ifT {fc : List S → Option (Bool × List S)} (hc : fc env = some (true, env1)) (h1 : Go (f env1) Φ) : Go (sIf fc f g env) Φ := by unfold Go sIf; rw [hc]; exact h1
theorem go_ifF {fc : List S → Option (Bool × List S)} (hc : fc env = some (false, env1)) (h1 : Go (g env1) Φ) : Go (sIf fc f g env) Φ := by unfold Go sIf; rw [hc]; exact h1
theorem go_ifTS {fc : List S → Option (Bool × List S)} (hc : fc env = some (true, env1)) (h1 : Go (sSeq f h env1) Φ) : Go (sSeq (sIf fc f g) h env) Φ := by
  unfold Go at h1 ⊢; unfold sSeq at h1 ⊢; unfold sIf; rw [hc]; exact h1
theorem go_ifFS {fc : List S → Option (Bool × List S)} (hc : fc env = some (false, env1)) (h1 : Go (sSeq g h env1) Φ) : Go (sSeq (sIf fc f g) h env) Φ := by
  unfold Go at h1 ⊢; unfold sSeq at h1 ⊢; unfold sIf; rw [hc]; exact h1
/-- an if that goes on in both ways to a state of one form -/
theorem if_join {fc : List S → Option (Bool × List S)} {R : List S → Prop} (hc : fc env = some (b, env1)) (h1 : b = true → Go (f env1) fun fl => ∃ e, fl = .nx e ∧ R e) (h2 : b = false → Go (g env1) fun fl => ∃ e, fl = .nx e ∧ R e) : ∃ e, sIf fc f g env = some (.nx e) ∧ R e := by
  unfold sIf; rw [hc]; cases b
  · obtain ⟨fl, e1, e, rfl, q⟩ := h2 rfl; exact ⟨e, e1, q⟩
  · obtain ⟨fl, e1, e, rfl, q⟩ := h1 rfl; exact ⟨e, e1, q⟩
def RetOk (m : Nat) (d : D) (o : List S) : Fl → Prop
  | .rt r e => r.2 = d ∧ ((match r.sl with | some .own => true | some .frz => true | _ => false) || r.2.flat) = true ∧ outs m e = o
  | .nx e => d = .non ∧ outs m e = o
  | _ => False
theorem fn_rt {n : Nat} {fb : List S → Option Fl} {L0 L o : List S} (hL : L0 ++ List.replicate (n - L0.length) .gone = L) (h1 : Go (fb L) (RetOk L0.length d o)) : fnOf n fb L0 = some (d, o) := by
  obtain ⟨fl, e, q⟩ := h1
  unfold fnOf
  rw [hL, e]
  cases fl with
  | nx e => obtain ⟨q1, q2⟩ := q; simp only [q1, q2]
  | rt r e =>
    obtain ⟨q1, q2, q3⟩ := q
    subst q1
    simp only [q3]
    cases q4 : r.sl with
    | none => rw [q4] at q2; simp only [Bool.false_or] at q2; simp only [q2, if_true]
    | some k => cases k <;> simp_all
  | bk _ => exact q.elim
  | ct _ => exact q.elim

/-! ### loops -/
inductive Ct (ρ σ : Type) where
  | nx (s : σ)
  | rt (r : ρ)
def pFor (body : σ → α → Option σ) : List α → σ → Option σ
  | [], s => some s
  | x :: xs, s => (body s x).bind (pFor body xs)
def pForR (body : σ → α → Option (Ct ρ σ)) : List α → σ → Option (Ct ρ σ)
  | [], s => some (.nx s)
  | x :: xs, s => (body s x).bind fun c => match c with
    | .nx s' => pForR body xs s'
    | .rt r => some (.rt r)
def pWhile (c : σ → Option Bool) (body : σ → Option σ) : Nat → σ → Option σ
  | 0, _ => none
  | n + 1, s => (c s).bind fun b => if b then (body s).bind (pWhile c body n) else some s
theorem loop_ok {it : α → T} {R : σ → List S → Prop} {body : σ → α → Option σ} {ft : T → List S → Option (List S)} {fb : List S → Option Fl}
    (step : ∀ x st e st', R st e → body st x = some st' → ∃ e1, ft (it x) e = some e1 ∧ Go (fb e1) fun fl => ∃ e2, (fl = .nx e2 ∨ fl = .ct e2) ∧ R st' e2) :
    ∀ (xs : List α) (st : σ) (e : List S) (st' : σ), R st e → pFor body xs st = some st' → ∃ e2, sLoop ft fb (xs.map it) e = some (.nx e2) ∧ R st' e2
  | [], st, e, st', h, q => by cases q; exact ⟨e, rfl, h⟩
  | x :: xs, st, e, st', h, q => by
    unfold pFor at q
    obtain ⟨st1, q1, q2⟩ := Option.bind_eq_some_iff.mp q
    obtain ⟨e1, g1, fl, g2, e2, g3, g4⟩ := step x st e st1 h q1
    obtain ⟨e3, g5, g6⟩ := loop_ok step xs st1 e2 st' g4 q2
    refine ⟨e3, ?_, g6⟩
    rw [List.map_cons]
    unfold sLoop
    simp only [g1, g2]
    rcases g3 with rfl | rfl <;> exact g5
theorem for_ok {it : α → T} {R : σ → List S → Prop} {body : σ → α → Option σ} {Z : Bool} {fi : List S → Option (S × List T × List S)} {ft : T → List S → Option (List S)} {fb : List S → Option Fl} {s : S} {xs : List α} {st st' : σ}
    (hi : fi env = some (s, xs.map it, env1)) (hz : (Z && !s.clean) = false) (h0 : R st env1)
    (step : ∀ x st e st', R st e → body st x = some st' → ∃ e1, ft (it x) e = some e1 ∧ Go (fb e1) fun fl => ∃ e2, (fl = .nx e2 ∨ fl = .ct e2) ∧ R st' e2)
    (q : pFor body xs st = some st') : ∃ e2, sFor Z fi ft fb env = some (.nx e2) ∧ R st' e2 := by
  obtain ⟨e2, h1, h2⟩ := loop_ok step xs st env1 st' h0 q
  exact ⟨e2, by unfold sFor; rw [hi]; simp only [hz]; exact h1, h2⟩
def CtPost (R : σ → List S → Prop) (Ψ : ρ → Fl → Prop) (c : Ct ρ σ) (fl : Fl) : Prop := match c with
  | .nx st' => ∃ e2, (fl = .nx e2 ∨ fl = .ct e2) ∧ R st' e2
  | .rt r => ∃ t e2, fl = .rt t e2 ∧ Ψ r fl
def CtEnd (R : σ → List S → Prop) (Ψ : ρ → Fl → Prop) (c : Ct ρ σ) (fl : Fl) : Prop := match c with
  | .nx st' => ∃ e2, fl = .nx e2 ∧ R st' e2
  | .rt r => ∃ t e2, fl = .rt t e2 ∧ Ψ r fl
theorem loopR_ok {it : α → T} {R : σ → List S → Prop} {Ψ : ρ → Fl → Prop} {body : σ → α → Option (Ct ρ σ)} {ft : T → List S → Option (List S)} {fb : List S → Option Fl}
    (step : ∀ x st e c, R st e → body st x = some c → ∃ e1, ft (it x) e = some e1 ∧ Go (fb e1) (CtPost R Ψ c)) :
    ∀ (xs : List α) (st : σ) (e : List S) (c : Ct ρ σ), R st e → pForR body xs st = some c → Go (sLoop ft fb (xs.map it) e) (CtEnd R Ψ c)
  | [], st, e, c, h, q => by cases q; exact ⟨_, rfl, e, rfl, h⟩
  | x :: xs, st, e, c, h, q => by
    unfold pForR at q
    obtain ⟨c1, q1, q2⟩ := Option.bind_eq_some_iff.mp q
    obtain ⟨e1, g1, fl, g2, g3⟩ := step x st e c1 h q1
    rw [List.map_cons]
    unfold sLoop
    simp only [g1, g2]
    cases c1 with
    | nx st1 =>
      obtain ⟨e2, g3, g4⟩ := g3
      have := loopR_ok step xs st1 e2 c g4 q2
      rcases g3 with rfl | rfl <;> exact this
    | rt r =>
      cases q2
      obtain ⟨t, e2, rfl, g4⟩ := g3
      exact ⟨_, rfl, t, e2, rfl, g4⟩
theorem forR_ok {it : α → T} {R : σ → List S → Prop} {Ψ : ρ → Fl → Prop} {body : σ → α → Option (Ct ρ σ)} {Z : Bool} {fi : List S → Option (S × List T × List S)} {ft : T → List S → Option (List S)} {fb : List S → Option Fl} {s : S} {xs : List α} {st : σ} {c : Ct ρ σ}
    (hi : fi env = some (s, xs.map it, env1)) (hz : (Z && !s.clean) = false) (h0 : R st env1)
    (step : ∀ x st e c, R st e → body st x = some c → ∃ e1, ft (it x) e = some e1 ∧ Go (fb e1) (CtPost R Ψ c))
    (q : pForR body xs st = some c) : Go (sFor Z fi ft fb env) (CtEnd R Ψ c) := by
  obtain ⟨fl, h1, h2⟩ := loopR_ok step xs st env1 c h0 q
  exact ⟨fl, by unfold sFor; rw [hi]; simp only [hz]; exact h1, h2⟩
theorem while_ok {R : σ → List S → Prop} {pc : σ → Option Bool} {body : σ → Option σ} {fc : List S → Option (Bool × List S)} {fb : List S → Option Fl}
    (hc : ∀ st e b, R st e → pc st = some b → ∃ e1, fc e = some (b, e1) ∧ R st e1)
    (step : ∀ st e st', R st e → body st = some st' → Go (fb e) fun fl => ∃ e2, (fl = .nx e2 ∨ fl = .ct e2) ∧ R st' e2) :
    ∀ (n : Nat) (st : σ) (e : List S) (st' : σ), R st e → pWhile pc body n st = some st' → ∃ e2, sWhile fc fb n e = some (.nx e2) ∧ R st' e2
  | 0, _, _, _, _, q => by cases q
  | n + 1, st, e, st', h, q => by
    unfold pWhile at q
    obtain ⟨b, q1, q2⟩ := Option.bind_eq_some_iff.mp q
    obtain ⟨e1, g1, g2⟩ := hc st e b h q1
    unfold sWhile
    cases b with
    | false => cases q2; simp only [g1]; exact ⟨e1, rfl, g2⟩
    | true =>
      rw [if_pos rfl] at q2
      obtain ⟨st1, q3, q4⟩ := Option.bind_eq_some_iff.mp q2
      obtain ⟨fl, g3, e2, g4, g5⟩ := step st e1 st1 g2 q3
      obtain ⟨e3, g6, g7⟩ := while_ok hc step n st1 e2 st' g5 q4
      simp only [g1, g3]
      rcases g4 with rfl | rfl <;> exact ⟨e3, g6, g7⟩

/-! ### comprehensions -/
def pComp (body : α → Option (Option β)) : List α → Option (List β)
  | [] => some []
  | x :: xs => (body x).bind fun o => (pComp body xs).bind fun r => some (o.toList ++ r)
def pCompS (body : σ → α → Option (Option β × σ)) : List α → σ → Option (List β × σ)
  | [], s => some ([], s)
  | x :: xs, s => (body s x).bind fun o => (pCompS body xs o.2).bind fun r => some (o.1.toList ++ r.1, r.2)
/-- a turn of a comprehension -/
def Turn (vs : List Nat) (ft : T → List S → Option (List S)) (fc : List S → Option (Bool × List S)) (fe : List S → Option (T × List S)) (t : T) (e : List S) (o : Option D) (e' : List S) : Prop :=
  ∃ e1 b e2, ft t e = some e1 ∧ fc e1 = some (b, e2) ∧ ((b = false ∧ o = none ∧ wipeE e2 vs = e') ∨ (b = true ∧ ∃ r e3, fe e2 = some (r, e3) ∧ tt1 r = true ∧ o = some r.2 ∧ wipeE e3 vs = e'))
theorem compS_ok {it : α → T} {eb : β → D} {R : σ → List S → Prop} {body : σ → α → Option (Option β × σ)} {vs : List Nat} {ft : T → List S → Option (List S)} {fc : List S → Option (Bool × List S)} {fe : List S → Option (T × List S)}
    (step : ∀ x st e o, R st e → body st x = some o → ∃ e', Turn vs ft fc fe (it x) e (o.1.map eb) e' ∧ R o.2 e') :
    ∀ (xs : List α) (st : σ) (e : List S) (acc : List D) (r : List β × σ), R st e → pCompS body xs st = some r → ∃ e2, cLoop vs ft fc fe (xs.map it) acc e = some (acc ++ r.1.map eb, e2) ∧ R r.2 e2
  | [], st, e, acc, r, h, q => by cases q; exact ⟨e, by simp [cLoop], h⟩
  | x :: xs, st, e, acc, r, h, q => by
    unfold pCompS at q
    obtain ⟨o, q1, q2⟩ := Option.bind_eq_some_iff.mp q
    obtain ⟨r', q3, q4⟩ := Option.bind_eq_some_iff.mp q2
    cases q4
    obtain ⟨e', ⟨e1, b, e2, g1, g2, g3⟩, g4⟩ := step x st e o h q1
    obtain ⟨o1, o2⟩ := o
    rw [List.map_cons]
    unfold cLoop
    simp only [g1, g2]
    rcases g3 with ⟨rfl, g5, g6⟩ | ⟨rfl, t, e3, g5, g6, g7, g8⟩
    · obtain ⟨e4, g9, g10⟩ := compS_ok step xs o2 e' acc r' g4 q3
      cases o1 with
      | some _ => cases g5
      | none =>
        simp only [g6, g9]
        exact ⟨e4, by simp, g10⟩
    · cases o1 with
      | none => cases g7
      | some v =>
        have g7' : t.2 = eb v := (Option.some.inj g7).symm
        obtain ⟨e4, g9, g10⟩ := compS_ok step xs o2 e' (acc ++ [eb v]) r' g4 q3
        simp only [g5, g6, if_true, g8, g7', g9]
        exact ⟨e4, by simp, g10⟩
end
end RG

set_option maxRecDepth 100000
set_option maxHeartbeats 4000000
namespace RG
open PySem PySem.Spec PyProof.Rows L2

/-! ### operations on typed values -/
section
variable {α β γ σ ρ : Type} {e : α → D} {e2 : β → D} {e3 : γ → D}
theorem bnd {x : Option α} {f : α → Option β} {r : β} (h : x.bind f = some r) : ∃ a, x = some a ∧ f a = some r := Option.bind_eq_some_iff.mp h
theorem pit {c : Bool} {a b : Option α} {r : α} (h : (if c = true then a else b) = some r) : (c = true ∧ a = some r) ∨ (c = false ∧ b = some r) := by
  cases c
  · exact .inr ⟨rfl, by simpa using h⟩
  · exact .inl ⟨rfl, by simpa using h⟩
theorem pitT {c : Bool} {a b : Option α} {r : α} (h : (if c = true then a else b) = some r) (hc : c = true) : a = some r := by rwa [if_pos hc] at h
theorem pitF {c : Bool} {a b : Option α} {r : α} (h : (if c = true then a else b) = some r) (hc : c = false) : b = some r := by rwa [if_neg (by rw [hc]; exact Bool.false_ne_true)] at h
theorem tb_val {fc : List S → Option (Bool × List S)} {env env1 : List S} {b c : Bool} (h : fc env = some (b, env1)) (e : b = c) : fc env = some (c, env1) := by rw [h, e]
theorem ro_k {m : Nat} {d : D} {o : List S} {k : Tk} {env : List S} (hk : (match k with | .own => true | .frz => true | _ => false) = true) (ho : outs m env = o) : RetOk m d o (.rt (k, d) env) := by
  refine ⟨rfl, ?_, ho⟩
  cases k <;> first | rfl | cases hk
theorem ro_f {m : Nat} {d : D} {o : List S} {k : Tk} {env : List S} (hf : d.flat = true) (ho : outs m env = o) : RetOk m d o (.rt (k, d) env) := ⟨rfl, by rw [hf]; simp, ho⟩
theorem ro_n {m : Nat} {o : List S} {env : List S} (ho : outs m env = o) : RetOk m .non o (.nx env) := ⟨rfl, ho⟩

/-! weaker kinds -/
def eW (k : Tk) (fe : List S → Option (T × List S)) : List S → Option (T × List S) := fun env => (fe env).bind fun r => if r.1.1.le k then some ((k, r.1.2), r.2) else none
theorem re_weak {K : PySem.W.Frag} {n : Nat} {W : List Nat} {Y : Bool} {t : TE} {fe : List S → Option (T × List S)} (k : Tk) (h : RE K n W Y t fe) : RE K n W Y t (eW k fe) := by
  intro g FS env τ σ tv H Q r env' hK hn hW he hs Sm yb e q
  unfold eW at e
  cases e1 : fe env with
  | none => rw [e1] at e; cases e
  | some r1 =>
    obtain ⟨⟨k1, d1⟩, env2⟩ := r1
    rw [e1] at e
    simp only [Option.bind_some] at e
    by_cases hk : k1.le k = true
    · rw [if_pos hk] at e
      cases e
      refine h g FS env τ σ tv H Q (k1, d1) _ hK hn hW he hs Sm yb e1 fun v H' FS' l s => ?_
      have hl : g.n ≤ (env' ++ τ).length := by rw [List.length_append, l, hn]; exact Nat.le_add_right _ _
      obtain ⟨v', ev, rv, tk⟩ := Sim.top (k := k1) (d := d1) s hl
      have ev' := Option.some.inj ev
      subst ev'
      exact q v H' _ l (s.pop.push rv (tk.to hk) fun _ => hl)
    · rw [if_neg hk] at e; cases e
theorem be_weak {C : XS} {K : PySem.W.Frag} {n : Nat} {W : List Nat} {Y : Bool} {a : Expr} {fe : List S → Option (T × List S)} (k : Tk) (h : BE C K n W Y a fe) : BE C K n W Y a (eW k fe) := let ⟨t, h1, h2⟩ := h; ⟨t, h1, re_weak k h2⟩
theorem te_weak {fe : List S → Option (T × List S)} {env env1 : List S} {k k1 : Tk} {d : D} (h : fe env = some ((k1, d), env1)) (hk : k1.le k = true) : eW k fe env = some ((k, d), env1) := by unfold eW; rw [h]; simp only [Option.bind_some, hk, if_true]

/-! numbers -/
def pMul (a b : Int) : Option Int := if (-(2 ^ 64) < a ∧ a < 2 ^ 64) ∨ (-(2 ^ 64) < b ∧ b < 2 ^ 64) then some (a * b) else none
def pMod (a b : Int) : Option Int := if 0 < b then some (a % b) else none
def pDiv (a b : Int) : Option Int := if 0 < b ∧ b < 1073741824 then some (a / b) else none
def pPow (a b : Int) : Option Int := if 0 ≤ b ∧ b ≤ 1000000 ∧ a.natAbs < 2 ^ 64 then some (a ^ b.toNat) else none
def bI (b : Bool) : Int := if b then 1 else 0
theorem o_add_i {a b : Int} : oAdd [.int a, .int b] = some (.imm, .int (a + b)) := rfl
theorem o_sub_i {a b : Int} : oSub [.int a, .int b] = some (.imm, .int (a - b)) := rfl
theorem o_neg_i {a : Int} : oNeg [.int a] = some (.imm, .int (-a)) := rfl
theorem o_mul_i {a b c : Int} (h : pMul a b = some c) : oMul [.int a, .int b] = some (.imm, .int c) := by
  unfold pMul at h; unfold oMul; simp only; split at h
  · rename_i q; cases h; rw [if_pos q]
  · cases h
theorem o_mod_i {a b c : Int} (h : pMod a b = some c) : oMod [.int a, .int b] = some (.imm, .int c) := by
  unfold pMod at h; unfold oMod; simp only; split at h
  · rename_i q; cases h; rw [if_pos q]
  · cases h
theorem o_div_i {a b c : Int} (h : pDiv a b = some c) : oDiv [.int a, .int b] = some (.imm, .int c) := by
  unfold pDiv at h; unfold oDiv; simp only; split at h
  · rename_i q; cases h; rw [if_pos q]
  · cases h
theorem o_pow_i {a b c : Int} (h : pPow a b = some c) : oPow [.int a, .int b] = some (.imm, .int c) := by
  unfold pPow at h; unfold oPow; simp only; split at h
  · rename_i q; cases h; rw [if_pos q]
  · cases h
theorem o_lt_i {a b : Int} : oLt [.int a, .int b] = some (.imm, .bl (decide (a < b))) := rfl
theorem o_le_i {a b : Int} : oLe [.int a, .int b] = some (.imm, .bl (decide (a ≤ b))) := rfl
theorem o_gt_i {a b : Int} : oGt [.int a, .int b] = some (.imm, .bl (decide (b < a))) := rfl
theorem o_ge_i {a b : Int} : oGe [.int a, .int b] = some (.imm, .bl (decide (b ≤ a))) := rfl
def ltS (x y : Str) : Prop := x.cps.toList < y.cps.toList
instance (x y : Str) : Decidable (ltS x y) := inferInstanceAs (Decidable (x.cps.toList < y.cps.toList))
theorem o_lt_s {a b : Str} : oLt [.str a, .str b] = some (.imm, .bl (decide (ltS a b))) := rfl
theorem o_int_b {b : Bool} : oInt [.bl b] = some (.imm, .int (bI b)) := rfl
theorem o_int_i {b : Int} : oInt [.int b] = some (.imm, .int b) := rfl
/-! == -/
def shOk (d : D) : Bool := d.pure && SeqAt.shaped d.py
def pEq [DecidableEq α] (e : α → D) (a b : α) : Option Bool := if shOk (e a) && shOk (e b) then some (decide (a = b)) else none
class EqE [DecidableEq α] (e : α → D) : Prop where
  out : ∀ a b, PyData.eqv (e a).py (e b).py = decide (a = b)
instance : EqE D.int := ⟨fun a b => by show (a == b) = _; by_cases h : a = b <;> simp [h]⟩
instance : EqE D.str := ⟨fun a b => by show (a == b) = _; by_cases h : a = b <;> simp [h]⟩
instance : EqE D.bl := ⟨fun a b => by show (a == b) = _; by_cases h : a = b <;> simp [h]⟩
instance : EqE eU := ⟨fun a b => rfl⟩
theorem eqvAll_map [DecidableEq α] [q : EqE e] : ∀ xs ys : List α, PyData.eqvAll (D.pys (xs.map e)) (D.pys (ys.map e)) = decide (xs = ys)
  | [], [] => rfl
  | [], y :: ys => by simp [D.pys, PyData.eqvAll]
  | x :: xs, [] => by simp [D.pys, PyData.eqvAll]
  | x :: xs, y :: ys => by
    simp only [List.map_cons, D.pys, PyData.eqvAll, q.out, eqvAll_map xs ys]
    by_cases h1 : x = y <;> by_cases h2 : xs = ys <;> simp [h1, h2]
instance [DecidableEq α] (e : α → D) [EqE e] : EqE (eL e) := ⟨fun a b => by show PyData.eqvAll (D.pys _) (D.pys _) = _; exact eqvAll_map a b⟩
instance [DecidableEq α] (e : α → D) [EqE e] : EqE (eT e) := ⟨fun a b => by show PyData.eqvAll (D.pys _) (D.pys _) = _; exact eqvAll_map a b⟩
instance [DecidableEq α] [DecidableEq β] (e : α → D) (e2 : β → D) [q : EqE e] [q2 : EqE e2] : EqE (eP2 e e2) := ⟨fun a b => by
  show PyData.eqvAll (D.pys [_, _]) (D.pys [_, _]) = _
  simp only [D.pys, PyData.eqvAll, q.out, q2.out]
  obtain ⟨a1, a2⟩ := a; obtain ⟨b1, b2⟩ := b
  by_cases h1 : a1 = b1 <;> by_cases h2 : a2 = b2 <;> simp [h1, h2]⟩
instance [DecidableEq α] [DecidableEq β] [DecidableEq γ] (e : α → D) (e2 : β → D) (e3 : γ → D) [q : EqE e] [q2 : EqE e2] [q3 : EqE e3] : EqE (eP3 e e2 e3) := ⟨fun a b => by
  show PyData.eqvAll (D.pys [_, _, _]) (D.pys [_, _, _]) = _
  simp only [D.pys, PyData.eqvAll, q.out, q2.out, q3.out]
  obtain ⟨a1, a2, a3⟩ := a; obtain ⟨b1, b2, b3⟩ := b
  by_cases h1 : a1 = b1 <;> by_cases h2 : a2 = b2 <;> by_cases h3 : a3 = b3 <;> simp [h1, h2, h3]⟩
theorem o_eq [DecidableEq α] [q : EqE e] {a b : α} {c : Bool} (h : pEq e a b = some c) : oEq [e a, e b] = some (.imm, .bl c) := by
  unfold pEq at h
  split at h
  · rename_i hh
    cases h
    simp only [shOk, Bool.and_eq_true] at hh
    unfold oEq
    simp only [hh.1.1, hh.1.2, hh.2.1, hh.2.2, q.out]
    rfl
  · cases h
theorem o_ne [DecidableEq α] [q : EqE e] {a b : α} {c : Bool} (h : pEq e a b = some c) : oNe [e a, e b] = some (.imm, .bl (!c)) := by
  unfold pEq at h
  split at h
  · rename_i hh
    cases h
    simp only [shOk, Bool.and_eq_true] at hh
    unfold oNe
    simp only [hh.1.1, hh.1.2, hh.2.1, hh.2.2, q.out]
    rfl
  · cases h
theorem o_eq_i {a b : Int} : oEq [.int a, .int b] = some (.imm, .bl (decide (a = b))) := by
  simp [oEq, D.pure, D.py, PyData.eqv, SeqAt.shaped, PyData.canLay0, PyData.depth]
  try (by_cases h : a = b <;> simp [h])
theorem o_ne_i {a b : Int} : oNe [.int a, .int b] = some (.imm, .bl (!decide (a = b))) := by
  simp [oNe, D.pure, D.py, PyData.eqv, SeqAt.shaped, PyData.canLay0, PyData.depth]
  try (by_cases h : a = b <;> simp [h])
theorem o_eq_b {a b : Bool} : oEq [.bl a, .bl b] = some (.imm, .bl (decide (a = b))) := by cases a <;> cases b <;> rfl
theorem o_ne_b {a b : Bool} : oNe [.bl a, .bl b] = some (.imm, .bl (!decide (a = b))) := by cases a <;> cases b <;> rfl
class NonE (e : α → D) : Prop where
  out : ∀ a, (e a).isNon = false
instance : NonE D.int := ⟨fun _ => rfl⟩
instance : NonE D.str := ⟨fun _ => rfl⟩
instance : NonE D.bl := ⟨fun _ => rfl⟩
instance (e : α → D) : NonE (eL e) := ⟨fun _ => rfl⟩
instance (e : α → D) : NonE (eT e) := ⟨fun _ => rfl⟩
instance (e : α → D) (e2 : β → D) : NonE (eP2 e e2) := ⟨fun _ => rfl⟩
instance (e : α → D) (e2 : β → D) (e3 : γ → D) : NonE (eP3 e e2 e3) := ⟨fun _ => rfl⟩
theorem o_isN [q : NonE e] {x : Option α} : oIsN [eO e x, .non] = some (.imm, .bl x.isNone) := by cases x with
  | none => rfl
  | some a => show some (Rk.imm, D.bl (e a).isNon) = _; rw [q.out]; rfl
theorem o_notN [q : NonE e] {x : Option α} : oNotN [eO e x, .non] = some (.imm, .bl x.isSome) := by cases x with
  | none => rfl
  | some a => show some (Rk.imm, D.bl (!(e a).isNon)) = _; rw [q.out]; rfl
theorem eO_some {x : Option α} {a : α} (h : x = some a) : eO e x = e a := by rw [h]; rfl
/-! in -/
class Eq1E [DecidableEq α] (e : α → D) : Prop where
  fl : ∀ a, (e a).flat1 = true
  out : ∀ a b, (e a).eq1 (e b) = decide (a = b)
instance : Eq1E D.int := ⟨fun _ => rfl, fun a b => by show (a == b) = _; by_cases h : a = b <;> simp [h]⟩
instance : Eq1E D.str := ⟨fun _ => rfl, fun a b => by show (a == b) = _; by_cases h : a = b <;> simp [h]⟩
theorem any1 [DecidableEq α] [q : Eq1E e] (x : α) : ∀ xs : List α, ((xs.map e).any fun y => y.eq1 (e x)) = decide (x ∈ xs)
  | [] => rfl
  | y :: ys => by
    rw [List.map_cons, List.any_cons, any1 x ys, q.out]
    by_cases h : x = y
    · simp [h]
    · have h' : ¬ y = x := fun z => h z.symm
      by_cases h2 : x ∈ ys <;> simp [h, h', h2]
theorem all1 [DecidableEq α] [q : Eq1E e] : ∀ xs : List α, (xs.map e).all D.flat1 = true
  | [] => rfl
  | x :: xs => by rw [List.map_cons, List.all_cons, q.fl, all1 xs]; rfl
theorem inRes_l1 [DecidableEq α] [q : Eq1E e] {x : α} {xs : List α} : inRes [e x, eL e xs] = some (decide (x ∈ xs)) := by
  have h0 : inRes [e x, eL e xs] = if (e x).flat1 && (xs.map e).all D.flat1 then some ((xs.map e).any fun y => y.eq1 (e x)) else (if (e x).pure && D.pures (xs.map e) && SeqAt.shaped (e x).py && SeqAt.shaped (.list (D.pys (xs.map e))) then some ((D.pys (xs.map e)).any fun z => PyData.eqv z (e x).py) else none) := by
    unfold inRes eL; cases e x <;> rfl
  rw [h0, q.fl, all1, any1]; rfl
theorem inRes_t1 [DecidableEq α] [q : Eq1E e] {x : α} {xs : List α} : inRes [e x, eT e xs] = some (decide (x ∈ xs)) := by
  have h0 : inRes [e x, eT e xs] = if (e x).flat1 && (xs.map e).all D.flat1 then some ((xs.map e).any fun y => y.eq1 (e x)) else none := by
    unfold inRes eT; cases e x <;> rfl
  rw [h0, q.fl, all1, any1]; rfl
theorem o_in_l [DecidableEq α] [q : Eq1E e] {x : α} {xs : List α} : oInA [e x, eL e xs] = some (.imm, .bl (decide (x ∈ xs))) := by unfold oInA oOr oIn; rw [inRes_l1]; rfl
theorem o_in_t [DecidableEq α] [q : Eq1E e] {x : α} {xs : List α} : oInA [e x, eT e xs] = some (.imm, .bl (decide (x ∈ xs))) := by unfold oInA oOr oIn; rw [inRes_t1]; rfl
theorem o_ni_l [DecidableEq α] [q : Eq1E e] {x : α} {xs : List α} : oNotInA [e x, eL e xs] = some (.imm, .bl (!decide (x ∈ xs))) := by unfold oNotInA oOr oNotIn; rw [inRes_l1]; rfl
theorem o_ni_t [DecidableEq α] [q : Eq1E e] {x : α} {xs : List α} : oNotInA [e x, eT e xs] = some (.imm, .bl (!decide (x ∈ xs))) := by unfold oNotInA oOr oNotIn; rw [inRes_t1]; rfl
/-- items that are tuples -/
def pIn [DecidableEq α] (e : α → D) (x : α) (xs : List α) : Option Bool := if shOk (e x) && shOk (eL e xs) then some (decide (x ∈ xs)) else none
theorem any2 [DecidableEq α] [q : EqE e] (x : α) : ∀ xs : List α, ((D.pys (xs.map e)).any fun y => PyData.eqv y (e x).py) = decide (x ∈ xs)
  | [] => rfl
  | y :: ys => by
    rw [List.map_cons]
    unfold D.pys
    rw [List.any_cons, any2 x ys, q.out]
    by_cases h : x = y
    · simp [h]
    · have h' : ¬ y = x := fun z => h z.symm
      by_cases h2 : x ∈ ys <;> simp [h, h', h2]
class TupE (e : α → D) : Prop where
  out : ∀ a, ∃ ds, e a = .tup ds
instance (e : α → D) : TupE (eT e) := ⟨fun _ => ⟨_, rfl⟩⟩
instance (e : α → D) (e2 : β → D) : TupE (eP2 e e2) := ⟨fun _ => ⟨_, rfl⟩⟩
instance (e : α → D) (e2 : β → D) (e3 : γ → D) : TupE (eP3 e e2 e3) := ⟨fun _ => ⟨_, rfl⟩⟩
theorem inRes_l2 [DecidableEq α] [q : EqE e] [t : TupE e] {x : α} {xs : List α} {c : Bool} (h : pIn e x xs = some c) : inRes [e x, eL e xs] = some c := by
  unfold pIn at h
  split at h
  · rename_i hh
    cases h
    obtain ⟨ds, ed⟩ := t.out x
    have hq := any2 (e := e) x xs
    simp only [shOk, Bool.and_eq_true] at hh
    obtain ⟨⟨h1, h2⟩, h3, h4⟩ := hh
    have h3' : D.pures (xs.map e) = true := h3
    have h4' : SeqAt.shaped (.list (D.pys (xs.map e))) = true := h4
    rw [ed] at h1 h2 hq ⊢
    have h0 : inRes [.tup ds, eL e xs] = (if (D.tup ds).pure && D.pures (xs.map e) && SeqAt.shaped (D.tup ds).py && SeqAt.shaped (.list (D.pys (xs.map e))) then some ((D.pys (xs.map e)).any fun z => PyData.eqv z (D.tup ds).py) else none) := rfl
    rw [h0, h1, h2, h3', h4', hq]
    rfl
  · cases h
theorem o_in_p [DecidableEq α] [q : EqE e] [t : TupE e] {x : α} {xs : List α} {c : Bool} (h : pIn e x xs = some c) : oInA [e x, eL e xs] = some (.imm, .bl c) := by unfold oInA oOr oIn; rw [inRes_l2 h]; rfl
theorem o_ni_p [DecidableEq α] [q : EqE e] [t : TupE e] {x : α} {xs : List α} {c : Bool} (h : pIn e x xs = some c) : oNotInA [e x, eL e xs] = some (.imm, .bl (!c)) := by unfold oNotInA oOr oNotIn; rw [inRes_l2 h]; rfl
def subS (x y : Str) : Bool := !(Builtin.Str.occurrences y x 0 y.length 1).isEmpty
theorem o_in_s {x y : Str} : oInA [.str x, .str y] = some (.imm, .bl (subS x y)) := rfl
theorem o_ni_s {x y : Str} : oNotInA [.str x, .str y] = some (.imm, .bl (!subS x y)) := rfl
/-! texts, lists, tuples -/
def pAddS (a b : Str) : Option Str := if a.length + b.length ≤ 16777216 then some (a ++ b) else none
theorem o_add_s {a b c : Str} (h : pAddS a b = some c) : oAdd [.str a, .str b] = some (.imm, .str c) := by
  unfold pAddS at h; unfold oAdd; simp only; split at h
  · rename_i q; cases h; rw [if_pos q]
  · cases h
def pAddL (a b : List α) : Option (List α) := if a.length + b.length ≤ 16777216 then some (a ++ b) else none
theorem o_add_lF [FlatE e] {a b c : List α} (h : pAddL a b = some c) : oAdd [eL e a, eL e b] = some (.fresh, eL e c) := by
  unfold pAddL at h; split at h
  · rename_i q
    cases h
    unfold oAdd eL
    simp only [List.length_map, flats_map, List.map_append]
    rw [if_pos q]; rfl
  · cases h
def pLenS (a : Str) : Option Int := if a.length ≤ 16777216 then some (a.length : Int) else none
theorem o_len_s {a : Str} {c : Int} (h : pLenS a = some c) : oLen [.str a] = some (.imm, .int c) := by
  unfold pLenS at h; unfold oLen; simp only; split at h
  · rename_i q; cases h; rw [if_pos q]
  · cases h
theorem o_len_l {xs : List α} : oLen [eL e xs] = some (.imm, .int xs.length) := by unfold oLen eL; simp only [List.length_map]
theorem o_len_t {xs : List α} : oLen [eT e xs] = some (.imm, .int xs.length) := by unfold oLen eT; simp only [List.length_map]
theorem o_len_r {xs : List Int} : oLen [.scr xs] = some (.imm, .int xs.length) := rfl
theorem atI_map (e : α → D) {xs : List α} {i : Int} {x : α} (h : atI xs i = some x) : atI (xs.map e) i = some (e x) := by
  unfold atI at h ⊢
  obtain ⟨j, h1, h2⟩ := Option.bind_eq_some_iff.mp h
  rw [List.length_map, h1]
  show (xs.map e)[j]? = _
  rw [List.getElem?_map, h2]; rfl
theorem o_ix_lF [q : FlatE e] {xs : List α} {i : Int} {x : α} (h : atI xs i = some x) : oIx [eL e xs, .int i] = some (.imm, e x) := by
  unfold oIx eL; simp only [atI_map e h, Option.map_some, q.out, if_true]
theorem o_ix_lN [q : NFlat e] {xs : List α} {i : Int} {x : α} (h : atI xs i = some x) : oIx [eL e xs, .int i] = some (.sub, e x) := by
  unfold oIx eL; simp only [atI_map e h, Option.map_some, q.out]; rfl
theorem o_ix_tF [q : FlatE e] {xs : List α} {i : Int} {x : α} (h : atI xs i = some x) : oIx [eT e xs, .int i] = some (.imm, e x) := by
  unfold oIx eT; simp only [atI_map e h, Option.map_some, q.out, if_true]
theorem o_ix_p0F [q : FlatE e] {p : α × β} : oIx [eP2 e e2 p, .int 0] = some (.imm, e p.1) := by
  show some (if (e p.1).flat then Rk.imm else .sub, e p.1) = _; rw [q.out]; rfl
theorem o_ix_p1F [q : FlatE e2] {p : α × β} : oIx [eP2 e e2 p, .int 1] = some (.imm, e2 p.2) := by
  show some (if (e2 p.2).flat then Rk.imm else .sub, e2 p.2) = _; rw [q.out]; rfl
theorem o_ix_p0N [q : NFlat e] {p : α × β} : oIx [eP2 e e2 p, .int 0] = some (.sub, e p.1) := by
  show some (if (e p.1).flat then Rk.imm else .sub, e p.1) = _; rw [q.out]; rfl
theorem o_ix_p1N [q : NFlat e2] {p : α × β} : oIx [eP2 e e2 p, .int 1] = some (.sub, e2 p.2) := by
  show some (if (e2 p.2).flat then Rk.imm else .sub, e2 p.2) = _; rw [q.out]; rfl
theorem o_ix_q0F [q : FlatE e] {p : α × β × γ} : oIx [eP3 e e2 e3 p, .int 0] = some (.imm, e p.1) := by
  show some (if (e p.1).flat then Rk.imm else .sub, e p.1) = _; rw [q.out]; rfl
theorem o_ix_q1F [q : FlatE e2] {p : α × β × γ} : oIx [eP3 e e2 e3 p, .int 1] = some (.imm, e2 p.2.1) := by
  show some (if (e2 p.2.1).flat then Rk.imm else .sub, e2 p.2.1) = _; rw [q.out]; rfl
theorem o_ix_q2F [q : FlatE e3] {p : α × β × γ} : oIx [eP3 e e2 e3 p, .int 2] = some (.imm, e3 p.2.2) := by
  show some (if (e3 p.2.2).flat then Rk.imm else .sub, e3 p.2.2) = _; rw [q.out]; rfl
def pIxS (z : Str) (i : Int) : Option Str := if z.length ≤ 16777216 then (atI z.cps.toList i).map fun c => ⟨#[c]⟩ else none
theorem o_ix_s {z : Str} {i : Int} {x : Str} (h : pIxS z i = some x) : oIx [.str z, .int i] = some (.imm, .str x) := by
  unfold pIxS at h; unfold oIx; simp only; split at h
  · rename_i q
    rw [if_pos q]
    obtain ⟨c, h1, h2⟩ := Option.map_eq_some_iff.mp h
    rw [h1, ← h2]; rfl
  · cases h
theorem o_lst_0 : oLst [] = some (.fresh, eL e []) := rfl
theorem o_lst_F [FlatE e] (xs : List α) (h : xs.length ≤ 1000) : oLst (xs.map e) = some (.fresh, eL e xs) := by unfold oLst eL; rw [List.length_map, if_pos h, flats_map]; rfl
theorem o_lst_N [q : NFlat e] (x : α) (xs : List α) (h : (x :: xs).length ≤ 1000) : oLst ((x :: xs).map e) = some (.mix, eL e (x :: xs)) := by unfold oLst eL; rw [List.length_map, if_pos h, List.map_cons]; unfold D.flats; rw [q.out]; rfl
theorem o_tup_F [FlatE e] (xs : List α) (h : xs.length ≤ 1000) : oTup (xs.map e) = some (.imm, eT e xs) := by unfold oTup eT; rw [List.length_map, if_pos h, flats_map]; rfl
theorem o_tup_2 [q : FlatE e] [q2 : FlatE e2] {a : α} {b : β} : oTup [e a, e2 b] = some (.imm, eP2 e e2 (a, b)) := by
  show some (if D.flats [e a, e2 b] then Rk.imm else .mix, _) = _; simp only [D.flats, q.out, q2.out]; rfl
theorem o_tup_2N [q : NFlat (eP2 e e2)] {a : α} {b : β} : oTup [e a, e2 b] = some (.mix, eP2 e e2 (a, b)) := by
  have := q.out (a, b)
  have h : D.flats [e a, e2 b] = false := this
  show some (if D.flats [e a, e2 b] then Rk.imm else .mix, _) = _; rw [h]; rfl
theorem o_tup_3 [q : FlatE e] [q2 : FlatE e2] [q3 : FlatE e3] {a : α} {b : β} {c : γ} : oTup [e a, e2 b, e3 c] = some (.imm, eP3 e e2 e3 (a, b, c)) := by
  show some (if D.flats [e a, e2 b, e3 c] then Rk.imm else .mix, _) = _; simp only [D.flats, q.out, q2.out, q3.out]; rfl
theorem o_list_tF [FlatE e] {xs : List α} : oList [eT e xs] = some (.fresh, eL e xs) := by unfold oList eT eL; simp only [flats_map]; rfl
theorem o_list_lF [FlatE e] {xs : List α} : oList [eL e xs] = some (.fresh, eL e xs) := by unfold oList eL; simp only [flats_map]; rfl
theorem o_tuple_lF [FlatE e] {xs : List α} : oTuple [eL e xs] = some (.imm, eT e xs) := by unfold oTuple eT eL; simp only [flats_map]; rfl
theorem strsOf_eL : ∀ xs : List Str, strsOf (xs.map D.str) = some xs
  | [] => rfl
  | x :: xs => by
    have := strsOf_eL xs
    unfold strsOf at this ⊢
    simp [D.asStr, this]
def pSort (xs : List Str) : Option (List Str) := if xs.length < 64 then some (sortS xs) else none
theorem o_sort_l {xs ys : List Str} (h : pSort xs = some ys) : oSorted [eL D.str xs] = some (.fresh, eL D.str ys) := by
  unfold pSort at h; unfold oSorted eL; simp only [strsOf_eL, Option.bind_some]; split at h
  · rename_i q; cases h; rw [if_pos q]
  · cases h
theorem keyS_eDK : ∀ kvs : List (Str × α), keyS (kvs.map (kvK e)) = some (kvs.map (·.1))
  | [] => rfl
  | kv :: kvs => by
    rw [List.map_cons, List.map_cons]
    show (keyS _).map _ = _
    rw [keyS_eDK kvs]; rfl
theorem o_sort_d {kvs : List (Str × α)} {ys : List Str} (h : pSort (kvs.map (·.1)) = some ys) : oSorted [eDK e kvs] = some (.fresh, eL D.str ys) := by
  unfold pSort at h; unfold oSorted eDK; simp only [keyS_eDK, Option.bind_some]; split at h
  · rename_i q; cases h; rw [if_pos q]; rfl
  · cases h
theorem o_idx_l {xs : List Str} {z : Str} {j : Nat} (h : idxS z xs = some j) : oIndex [eL D.str xs, .str z] = some (.imm, .int j) := by
  have e1 : ∀ xs : List Str, idx1 (.str z) (xs.map D.str) = idxS z xs := by
    intro xs
    induction xs with
    | nil => rfl
    | cons y ys ih =>
      rw [List.map_cons]
      unfold idx1 idxS
      rw [ih]
      have : (D.str y).eq1 (.str z) = (y == z) := rfl
      rw [this]
      by_cases hy : y = z <;> simp [hy]
  unfold oIndex eL
  simp only [e1, h, all1, D.flat1]
  rfl
theorem o_tidx {ys : List Str} {z : Str} {j : Nat} (h : idxS z ys = some j) : oTIdx ys [.str z] = some (.imm, .int j) := by unfold oTIdx; simp only [h]; rfl
/-! tables of the written part -/
def pTS (tbl : List (Str × Option D)) (z : Str) : Option Str := match tbl.lookup z with
  | some (some (.str s)) => some s
  | _ => none
theorem o_gixS {tbl : List (Str × Option D)} {z s : Str} (h : pTS tbl z = some s) : oGIx tbl [.str z] = some (.imm, .str s) := by
  unfold pTS at h; unfold oGIx; simp only; split at h
  · rename_i q; cases h; rw [q]
  · cases h
def pTT (tbl : List (Str × Option D)) (z : Str) : Option (List Str) := match tbl.lookup z with
  | some (some (.tup s)) => strsOf s
  | _ => none
theorem strsOf_inv : ∀ {ds : List D} {xs : List Str}, strsOf ds = some xs → ds = xs.map D.str
  | [], xs, h => by cases h; rfl
  | d :: ds, xs, h => by
    unfold strsOf at h
    rw [List.mapM_cons] at h
    cases e1 : d.asStr with
    | none => rw [e1] at h; cases h
    | some y =>
      rw [e1] at h
      cases e2 : ds.mapM D.asStr with
      | none => rw [e2] at h; cases h
      | some ys =>
        rw [e2] at h
        cases h
        rw [strsOf_inv (xs := ys) e2]
        cases d <;> cases e1
        rfl
theorem o_gixT {tbl : List (Str × Option D)} {z : Str} {s : List Str} (h : pTT tbl z = some s) : oGIx tbl [.str z] = some (.imm, eT D.str s) := by
  unfold pTT at h; unfold oGIx; simp only; split at h
  · rename_i q; rw [q, strsOf_inv h]; rfl
  · cases h
def pTI (tbl : List (Str × Option D)) (z : Str) : Option Bool := (tbl.lookup z).map fun r => r.isSome
theorem o_gin {tbl : List (Str × Option D)} {z : Str} {b : Bool} (h : pTI tbl z = some b) : oGIn tbl [.str z] = some (.imm, .bl b) := by
  unfold pTI at h; unfold oGIn; simp only
  obtain ⟨c, h1, h2⟩ := Option.map_eq_some_iff.mp h
  rw [h1, ← h2]; rfl
/-! dicts -/
def pGet {κ : Type} [DecidableEq κ] (kvs : List (κ × α)) (k : κ) : Option α := (kvs.find? fun kv => decide (kv.1 = k)).map (·.2)
def pHas {κ : Type} [DecidableEq κ] (kvs : List (κ × α)) (k : κ) : Bool := (pGet kvs k).isSome
def putA {κ : Type} [DecidableEq κ] (kvs : List (κ × α)) (k : κ) (v : α) : List (κ × α) :=
  if kvs.any fun kv => decide (kv.1 = k) then kvs.map fun kv => if kv.1 = k then (kv.1, v) else kv else kvs ++ [(k, v)]
def pPut {κ : Type} [DecidableEq κ] (kvs : List (κ × α)) (k : κ) (v : α) : Option (List (κ × α)) := if kvs.length < 16777215 then some (putA kvs k v) else none
theorem valK {kvs : List (Str × α)} {k : Str} : valD (kvs.map (kvK e)) (.inr k) = (pGet kvs k).map e := by
  unfold valD pGet
  induction kvs with
  | nil => rfl
  | cons kv kvs ih =>
    rw [List.map_cons, List.find?_cons, List.find?_cons]
    by_cases h : kv.1 = k
    · have h' : ((kvK e kv).1 = Sum.inr k) := by unfold kvK; rw [h]
      simp only [h, h', decide_true]; rfl
    · have h' : ¬ ((kvK e kv).1 = Sum.inr k) := by unfold kvK; intro z; exact h (Sum.inr.inj z)
      simp only [h, h', decide_false]; exact ih
theorem valT {kvs : List ((Str × Str) × α)} {k : Str × Str} : valD (kvs.map (kvT e)) [.inr k.1, .inr k.2] = (pGet kvs k).map e := by
  unfold valD pGet
  induction kvs with
  | nil => rfl
  | cons kv kvs ih =>
    rw [List.map_cons, List.find?_cons, List.find?_cons]
    by_cases h : kv.1 = k
    · have h' : ((kvT e kv).1 = [Sum.inr k.1, Sum.inr k.2]) := by unfold kvT; rw [h]
      simp only [h, h', decide_true]; rfl
    · have h' : ¬ ((kvT e kv).1 = [Sum.inr k.1, Sum.inr k.2]) := by
        unfold kvT; intro z
        have z1 := List.cons.inj z
        have z2 := List.cons.inj z1.2
        exact h (Prod.ext (Sum.inr.inj z1.1) (Sum.inr.inj z2.1))
      simp only [h, h', decide_false]; exact ih
theorem o_ix_k {kvs : List (Str × α)} {k : Str} {x : α} (h : pGet kvs k = some x) : oIx [eDK e kvs, .str k] = some (.imm, e x) := by
  have : dGet (eDK e kvs) (.str k) = some (some (e x)) := by show some (valD _ _) = _; rw [valK, h]; rfl
  unfold oIx eDK; unfold eDK at this; simp only [this]
theorem o_ix_kt {kvs : List ((Str × Str) × α)} {k : Str × Str} {x : α} (h : pGet kvs k = some x) : oIx [eDT e kvs, eP2 D.str D.str k] = some (.imm, e x) := by
  have : dGet (eDT e kvs) (eP2 D.str D.str k) = some (some (e x)) := by show some (valD _ _) = _; rw [valT, h]; rfl
  unfold oIx eDT eP2; unfold eDT eP2 at this; simp only [this]
theorem o_in_k {kvs : List (Str × α)} {k : Str} : oInA [.str k, eDK e kvs] = some (.imm, .bl (pHas kvs k)) := by
  have : dGet (eDK e kvs) (.str k) = some ((pGet kvs k).map e) := by show some (valD _ _) = _; rw [valK]
  unfold oInA oOr
  have h0 : oIn [.str k, eDK e kvs] = none := rfl
  rw [h0]
  unfold oInD; simp only [this]; unfold pHas; cases pGet kvs k <;> rfl
theorem o_ni_k {kvs : List (Str × α)} {k : Str} : oNotInA [.str k, eDK e kvs] = some (.imm, .bl (!pHas kvs k)) := by
  have : dGet (eDK e kvs) (.str k) = some ((pGet kvs k).map e) := by show some (valD _ _) = _; rw [valK]
  unfold oNotInA oOr
  have h0 : oNotIn [.str k, eDK e kvs] = none := rfl
  rw [h0]
  unfold oNotInD; simp only [this]; unfold pHas; cases pGet kvs k <;> rfl
theorem o_in_kt {kvs : List ((Str × Str) × α)} {k : Str × Str} : oInA [eP2 D.str D.str k, eDT e kvs] = some (.imm, .bl (pHas kvs k)) := by
  have : dGet (eDT e kvs) (eP2 D.str D.str k) = some ((pGet kvs k).map e) := by show some (valD _ _) = _; rw [valT]
  unfold oInA oOr
  have h0 : oIn [eP2 D.str D.str k, eDT e kvs] = none := rfl
  rw [h0]
  unfold oInD; simp only [this]; unfold pHas; cases pGet kvs k <;> rfl
theorem o_ni_kt {kvs : List ((Str × Str) × α)} {k : Str × Str} : oNotInA [eP2 D.str D.str k, eDT e kvs] = some (.imm, .bl (!pHas kvs k)) := by
  have : dGet (eDT e kvs) (eP2 D.str D.str k) = some ((pGet kvs k).map e) := by show some (valD _ _) = _; rw [valT]
  unfold oNotInA oOr
  have h0 : oNotIn [eP2 D.str D.str k, eDT e kvs] = none := rfl
  rw [h0]
  unfold oNotInD; simp only [this]; unfold pHas; cases pGet kvs k <;> rfl
theorem o_get2 [q : FlatE e] {kvs : List (Str × α)} {k : Str} {y : α} : oGet2 [eDK e kvs, .str k, e y] = some (.imm, e ((pGet kvs k).getD y)) := by
  have : dGet (eDK e kvs) (.str k) = some ((pGet kvs k).map e) := by show some (valD _ _) = _; rw [valK]
  unfold oGet2; simp only [this]; cases pGet kvs k with
  | none => simp only [Option.map_none, q.out]; rfl
  | some a => rfl
theorem putK {kvs : List (Str × α)} {k : Str} {v : α} : putD (kvs.map (kvK e)) (.inr k) (e v) = (putA kvs k v).map (kvK e) := by
  have hany : ((kvs.map (kvK e)).any fun kv => decide (kv.1 = Sum.inr k)) = kvs.any fun kv => decide (kv.1 = k) := by
    rw [List.any_map]; congr 1; funext kv; show decide (Sum.inr kv.1 = Sum.inr k) = _
    by_cases h : kv.1 = k
    · simp [h]
    · have : ¬ (Sum.inr kv.1 = (Sum.inr k : Key)) := fun z => h (Sum.inr.inj z)
      simp [h, this]
  unfold putD putA
  rw [hany]
  split
  · rw [List.map_map, List.map_map]; congr 1; funext kv
    show (if (kvK e kv).1 = Sum.inr k then _ else _) = kvK e (if kv.1 = k then _ else _)
    by_cases h : kv.1 = k
    · rw [if_pos h, if_pos (by show Sum.inr kv.1 = _; rw [h])]; rfl
    · rw [if_neg h, if_neg (show ¬ ((kvK e kv).1 = (Sum.inr k : Key)) from fun z => h (Sum.inr.inj z))]
  · rw [List.map_append]; rfl
theorem putT {kvs : List ((Str × Str) × α)} {k : Str × Str} {v : α} : putD (kvs.map (kvT e)) [.inr k.1, .inr k.2] (e v) = (putA kvs k v).map (kvT e) := by
  have hk : ∀ kv : (Str × Str) × α, ((kvT e kv).1 = [Sum.inr k.1, Sum.inr k.2]) ↔ kv.1 = k := fun kv => by
    constructor
    · intro z
      have z1 := List.cons.inj z
      have z2 := List.cons.inj z1.2
      exact Prod.ext (Sum.inr.inj z1.1) (Sum.inr.inj z2.1)
    · intro h; unfold kvT; rw [h]
  have hany : ((kvs.map (kvT e)).any fun kv => decide (kv.1 = [Sum.inr k.1, Sum.inr k.2])) = kvs.any fun kv => decide (kv.1 = k) := by
    rw [List.any_map]; congr 1; funext kv; show decide ((kvT e kv).1 = _) = _
    by_cases h : kv.1 = k
    · simp [h, (hk kv).mpr h]
    · have h2 : ¬ ((kvT e kv).1 = [Sum.inr k.1, Sum.inr k.2]) := fun z => h ((hk kv).mp z)
      rw [decide_eq_false h, decide_eq_false h2]
  unfold putD putA
  rw [hany]
  split
  · rw [List.map_map, List.map_map]; congr 1; funext kv
    show (if (kvT e kv).1 = _ then _ else _) = kvT e (if kv.1 = k then _ else _)
    by_cases h : kv.1 = k
    · rw [if_pos h, if_pos ((hk kv).mpr h)]; rfl
    · rw [if_neg h, if_neg (show ¬ ((kvT e kv).1 = _) from fun z => h ((hk kv).mp z))]
  · rw [List.map_append]; rfl
theorem u_put_k [q : FlatE e] {kvs kvs' : List (Str × α)} {k : Str} {v : α} (h : pPut kvs k v = some kvs') : oDPut (eDK e kvs) (.str k) (e v) = some (eDK e kvs') := by
  unfold pPut at h; split at h
  · rename_i hl
    cases h
    unfold oDPut eDK
    simp only [List.length_map, q.out]
    rw [if_pos ⟨trivial, hl⟩]
    show some (D.dK (putD _ _ _)) = _
    rw [putK]
  · cases h
theorem u_put_kt [q : FlatE e] {kvs kvs' : List ((Str × Str) × α)} {k : Str × Str} {v : α} (h : pPut kvs k v = some kvs') : oDPut (eDT e kvs) (eP2 D.str D.str k) (e v) = some (eDT e kvs') := by
  unfold pPut at h; split at h
  · rename_i hl
    cases h
    unfold oDPut eDT eP2
    simp only [List.length_map, q.out]
    rw [if_pos ⟨trivial, hl, by show (2 : Nat) ≠ 8; decide⟩]
    show some (D.dT (putD _ _ _)) = _
    rw [putT]
  · cases h
theorem u_put_l [q : FlatE e] {xs : List α} {i : Int} {j : Nat} {v : α} (h : ixN xs.length i = some j) : oSetL (eL e xs) (.int i) (e v) = some (eL e (xs.set j v)) := by
  unfold oSetL eL
  simp only [List.length_map, h, q.out, if_true, List.map_set]
/-! methods that write -/
def pApp (xs : List α) (x : α) : Option (List α) := if xs.length < 16777216 then some (xs ++ [x]) else none
theorem m_app {xs ys : List α} {x : α} (h : pApp xs x = some ys) : mAppend (eL e xs) [e x] = some (eL e ys, .non) := by
  unfold pApp at h; split at h
  · rename_i q; cases h; unfold mAppend eL; simp only [List.length_map]; rw [if_pos q, List.map_append]; rfl
  · cases h
def pPopAt (xs : List α) (i : Int) : Option (α × List α) := if -(2 ^ 63) ≤ i ∧ i < 2 ^ 63 then (seqIndex? i xs.length).bind fun j => (xs[j]?).map fun x => (x, xs.eraseIdx j) else none
theorem erase_mapD : ∀ (xs : List α) (j : Nat), (xs.map e).eraseIdx j = (xs.eraseIdx j).map e
  | [], j => by simp
  | x :: xs, 0 => by simp
  | x :: xs, j + 1 => by simp [erase_mapD xs j]
theorem m_popAt [q : FlatE e] {xs : List α} {i : Int} {r : α × List α} (h : pPopAt xs i = some r) : mPopAt (eL e xs) [.int i] = some (eL e r.2, e r.1) := by
  unfold pPopAt at h; split at h
  · rename_i hi
    obtain ⟨j, h1, h2⟩ := Option.bind_eq_some_iff.mp h
    obtain ⟨x, h3, h4⟩ := Option.map_eq_some_iff.mp h2
    subst h4
    unfold mPopAt eL
    simp only [List.length_map]
    rw [if_pos hi, h1]
    simp only [List.getElem?_map, h3, Option.map_some, q.out, if_true, erase_mapD]
  · cases h
def pIns (xs : List α) (i : Int) (x : α) : Option (List α) := if xs.length < 16777216 ∧ 0 ≤ i ∧ i < 2 ^ 63 then some (xs.take i.toNat ++ [x] ++ xs.drop i.toNat) else none
theorem m_ins {xs ys : List α} {i : Int} {x : α} (h : pIns xs i x = some ys) : mInsert (eL e xs) [.int i, e x] = some (eL e ys, .non) := by
  unfold pIns at h; split at h
  · rename_i q; cases h; unfold mInsert eL; simp only [List.length_map]; rw [if_pos q]; simp
  · cases h
theorem m_clear {xs : List α} : mClear (eL e xs) [] = some (eL e [], .non) := rfl
/-! what is walked -/
def Tk.itN : Tk → Tk
  | .own => .frz
  | k => k
def Tk.cln : Tk → Bool
  | .frz => false
  | .val => false
  | _ => true
variable {env env1 : List S} {fe : List S → Option (T × List S)} {k : Tk} {xs : List α}
theorem ti_r {ns : List Int} (h : fe env = some ((k, .scr ns), env1)) : iSq fe env = some (.t .own (.scr ns), ns.map fun n => (.own, .int n), env1) := by unfold iSq iSeqL; rw [h]
theorem ti_lF [FlatE e] (h : fe env = some ((k, eL e xs), env1)) (hk : k.isB = false) : iSq fe env = some (.t k (eL e xs), xs.map fun x => (.own, e x), env1) := by
  unfold iSq iSeqL; rw [h]; unfold eL srcK; simp only [flats_map, List.map_map]; cases k <;> first | rfl | cases hk
theorem ti_lN [NFlat e] (h : fe env = some ((k, eL e xs), env1)) (hk : k.isB = false) : ∃ s, iSq fe env = some (s, xs.map fun x => (k.itN, e x), env1) := by
  unfold iSq iSeqL; rw [h]; unfold eL srcK
  cases xs with
  | nil => cases k <;> first | exact ⟨_, rfl⟩ | cases hk
  | cons x xs =>
    have : D.flats ((x :: xs).map e) = false := by rw [List.map_cons]; unfold D.flats; rw [NFlat.out]; rfl
    simp only [this, List.map_map]
    cases k <;> first | exact ⟨_, rfl⟩ | cases hk
theorem ti_tF [FlatE e] (h : fe env = some ((k, eT e xs), env1)) : ∃ s, s.clean = k.cln ∧ iSq fe env = some (s, xs.map fun x => (.own, e x), env1) := by
  unfold iSq iSeqL iSeqT; rw [h]; unfold eT srcK; simp only [flats_map, List.map_map]; cases k <;> exact ⟨_, rfl, rfl⟩
def rng (lo : Int) : Nat → List Int
  | 0 => []
  | n + 1 => lo :: rng (lo + 1) n
theorem upTo_eq : ∀ (n : Nat) (lo : Int), upTo lo n = (rng lo n).map fun i => (Tk.own, D.int i)
  | 0, _ => rfl
  | n + 1, lo => by unfold upTo rng; rw [upTo_eq n, List.map_cons]
def pRange (n : Int) : Option (List Int) := if -16777216 ≤ n ∧ n ≤ 16777216 then some (rng 0 n.toNat) else none
theorem ti_range {n : Int} {is : List Int} (h : fe env = some ((k, .int n), env1)) (hp : pRange n = some is) : iRange1 fe env = some (.gone, is.map fun i => (.own, .int i), env1) := by
  unfold pRange at hp; unfold iRange1; rw [h]; simp only; split at hp
  · rename_i q; cases hp; rw [if_pos q, upTo_eq]
  · cases hp
def pSigns (x : Str) : Option (List Str) := if x.length ≤ 16777216 then some (x.cps.toList.map fun c => ⟨#[c]⟩) else none
theorem ti_str {x : Str} {ss : List Str} (h : fe env = some ((k, .str x), env1)) (hp : pSigns x = some ss) : iSigns fe env = some (.gone, ss.map fun s => (.own, .str s), env1) := by
  unfold pSigns at hp; unfold iSigns; rw [h]; simp only; split at hp
  · rename_i q; cases hp; rw [if_pos q]; unfold signs; rw [List.map_map]; rfl
  · cases hp
theorem te_comp {it : α → T} {vs : List Nat} {fi : List S → Option (S × List T × List S)} {ft : T → List S → Option (List S)} {fc : List S → Option (Bool × List S)} {fe : List S → Option (T × List S)} {s : S} {eb : β → D} {R : σ → List S → Prop} {body : σ → α → Option (Option β × σ)} {st : σ} {r : List β × σ}
    (hi : fi env = some (s, xs.map it, env1)) (h0 : R st (wipeE env1 vs))
    (step : ∀ x st e o, R st e → body st x = some o → ∃ e', Turn vs ft fc fe (it x) e (o.1.map eb) e' ∧ R o.2 e') (q : pCompS body xs st = some r) : ∃ e2, eComp vs fi ft fc fe env = some ((.own, eL eb r.1), wipeE e2 vs) ∧ R r.2 e2 := by
  obtain ⟨e2, h1, h2⟩ := compS_ok step xs st _ [] r h0 q
  exact ⟨e2, by unfold eComp; rw [hi]; simp only [h1]; rfl, h2⟩
theorem pComp_S {body : α → Option (Option β)} : ∀ {xs : List α} {r : List β}, pComp body xs = some r → pCompS (fun (_ : Unit) x => (body x).bind fun o => some (o, ())) xs () = some (r, ())
  | [], r, h => by cases h; rfl
  | x :: xs, r, h => by
    unfold pComp at h
    obtain ⟨o, h1, h2⟩ := Option.bind_eq_some_iff.mp h
    obtain ⟨r', h3, h4⟩ := Option.bind_eq_some_iff.mp h2
    cases h4
    unfold pCompS
    rw [h1]
    show (pCompS _ xs ()).bind _ = _
    rw [pComp_S h3]; rfl
/-- .. that writes nothing and always ends -/
theorem te_compP {it : α → T} {vs : List Nat} {fi : List S → Option (S × List T × List S)} {ft : T → List S → Option (List S)} {fc : List S → Option (Bool × List S)} {fe : List S → Option (T × List S)} {s : S} {eb : β → D} {E : List S} {body : α → Option (Option β)} {r : List β}
    (hi : fi env = some (s, xs.map it, env1)) (h0 : wipeE env1 vs = E)
    (step : ∀ x o, body x = some o → Turn vs ft fc fe (it x) E (o.map eb) E) (q : pComp body xs = some r) (h1 : wipeE E vs = env1) : eComp vs fi ft fc fe env = some ((.own, eL eb r), env1) := by
  obtain ⟨e2, g1, g2⟩ := te_comp (R := fun (_ : Unit) e => e = E) hi h0 (fun x st e o hR hb => by
    subst hR
    obtain ⟨o1, h1, h2⟩ := Option.bind_eq_some_iff.mp hb
    cases h2
    exact ⟨e, step x o1 h1, rfl⟩) (pComp_S q)
  subst g2
  rw [g1, h1]
/-- .. and takes all (some) items -/
def pPick (c : α → Bool) (f : α → β) : α → Option (Option β) := fun x => some (if c x then some (f x) else none)
theorem pComp_pick {c : α → Bool} {f : α → β} : ∀ {xs : List α}, pComp (pPick c f) xs = some ((xs.filter c).map f)
  | [] => rfl
  | x :: xs => by
    unfold pComp
    rw [pComp_pick (xs := xs)]
    unfold pPick
    by_cases h : c x = true
    · rw [List.filter_cons_of_pos h]; simp [h]
    · rw [List.filter_cons_of_neg h]; simp [h]
end
end RG

set_option maxRecDepth 100000
set_option maxHeartbeats 4000000
namespace RG
open PySem PySem.Spec PyProof.Rows L2
section
variable {α β γ σ ρ : Type} {e : α → D} {e2 : β → D} {e3 : γ → D} {env env1 env2 env3 : List S} {Φ : Fl → Prop} {f g h : List S → Option Fl} {i : Nat} {k k1 : Tk} {d : D}
theorem sk_t_own_t : srcK true .own true = some (.own, .own) := rfl
theorem sk_t_own_f : srcK true .own false = some (.frz, .frz) := rfl
theorem sk_t_frz_t : srcK true .frz true = some (.frz, .own) := rfl
theorem sk_t_frz_f : srcK true .frz false = some (.frz, .frz) := rfl
theorem sk_t_old_t : srcK true .old true = some (.old, .own) := rfl
theorem sk_t_old_f : srcK true .old false = some (.old, .old) := rfl
theorem sk_t_val_t : srcK true .val true = some (.val, .own) := rfl
theorem sk_t_val_f : srcK true .val false = some (.val, .val) := rfl
theorem sk_t_bor_t : srcK true .bor true = some (.own, .own) := rfl
theorem sk_t_bor_f : srcK true .bor false = none := rfl
theorem sk_f_own_t : srcK false .own true = some (.own, .own) := rfl
theorem sk_f_own_f : srcK false .own false = some (.frz, .frz) := rfl
theorem sk_f_frz_t : srcK false .frz true = some (.frz, .own) := rfl
theorem sk_f_frz_f : srcK false .frz false = some (.frz, .frz) := rfl
theorem sk_f_old_t : srcK false .old true = some (.old, .own) := rfl
theorem sk_f_old_f : srcK false .old false = some (.old, .old) := rfl
theorem sk_f_val_t : srcK false .val true = some (.val, .own) := rfl
theorem sk_f_val_f : srcK false .val false = some (.val, .val) := rfl
theorem sk_f_bor_t : srcK false .bor true = none := rfl
theorem sk_f_bor_f : srcK false .bor false = none := rfl
theorem go_frz (he : frzE i env = env1) (h1 : Go (f env1) Φ) : Go ((fun env => f (frzE i env)) env) Φ := by subst he; exact h1
theorem go_frzS (he : frzE i env = env1) (h1 : Go (sSeq f g env1) Φ) : Go (sSeq (fun env => f (frzE i env)) g env) Φ := by subst he; exact h1
theorem go_own (he : ownE i env = env1) (h1 : Go (f env1) Φ) : Go ((fun env => f (ownE i env)) env) Φ := by subst he; exact h1
theorem go_ownS (he : ownE i env = env1) (h1 : Go (sSeq f g env1) Φ) : Go (sSeq (fun env => f (ownE i env)) g env) Φ := by subst he; exact h1
theorem lone_F {k : Tk} (h : d.flat = true) : S.lone (.t k d) = .t k d := by cases k <;> simp [S.lone, h]
theorem lone_frzN (h : d.flat = false) : S.lone (.t .frz d) = .gone := by simp [S.lone, h]
theorem lone_valN (h : d.flat = false) : S.lone (.t .val d) = .gone := by simp [S.lone, h]
theorem lone_own : S.lone (.t .own d) = .t .own d := rfl
theorem lone_old : S.lone (.t .old d) = .t .old d := rfl
theorem lone_gone : S.lone .gone = .gone := rfl
theorem lone_io : S.lone (.io d) = .io d := rfl
/-- slices -/
theorem to_none : noP env = some (none, env) := rfl
theorem to_some {fe : List S → Option (T × List S)} {n : Int} (h : fe env = some ((k, .int n), env1)) : isP fe env = some (some n, env1) := by unfold isP; rw [h]
theorem te_sl {yb : Bool} {fe : List S → Option (T × List S)} {fl fh : List S → Option (Option Int × List S)} {d' : D} {rk : Rk} {lo hi : Option Int} {k' : Tk} (hb : (yb && k.isB) = false) (h1 : fe env = some ((k, d), env1)) (h2 : fl env1 = some (lo, env2)) (h3 : fh env2 = some (hi, env3)) (h4 : oSl d lo hi = some (rk, d')) (hk : rk.kind k = k') : eSlB yb fe fl fh env = some ((k', d'), env3) := by
  have hb' : (yb && (T.s (k, d)).isBor) = false := by rw [← hb]; cases k <;> rfl
  unfold eSlB; rw [h1]; simp only [hb']; unfold eSl; rw [h1]; simp only [h2, h3, h4, Option.map_some, hk]; rfl
theorem te_slW {yb : Bool} {fe : List S → Option (T × List S)} {fl fh : List S → Option (Option Int × List S)} {d' : D} {lo hi : Option Int} (hb : (yb && k1.isB) = false) (h1 : fe env = some ((k1, d), env1)) (h2 : fl env1 = some (lo, env2)) (h3 : fh env2 = some (hi, env3)) (h4 : ∃ rk, oSl d lo hi = some (rk, d') ∧ (rk = .fresh ∨ rk = .mix)) (hk : Tk.own.le k = true) (hk2 : k1.mix.le k = true) : eW k (eSlB yb fe fl fh) env = some ((k, d'), env3) := by
  obtain ⟨rk, h4, h5⟩ := h4
  exact te_weak (te_sl hb h1 h2 h3 h4 rfl) (by rcases h5 with rfl | rfl; exact hk; exact hk2)
theorem cut_map {xs : List α} {lo hi : Option Int} : cutD (xs.map e) lo hi = (cutD xs lo hi).map e := by unfold cutD; rw [List.length_map, List.map_take, List.map_drop]
theorem l_sl_lF [FlatE e] {xs : List α} {lo hi : Option Int} : oSl (eL e xs) lo hi = some (.fresh, eL e (cutD xs lo hi)) := by unfold oSl eL; simp only [cut_map, flats_map]; rfl
theorem l_sl_lN {xs : List α} {lo hi : Option Int} : ∃ rk, oSl (eL e xs) lo hi = some (rk, eL e (cutD xs lo hi)) ∧ (rk = .fresh ∨ rk = .mix) := by
  unfold oSl eL; simp only [cut_map]
  cases D.flats ((cutD xs lo hi).map e)
  · exact ⟨_, rfl, .inr rfl⟩
  · exact ⟨_, rfl, .inl rfl⟩
theorem te_mixW {o : List D → Option (Rk × D)} {fa : List S → Option (List Ar × List S)} {as : List Ar} {ts : List T} (h1 : fa env = some (as, env1)) (ht : tmps as = some ts) (h4 : ∃ rk, o (ts.map (·.2)) = some (rk, d) ∧ (rk = .fresh ∨ rk = .mix)) (hk : Tk.own.le k = true ∧ (kJoin ts).mix.le k = true) : eW k (eOp o fa) env = some ((k, d), env1) := by
  obtain ⟨rk, h4, h5⟩ := h4
  exact te_weak (te_op h1 ht h4 rfl) (by rcases h5 with rfl | rfl; exact hk.1; exact hk.2)
theorem o_add_lN {a b c : List α} (h : pAddL a b = some c) : ∃ rk, oAdd [eL e a, eL e b] = some (rk, eL e c) ∧ (rk = .fresh ∨ rk = .mix) := by
  unfold pAddL at h; split at h
  · rename_i q
    cases h
    unfold oAdd eL
    simp only [List.length_map, List.map_append]
    rw [if_pos q]
    cases D.flats (a.map e) && D.flats (b.map e)
    · exact ⟨_, rfl, .inr rfl⟩
    · exact ⟨_, rfl, .inl rfl⟩
  · cases h
theorem o_list_lN {a : List α} : ∃ rk, oList [eL e a] = some (rk, eL e a) ∧ (rk = .fresh ∨ rk = .mix) := by
  unfold oList eL; simp only
  cases D.flats (a.map e)
  · exact ⟨_, rfl, .inr rfl⟩
  · exact ⟨_, rfl, .inl rfl⟩
theorem ta_consD {fa : List S → Option (T × List S)} {fr : List S → Option (List Ar × List S)} {as : List Ar} (h1 : fa env = some ((k, d), env1)) (hd : isDict d = true) (h2 : fr env1 = some (as, env2)) : aConsD false fa fr env = some (.tmp (k, d) :: as, env2) := by
  unfold aConsD; rw [h1]; simp only [h2, hd]; rfl
theorem ta_consT {T' : String} {fa : List S → Option (T × List S)} {fr : List S → Option (List Ar × List S)} {as : List Ar} (h1 : fa env = some ((k, d), env1)) (hd : d.isTy T' = true) (h2 : fr env1 = some (as, env2)) : aConsT T' false fa fr env = some (.tmp (k, d) :: as, env2) := by
  unfold aConsT; rw [h1]; simp only [h2, hd]; rfl
theorem tts_flat1 {t : T} (h : t.2.flat = true) : tts [t] = true := by unfold tts; simp [D.flats, h]
theorem tts_flat2 {t u : T} (h : t.2.flat = true) (h2 : u.2.flat = true) : tts [t, u] = true := by unfold tts; simp [D.flats, h, h2]
theorem tt1_flat {t : T} (h : t.2.flat = true) : tt1 t = true := by unfold tt1; rw [h]; simp
theorem te_ifP {fc : List S → Option (Bool × List S)} {f h : List S → Option (T × List S)} {b : Bool} {e : α → D} {x y : α} (hc : fc env = some (b, env)) (h1 : f env = some ((k, e x), env)) (h2 : h env = some ((k, e y), env)) : eIf fc f h env = some ((k, e (if b then x else y)), env) := by
  unfold eIf; rw [hc]; cases b
  · simpa using h2
  · simpa using h1
theorem te_pick {it : α → T} {vs : List Nat} {fi : List S → Option (S × List T × List S)} {ft : T → List S → Option (List S)} {fc : List S → Option (Bool × List S)} {fe : List S → Option (T × List S)} {s : S} {eb : β → D} {E : List S} {xs : List α} {c : α → Bool} {f : α → β}
    (hi : fi env = some (s, xs.map it, env1)) (h0 : wipeE env1 vs = E)
    (step : ∀ x, ∃ e1 e2, ft (it x) E = some e1 ∧ fc e1 = some (c x, e2) ∧ wipeE e2 vs = E ∧ (c x = true → ∃ k e3, fe e2 = some ((k, eb (f x)), e3) ∧ tt1 (k, eb (f x)) = true ∧ wipeE e3 vs = E)) (h1 : wipeE E vs = env1) :
    eComp vs fi ft fc fe env = some ((.own, eL eb ((xs.filter c).map f)), env1) := by
  refine te_compP (E := E) (body := pPick c f) hi h0 (fun x o hb => ?_) pComp_pick h1
  obtain ⟨e1, e2, g1, g2, g3, g4⟩ := step x
  unfold pPick at hb
  cases hb
  cases hc : c x with
  | false => rw [hc] at g2; exact ⟨e1, _, e2, g1, g2, .inl ⟨rfl, rfl, g3⟩⟩
  | true =>
    obtain ⟨k, e3, g5, g6, g7⟩ := g4 hc
    rw [hc] at g2
    exact ⟨e1, _, e2, g1, g2, .inr ⟨rfl, _, e3, g5, g6, rfl, g7⟩⟩

theorem pj1 {a b : α} (h : some a = some b) : a = b := Option.some.inj h
theorem pj2 {a c : α} {b d : β} (h : some (a, b) = some (c, d)) : a = c ∧ b = d := by cases h; exact ⟨rfl, rfl⟩
theorem pj3 {a a' : α} {b b' : β} {c c' : γ} (h : some (a, b, c) = some (a', b', c')) : a = a' ∧ b = b' ∧ c = c' := by cases h; exact ⟨rfl, rfl, rfl⟩
theorem pj4 {a a' : α} {b b' : β} {c c' : γ} {d d' : σ} (h : some (a, b, c, d) = some (a', b', c', d')) : a = a' ∧ b = b' ∧ c = c' ∧ d = d' := by cases h; exact ⟨rfl, rfl, rfl, rfl⟩
theorem pj5 {a a' : α} {b b' : β} {c c' : γ} {d d' : σ} {e e' : ρ} (h : some (a, b, c, d, e) = some (a', b', c', d', e')) : a = a' ∧ b = b' ∧ c = c' ∧ d = d' ∧ e = e' := by cases h; exact ⟨rfl, rfl, rfl, rfl, rfl⟩
theorem Go.of {x : Option Fl} {fl : Fl} (h : x = some fl) (q : Φ fl) : Go x Φ := ⟨fl, h, q⟩
section
variable {it : α → T} {R : σ → List S → Prop} {Z : Bool} {fi : List S → Option (S × List T × List S)} {ft : T → List S → Option (List S)} {fb : List S → Option Fl} {xs : List α} {st st' : σ}
theorem ti_lNZ {fe : List S → Option (T × List S)} [NFlat e] (h : fe env = some ((k, eL e xs), env1)) (hk : k.isB = false) : ∃ s, iSq fe env = some (s, xs.map fun x => (k.itN, e x), env1) ∧ (false && !s.clean) = false := by
  obtain ⟨s, q⟩ := ti_lN h hk
  exact ⟨s, q, rfl⟩
theorem ti_tFZ {fe : List S → Option (T × List S)} [FlatE e] (h : fe env = some ((k, eT e xs), env1)) : ∃ s, iSq fe env = some (s, xs.map fun x => (.own, e x), env1) ∧ (false && !s.clean) = false := by
  obtain ⟨s, _, q⟩ := ti_tF h
  exact ⟨s, q, rfl⟩
theorem go_forS {body : σ → α → Option σ} (hi : ∃ s, fi env = some (s, xs.map it, env1) ∧ (Z && !s.clean) = false) (h0 : R st env1)
    (step : ∀ x st e st', R st e → body st x = some st' → ∃ e1, ft (it x) e = some e1 ∧ Go (fb e1) fun fl => ∃ e2, (fl = .nx e2 ∨ fl = .ct e2) ∧ R st' e2)
    (q : pFor body xs st = some st') (hk : ∀ e2, R st' e2 → Go (g e2) Φ) : Go (sSeq (sFor Z fi ft fb) g env) Φ := by
  obtain ⟨s, h1, h2⟩ := hi
  obtain ⟨e2, h3, h4⟩ := for_ok h1 h2 h0 step q
  exact go_seq h3 (hk e2 h4)
theorem go_for {body : σ → α → Option σ} (hi : ∃ s, fi env = some (s, xs.map it, env1) ∧ (Z && !s.clean) = false) (h0 : R st env1)
    (step : ∀ x st e st', R st e → body st x = some st' → ∃ e1, ft (it x) e = some e1 ∧ Go (fb e1) fun fl => ∃ e2, (fl = .nx e2 ∨ fl = .ct e2) ∧ R st' e2)
    (q : pFor body xs st = some st') (hk : ∀ e2, R st' e2 → Φ (.nx e2)) : Go (sFor Z fi ft fb env) Φ := by
  obtain ⟨s, h1, h2⟩ := hi
  obtain ⟨e2, h3, h4⟩ := for_ok h1 h2 h0 step q
  exact go_one h3 (hk e2 h4)
theorem go_forRS {Ψ : ρ → Fl → Prop} {body : σ → α → Option (Ct ρ σ)} {c : Ct ρ σ} (hi : ∃ s, fi env = some (s, xs.map it, env1) ∧ (Z && !s.clean) = false) (h0 : R st env1)
    (step : ∀ x st e c, R st e → body st x = some c → ∃ e1, ft (it x) e = some e1 ∧ Go (fb e1) (CtPost R Ψ c))
    (q : pForR body xs st = some c) (hr : ∀ r, c = .rt r → ∀ t e2, Ψ r (.rt t e2) → Φ (.rt t e2)) (hk : ∀ st', c = .nx st' → ∀ e2, R st' e2 → Go (g e2) Φ) : Go (sSeq (sFor Z fi ft fb) g env) Φ := by
  obtain ⟨s, h1, h2⟩ := hi
  obtain ⟨fl, h3, h4⟩ := forR_ok h1 h2 h0 step q
  cases c with
  | nx st' => obtain ⟨e2, rfl, h5⟩ := h4; exact go_seq h3 (hk st' rfl e2 h5)
  | rt r => obtain ⟨t, e2, rfl, h5⟩ := h4; exact go_retS h3 (hr r rfl t e2 h5)
theorem go_forR {Ψ : ρ → Fl → Prop} {body : σ → α → Option (Ct ρ σ)} {c : Ct ρ σ} (hi : ∃ s, fi env = some (s, xs.map it, env1) ∧ (Z && !s.clean) = false) (h0 : R st env1)
    (step : ∀ x st e c, R st e → body st x = some c → ∃ e1, ft (it x) e = some e1 ∧ Go (fb e1) (CtPost R Ψ c))
    (q : pForR body xs st = some c) (hr : ∀ r, c = .rt r → ∀ t e2, Ψ r (.rt t e2) → Φ (.rt t e2)) (hk : ∀ st', c = .nx st' → ∀ e2, R st' e2 → Φ (.nx e2)) : Go (sFor Z fi ft fb env) Φ := by
  obtain ⟨s, h1, h2⟩ := hi
  obtain ⟨fl, h3, h4⟩ := forR_ok h1 h2 h0 step q
  cases c with
  | nx st' => obtain ⟨e2, rfl, h5⟩ := h4; exact go_one h3 (hk st' rfl e2 h5)
  | rt r => obtain ⟨t, e2, rfl, h5⟩ := h4; exact go_ret h3 (hr r rfl t e2 h5)
theorem go_whileS {pc : σ → Option Bool} {body : σ → Option σ} {fc : List S → Option (Bool × List S)} {n : Nat} (h0 : R st env)
    (hc : ∀ st e b, R st e → pc st = some b → ∃ e1, fc e = some (b, e1) ∧ R st e1)
    (step : ∀ st e st', R st e → body st = some st' → Go (fb e) fun fl => ∃ e2, (fl = .nx e2 ∨ fl = .ct e2) ∧ R st' e2)
    (q : pWhile pc body n st = some st') (hk : ∀ e2, R st' e2 → Go (g e2) Φ) : Go (sSeq (sWhile fc fb n) g env) Φ := by
  obtain ⟨e2, h3, h4⟩ := while_ok hc step n st env st' h0 q
  exact go_seq h3 (hk e2 h4)
theorem go_while {pc : σ → Option Bool} {body : σ → Option σ} {fc : List S → Option (Bool × List S)} {n : Nat} (h0 : R st env)
    (hc : ∀ st e b, R st e → pc st = some b → ∃ e1, fc e = some (b, e1) ∧ R st e1)
    (step : ∀ st e st', R st e → body st = some st' → Go (fb e) fun fl => ∃ e2, (fl = .nx e2 ∨ fl = .ct e2) ∧ R st' e2)
    (q : pWhile pc body n st = some st') (hk : ∀ e2, R st' e2 → Φ (.nx e2)) : Go (sWhile fc fb n env) Φ := by
  obtain ⟨e2, h3, h4⟩ := while_ok hc step n st env st' h0 q
  exact go_one h3 (hk e2 h4)
theorem go_joinS {fc : List S → Option (Bool × List S)} {b : Bool} {R : List S → Prop} (hc : fc env = some (b, env1)) (h1 : b = true → Go (f env1) fun fl => ∃ e, fl = .nx e ∧ R e) (h2 : b = false → Go (g env1) fun fl => ∃ e, fl = .nx e ∧ R e) (hk : ∀ e, R e → Go (h e) Φ) : Go (sSeq (sIf fc f g) h env) Φ := by
  obtain ⟨e, h3, h4⟩ := if_join hc h1 h2
  exact go_seq h3 (hk e h4)
theorem te_compE {vs : List Nat} {fc : List S → Option (Bool × List S)} {fe : List S → Option (T × List S)} {eb : β → D} {E : σ → List S} {body : σ → α → Option (Option β × σ)} {r : List β × σ}
    (hi : ∃ s, fi env = some (s, xs.map it, env1) ∧ (false && !s.clean) = false) (h0 : wipeE env1 vs = E st)
    (step : ∀ x st o, body st x = some o → Turn vs ft fc fe (it x) (E st) (o.1.map eb) (E o.2)) (q : pCompS body xs st = some r) (h1 : wipeE (E r.2) vs = env2) : eComp vs fi ft fc fe env = some ((.own, eL eb r.1), env2) := by
  obtain ⟨s, h2, _⟩ := hi
  obtain ⟨e2, h3, h4⟩ := te_comp (R := fun st e => e = E st) h2 h0 (fun x st e o hR hb => by subst hR; exact ⟨_, step x st o hb, rfl⟩) q
  subst h4
  rw [h3, h1]
theorem te_compPE {vs : List Nat} {fc : List S → Option (Bool × List S)} {fe : List S → Option (T × List S)} {eb : β → D} {E : List S} {body : α → Option (Option β)} {r : List β}
    (hi : ∃ s, fi env = some (s, xs.map it, env1) ∧ (false && !s.clean) = false) (h0 : wipeE env1 vs = E)
    (step : ∀ x o, body x = some o → Turn vs ft fc fe (it x) E (o.map eb) E) (q : pComp body xs = some r) (h1 : wipeE E vs = env1) : eComp vs fi ft fc fe env = some ((.own, eL eb r), env1) := by
  obtain ⟨s, h2, _⟩ := hi
  exact te_compP h2 h0 step q h1
theorem te_pickE {vs : List Nat} {fc : List S → Option (Bool × List S)} {fe : List S → Option (T × List S)} {eb : β → D} {E : List S} {c : α → Bool} {f : α → β}
    (hi : ∃ s, fi env = some (s, xs.map it, env1) ∧ (false && !s.clean) = false) (h0 : wipeE env1 vs = E)
    (step : ∀ x, ∃ e1 e2, ft (it x) E = some e1 ∧ fc e1 = some (c x, e2) ∧ wipeE e2 vs = E ∧ (c x = true → ∃ k e3, fe e2 = some ((k, eb (f x)), e3) ∧ tt1 (k, eb (f x)) = true ∧ wipeE e3 vs = E)) (h1 : wipeE E vs = env1) :
    eComp vs fi ft fc fe env = some ((.own, eL eb ((xs.filter c).map f)), env1) := by
  obtain ⟨s, h2, _⟩ := hi
  exact te_pick h2 h0 step h1
end
theorem filter_yes {xs : List α} {f : α → β} : (xs.filter fun _ => true).map f = xs.map f := by rw [List.filter_eq_self.mpr (fun _ _ => rfl)]
theorem filter_yes_id {xs : List α} : (xs.filter fun _ => true).map (fun x => x) = xs := by rw [List.filter_eq_self.mpr (fun _ _ => rfl)]; exact List.map_id' xs
theorem map_id1 {xs : List α} : xs.map (fun x => x) = xs := List.map_id' xs
def pSplit (x y : Str) : Option (List Str) := if (y.length == 0) = false ∧ x.length + 2 ≤ 16777216 ∧ (Txt.split x y).length ≤ 16777216 then some (Txt.split x y) else none
theorem o_split {x y : Str} {l : List Str} (h : pSplit x y = some l) : oSplit [.str x, .str y] = some (.fresh, eL D.str l) := by
  unfold pSplit at h; unfold oSplit; simp only; split at h
  · rename_i q; cases h; rw [if_pos q]; rfl
  · cases h
def pJoinS (x : Str) (zs : List Str) : Option Str := if (zs.map (·.length)).sum + zs.length * x.length ≤ 16777216 then some (Txt.join x zs) else none
theorem o_join_l {x s : Str} {zs : List Str} (h : pJoinS x zs = some s) : oJoin [.str x, eL D.str zs] = some (.imm, .str s) := by
  unfold pJoinS at h; unfold oJoin eL; simp only [strsOf_eL, Option.bind_some]; split at h
  · rename_i q; cases h; rw [if_pos q]
  · cases h
theorem o_join_t {x s : Str} {zs : List Str} (h : pJoinS x zs = some s) : oJoin [.str x, eT D.str zs] = some (.imm, .str s) := by
  unfold pJoinS at h; unfold oJoin eT; simp only [strsOf_eL, Option.bind_some]; split at h
  · rename_i q; cases h; rw [if_pos q]
  · cases h
theorem be_setM {C : XS} {K : PySem.W.Frag} {n : Nat} {W : List Nat} : True := trivial
end
end RG
namespace RG
open PySem PySem.Spec PyProof.Rows L2
/-- two things that a law's own comparison finds alike; n: how deep -/
def LikeD : Nat → D → D → Prop
  | 0, _, _ => False
  | n + 1, a, b => match a, b with
    | .str x, .str y => x = y ∧ PyData.strOk x = true
    | .bl x, .bl y => x = y
    | .int x, .int y => x = y
    | .non, .non => True
    | .tup ds, .tup es => ds.length = es.length ∧ ds.length ≤ 16777216 ∧ ∀ (i : Nat) (d e : D), ds[i]? = some d → es[i]? = some e → d.flat = true ∧ e.flat = true ∧ LikeD n d e
    | _, _ => False
end RG

set_option maxRecDepth 100000
set_option maxHeartbeats 4000000
namespace RG
open PySem PySem.Spec PyProof.Rows L2

section
variable {α β γ : Type} {e : α → D} {e2 : β → D} {e3 : γ → D}
/-! ### an option that is there -/
theorem eO_is {x : Option α} {a : α} (h : x = some a) : eO e x = e a := by rw [h]; rfl
def pAll : List (Option α) → Option (List α)
  | [] => some []
  | x :: xs => x.bind fun a => (pAll xs).map fun r => a :: r
theorem map_all : ∀ {xs : List (Option α)} {ys : List α}, pAll xs = some ys → xs.map (eO e) = ys.map e
  | [], ys, h => by cases h; rfl
  | x :: xs, ys, h => by
    unfold pAll at h
    cases x with
    | none => cases h
    | some a =>
      obtain ⟨r, h1, h2⟩ := Option.map_eq_some_iff.mp h
      subst h2
      rw [List.map_cons, List.map_cons, map_all h1]; rfl
theorem eL_all {xs : List (Option α)} {ys : List α} (h : pAll xs = some ys) : eL (eO e) xs = eL e ys := by unfold eL; rw [map_all h]
/-! ### None in xs -/
def pInN (e : α → D) (xs : List (Option α)) : Option Bool := if shOk (eL (eO e) xs) then some (xs.any Option.isNone) else none
class NonP (e : α → D) : Prop where
  out : ∀ a, PyData.eqv (e a).py .none = false
  out1 : ∀ a, (e a).eq1 .non = false
instance : NonP D.str := ⟨fun _ => rfl, fun _ => rfl⟩
instance (e : α → D) : NonP (eL e) := ⟨fun _ => rfl, fun _ => rfl⟩
instance (e : α → D) : NonP (eT e) := ⟨fun _ => rfl, fun _ => rfl⟩
theorem anyN [q : NonP e] : ∀ xs : List (Option α), ((D.pys (xs.map (eO e))).any fun z => PyData.eqv z .none) = xs.any Option.isNone
  | [] => rfl
  | none :: xs => by rw [List.map_cons]; unfold D.pys; rw [List.any_cons, List.any_cons, anyN xs]; rfl
  | some a :: xs => by
    rw [List.map_cons]; unfold D.pys; rw [List.any_cons, List.any_cons, anyN xs]
    show (PyData.eqv (e a).py .none || _) = _
    rw [q.out]; rfl
theorem anyN1 [q : NonP e] : ∀ xs : List (Option α), ((xs.map (eO e)).any fun y => y.eq1 .non) = xs.any Option.isNone
  | [] => rfl
  | none :: xs => by rw [List.map_cons, List.any_cons, List.any_cons, anyN1 xs]; rfl
  | some a :: xs => by
    rw [List.map_cons, List.any_cons, List.any_cons, anyN1 xs]
    show ((e a).eq1 .non || _) = _
    rw [q.out1]; rfl
theorem inRes_non [q : NonP e] {xs : List (Option α)} {c : Bool} (h : pInN e xs = some c) : inRes [.non, eL (eO e) xs] = some c := by
  unfold pInN at h
  split at h
  · rename_i hh
    cases h
    simp only [shOk, Bool.and_eq_true] at hh
    have h3' : D.pures (xs.map (eO e)) = true := hh.1
    have h4' : SeqAt.shaped (.list (D.pys (xs.map (eO e)))) = true := hh.2
    have h0 : inRes [.non, eL (eO e) xs] = (if (D.non).flat1 && (xs.map (eO e)).all D.flat1 then some ((xs.map (eO e)).any fun y => y.eq1 .non) else if (D.non).pure && D.pures (xs.map (eO e)) && SeqAt.shaped (D.non).py && SeqAt.shaped (.list (D.pys (xs.map (eO e)))) then some ((D.pys (xs.map (eO e))).any fun z => PyData.eqv z (D.non).py) else none) := rfl
    rw [h0, anyN1, h3', h4']
    have h5 : (D.non).pure = true := rfl
    have h6 : SeqAt.shaped (D.non).py = true := by kernel_rfl
    have h7 : ((D.pys (xs.map (eO e))).any fun z => PyData.eqv z (D.non).py) = xs.any Option.isNone := anyN xs
    rw [h5, h6, h7]
    simp
  · cases h
theorem o_in_non [q : NonP e] {xs : List (Option α)} {c : Bool} (h : pInN e xs = some c) : oInA [.non, eL (eO e) xs] = some (.imm, .bl c) := by unfold oInA oOr oIn; rw [inRes_non h]; rfl
theorem o_ni_non [q : NonP e] {xs : List (Option α)} {c : Bool} (h : pInN e xs = some c) : oNotInA [.non, eL (eO e) xs] = some (.imm, .bl (!c)) := by unfold oNotInA oOr oNotIn; rw [inRes_non h]; rfl
/-! ### a list of two things of two types -/
def eH2 (e : α → D) (e2 : β → D) (p : α × β) : D := .lst [e p.1, e2 p.2]
instance (e : α → D) (e2 : β → D) : NFlat (eH2 e e2) := ⟨fun _ => rfl⟩
instance (e : α → D) (e2 : β → D) : NonE (eH2 e e2) := ⟨fun _ => rfl⟩
instance [DecidableEq α] [DecidableEq β] (e : α → D) (e2 : β → D) [q : EqE e] [q2 : EqE e2] : EqE (eH2 e e2) := ⟨fun a b => by
  show PyData.eqvAll (D.pys [_, _]) (D.pys [_, _]) = _
  simp only [D.pys, PyData.eqvAll, q.out, q2.out]
  obtain ⟨a1, a2⟩ := a; obtain ⟨b1, b2⟩ := b
  by_cases h1 : a1 = b1 <;> by_cases h2 : a2 = b2 <;> simp [h1, h2]⟩
theorem o_lst_H2 [q : NFlat e] {a : α} {b : β} : oLst [e a, e2 b] = some (.mix, eH2 e e2 (a, b)) := by
  have h : D.flats [e a, e2 b] = false := by unfold D.flats; rw [q.out]; rfl
  show (if _ then some (if D.flats [e a, e2 b] then Rk.fresh else .mix, D.lst [e a, e2 b]) else none) = _
  rw [h]; rfl
theorem o_ix_h0 [q : NFlat e] {p : α × β} : oIx [eH2 e e2 p, .int 0] = some (.sub, e p.1) := by
  show some (if (e p.1).flat then Rk.imm else .sub, e p.1) = _; rw [q.out]; rfl
theorem o_ix_h1 [q : NFlat e2] {p : α × β} : oIx [eH2 e e2 p, .int 1] = some (.sub, e2 p.2) := by
  show some (if (e2 p.2).flat then Rk.imm else .sub, e2 p.2) = _; rw [q.out]; rfl
/-! ### slices of tuples -/
def cutT (xs : List α) (lo hi : Option Int) : List α := if HT.sIx xs.length 0 lo = 0 ∧ HT.sIx xs.length xs.length hi = xs.length then xs else cutD xs lo hi
theorem l_sl_tF [FlatE e] {xs : List α} {lo hi : Option Int} : oSl (eT e xs) lo hi = some (.imm, eT e (cutT xs lo hi)) := by
  unfold oSl eT cutT
  simp only [List.length_map, cut_map, flats_map]
  split <;> rfl
/-! ### >= of texts -/
variable {P : Program} {w : World} {K : PySem.W.Frag} {mg : Str → Option Value} {base : Heap} {N : List Str} {sc : Scope} {k n : Nat} {C : XS}
def oGeS : List D → Option (Rk × D) := fun ds => match ds with
  | [.str i, .str j] => some (.imm, .bl (!decide (ltS i j)))
  | _ => none
def oGeA := oOr oGe oGeS
theorem vop_geS : VOp K (rl2 fun x y H Q => ∃ i j, x = .str i ∧ y = .str j ∧ Q (.bl (!decide (i.cps.toList < j.cps.toList))) H) oGeS := by
  intro H vs ds F Q k d rl e h
  unfold oGeS at e
  split at e
  · rename_i x y
    obtain ⟨v, v', F1, F2, rfl, rfl, r1, r2⟩ := rl.i2
    cases r1.strV; cases r2.strV
    cases e
    exact ⟨x, y, rfl, rfl, h _ _ [] (Same.refl _) (.bl _) rfl⟩
  · cases e
theorem opa_geA : OpA C (compareOp .GtE) (fun x y H Q => rI0 (fun i j => .bl (decide (j ≤ i))) x y H Q ∨ ∃ i j, x = .str i ∧ y = .str j ∧ Q (.bl (!decide (i.cps.toList < j.cps.toList))) H) := opa_or opa_ge fun _ _ => op_ge_str
theorem vop_geA : VOp K (rl2 fun x y H Q => rI0 (fun i j => .bl (decide (j ≤ i))) x y H Q ∨ ∃ i j, x = .str i ∧ y = .str j ∧ Q (.bl (!decide (i.cps.toList < j.cps.toList))) H) oGeA := vop_or2 vop_ge vop_geS
theorem o_ge_s {a b : Str} : oGeA [.str a, .str b] = some (.imm, .bl (!decide (ltS a b))) := rfl
end
end RG

set_option maxRecDepth 100000
set_option maxHeartbeats 4000000
namespace RG
open PySem PySem.Spec PyProof.Rows L2

section
variable {K : PySem.W.Frag}
/-- an item of a list, that changes within -/
theorem Rep.item {H : Hp} {a0 : V} {ds : List D} {F : List Addr} {m : Nat} {d : D} (r : Rep K H a0 (.lst ds) F) (nd : F.Nodup) (hm : ds[m]? = some d) :
    ∃ (a1 : Addr) (us : List V) (v : V) (F1 F2 F3 : List Addr), a0 = .ref a1 ∧ F = a1 :: (F1 ++ F2 ++ F3) ∧ H a1 = some (.lst us) ∧ us.length = ds.length ∧ us[m]? = some v ∧ Rep K H v d F2 ∧ F2.Nodup ∧ (∀ b ∈ F2, b ∈ F) ∧
      ∀ (H' : Hp) (d' : D) (F2' : List Addr), Ext (fun b => b ∈ F2) H H' → Rep K H' v d' F2' → F2'.Nodup → (∀ b ∈ F2', b ∈ F2 ∨ b ∉ F) → Rep K H' a0 (.lst (ds.set m d')) (a1 :: (F1 ++ F2' ++ F3)) ∧ (a1 :: (F1 ++ F2' ++ F3)).Nodup := by
  cases r with
  | lst hH hz rl =>
    rename_i a1 us F0
    obtain ⟨v, F1, F2, F3, e1, e2, e3, e4, e5⟩ := rl.split hm
    subst e1
    have hml : m < ds.length := lt_of_get hm
    have nn := List.nodup_cons.mp nd
    have n12 := List.nodup_append.mp nn.2
    have n1 := List.nodup_append.mp n12.1
    have d12 : ∀ b, b ∈ F1 → b ∉ F2 := fun b m m' => n1.2.2 b m b m' rfl
    have d32 : ∀ b, b ∈ F3 → b ∉ F2 := fun b m m' => n12.2.2 b (List.mem_append_right _ m') b m rfl
    refine ⟨a1, us, v, F1, F2, F3, rfl, rfl, hH, rl.length, e2, e3, n1.2.1, fun b m => List.mem_cons_of_mem _ (List.mem_append_left _ (List.mem_append_right _ m)), fun H' d' F2' hx hr n2 hsub => ?_⟩
    have ha1 : a1 ∉ F2 := fun m => nn.1 (List.mem_append_left _ (List.mem_append_right _ m))
    have hH' : H' a1 = some (.lst us) := hx a1 _ hH (.inl ha1)
    have hml2 : m < us.length := by rw [rl.length]; exact hml
    have eu : us = us.take m ++ (v :: us.drop (m + 1)) := by
      have : us.drop m = us[m] :: us.drop (m + 1) := List.drop_eq_getElem_cons hml2
      have hv : us[m] = v := by rw [List.getElem?_eq_getElem hml2] at e2; exact Option.some.inj e2
      rw [← hv, ← this, List.take_append_drop]
    have ed : ds.set m d' = ds.take m ++ (d' :: ds.drop (m + 1)) := by rw [List.set_eq_take_append_cons_drop, if_pos hml]
    have k4 := e4.ext hx d12
    have k5 := e5.ext hx d32
    have hall : RepL K H' us (ds.set m d') (F1 ++ F2' ++ F3) := by
      rw [ed, eu, List.append_assoc]
      exact k4.append (.cons hr k5)
    refine ⟨.lst hH' hz hall, List.nodup_cons.mpr ⟨fun m => ?_, List.nodup_append.mpr ⟨List.nodup_append.mpr ⟨n1.1, n2, fun b hb c hc e => ?_⟩, n12.2.1, fun b hb c hc e => ?_⟩⟩⟩
    · rcases List.mem_append.mp m with m | m
      · rcases List.mem_append.mp m with m | m
        · exact nn.1 (List.mem_append_left _ (List.mem_append_left _ m))
        · exact (hsub a1 m).elim ha1 fun z => z List.mem_cons_self
      · exact nn.1 (List.mem_append_right _ m)
    · subst e
      exact (hsub b hc).elim (d12 b hb) fun z => z (List.mem_cons_of_mem _ (List.mem_append_left _ (List.mem_append_left _ hb)))
    · subst e
      rcases List.mem_append.mp hb with m | m
      · exact n12.2.2 b (List.mem_append_left _ m) b hc rfl
      · exact (hsub b m).elim (d32 b hc) fun z => z (List.mem_cons_of_mem _ (List.mem_append_right _ hc))
end

theorem rep_lst {K : PySem.W.Frag} {H : Hp} {v : V} {ds : List D} {F : List Addr} (r : Rep K H v (.lst ds) F) : ∃ a us, v = .ref a ∧ H a = some (.lst us) ∧ us.length = ds.length := by
  cases r with
  | lst hH _ rl => exact ⟨_, _, rfl, hH, rl.length⟩
/-! ### for x in xs: x.append(c) -/
def appAll (t : D) : List D → Option (List D)
  | [] => some []
  | .lst ys :: ds => if ys.length < 16777216 then (appAll t ds).map fun r => .lst (ys ++ [t]) :: r else none
  | _ :: _ => none
theorem appAll_get {t : D} : ∀ {ds r : List D} {m : Nat} {d : D}, appAll t ds = some r → ds[m]? = some d → ∃ ys, d = .lst ys ∧ ys.length < 16777216 ∧ r[m]? = some (.lst (ys ++ [t]))
  | [], _, _, _, _, e => by simp at e
  | d0 :: ds, r, m, d, h, e => by
    unfold appAll at h
    split at h
    · cases ‹_ = []›
    · rename_i ys ds' e0
      cases e0
      split at h
      · rename_i hl
        obtain ⟨r1, h1, h2⟩ := Option.map_eq_some_iff.mp h
        subst h2
        cases m with
        | zero => simp at e; subst e; exact ⟨ys, rfl, hl, rfl⟩
        | succ m =>
          obtain ⟨zs, q1, q2, q3⟩ := appAll_get h1 (m := m) (by simpa using e)
          exact ⟨zs, q1, q2, by simpa using q3⟩
      · cases h
    · cases h
theorem appAll_length {t : D} : ∀ {ds r : List D}, appAll t ds = some r → r.length = ds.length
  | [], _, h => by cases h; rfl
  | d0 :: ds, r, h => by
    unfold appAll at h
    split at h
    · cases ‹_ = []›
    · rename_i ys ds' e0
      cases e0
      split at h
      · obtain ⟨r1, h1, h2⟩ := Option.map_eq_some_iff.mp h
        subst h2
        simp [appAll_length h1]
      · cases h
    · cases h
def sForApp (i j : Nat) (t : D) : List S → Option Fl := fun env => match env[i]? with
  | some (.t .own (.lst ds)) => (appAll t ds).map fun r => .nx ((env.set j .gone).set i (.t .own (.lst r)))
  | _ => none
section
variable {K : PySem.W.Frag} {n : Nat} {W A B : List Nat} {Z Y : Bool}
theorem rs_forApp {i j : Nat} {ta : TA} {t : D} {pk : Pk} (hi : i < n) (hj : j < n) (hij : i ≠ j) (hf : t.flat = true) (ha : RPA K n W ta fun _ => some [(pk, t)]) :
    RS K n W [j] Z (tFor (iList K (tVar i)) (gName j) (tDrop (tBM K "list" rAppend (tVar j) ta))) (sForApp i j t) := by
  intro g FS env τ σ tv H D r hK hn hW he hs Sm nb e p
  unfold sForApp at e
  split at e
  · rename_i ds e0
    obtain ⟨rs, er, e1⟩ := Option.map_eq_some_iff.mp e
    subst e1
    subst hK
    have e0' : (env ++ τ)[i]? = some (.t .own (.lst ds)) := by rw [List.getElem?_append_left (by rw [he]; exact hi)]; exact e0
    obtain ⟨vi, evi, rvi⟩ := Sm.rep i _ _ e0' rfl
    have evi' : σ[i]? = some (some vi) := by rw [List.getElem?_append_left (by rw [hs]; exact hi)] at evi; exact evi
    obtain ⟨a, us, rfl, hH, hul⟩ := rep_lst rvi
    have hlr := appAll_length er
    -- the slots while it goes
    let E : Nat → List S := fun m => (env.set j .gone).set i (.t .own (.lst (rs.take m ++ ds.drop m)))
    have lE : ∀ m, (E m).length = n := fun m => by simp [E, he]
    have gE : ∀ m, (E m ++ τ)[i]? = some (.t .own (.lst (rs.take m ++ ds.drop m))) := fun m => by
      rw [List.getElem?_append_left (by rw [lE]; exact hi)]
      exact List.getElem?_set_self (by simp [he]; exact hi)
    have nbE : ∀ m, NoBor (E m ++ τ) := fun m k s es => by
      by_cases hk : k < n
      · rw [List.getElem?_append_left (by rw [lE]; exact hk)] at es
        by_cases k1 : k = i
        · subst k1
          rw [List.getElem?_set_self (by simp [he]; exact hk)] at es
          cases es; rfl
        · rw [List.getElem?_set_ne (Ne.symm k1)] at es
          by_cases k2 : k = j
          · subst k2
            rw [List.getElem?_set_self (by rw [he]; exact hk)] at es
            cases es; rfl
          · rw [List.getElem?_set_ne (Ne.symm k2)] at es
            cases hb : s.isBor with
            | false => rfl
            | true =>
              have := Sm.sb k s (by rw [List.getElem?_append_left (by rw [he]; exact hk)]; exact es) hb
              rw [hn] at this; omega
      · rw [List.getElem?_append_right (by rw [lE]; omega), lE] at es
        exact nb.nb _ s es
    refine ⟨_, evi', a, rfl, ⟨us, SqL.of hH⟩, fun m fuel σ' H' => fuel = ds.length - m ∧ m ≤ ds.length ∧ σ'.length = n ∧ Keep [j] σ σ' ∧ ∃ FS', Sim g FS' (E m ++ τ) (σ' ++ tv) H', ⟨ds.length, by simp, Nat.zero_le _, hs, Keep.refl, FS, ?_⟩, ?_⟩
    · have s1 : Sim g FS (env.set j .gone ++ τ) (σ ++ tv) H := Sm.sub (by simp) fun {k s} ek hd => by
        by_cases hk : k < n
        · rw [List.getElem?_append_left (by simp [he]; exact hk)] at ek
          rw [List.getElem?_append_left (by rw [he]; exact hk)]
          by_cases k2 : k = j
          · subst k2
            rw [List.getElem?_set_self (by rw [he]; exact hk)] at ek
            cases ek; cases hd
          · rwa [List.getElem?_set_ne (Ne.symm k2)] at ek
        · rw [List.getElem?_append_right (by simp [he]; omega)] at ek
          rw [List.getElem?_append_right (by rw [he]; omega)]
          simpa using ek
      have : E 0 = env.set j .gone := by
        simp only [E, List.take_zero, List.drop_zero, List.nil_append]
        refine List.ext_getElem? fun k => ?_
        by_cases k1 : k = i
        · subst k1
          rw [List.getElem?_set_self (by simp [he]; exact hi), List.getElem?_set_ne (Ne.symm hij), e0]
        · rw [List.getElem?_set_ne (Ne.symm k1)]
      rw [this]; exact s1
    · rintro m fuel σ' H' ⟨rfl, hle, l3, kp, FS', S1⟩
      obtain ⟨v1, ev1, r1⟩ := S1.rep i _ _ (gE m) rfl
      have ev2 : σ'[i]? = some (some (.ref a)) := by rw [kp i (by simp; exact hij)]; exact evi'
      have hv1 : v1 = .ref a := by
        rw [List.getElem?_append_left (by rw [l3]; exact hi), ev2] at ev1
        exact (Option.some.inj (Option.some.inj ev1)).symm
      subst hv1
      have hlen : (rs.take m ++ ds.drop m).length = ds.length := by rw [List.length_append, List.length_take, List.length_drop, hlr]; omega
      by_cases hlt : m < ds.length
      · have hdm : (rs.take m ++ ds.drop m)[m]? = ds[m]? := by
          rw [List.getElem?_append_right (by rw [List.length_take]; exact Nat.min_le_left _ _)]
          rw [List.length_take, hlr, Nat.min_eq_left hle, Nat.sub_self, List.getElem?_drop, Nat.add_zero]
        obtain ⟨ys, hys, hyl, hrm⟩ := appAll_get er (m := m) (d := ds[m]) (by simp [hlt])
        have hdm2 : (rs.take m ++ ds.drop m)[m]? = some (.lst ys) := by rw [hdm, List.getElem?_eq_getElem hlt, hys]
        have ndi := S1.nod i _ (gE m) rfl
        obtain ⟨a1, us1, v, F1, F2, F3, ea, eF, hH1, hl1, hu1, rv, n2, sub2, put⟩ := r1.item ndi hdm2
        cases ea
        refine .inr ⟨⟨us1, v, SqL.of hH1, hu1⟩, fun σ2 H2 => ∃ m', m' = ds.length - (m + 1) ∧ m + 1 ≤ ds.length ∧ σ2.length = n ∧ Keep [j] σ σ2 ∧ ∃ FS', Sim g FS' (E (m + 1) ++ τ) (σ2 ++ tv) H2, fun σ2 H2 ⟨m', q1, q2, q3⟩ => ⟨m', by omega, q1, q2, q3⟩, fun x H2 hy => ?_⟩
        obtain ⟨rfl, hy⟩ := hy
        have hx : x = v := by
          have := hy us1 (SqL.of hH1)
          rw [hu1] at this; exact (Option.some.inj this).symm
        subst hx
        have gj : ∀ s, (E m ++ τ)[j]? = some s → s = .gone := fun s es => by
          rw [List.getElem?_append_left (by rw [lE]; exact hj), List.getElem?_set_ne hij, List.getElem?_set_self (by rw [he]; exact hj)] at es
          exact (Option.some.inj es).symm
        have S2 : Sim g FS' (E m ++ τ) (σ'.set j (some x) ++ tv) H2 := S1.vals (by simp) fun k s es hd => by
          by_cases k2 : k = j
          · subst k2
            have := gj s es
            subst this; cases hd
          · by_cases hk : k < n
            · rw [List.getElem?_append_left (by simp [l3]; exact hk), List.getElem?_append_left (by rw [l3]; exact hk), List.getElem?_set_ne (Ne.symm k2)]
            · rw [List.getElem?_append_right (by simp [l3]; omega), List.getElem?_append_right (by rw [l3]; omega)]; simp
        show tDrop _ _ (σ'.set j (some x)) H2
        obtain ⟨b, rfl⟩ : ∃ b, x = .ref b := by cases rv; exact ⟨_, rfl⟩
        refine ⟨.ref b, List.getElem?_set_self (by rw [l3]; exact hj), rv.isTy rfl, ?_⟩
        refine ha g FS' (E m) τ (σ'.set j (some (.ref b))) tv H2 _ _ rfl hn hW (lE m) (by simp [l3]) S2 rfl fun ws H3 Fa s3 rl pok => ?_
        have hFa : Fa = [] := rl.flats (by show (t.flat && true) = true; rw [hf]; rfl)
        subst hFa
        have S3 := S2.same s3
        refine vm_append H3 b (.lst ys) F2 ws [t] [] _ (.lst (ys ++ [t])) .non (rv.same s3) rl n2 .nil (fun _ m => (nomatch m)) (by show (if ys.length < 16777216 then some (RG.D.lst (ys ++ [t]), RG.D.non) else none) = _; rw [if_pos hyl]) fun v' H4 F' hx dm rd nd sub rres => ?_
        have h1ne : ∀ c, H3 c = none → c ∉ FS' i := fun c hc => S3.new_ne hc (gE m) rfl
        obtain ⟨r5, nd5⟩ := put H4 (.lst (ys ++ [t])) F' ((ext_same s3).trans hx) rd nd (fun c mc => by
          rcases sub c mc with z | z | z
          · exact .inl z
          · cases z
          · exact .inr (h1ne c z))
        have evm : (σ'.set j (some (V.ref b)) ++ tv)[i]? = some (some (.ref a)) := by
          rw [List.getElem?_append_left (by simp [l3]; exact hi), List.getElem?_set_ne (Ne.symm hij)]; exact ev2
        have S4 := S3.modify (d' := .lst ((rs.take m ++ ds.drop m).set m (.lst (ys ++ [t])))) (v := .ref a) (F' := a :: (F1 ++ F' ++ F3)) (F2 := []) (gE m) rfl evm (hx.mono sub2) dm r5 nd5 (TOk.nil _) (.inl (nbE m)) (fun c mc => by
          rw [eF]
          rcases List.mem_cons.mp mc with rfl | mc
          · exact .inl List.mem_cons_self
          · rcases List.mem_append.mp mc with mc | mc
            · rcases List.mem_append.mp mc with mc | mc
              · exact .inl (List.mem_cons_of_mem _ (List.mem_append_left _ (List.mem_append_left _ mc)))
              · rcases sub c mc with z | z | z
                · exact .inl (List.mem_cons_of_mem _ (List.mem_append_left _ (List.mem_append_right _ z)))
                · cases z
                · exact .inr (.inr z)
            · exact .inl (List.mem_cons_of_mem _ (List.mem_append_right _ mc)))
        rw [List.set_append_left _ _ (by rw [lE]; exact hi)] at S4
        have eE : (E m).set i (S.with (.t .own (.lst (rs.take m ++ ds.drop m))) (.lst ((rs.take m ++ ds.drop m).set m (.lst (ys ++ [t]))))) = E (m + 1) := by
          simp only [E, List.set_set]
          congr 1
          show S.t .own (.lst _) = S.t .own (.lst _)
          congr 2
          have hlm : (rs.take m).length = m := by simp; omega
          rw [List.set_append_right _ _ (by omega), hlm, Nat.sub_self]
          have : ds.drop m = ds[m] :: ds.drop (m + 1) := List.drop_eq_getElem_cons hlt
          rw [this, List.set_cons_zero]
          have hrm' : rs.take (m + 1) = rs.take m ++ [.lst (ys ++ [t])] := by
            rw [List.take_succ, hrm]; rfl
          rw [hrm', List.append_assoc]; rfl
        rw [eE] at S4
        exact ⟨_, rfl, hlt, by simp [l3], kp.trans fun k hk => List.getElem?_set_ne (by intro z; subst z; simp at hk), _, S4⟩
      · have hm : m = ds.length := by omega
        subst hm
        refine .inl ⟨?_, ?_⟩
        · obtain ⟨a2, us2, ea2, hH2, hl2⟩ := rep_lst r1
          cases ea2
          exact ⟨_, SqL.of hH2, by rw [hl2, hlen]; exact Nat.le_refl _⟩
        · refine p σ' H' FS' (by simpa [he] using lE ds.length) l3 kp ?_
          have : E ds.length = (env.set j .gone).set i (.t .own (.lst rs)) := by
            simp only [E]
            rw [List.drop_eq_nil_of_le (Nat.le_refl _), List.append_nil, List.take_of_length_le (by rw [hlr]; exact Nat.le_refl _)]
          rw [← this]; exact S1
  · cases e
end
section
variable {P : Program} {w : World} {K : PySem.W.Frag} {mg : Str → Option Value} {base : Heap} {N : List Str} {sc : Scope} {k n : Nat} {C : XS} {W A B : List Nat} {Y Y' Y2 Z Z' : Bool}
variable {pos : Pos} {a b e : Expr} {es : List Expr}
theorem bs_forApp {i j : Nat} {x y : Str} {px py p2 p3 apos cpos : Pos} {t : D} {pk : Pk} (c : Ctx P w K mg base N sc k C) (hi : N[i]? = some y) (hy : Vis sc y) (hin : i < n) (hj : N[j]? = some x) (hx : Loc sc x) (hx2 : Vis sc x) (hjn : j < n) (hfx : FnX C x) (hij : i ≠ j) (hf : t.flat = true)
    (ha : BPA C K n W (e :: es) fun _ => some [(pk, t)])
    (hbase : ∀ env : Env, attributeBase (.Name x p2) "append" env (eval (.Name x p2) env) = eval (.Name x p2) env := by intro _; rfl)
    (hfew : ∀ env : Env, ((backTo cpos (starEach (e :: es) env)).all (fun x => !x.1) && (backToKw cpos (keywordEach [] env)).all (fun x => x.1.isSome)
      && decide ((e :: es).length + ([] : List Keyword).length + (if ([] : List Keyword).isEmpty then 0 else 1) < 30)) = true := by intro _; rfl)
    (hline : (apos.endLine == cpos.line) = true := by rfl) (hs : ∀ env : Env, starEach (e :: es) env = (false, eval e env) :: starEach es env := by intro _; rfl) (hplain : ∀ env : Env, (backTo cpos (starEach es env)).any (·.1) = false := by intro _; rfl)
    (hsw : ∀ env : Env, swapsWith (.Call (.Attribute (.Name x p2) "append" apos) (e :: es) [] cpos) none p3.line env = pure false := by intro _; rfl)
    (hfo : ∀ (env : Env) (z : Value), foldedSetIterable (.Name y py) env z = pure z := by intro _ _; rfl)
    (hd : (x == ("__debug__" : Str)) = false := by decide) (hcd : (x == ("__classdict__" : Str)) = false := by decide) (hd2 : (y == ("__debug__" : Str)) = false := by decide) (hcd2 : (y == ("__classdict__" : Str)) = false := by decide) :
    BS C K n W [j] false (.For (.Name x px) (.Name y py) [.Expr (.Call (.Attribute (.Name x p2) "append" apos) (e :: es) [] cpos) p3] [] pos) (sForApp i j t) := by
  obtain ⟨ta, a1, a2⟩ := ha
  refine ⟨tFor (iList K (tVar i)) (gName j) (tDrop (tBM K "list" rAppend (tVar j) ta)), fun X hX => ?_, rs_forApp hin hjn hij hf a2⟩
  have h1 : PE X (.Name y py) (tVar i) := pe_var (by rw [(c X hX).hN]; exact hi) (by rw [(c X hX).hsc]; exact hy) hd2 hcd2
  have h2 : PE X (.Name x p2) (tVar j) := pe_var (by rw [(c X hX).hN]; exact hj) (by rw [(c X hX).hsc]; exact hx2) hd hcd
  have hK := (c X hX).hK
  subst hK
  have h3 := pe_bm (X := X) PySem.F.plainAttrs_list PySem.F.slot_list_append PySem.F.type_list_append mt_append h2 (a1 X hX) (hbase _) (hfew _) hline (hs _) (hplain _)
  exact ps_for (passes c hX) (c X hX).calm (pi_list h1) (pg_name (by rw [(c X hX).hN]; exact (c X hX).nd) (by rw [(c X hX).hN]; exact hj) (by rw [(c X hX).hsc]; exact hx) (hfx X hX)) (pss_one (ps_expr h3 (hsw _))) (hfo _)
end
/-! ### typed -/
section
variable {α : Type} {e : α → D} {env : List S}
def pAppAll (c : α) : List (List α) → Option (List (List α))
  | [] => some []
  | ys :: xs => if ys.length < 16777216 then (pAppAll c xs).map fun r => (ys ++ [c]) :: r else none
theorem appAll_t {c : α} : ∀ {xs r : List (List α)}, pAppAll c xs = some r → appAll (e c) (xs.map (eL e)) = some (r.map (eL e))
  | [], r, h => by cases h; rfl
  | ys :: xs, r, h => by
    unfold pAppAll at h
    split at h
    · rename_i hl
      obtain ⟨r1, h1, h2⟩ := Option.map_eq_some_iff.mp h
      subst h2
      rw [List.map_cons]
      show (if (ys.map e).length < 16777216 then (appAll (e c) (xs.map (eL e))).map fun r => D.lst (ys.map e ++ [e c]) :: r else none) = _
      rw [List.length_map, if_pos hl, appAll_t h1]
      simp [eL]
    · cases h
theorem ts_forApp {i j : Nat} {c : α} {xs r : List (List α)} (h : pAppAll c xs = some r) (hi : env[i]? = some (.t .own (eL (eL e) xs))) : sForApp i j (e c) env = some (.nx ((env.set j .gone).set i (.t .own (eL (eL e) r)))) := by
  unfold sForApp
  rw [hi]
  show (appAll (e c) (xs.map (eL e))).map _ = _
  rw [appAll_t h]; rfl
end
/-! ### freezing, when several are frozen -/
def sFrz (i : Nat) (f : List S → Option Fl) : List S → Option Fl := fun env => f (frzE i env)
section
variable {P : Program} {w : World} {K : PySem.W.Frag} {mg : Str → Option Value} {base : Heap} {N : List Str} {sc : Scope} {k n : Nat} {C : XS} {W A B : List Nat} {Y Y' Y2 Z Z' : Bool} {sts : List Stmt}
theorem bss_sfrz {f : List S → Option Fl} (i : Nat) (hi : i < n) (h : BSs C K n W A Z sts f) : BSs C K n W A Z sts (sFrz i f) := bss_frz i hi h
variable {f g : List S → Option Fl} {env env1 : List S} {i : Nat} {Φ : Fl → Prop}
theorem go_sfrz (he : frzE i env = env1) (h1 : Go (f env1) Φ) : Go (sFrz i f env) Φ := by subst he; exact h1
theorem go_sfrzS (he : frzE i env = env1) (h1 : Go (sSeq f g env1) Φ) : Go (sSeq (sFrz i f) g env) Φ := by subst he; exact h1
end
/-! ### what the law's own look finds alike, lists too -/
def LikeL : Nat → D → D → Prop
  | 0, _, _ => False
  | n + 1, a, b => match a, b with
    | .str x, .str y => x = y ∧ PyData.strOk x = true
    | .bl x, .bl y => x = y
    | .int x, .int y => x = y
    | .non, .non => True
    | .tup ds, .tup es => ds.length = es.length ∧ ds.length ≤ 16777216 ∧ ∀ (i : Nat) (d e : D), ds[i]? = some d → es[i]? = some e → d.flat = true ∧ e.flat = true ∧ LikeL n d e
    | .lst ds, .lst es => ds.length = es.length ∧ ds.length ≤ 16777216 ∧ ∀ (i : Nat) (d e : D), ds[i]? = some d → es[i]? = some e → LikeL n d e
    | _, _ => False
end RG

set_option maxRecDepth 100000
set_option maxHeartbeats 4000000
namespace RG
open PySem PySem.Spec PyProof.Rows L2
def oks (ts : List (Pk × D)) : Bool := (match pJoin ts with | some .own => true | _ => false) || D.flats (ts.map (·.2))
theorem atI_natV {α : Type} {xs : List α} {m : Nat} {v : α} (h : xs[m]? = some v) : atI xs (m : Int) = some v := by
  have hm : m < xs.length := (List.getElem?_eq_some_iff.mp h).1
  unfold atI ixN
  rw [if_pos (by omega), if_pos (by omega)]
  simpa using h
def eMutI (i m : Nat) (T : String) (o : D → List D → Option (D × D)) (fa : List S → Option (List (Pk × D))) : List S → Option (RG.T × List S) := fun env => match env[i]? with
  | none => none
  | some s => match s.get with
    | some (.lst ds) => match ds[m]? with
      | none => none
      | some d0 => if d0.isTy T = false then none else match fa env with
        | none => none
        | some ts => if oks ts = false then none else match o d0 (ts.map (·.2)) with
          | none => none
          | some (d', res) => some ((.own, res), env.set i (s.with (.lst (ds.set m d'))))
    | _ => none
section
variable {K : PySem.W.Frag} {n : Nat} {W A B : List Nat} {Z Y : Bool}
theorem re_mutI {i m : Nat} {T : String} {ta : TA} {r : V → List V → Hp → VK → Prop} {o : D → List D → Option (D × D)} {fa : List S → Option (List (Pk × D))} (hi : i < n) (hT : T ≠ "str") (ha : RPA K n W ta fa) (hr : VMut K r o) :
    RE K n W true (tBM K T r (tOp (rIx' K) (tVar i) (tC (.int (m : Int)))) ta) (eMutI i m T o fa) := by
  intro g FS env τ σ tv H Q rr env' hK hn hW he hs Sm yb e h
  unfold eMutI at e
  cases e3 : env[i]? with
  | none => rw [e3] at e; cases e
  | some s =>
    simp only [e3] at e
    split at e
    · rename_i ds e4
      · cases e5 : ds[m]? with
        | none => rw [e5] at e; cases e
        | some d0 =>
          simp only [e5] at e
          split at e
          · cases e
          · rename_i hty
            have hty : d0.isTy T = true := by simpa using hty
            cases e6 : fa env with
            | none => rw [e6] at e; cases e
            | some ts =>
              simp only [e6] at e
              split at e
              · cases e
              · rename_i hok
                have hok : oks ts = true := by simpa using hok
                cases e7 : o d0 (ts.map (·.2)) with
                | none => rw [e7] at e; cases e
                | some q0 =>
                  obtain ⟨d', res⟩ := q0
                  simp only [e7, Option.some.injEq, Prod.mk.injEq] at e
                  obtain ⟨rfl, rfl⟩ := e
                  obtain ⟨w1, q1⟩ := S.get_spec e4
                  have e3' : (env ++ τ)[i]? = some s := by rw [List.getElem?_append_left (by rw [he]; exact hi)]; exact e3
                  obtain ⟨vi, evi, rvi⟩ := Sm.rep i s _ e3' q1
                  have evi' : σ[i]? = some (some vi) := by rw [List.getElem?_append_left (by rw [hs]; exact hi)] at evi; exact evi
                  subst hK
                  have nd0 := Sm.nod i s e3' (S.tree_of_wr w1)
                  obtain ⟨a1, kvs, v, F1, F2, F3, rfl, eF, hH, hkl, hlk, rv, n2, sub2, put⟩ := rvi.item nd0 e5
                  refine ⟨_, evi', .inl (.inl ⟨a1, kvs, m, v, rfl, rfl, SqL.of hH, atI_natV hlk, rv.isTy hty, ?_⟩)⟩
                  refine ha g FS env τ σ tv H _ ts rfl hn hW he hs Sm e6 fun us H1 Fa s1 rl pok => ?_
                  have S1 := Sm.same s1
                  obtain ⟨l, rfl⟩ := rv.isRef hty hT
                  have own : Fa.Nodup ∧ ∀ b ∈ Fa, H b = none := by
                    unfold oks at hok
                    cases hp : pJoin ts with
                    | none =>
                      rw [hp] at hok
                      rw [rl.flats (by simpa using hok)]; exact ⟨.nil, fun _ m => (nomatch m)⟩
                    | some kk =>
                      cases kk with
                      | own => exact pok.own hp
                      | _ =>
                        rw [hp] at hok
                        rw [rl.flats (by simpa using hok)]; exact ⟨.nil, fun _ m => (nomatch m)⟩
                  have fresh : ∀ b ∈ Fa, b ∉ FS i := fun b m m' => by
                    obtain ⟨o', eo, _⟩ := Sm.cells e3' (S.some_of_wr w1) b m'
                    rw [own.2 b m] at eo; cases eo
                  refine hr H1 l d0 F2 us _ Fa Q d' res (rv.same s1) rl n2 own.1 (fun b m m' => fresh b m (sub2 b m')) e7 fun v' H' F' hx dm rd nd sub rres => ?_
                  have h1ne : ∀ b, H1 b = none → b ∉ FS i := fun b hb => S1.new_ne hb e3' (S.some_of_wr w1)
                  obtain ⟨r5, nd5⟩ := put H' d' F' ((ext_same s1).trans hx) rd nd (fun b m => by
                    rcases sub b m with z | z | z
                    · exact .inl z
                    · exact .inr (fresh b z)
                    · exact .inr (h1ne b z))
                  have nb := S1.nobor (by rw [he, hn]) (yb rfl)
                  have S3 := S1.modify (d' := .lst (ds.set m d')) (v := .ref a1) (F' := a1 :: (F1 ++ F' ++ F3)) (F2 := Fa) e3' w1 evi (hx.mono sub2) dm r5 nd5 (Sm.tokNew own.1 own.2) (.inl nb) (fun b m => by
                    rw [eF]
                    rcases List.mem_cons.mp m with rfl | m
                    · exact .inl List.mem_cons_self
                    · rcases List.mem_append.mp m with m | m
                      · rcases List.mem_append.mp m with m | m
                        · exact .inl (List.mem_cons_of_mem _ (List.mem_append_left _ (List.mem_append_left _ m)))
                        · rcases sub b m with z | z | z
                          · exact .inl (List.mem_cons_of_mem _ (List.mem_append_left _ (List.mem_append_right _ z)))
                          · exact .inr (.inl z)
                          · exact .inr (.inr z)
                      · exact .inl (List.mem_cons_of_mem _ (List.mem_append_right _ m)))
                  rw [List.set_append_left _ _ (by rw [he]; exact hi)] at S3
                  exact h v' H' _ (by simpa using he) (S3.push rres (TOk.nil _) fun z => (nomatch z))
    · cases e
end
section
variable {P : Program} {w : World} {K : PySem.W.Frag} {mg : Str → Option Value} {base : Heap} {N : List Str} {sc : Scope} {k n : Nat} {C : XS} {W A B : List Nat} {Y Y' Y2 Z Z' : Bool}
variable {pos : Pos} {a b e : Expr} {es : List Expr}
theorem be_mutI {i m : Nat} {x : Str} {px pf pn apos cpos : Pos} {tk : Nat} {T id : String} {name : Str} {r : V → List V → Hp → VK → Prop} {o : D → List D → Option (D × D)} {fa : List S → Option (List (Pk × D))} (c : Ctx P w K mg base N sc k C) (pa : PlainAttrs T) (slot : Slot T name id) (hty : typeOf (.builtin id) = pure (.type "method_descriptor"))
    (hT : T ≠ "str") (hm : ∀ X : Cx, MtR X id r) (ho : VMut K r o) (hi : N[i]? = some x) (hx : Vis sc x) (hin : i < n) (ha : BPA C K n W (e :: es) fa)
    (hix : PlainIx (.Constant (.int (m : Int)) tk pn) := by exact fun _ _ => rfl)
    (hbase : ∀ env : Env, attributeBase (.Subscript (.Name x px) (.Constant (.int (m : Int)) tk pn) pf) name env (eval (.Subscript (.Name x px) (.Constant (.int (m : Int)) tk pn) pf) env) = eval (.Subscript (.Name x px) (.Constant (.int (m : Int)) tk pn) pf) env := by intro _; rfl)
    (hfew : ∀ env : Env, ((backTo cpos (starEach (e :: es) env)).all (fun x => !x.1) && (backToKw cpos (keywordEach [] env)).all (fun x => x.1.isSome)
      && decide ((e :: es).length + ([] : List Keyword).length + (if ([] : List Keyword).isEmpty then 0 else 1) < 30)) = true := by intro _; rfl)
    (hline : (apos.endLine == cpos.line) = true := by rfl) (hs : ∀ env : Env, starEach (e :: es) env = (false, eval e env) :: starEach es env := by intro _; rfl) (hplain : ∀ env : Env, (backTo cpos (starEach es env)).any (·.1) = false := by intro _; rfl)
    (hd : (x == ("__debug__" : Str)) = false := by decide) (hcd : (x == ("__classdict__" : Str)) = false := by decide) :
    BE C K n W true (.Call (.Attribute (.Subscript (.Name x px) (.Constant (.int (m : Int)) tk pn) pf) name apos) (e :: es) [] cpos) (eMutI i m T o fa) := by
  obtain ⟨ta, a1, a2⟩ := ha
  refine ⟨tBM K T r (tOp (rIx' K) (tVar i) (tC (.int (m : Int)))) ta, fun X hX => ?_, re_mutI hin hT a2 ho⟩
  have h0 := pe_ix (pos := pf) (opx_ix c X hX) (pe_var (i := i) (pos := px) (by rw [(c X hX).hN]; exact hi) (by rw [(c X hX).hsc]; exact hx) hd hcd) (pe_int (X := X) (i := (m : Int)) (pos := pn)) hix
  have := pe_bm (X := X) pa slot hty (hm X) h0 (a1 X hX) (hbase _) (hfew _) hline (hs _) (hplain _)
  rwa [(c X hX).hK] at this
end
section
variable {α : Type} {e : α → D} {env : List S}
theorem te_mutI_app {i m : Nat} {k : Pk} {xs : List (List α)} {ys zs : List α} {c : α} {fa : List S → Option (List (Pk × D))} (hi : env[i]? = some (.t .own (eL (eL e) xs))) (hy : xs[m]? = some ys) (h : pApp ys c = some zs) (ha : fa env = some [(k, e c)]) (hok : oks [(k, e c)] = true) :
    eMutI i m "list" mAppend fa env = some ((.own, .non), env.set i (.t .own (eL (eL e) (xs.set m zs)))) := by
  unfold eMutI
  rw [hi]
  have h1 : (xs.map (eL e))[m]? = some (eL e ys) := by rw [List.getElem?_map, hy]; rfl
  have h2 : mAppend (eL e ys) [e c] = some (eL e zs, .non) := m_app h
  have h3 : (eL e ys).isTy "list" = true := rfl
  have h4 : (S.t Tk.own (eL (eL e) xs)).get = some (.lst (xs.map (eL e))) := rfl
  simp only [h4, h1, h3, ha, hok, List.map_cons, List.map_nil, h2, Bool.true_eq_false, if_false]
  rw [← List.map_set]; rfl
end
end RG

set_option maxRecDepth 100000
set_option maxHeartbeats 4000000
namespace RG
open PySem PySem.Spec PyProof.Rows L2
/-! ### x[:a] + x[a + 1:], x shared: as a tree where x is one -/
abbrev SLR (K : PySem.W.Frag) : V → Option Int → Option Int → Hp → VK → Prop := fun x lo hi H Q => (rSlL K x lo hi H Q ∨ rSlA K x lo hi H Q) ∨ rSlS x lo hi H Q
def eDrop (i j : Nat) : List S → Option (T × List S) := fun env => match env[i]?, env[j]? with
  | some (.t k (.lst ds)), some (.t _ (.int a)) => if k ≠ .own ∧ k ≠ .bor ∧ 0 ≤ a ∧ a < ds.length then some ((k.mix, .lst (ds.eraseIdx a.toNat)), env) else none
  | _, _ => none
section
variable {K : PySem.W.Frag} {n : Nat} {W A B : List Nat} {Z Y : Bool}
theorem cutV_lo (us : List V) (m : Nat) (h : m ≤ us.length) : cutV us none (some (m : Int)) = us.take m := by
  unfold cutV
  rw [HT.sIx_none, HT.sIx_nat, Nat.min_eq_left h]
  simp
theorem cutV_hi (us : List V) (m : Nat) (h : m ≤ us.length) : cutV us (some (m : Int)) none = us.drop m := by
  unfold cutV
  rw [HT.sIx_none, HT.sIx_nat, Nat.min_eq_left h]
  exact List.take_of_length_le (by simp)
theorem erase_take {α : Type} (xs : List α) (m : Nat) : xs.eraseIdx m = xs.take m ++ xs.drop (m + 1) := List.eraseIdx_eq_take_drop_succ xs m
theorem re_drop {i j : Nat} (hi : i < n) (hj : j < n) :
    RE K n W false (tOp rAdd' (tSl (SLR K) (tVar i) tNoPart (tPart (tVar j))) (tSl (SLR K) (tVar i) (tPart (tOp rAdd' (tVar j) (tC (.int 1)))) tNoPart)) (eDrop i j) := by
  intro g FS env τ σ tv H Q rr env' hK hn hW he hs Sm yb e h
  unfold eDrop at e
  split at e
  · rename_i k ds k2 a e1 e2
    split at e
    · rename_i hc
      obtain ⟨ho, hb, h0, hlt⟩ := hc
      cases e
      subst hK
      have e1' : (env ++ τ)[i]? = some (.t k (.lst ds)) := by rw [List.getElem?_append_left (by rw [he]; exact hi)]; exact e1
      have e2' : (env ++ τ)[j]? = some (.t k2 (.int a)) := by rw [List.getElem?_append_left (by rw [he]; exact hj)]; exact e2
      obtain ⟨vi, evi, rvi⟩ := Sm.rep i _ _ e1' rfl
      obtain ⟨vj, evj, rvj⟩ := Sm.rep j _ _ e2' rfl
      have evi' : σ[i]? = some (some vi) := by rw [List.getElem?_append_left (by rw [hs]; exact hi)] at evi; exact evi
      have evj' : σ[j]? = some (some vj) := by rw [List.getElem?_append_left (by rw [hs]; exact hj)] at evj; exact evj
      cases rvj.intV
      obtain ⟨a0, us, F', rfl, eF, hH, rl, hz⟩ := rvi.lstV
      obtain ⟨m, rfl⟩ := Int.eq_ofNat_of_zero_le h0
      have hm : m < ds.length := by exact_mod_cast hlt
      have hmu : m < us.length := by rw [rl.length]; exact hm
      have tk : TOk g FS (env ++ τ) k (FS i) := by
        refine ⟨fun z => ⟨Sm.nod i _ e1' (Tk.tree z), Sm.fr i k _ e1' z⟩, fun z => ?_, fun z => absurd z ho, fun z q s ej hw a m m' => ?_, fun q s ej hw hj a m m' => ?_⟩
        · subst z; exact Sm.od i _ e1'
        · exact Sm.dis q i s _ (fun z => by subst z; rw [e1'] at ej; cases ej; cases k <;> first | exact absurd rfl ho | cases hw) ej e1' hw rfl (fun q => by cases k <;> first | exact absurd rfl hb | exact Bool.noConfusion q) a m' m
        · exact Sm.dis q i s _ (fun z => by subst z; rw [e1'] at ej; cases ej; cases k <;> first | exact absurd rfl ho | cases hw) ej e1' hw rfl (fun _ => hj) a m' m
      obtain ⟨v, F1, F2, F3, e3, e4, e5, e6, e7⟩ := rl.split (i := m) (d := ds[m]) (by simp [hm])
      refine ⟨_, evi', _, evj', (m : Int), rfl, .inl (.inl ⟨a0, us, rfl, SqL.of hH, fun p hp => ?_⟩)⟩
      have s1 : Same H (upd H p (.lst (cutV us none (some (m : Int))))) := same_upd hp
      have hH1 := s1 _ _ hH
      refine ⟨_, evi', _, evj', .inl ⟨_, _, rfl, rfl, _, rfl, .inl (.inl ⟨a0, us, rfl, SqL.of hH1, fun q hq => ?_⟩)⟩⟩
      have s2 := same_upd (o := .lst (cutV us (some ((m : Int) + 1)) none)) hq
      refine .inr (.inr ⟨p, q, _, _, rfl, rfl, s2 _ _ (upd_same ..), upd_same .., ?_, fun r hr => ?_⟩)
      · rw [cutV_lo us m (Nat.le_of_lt hmu), show ((m : Int) + 1) = ((m + 1 : Nat) : Int) from rfl, cutV_hi us (m + 1) hmu]
        rw [List.length_take, List.length_drop]
        exact Nat.le_trans (by omega) hz
      · rw [cutV_lo us m (Nat.le_of_lt hmu), show ((m : Int) + 1) = ((m + 1 : Nat) : Int) from rfl, cutV_hi us (m + 1) hmu] at hr ⊢
        have s3 := same_upd (o := .lst (us.take m ++ us.drop (m + 1))) hr
        rw [cutV_lo us m (Nat.le_of_lt hmu)] at s1
        rw [cutV_lo us m (Nat.le_of_lt hmu), show ((m : Int) + 1) = ((m + 1 : Nat) : Int) from rfl, cutV_hi us (m + 1) hmu] at s2
        have sA := (s1.trans s2).trans s3
        have hrH : H r = none := (s1.trans s2).free hr
        have rn : Rep g.K (upd (upd (upd H p (.lst (us.take m))) q (.lst (us.drop (m + 1)))) r (.lst (us.take m ++ us.drop (m + 1)))) (.ref r) (.lst (ds.eraseIdx m)) (r :: (F1 ++ F3)) := by
          rw [erase_take]
          refine .lst (upd_same ..) ?_ ((e6.append e7).same sA)
          rw [List.length_append, List.length_take, List.length_drop]
          exact Nat.le_trans (by omega) hz
        have ok : Rk.mix.Ok H (FS i) (r :: (F1 ++ F3)) := by
          refine ⟨fun b mb => ?_, fun nd => ?_⟩
          · rcases List.mem_cons.mp mb with rfl | mb
            · exact .inr hrH
            · refine .inl ?_
              rw [eF, e3]
              rcases List.mem_append.mp mb with mb | mb
              · exact List.mem_cons_of_mem _ (List.mem_append_left _ (List.mem_append_left _ mb))
              · exact List.mem_cons_of_mem _ (List.mem_append_right _ mb)
          · rw [eF, e3] at nd
            have n0 := (List.nodup_cons.mp nd).2
            have nn := List.nodup_append.mp n0
            have n1 := List.nodup_append.mp nn.1
            refine List.nodup_cons.mpr ⟨fun mb => ?_, List.nodup_append.mpr ⟨n1.1, nn.2.1, fun b hb c hc => nn.2.2 b (List.mem_append_left _ hb) c hc⟩⟩
            have hd : ∀ b ∈ F', H b ≠ none := fun b hb z => by
              obtain ⟨o, eo, _⟩ := rl.dom b hb
              rw [z] at eo; cases eo
            refine hd r ?_ hrH
            rw [e3]
            rcases List.mem_append.mp mb with mb | mb
            · exact List.mem_append_left _ (List.mem_append_left _ mb)
            · exact List.mem_append_right _ mb
        have tk2 := TOk.rk (k := .mix) Sm tk ok
        exact h _ _ _ he ((Sm.same sA).push rn tk2 fun _ => by rw [List.length_append, he, hn]; exact Nat.le_add_right _ _)
    · cases e
  · cases e
end
section
variable {P : Program} {w : World} {K : PySem.W.Frag} {mg : Str → Option Value} {base : Heap} {N : List Str} {sc : Scope} {k n : Nat} {C : XS} {W A B : List Nat} {Y Y' Y2 Z Z' : Bool}
variable {pos : Pos} {a b e : Expr} {es : List Expr}
theorem be_drop {i j : Nat} {x y : Str} {p1 p2 p3 p4 p5 p6 p7 p8 p9 pa : Pos} {tk : Nat} (c : Ctx P w K mg base N sc k C) (hi : N[i]? = some x) (hx : Vis sc x) (hin : i < n) (hj : N[j]? = some y) (hy : Vis sc y) (hjn : j < n)
    (hd : (x == ("__debug__" : Str)) = false := by decide) (hcd : (x == ("__classdict__" : Str)) = false := by decide) (hd2 : (y == ("__debug__" : Str)) = false := by decide) (hcd2 : (y == ("__classdict__" : Str)) = false := by decide) :
    BE C K n W false (.BinOp (.Subscript (.Name x p1) (.Slice none (some (.Name y p2)) none p3) p4) .Add (.Subscript (.Name x p5) (.Slice (some (.BinOp (.Name y p6) .Add (.Constant (.int 1) tk p7) p8)) none none p9) pa) pos) (eDrop i j) := by
  refine ⟨_, fun X hX => ?_, re_drop hin hjn⟩
  have h1 : ∀ p, PE X (.Name x p) (tVar i) := fun p => pe_var (by rw [(c X hX).hN]; exact hi) (by rw [(c X hX).hsc]; exact hx) hd hcd
  have h2 : ∀ p, PE X (.Name y p) (tVar j) := fun p => pe_var (by rw [(c X hX).hN]; exact hj) (by rw [(c X hX).hsc]; exact hy) hd2 hcd2
  have h3 : PE X (.BinOp (.Name y p6) .Add (.Constant (.int 1) tk p7) p8) (tOp rAdd' (tVar j) (tC (.int 1))) := pe_op (opa_add X hX) (h2 p6) (pe_int (X := X) (i := 1) (pos := p7))
  have q1 := pe_slice (X := X) (p2 := p3) (pos := p4) (((sl_list (X := X)).or sl_tupA).or sl_str) (h1 p1) po_none (po_some (h2 p2))
  have q2 := pe_slice (X := X) (p2 := p9) (pos := pa) (((sl_list (X := X)).or sl_tupA).or sl_str) (h1 p5) (po_some h3) po_none
  have := pe_op (pos := pos) (opa_add X hX) q1 q2
  rwa [(c X hX).hK] at this
end
section
variable {α : Type} {e : α → D} {env : List S}
def pDrop (xs : List α) (a : Int) : Option (List α) := if 0 ≤ a ∧ a < xs.length then some (xs.eraseIdx a.toNat) else none
theorem map_erase {β : Type} (f : α → β) (xs : List α) (m : Nat) : (xs.eraseIdx m).map f = (xs.map f).eraseIdx m := by
  rw [erase_take, erase_take, List.map_append, List.map_take, List.map_drop]
theorem te_drop {i j : Nat} {k k2 k3 : Tk} {xs ys : List α} {a : Int} (h1 : env[i]? = some (.t k (eL e xs))) (h2 : env[j]? = some (.t k2 (.int a))) (h : pDrop xs a = some ys) (hk : k ≠ .own) (hb : k ≠ .bor) (hm : k.mix = k3) : eDrop i j env = some ((k3, eL e ys), env) := by
  unfold pDrop at h
  split at h
  · rename_i q
    cases h
    unfold eDrop
    rw [h1, h2]
    show (if k ≠ .own ∧ k ≠ .bor ∧ 0 ≤ a ∧ a < ((xs.map e).length : Int) then some ((k.mix, D.lst ((xs.map e).eraseIdx a.toNat)), env) else none) = _
    rw [List.length_map, if_pos ⟨hk, hb, q.1, q.2⟩, hm, ← map_erase]; rfl
  · cases h
end
end RG

set_option maxRecDepth 100000
set_option maxHeartbeats 4000000
/-! ### dicts whose keys are tuples and whose values are texts: == -/
namespace RG
open PySem PySem.W PySem.Calls PySem.Spec PyProof.Rows PyProof.V
section
variable {prog : Program} {w : World} {κ : Type} [DecidableEq κ] {knd : HeapKind prog w κ} {A : Around} {E : Value → Shared → Prop} {s : Shared}
inductive HitsH {κ : Type} [DecidableEq κ] (prog : Program) (w : World) (A : Around) (s : Shared) (kb : List (κ × Addr × Value)) : List (κ × Addr × Value) → Bool → Prop
  | nil : HitsH prog w A s kb [] true
  | miss {k : κ} {p : Addr × Value} {r : List (κ × Addr × Value)} : atKey kb k = none → HitsH prog w A s kb ((k, p) :: r) false
  | hit {k : κ} {p q : Addr × Value} {r : List (κ × Addr × Value)} {e b : Bool} : atKey kb k = some q → SeqAt.EqP prog w A s p.2 q.2 e → HitsH prog w A s kb r b → HitsH prog w A s kb ((k, p) :: r) (e && b)
theorem HitsH.inv {kb : List (κ × Addr × Value)} {k : κ} {p : Addr × Value} {r : List (κ × Addr × Value)} {b : Bool} (h : HitsH prog w A s kb ((k, p) :: r) b) :
    (atKey kb k = none ∧ b = false) ∨ ∃ q e b', atKey kb k = some q ∧ SeqAt.EqP prog w A s p.2 q.2 e ∧ HitsH prog w A s kb r b' ∧ b = (e && b') := by
  cases h with
  | miss hn => exact .inl ⟨hn, rfl⟩
  | hit hy he hr => exact .inr ⟨_, _, _, hy, he, hr, rfl⟩
theorem samePairsH {nm : String} {a b : Addr} {ka kb : List (κ × Addr × Value)} {r : Bool} {Q : Bool → Shared → Prop} (ha : (a == sysModules) = false) (hb : (b == sysModules) = false) (hu : knd.room A)
    (da : s.heap.DictOfH knd a ka) (db : s.heap.DictOfH knd b kb) (hits : ka.length = kb.length → HitsH prog w A s kb ka r) (h : Q (ka.length == kb.length && r) s) :
    wpAny (model prog w) A (Builtin.Dict.samePairs nm a b) Q E s := by
  obtain ⟨oa, es, ep, hoa, _, hda, hea, hka, hna⟩ := da
  obtain ⟨ob, es', ep', hob, _, hdb, heb, hkb, hnb⟩ := db
  have hla : ka.length = es.size := (size_of_entries hea).symm
  have hlb : kb.length = es'.size := (size_of_entries heb).symm
  rw [hla, hlb] at h
  unfold Builtin.Dict.samePairs Builtin.Dict.showsAll
  rw [if_neg (show ¬ (a == sysModules) = true by rw [ha]; exact Bool.false_ne_true), if_neg (show ¬ (b == sysModules) = true by rw [hb]; exact Bool.false_ne_true)]
  refine wpAny_bind (wpAny_pure (wpAny_bind (wpAny_pure ?_)))
  refine wpAny_bind (wpAny_dictEntries hoa hda ?_)
  dsimp only
  refine wpAny_bind (wpAny_dictEntries hob hdb ?_)
  by_cases hsz : es.size = es'.size
  case neg =>
    rw [if_pos (by simpa using hsz)]
    have hbf : (es.size == es'.size) = false := by simpa using hsz
    rw [hbf, Bool.false_and] at h
    exact wpAny_bind (wpAny_rule (wpAny_pure h))
  case pos =>
    have h' : Q r s := by simpa [hsz] using h
    have hits' := hits (by rw [hla, hlb]; exact hsz)
    rw [if_neg (by rw [hsz]; simp)]
    refine wpAny_bind (wpAny_dictEpoch hoa hda ?_)
    refine wpAny_bind ?_
    rw [Std.Legacy.Range.forIn_eq_forIn_range']
    simp only [Std.Legacy.Range.size, Nat.sub_zero, Nat.add_sub_cancel, Nat.div_one]
    refine wpAny_forIn_list _
      (fun rest q s' => s' = s ∧ q = (none, ()) ∧ ∃ i, rest = List.range' i (es.size - i) ∧ i ≤ es.size ∧ HitsH prog w A s kb (ka.drop i) r)
      _ ?_ ?_ _ _ ⟨rfl, rfl, 0, by simp, Nat.zero_le _, hits'⟩
    · rintro x rest q s' ⟨rfl, rfl, i, hr, hi, hpre⟩
      have hlt : i < es.size := by
        rcases Nat.lt_or_ge i es.size with h | h
        · exact h
        · rw [Nat.sub_eq_zero_of_le h] at hr; simp at hr
      obtain ⟨rfl, hrest⟩ : x = i ∧ rest = List.range' (i + 1) (es.size - (i + 1)) := by
        have e : es.size - i = (es.size - (i + 1)) + 1 := by omega
        rw [e, List.range'_succ] at hr
        injection hr with h1 h2
        exact ⟨h1, h2⟩
      refine wpAny_bind (wpAny_dictEntries hoa hda ?_)
      have hlt' : x < ka.length := by rw [hla]; exact hlt
      obtain ⟨⟨k, pa, pv⟩, hkv⟩ : ∃ y, ka[x]? = some y := ⟨ka[x], by simp [hlt']⟩
      have hex : es[x]? = some ⟨knd.hash k, .ref pa, pv⟩ := by rw [entry_at hea x, hkv]; rfl
      have hdrop : ka.drop x = (k, pa, pv) :: ka.drop (x + 1) := by
        rw [List.drop_eq_getElem_cons hlt']
        congr 1
        rw [List.getElem?_eq_getElem hlt'] at hkv
        exact Option.some.inj hkv
      have hkey : knd.is s'.heap k pa := hka _ (List.mem_of_getElem? hkv)
      rw [hex]
      rw [hdrop] at hpre
      show wpAny _ _ (holding [Value.ref pa, pv] _ >>= _) _ _ _
      refine wpAny_bind (wpAny_holding (wpAny_bind (wpAny_dictFind_heap hu hkey hob hdb heb hkb hnb (fun hno => ?_) (fun j p hj => ?_))))
      · have hn : atKey kb k = none := atKey_none_of_get hno
        rcases hpre.inv with ⟨_, er⟩ | ⟨y, _, _, hy, _⟩
        · rw [er] at h'
          refine wpAny_pure ?_
          show wpAny _ _ (if (!false) = true then _ else _) _ _ _
          rw [if_pos (by decide)]
          exact wpAny_pure (wpAny_pure h')
        · rw [hn] at hy; exact nomatch hy
      · have hv' : atKey kb k = some p := atKey_of_get hnb hj
        refine wpAny_bind (wpAny_dictEntries hob hdb ?_)
        have hej : es'[j]? = some ⟨knd.hash k, .ref p.1, p.2⟩ := by rw [entry_at heb j, hj]; rfl
        rw [hej]
        rcases hpre.inv with ⟨hn, _⟩ | ⟨y, e, b', hy, he, hrr, er⟩
        · rw [hv'] at hn; exact nomatch hn
        · have ey : p = y := Option.some.inj (hv'.symm.trans hy)
          subst ey
          refine wpAny_holding (he _ _ ?_)
          cases e with
          | false =>
            rw [er, Bool.false_and] at h'
            show wpAny _ _ (if (!false) = true then _ else _) _ _ _
            rw [if_pos (by decide)]
            exact wpAny_pure (wpAny_pure h')
          | true =>
            rw [Bool.true_and] at er
            rw [← er] at hrr
            show wpAny _ _ (if (!true) = true then _ else _) _ _ _
            rw [if_neg (by decide)]
            refine wpAny_bind (wpAny_dictEpoch hoa hda ?_)
            rw [if_neg (by simp)]
            exact wpAny_pure ⟨rfl, rfl, x + 1, hrest, hlt, hrr⟩
    · rintro q s' ⟨rfl, rfl, i, hr, hi, hpre⟩
      have hin : i = es.size := by
        rcases Nat.lt_or_ge i es.size with h | h
        · have e : es.size - i = (es.size - (i + 1)) + 1 := by omega
          rw [e, List.range'_succ] at hr; exact nomatch hr
        · exact Nat.le_antisymm hi h
      refine wpAny_pure ?_
      rw [hin, ← hla, List.drop_length] at hpre
      cases hpre
      exact h'
theorem eqDictsH {a b : Addr} {ka kb : List (κ × Addr × Value)} {r : Bool} {Q : Value → Shared → Prop} (ha : (a == sysModules) = false) (hb : (b == sysModules) = false) (hr : knd.room A.in1)
    (da : s.heap.DictOfH knd a ka) (db : s.heap.DictOfH knd b kb) (hu : A.units < cLine) (hits : ka.length = kb.length → HitsH prog w A.in1 s kb ka r) (h : Q (.bool (ka.length == kb.length && r)) s) : wpAny (model prog w) A (compareOp .Eq (.ref a) (.ref b)) Q E s := by
  refine wpAny_richCompare_same_room (op := .Eq) da.typeIs db.typeIs PySem.F.slot_dict_eq (wpAny_call_entry PySem.F.slot_dict_eq da.typeIs PySem.F.entry_dict_eq ?_ (PySem.F.args_dict_eq_2 _ _)) hu
  show wpAny _ _ (Builtin.Dict.dictSlotArgs "__eq__" ⟨[.ref a, .ref b], []⟩ >>= _) _ _ s
  refine wpAny_bind ?_
  unfold Builtin.Dict.dictSlotArgs
  refine wpAny_bind (wpAny_notOrdered_dict da.typeIs ?_)
  show wpAny _ _ (pure (Value.ref a, Value.ref b)) _ _ s
  refine wpAny_pure ?_
  refine wpAny_bind (wpAny_isInstance (T := "dict") db.typeIs PySem.F.sub_dict_dict ?_)
  simp only [Bool.not_true, Bool.false_eq_true, if_false]
  refine wpAny_bind (wpAny_pure (wpAny_bind (wpAny_pure ?_)))
  refine wpAny_bind (samePairsH ha hb hr da db hits ?_)
  refine wpAny_pure ⟨_, rfl, ?_, ?_⟩
  · exact fun x => nomatch x
  · simpa using h
end
end RG
namespace RG
open PySem PySem.Spec PyProof.Rows L2
def txV : V → Option Str
  | .str x => some x
  | _ => none
def eqTV (ks ls : List (List Key × V)) : Bool := ks.length == ls.length && ks.all fun p => decide (valV ls p.1 = some p.2)
def rEqT : R2 := fun x y H Q => ∃ a b ks ls, x = .ref a ∧ y = .ref b ∧ H a = some (.dT ks) ∧ H b = some (.dT ls) ∧ (∀ p ∈ ks, ∃ z, p.2 = V.str z) ∧ (∀ p ∈ ls, ∃ z, p.2 = V.str z) ∧
  ∀ r : Bool, (r = true ↔ ks.length = ls.length ∧ ∀ p ∈ ks, valV ls p.1 = some p.2) → Q (.bl r) H
section
variable {X : Cx}
theorem valV_mem {κ : Type} [DecidableEq κ] {ls : List (κ × V)} {k : κ} {v : V} (h : valV ls k = some v) : ∃ p ∈ ls, p.2 = v := by
  obtain ⟨p, h1, h2⟩ := Option.map_eq_some_iff.mp h
  exact ⟨p, List.mem_of_find?_eq_some h1, h2⟩
theorem hitsT {prog : Program} {w : World} {A : Around} {s : Shared} {H : Hp} {ls : List (List Key × V)} {xb : List (List Key × Addr × Value)} (rb : KT H ls xb) (hb : ∀ p ∈ ls, ∃ z, p.2 = V.str z) : ∀ {ks : List (List Key × V)} {xa : List (List Key × Addr × Value)}, KT H ks xa → (∀ p ∈ ks, ∃ z, p.2 = V.str z) →
    ∃ r : Bool, HitsH prog w A s xb xa r ∧ (r = true ↔ ∀ p ∈ ks, valV ls p.1 = some p.2) := by
  intro ks xa ra
  induction ra with
  | nil => intro _; exact ⟨true, .nil, by simp⟩
  | @cons p q ps qs h t ih =>
    intro hp
    obtain ⟨r, h1, h2⟩ := ih fun p' m => hp p' (List.mem_cons_of_mem _ m)
    obtain ⟨e1, _, e3⟩ := h
    obtain ⟨z, ez⟩ := hp p List.mem_cons_self
    rw [ez] at e3
    obtain ⟨t1, e3⟩ := e3
    have rv := rb.val p.1
    obtain ⟨k, pa, pv⟩ := q
    have e1' : p.1 = k := e1
    have e3' : pv = .str z t1 := e3
    subst e1'
    cases ev : valV ls p.1 with
    | none =>
      rw [ev] at rv
      have hn : atKey xb p.1 = none := by
        cases ha : atKey xb p.1 with
        | none => rfl
        | some y => rw [ha] at rv; exact rv.elim
      refine ⟨false, .miss hn, ⟨fun q => (nomatch q), fun q => ?_⟩⟩
      have := q p List.mem_cons_self
      rw [ev] at this; cases this
    | some v =>
      rw [ev] at rv
      obtain ⟨p2, m2, e2⟩ := valV_mem ev
      obtain ⟨z2, ez2⟩ := hb p2 m2
      rw [e2] at ez2
      subst ez2
      cases ha : atKey xb p.1 with
      | none => rw [ha] at rv; exact rv.elim
      | some y =>
        rw [ha] at rv
        obtain ⟨t2, rv⟩ := rv
        have rv' : y.2 = .str z2 t2 := rv
        refine ⟨(z == z2) && r, .hit ha (by rw [rv', e3']; exact (SeqAt.EqAt.str_str z t1 z2 t2).eqP) h1, ?_⟩
        rw [Bool.and_eq_true, h2]
        constructor
        · rintro ⟨q1, q2⟩ p' m
          rcases List.mem_cons.mp m with rfl | m
          · rw [ev, ez, eq_of_beq q1]
          · exact q2 p' m
        · intro q
          refine ⟨?_, fun p' m => q p' (List.mem_cons_of_mem _ m)⟩
          have := q p List.mem_cons_self
          rw [ev, ez] at this
          cases this; exact beq_self_eq_true _
theorem op_eqT (hu : X.A.units + 1 < cLine) : OpR X (compareOp .Eq) rEqT := by
  intro pins s σ H x y v u Q I rx ry h
  obtain ⟨a, b, ks, ls, rfl, rfl, ea, eb, ha, hb, q⟩ := h
  obtain rfl : v = Value.ref a := rx
  obtain rfl : u = Value.ref b := ry
  obtain ⟨_, ya, xa, ra, da⟩ := dt_of I.hok ea
  obtain ⟨_, yb, xb, rb, db⟩ := dt_of I.hok eb
  obtain ⟨r, h1, h2⟩ := hitsT (prog := X.prog) (w := X.w) (A := X.A.in1) (s := s) rb hb ra ha
  have hl1 : ks.length = xa.length := ra.length
  have hl2 : ls.length = xb.length := rb.length
  refine eqDictsH ya yb (tupleKind_room_in1 hu) da db (by omega) (fun _ => h1) (fin_bl I (q (xa.length == xb.length && r) ?_) rfl)
  rw [Bool.and_eq_true, h2, hl1, hl2, beq_iff_eq]
end
/-! #### by deep values -/
def txD : List (List Key × D) → Bool
  | [] => true
  | (_, .str _) :: r => txD r
  | _ => false
def oEqT : List D → Option (Rk × D) := fun ds => match ds with
  | [.dT as, .dT bs] => if txD as && txD bs then some (.imm, .bl (as.length == bs.length && as.all fun p => match p.2, valD bs p.1 with
      | .str x, some (.str y) => decide (x = y)
      | _, _ => false)) else none
  | _ => none
def oEqA := oOr oEq oEqT
theorem txD_rep {K : PySem.W.Frag} {H : Hp} : ∀ {ks : List (List Key × V)} {as : List (List Key × D)} {F : List Addr}, ks.map (·.1) = as.map (·.1) → RepL K H (ks.map (·.2)) (as.map (·.2)) F → txD as = true → ∀ p ∈ ks, ∃ z, p.2 = V.str z
  | [], _, _, _, _, _, p, m => nomatch m
  | _ :: _, [], _, e, _, _, _, _ => by simp at e
  | (k, v) :: ks, (k', d) :: as, F, e, r, h, p, m => by
    simp only [List.map_cons, List.cons.injEq] at e
    cases r with
    | cons r1 r2 =>
      cases d with
      | str x =>
        rcases List.mem_cons.mp m with rfl | m
        · exact ⟨x, r1.strV⟩
        · exact txD_rep e.2 r2 h p m
      | _ => cases h
theorem eqT_rep {K : PySem.W.Frag} {H : Hp} {ls : List (List Key × V)} {bs : List (List Key × D)} (e2 : ls.map (·.1) = bs.map (·.1)) (r2 : RepL K H (ls.map (·.2)) (bs.map (·.2)) []) : ∀ {ks : List (List Key × V)} {as : List (List Key × D)} {F : List Addr}, ks.map (·.1) = as.map (·.1) → RepL K H (ks.map (·.2)) (as.map (·.2)) F → txD as = true → txD bs = true →
    ((as.all fun p => match p.2, valD bs p.1 with
      | .str x, some (.str y) => decide (x = y)
      | _, _ => false) = true ↔ ∀ p ∈ ks, valV ls p.1 = some p.2)
  | [], [], _, _, _, _, _ => by simp
  | [], _ :: _, _, e, _, _, _ => by simp at e
  | _ :: _, [], _, e, _, _, _ => by simp at e
  | (k, v) :: ks, (k', d) :: as, F, e, r, h, hb => by
    simp only [List.map_cons, List.cons.injEq] at e
    obtain ⟨e1, e⟩ := e
    subst e1
    cases r with
    | cons r1 r3 =>
      cases d with
      | str x =>
        have ih := eqT_rep e2 r2 e r3 h hb
        rw [List.all_cons, Bool.and_eq_true, ih]
        cases r1.strV
        obtain ⟨q1, q2⟩ := val_rep (k := k) e2 r2 rfl
        have one : ((match D.str x, valD bs k with
          | .str x, some (.str y) => decide (x = y)
          | _, _ => false) = true) ↔ valV ls k = some (.str x) := by
          cases ev : valD bs k with
          | none => rw [q2 ev]; simp
          | some d2 =>
            obtain ⟨v2, q3, q4⟩ := q1 d2 ev
            rw [q3]
            cases q4 <;> simp [eq_comm]
        constructor
        · rintro ⟨a1, a2⟩ p m
          rcases List.mem_cons.mp m with rfl | m
          · exact one.mp a1
          · exact a2 p m
        · intro q
          exact ⟨one.mpr (q _ List.mem_cons_self), fun p m => q p (List.mem_cons_of_mem _ m)⟩
      | _ => cases h
section
variable {P : Program} {w : World} {K : PySem.W.Frag} {mg : Str → Option Value} {base : Heap} {N : List Str} {sc : Scope} {k n : Nat} {C : XS}
theorem opa_eqT (c : Ctx P w K mg base N sc k C) : OpA C (compareOp .Eq) rEqT := fun X hX => op_eqT (X := X) (by have := (c X hX).room.units; omega)
theorem opa_eqA (c : Ctx P w K mg base N sc k C) : OpA C (compareOp .Eq) (fun x y H Q => rEqD K x y H Q ∨ rEqT x y H Q) := opa_or (opa_eq c) (opa_eqT c)
theorem vop_eqT : VOp K (rl2 rEqT) oEqT := by
  intro H vs ds F Q k d rl e h
  unfold oEqT at e
  split at e
  · rename_i as bs
    split at e
    · rename_i hc
      rw [Bool.and_eq_true] at hc
      cases e
      obtain ⟨v, v', F1, F2, rfl, rfl, r1, r2⟩ := rl.i2
      cases r1 with
      | dT hA zA kA lA =>
        cases r2 with
        | dT hB zB kB lB =>
          have l1 : as.length = _ := (by simpa using congrArg List.length kA.symm)
          have l2 : bs.length = _ := (by simpa using congrArg List.length kB.symm)
          refine ⟨_, _, _, _, rfl, rfl, hA, hB, txD_rep kA lA hc.1, txD_rep kB lB hc.2, fun r hr => ?_⟩
          have := eqT_rep kB lB kA lA hc.1 hc.2
          have er : r = (as.length == bs.length && as.all fun p => match p.2, valD bs p.1 with
            | .str x, some (.str y) => decide (x = y)
            | _, _ => false) := by
            rw [Bool.eq_iff_iff, hr, Bool.and_eq_true, this, l1, l2, beq_iff_eq]
          rw [er]
          exact h _ _ [] (Same.refl _) (.bl _) rfl
    · cases e
  · cases e
theorem vop_eqA : VOp K (rl2 fun x y H Q => rEqD K x y H Q ∨ rEqT x y H Q) oEqA := vop_or2 vop_eq vop_eqT
end
/-! #### typed -/
def pEqT (a b : List ((Str × Str) × Str)) : Bool := a.length == b.length && a.all fun p => decide (pGet b p.1 = some p.2)
theorem txD_t : ∀ a : List ((Str × Str) × Str), txD (a.map (kvT D.str)) = true
  | [] => rfl
  | p :: a => txD_t a
theorem o_eqT {a b : List ((Str × Str) × Str)} : oEqA [eDT D.str a, eDT D.str b] = some (.imm, .bl (pEqT a b)) := by
  have h0 : oEq [eDT D.str a, eDT D.str b] = none := rfl
  unfold oEqA oOr
  rw [h0]
  show oEqT [D.dT _, D.dT _] = _
  unfold oEqT
  simp only [txD_t, Bool.and_self, if_true]
  congr 3
  unfold pEqT
  rw [List.length_map, List.length_map, List.all_map]
  congr 2
  funext p
  show (match (kvT D.str p).2, valD (b.map (kvT D.str)) [.inr p.1.1, .inr p.1.2] with
      | .str x, some (.str y) => decide (x = y)
      | _, _ => false) = _
  rw [valT]
  cases pGet b p.1 with
  | none => rfl
  | some y => show decide (p.2 = y) = decide (some y = some p.2); exact decide_eq_decide.mpr ⟨fun h => by rw [h], fun h => (Option.some.inj h).symm⟩
end RG

set_option maxRecDepth 100000
set_option maxHeartbeats 4000000
namespace RG
open PySem PySem.Spec PyProof.Rows L2
/-! ### calls whose result shares with what was handed in: the body is run with the caller's whole state behind -/
def valS (d : D) : S := .t .val d
/-- what a body of that meaning hands back; its parameters are shared things -/
def fnV (n : Nat) (fb : List S → Option Fl) : List D → Option T := fun ds => match fb (ds.map valS ++ List.replicate (n - ds.length) .gone) with
  | some (.rt r _) => if r.1 = .bor then none else some r
  | _ => none
def spV (K : PySem.W.Frag) (m : Nat) (fn : List D → Option T) : Sp := fun vs H Q _ => ∃ (g : G) (FS : Nat → List Addr) (L : List S) (VS : List (Option V)) (ds : List D) (r : T), g.K = K ∧ ds.length = m ∧ L.length = VS.length ∧ NoBor L ∧ Sim g FS (L ++ ds.map valS) (VS ++ vs.map some) H ∧ fn ds = some r ∧
  ∀ v H' FS', Sim g FS' (L ++ [r.s]) (VS ++ [some v]) H' → Q v H'
def eCallV (m : Nat) (fn : List D → Option T) (fa : List S → Option (List Ar × List S)) : List S → Option (T × List S) := fun env => match fa env with
  | none => none
  | some (as, env1) => match tmps as with
    | none => none
    | some ts => if ts.length = m ∧ ts.all (fun t => t.1 == .val) = true then (fn (ts.map (·.2))).map fun r => (r, env1) else none
theorem map_valS : ∀ {ts : List T}, ts.all (fun t => t.1 == .val) = true → ts.map T.s = (ts.map (·.2)).map valS
  | [], _ => rfl
  | (k, d) :: ts, h => by
    rw [List.all_cons, Bool.and_eq_true] at h
    have hk : k = .val := eq_of_beq h.1
    subst hk
    rw [List.map_cons, List.map_cons, List.map_cons, map_valS h.2]; rfl
theorem nobor_valS {ds : List D} : NoBor (ds.map valS) := fun j s e => by
  rw [List.getElem?_map] at e
  obtain ⟨d, _, rfl⟩ := Option.map_eq_some_iff.mp e
  rfl
theorem nobor_append {L M : List S} (h : NoBor L) (h' : NoBor M) : NoBor (L ++ M) := fun j s e => by
  by_cases hj : j < L.length
  · rw [List.getElem?_append_left hj] at e; exact h j s e
  · rw [List.getElem?_append_right (Nat.le_of_not_lt hj)] at e; exact h' _ s e
section
variable {K : PySem.W.Frag} {n : Nat} {W : List Nat} {Y : Bool}
theorem re_callV {m : Nat} {fn : List D → Option T} {ta : TA} {fa : List S → Option (List Ar × List S)} (ha : RA K n W Y ta fa) : RE K n W true (tCall (spV K m fn) [] E0 ta) (eCallV m fn fa) := by
  intro g FS env τ σ tv H Q r env' hK hn hW he hs Sm yb e h
  unfold eCallV at e
  cases e1 : fa env with
  | none => rw [e1] at e; cases e
  | some p =>
    obtain ⟨as, env1⟩ := p
    simp only [e1] at e
    cases e2 : tmps as with
    | none => rw [e2] at e; cases e
    | some ts =>
      simp only [e2] at e
      split at e
      · rename_i hc
        cases e3 : fn (ts.map (·.2)) with
        | none => rw [e3] at e; cases e
        | some r' =>
          rw [e3] at e
          simp only [Option.map_some, Option.some.injEq, Prod.mk.injEq] at e
          obtain ⟨rfl, rfl⟩ := e
          refine ha g FS env τ σ tv H _ as env1 hK hn hW he hs Sm (fun _ => yb rfl) e1 fun vs H1 FS1 l1 lv pt S1 => ?_
          have ea := tmps_map e2
          subst ea
          have em : (ts.map Ar.tmp).map Ar.s = ts.map T.s := by rw [List.map_map]; rfl
          rw [em, map_valS hc.2] at S1
          have hl : (env1 ++ τ).length = (σ ++ tv).length := by
            have := S1.len
            simp only [List.length_append, List.length_map] at this lv ⊢
            omega
          have nb : NoBor (env1 ++ τ) := by
            intro j x ex
            cases q : x.isBor with
            | false => rfl
            | true =>
              have up : ((env1 ++ τ) ++ (ts.map (·.2)).map valS)[j]? = some x := by rw [List.getElem?_append_left (lt_of_get ex)]; exact ex
              have hlt := S1.sb j x up q
              rw [hn] at hlt
              rw [List.getElem?_append_right (by rw [l1]; exact hlt)] at ex
              rw [yb rfl _ x ex] at q; cases q
          show spV K m fn (vs ++ []) H1 Q E0
          rw [List.append_nil]
          exact ⟨g, FS1, env1 ++ τ, σ ++ tv, ts.map (·.2), r', hK, by rw [List.length_map]; exact hc.1, hl, nb, S1, e3, fun v H' FS' s => h v H' FS' l1 s⟩
      · cases e
end
theorem Sim.ridx {g g' : G} {FS : Nat → List Addr} {L L' : List S} {VS VS' : List (Option V)} {H : Hp} (h : Sim g FS L VS H) (p : Nat → Nat) (hK : g'.K = g.K) (hH : g'.H0 = g.H0) (len : L'.length = VS'.length)
    (he : ∀ i s, L'[i]? = some s → L[p i]? = some s ∧ VS'[i]? = VS[p i]?) (inj : ∀ i j s s', L'[i]? = some s → L'[j]? = some s' → p i = p j → i = j) (hf : ∀ (i : Nat) (d : D) (a : Addr), L'[i]? = some (S.io d) → g.A0 (p i) a → g'.A0 i a) (hb : ∀ a, (∀ i, ¬ g'.A0 i a) → ∀ j, ¬ g.A0 j a)
    (pv : ∀ (i : Nat) (d : D), L'[i]? = some (S.io d) → ∃ v, g'.P[i]? = some v ∧ VS'[i]? = some (some v)) (nb : ∀ i s, L'[i]? = some s → s.isBor = true → g'.n ≤ i) (ww : ∀ i s, L'[i]? = some s → (i ∈ g'.W ∨ g'.n ≤ i) → (p i ∈ g.W ∨ g.n ≤ p i)) (wl : ∀ i ∈ g'.W, i < g'.n) : Sim g' (fun i => FS (p i)) L' VS' H := by
  refine ⟨len, fun i s d e1 e2 => ?_, fun i s e1 e2 => h.nod (p i) s (he i s e1).1 e2, fun i k d e1 e2 => by rw [hH]; exact h.fr (p i) k d (he i _ e1).1 e2, fun i d e1 => by rw [hH]; exact h.od (p i) d (he i _ e1).1, fun i d e1 a ma => ?_, fun i j s s' hij e1 e2 w1 w2 w3 => ?_, fun a o ea nn => h.base a o (by rw [← hH]; exact ea) (nn.imp_left (hb a)), fun a na => h.dom a (by rw [← hH]; exact na), nb, pv, wl⟩
  · obtain ⟨v, q1, q2⟩ := h.rep (p i) s d (he i s e1).1 e2
    exact ⟨v, by rw [(he i s e1).2]; exact q1, by rw [hK]; exact q2⟩
  · rw [hH]
    exact (h.fio (p i) d (he i _ e1).1 a ma).imp_left (hf i d a e1)
  · exact h.dis (p i) (p j) s s' (fun z => hij (inj i j s s' e1 e2 z)) (he i s e1).1 (he j s' e2).1 w1 w2 fun z => ww i s e1 (w3 z)
/-- the callee's state, of the caller's -/
def gV (g : G) (n : Nat) (W : List Nat) : G := ⟨g.K, g.H0, fun i a => n ≤ i ∧ g.A0 (i - n) a, W, n, List.replicate n .non ++ g.P⟩
section
variable {g : G} {FS : Nat → List Addr} {L : List S} {VS : List (Option V)} {H : Hp}
theorem Sim.swap {M : List S} {MS : List (Option V)} {n : Nat} {W : List Nat} (h : Sim g FS (L ++ M) (VS ++ MS) H) (hM : M.length = n) (hMS : MS.length = n) (hl : L.length = VS.length) (nbL : NoBor L) (nbM : NoBor M) (hio : ∀ (i : Nat) (d : D), M[i]? ≠ some (S.io d)) (hW : ∀ i ∈ W, i < n) :
    Sim (gV g n W) (fun i => FS (if i < n then L.length + i else i - n)) (M ++ L) (MS ++ VS) H := by
  have nb := nobor_append nbL nbM
  have h1 := h.reW nb [] 0 (fun i m => (nomatch m))
  have g1 : ∀ i, i < n → (M ++ L)[i]? = M[i]? ∧ (MS ++ VS)[i]? = MS[i]? ∧ (L ++ M)[L.length + i]? = M[i]? ∧ (VS ++ MS)[L.length + i]? = MS[i]? := fun i hi => by
    refine ⟨List.getElem?_append_left (by omega), List.getElem?_append_left (by omega), ?_, ?_⟩
    · rw [List.getElem?_append_right (Nat.le_add_right _ _), Nat.add_sub_cancel_left]
    · rw [List.getElem?_append_right (by omega), hl, Nat.add_sub_cancel_left]
  have g2 : ∀ i, ¬ i < n → (M ++ L)[i]? = L[i - n]? ∧ (MS ++ VS)[i]? = VS[i - n]? := fun i hi => by
    refine ⟨?_, ?_⟩
    · rw [List.getElem?_append_right (by omega), hM]
    · rw [List.getElem?_append_right (by omega), hMS]
  have g3 : ∀ i, i < L.length → (L ++ M)[i]? = L[i]? ∧ (VS ++ MS)[i]? = VS[i]? := fun i hi => ⟨List.getElem?_append_left hi, List.getElem?_append_left (by omega)⟩
  refine Sim.ridx h1 (fun i => if i < n then L.length + i else i - n) rfl rfl (by rw [List.length_append, List.length_append]; omega) (fun i s e => ?_) (fun i j s s' e e' q => ?_) (fun i d a e q => ?_) (fun a q j z => ?_) (fun i d e => ?_) (fun i s e q => ?_) (fun i s e q => .inr (Nat.zero_le _)) hW
  · try dsimp only
    by_cases hi : i < n
    · rw [if_pos hi]
      obtain ⟨q1, q2, q3, q4⟩ := g1 i hi
      exact ⟨by rw [q3, ← q1]; exact e, by rw [q2, q4]⟩
    · rw [if_neg hi]
      obtain ⟨q1, q2⟩ := g2 i hi
      rw [q1] at e
      obtain ⟨q3, q4⟩ := g3 _ (lt_of_get e)
      exact ⟨by rw [q3]; exact e, by rw [q2, q4]⟩
  · have bd : ∀ {i s}, (M ++ L)[i]? = some s → i < n + L.length := fun e => by
      have := lt_of_get e
      rw [List.length_append, hM] at this; exact this
    have b1 := bd e
    have b2 := bd e'
    try dsimp only at q
    split at q <;> split at q <;> omega
  · by_cases hi : i < n
    · rw [(g1 i hi).1] at e; exact absurd e (hio i d)
    · dsimp only at q
      rw [if_neg hi] at q
      exact ⟨Nat.le_of_not_lt hi, q⟩
  · exact q (j + n) ⟨Nat.le_add_left _ _, by rw [Nat.add_sub_cancel]; exact z⟩
  · by_cases hi : i < n
    · rw [(g1 i hi).1] at e; exact absurd e (hio i d)
    · obtain ⟨q1, q2⟩ := g2 i hi
      rw [q1] at e
      obtain ⟨q3, q4⟩ := g3 _ (lt_of_get e)
      obtain ⟨v, z1, z2⟩ := h.pv (i - n) d (by rw [q3]; exact e)
      refine ⟨v, ?_, by rw [q2, ← q4]; exact z2⟩
      show (List.replicate n V.non ++ g.P)[i]? = _
      rw [List.getElem?_append_right (by rw [List.length_replicate]; omega), List.length_replicate]; exact z1
  · rw [nobor_append nbM nbL i s e] at q; cases q
theorem Sim.into {M : List S} {MS : List (Option V)} {n : Nat} {W : List Nat} (h : Sim g FS (L ++ M) (VS ++ MS) H) (hl : L.length = VS.length) (nbL : NoBor L) (nbM : NoBor M) (hio : ∀ (i : Nat) (d : D), M[i]? ≠ some (S.io d)) (hm : M.length ≤ n) (hW : ∀ i ∈ W, i < n) :
    ∃ FS', Sim (gV g n W) FS' ((M ++ List.replicate (n - M.length) .gone) ++ L) ((MS ++ List.replicate (n - M.length) none) ++ VS) H := by
  have lM : M.length = MS.length := by have := h.len; simp only [List.length_append] at this; omega
  have h2 := h.pad (n - M.length) none
  rw [List.append_assoc, List.append_assoc] at h2
  refine ⟨_, Sim.swap h2 (by rw [List.length_append, List.length_replicate]; omega) (by rw [List.length_append, List.length_replicate]; omega) hl nbL (nobor_append nbM fun j s e => ?_) (fun i d e => ?_) hW⟩
  · rw [List.getElem?_replicate] at e
    split at e
    · cases e; rfl
    · cases e
  · rcases get_pad e with e | ⟨_, e⟩
    · exact absurd e (hio i d)
    · cases e
theorem Sim.out {M N : List S} {MS NS : List (Option V)} {n : Nat} {W : List Nat} {FS' : Nat → List Addr} {H' : Hp} (h : Sim (gV g n W) FS' ((M ++ L) ++ N) ((MS ++ VS) ++ NS) H') (hM : M.length = n) (hMS : MS.length = n) (hl : L.length = VS.length) (nbL : NoBor L) (nbN : NoBor N) (hio : ∀ (i : Nat) (d : D), N[i]? ≠ some (S.io d)) (hw : ∀ i ∈ g.W, i < g.n) :
    Sim g (fun i => FS' (i + n)) (L ++ N) (VS ++ NS) H' := by
  have lN : N.length = NS.length := by have := h.len; simp only [List.length_append] at this; omega
  have hV : (VS ++ NS).length = (L ++ N).length := by rw [List.length_append, List.length_append, hl, lN]
  have g1 : ∀ i, ((M ++ L) ++ N)[i + n]? = (L ++ N)[i]? := fun i => by rw [List.append_assoc, List.getElem?_append_right (by omega), hM, Nat.add_sub_cancel]
  have g2 : ∀ i, ((MS ++ VS) ++ NS)[i + n]? = (VS ++ NS)[i]? := fun i => by rw [List.append_assoc, List.getElem?_append_right (by omega), hMS, Nat.add_sub_cancel]
  refine Sim.ridx h (fun i => i + n) rfl rfl hV.symm (fun i s e => ⟨by rw [g1]; exact e, (g2 i).symm⟩) (fun i j s s' _ _ q => Nat.add_right_cancel q) (fun i d a e q => ?_) (fun a q j z => q _ z.2) (fun i d e => ?_) (fun i s e q => ?_) (fun i s e q => .inr (Nat.le_add_left _ _)) hw
  · have := q.2
    rwa [Nat.add_sub_cancel] at this
  · obtain ⟨v, q1, q2⟩ := h.pv (i + n) d (by rw [g1]; exact e)
    refine ⟨v, ?_, by rw [← g2]; exact q2⟩
    have q1 : (List.replicate n V.non ++ g.P)[i + n]? = some v := q1
    rw [List.getElem?_append_right (by rw [List.length_replicate]; omega), List.length_replicate, Nat.add_sub_cancel] at q1
    exact q1
  · rw [nobor_append nbL nbN i s e] at q; cases q
end
section
variable {P : Program} {w : World} {K : PySem.W.Frag} {mg : Str → Option Value} {base : Heap}
theorem fn_okV {x qual : Str} {st : Stmt} {f : Addr} {fd : FuncData} {N ps : List Str} {k m n : Nat} {W A : List Nat} {fb : List S → Option Fl} (F : Fun K x qual st f fd) (S' : FnScope N ps (defScope st)) (hm : ps.length = m) (hn : N.length = n) (hmn : m ≤ n) (hW : ∀ i ∈ W, i < n)
    (hbody : ∀ (cdv : Value) (A' : Around) (outer : List Env) (s : Shared) (H : Hp) (E : XK), Room k (A'.deeper (envOfC qual (defScope st) s.heap.objs.size f cdv)) →
      ∃ t, PSs (cxOf CX0 P w K mg base N qual (defScope st) f cdv A' outer s H E).nox (defBody st) t ∧ RS K n W A false t fb) : FnOk P w K mg base CX0 (k + 1) f fd ps (spV K m (fnV n fb)) := by
  refine F.ok S' (fun vs H Q E h => ?_) (fun cdv A' outer s H vs Q E hr h => ?_)
  · obtain ⟨g, FS, L, VS, ds, r, _, h1, hl, _, h3, _⟩ := h
    have := h3.len
    simp only [List.length_append, List.length_map] at this
    omega
  · obtain ⟨t, ht, hs⟩ := hbody cdv A' outer s H E hr
    refine ⟨t, ht, ?_⟩
    obtain ⟨g, FS, L, VS, ds, r, hK, h1, hl, nb, h3, h4, h5⟩ := h
    have hvs : vs.length = m := by
      have := h3.len
      simp only [List.length_append, List.length_map] at this
      omega
    have est : L2.start N vs = vs.map some ++ List.replicate (n - m) none := by unfold L2.start; rw [hn, hvs]
    rw [est]
    have noio : ∀ (i : Nat) (d : D), (ds.map valS)[i]? ≠ some (S.io d) := fun i d e => by
      rw [List.getElem?_map] at e
      obtain ⟨d', _, q⟩ := Option.map_eq_some_iff.mp e
      cases q
    obtain ⟨FS1, S1⟩ := h3.into (n := n) (W := W) hl nb nobor_valS noio (by rw [List.length_map, h1]; exact hmn) hW
    rw [List.length_map, h1] at S1
    unfold fnV at h4
    rw [h1] at h4
    cases e1 : fb (ds.map valS ++ List.replicate (n - m) .gone) with
    | none => rw [e1] at h4; cases h4
    | some fl =>
      rw [e1] at h4
      refine hs (gV g n W) FS1 (ds.map valS ++ List.replicate (n - m) .gone) L (vs.map some ++ List.replicate (n - m) none) VS H _ fl hK rfl rfl (by rw [List.length_append, List.length_map, List.length_replicate]; omega) (by rw [List.length_append, List.length_map, List.length_replicate]; omega) S1 ⟨nb, fun z => (nomatch z)⟩ e1 ?_
      cases fl with
      | rt r' env' =>
        dsimp only at h4
        split at h4
        · cases h4
        · rename_i hbor
          cases h4
          intro v σ' H' FS' l1 l2 kp s'
          have nbr : NoBor [r.s] := fun j s e => by
            cases j with
            | zero =>
              cases e
              obtain ⟨k0, d0⟩ := r
              cases k0 <;> first | rfl | exact absurd rfl hbor
            | succ j => cases e
          exact h5 v H' _ (Sim.out s' l1 l2 hl nb nbr (fun i d e => by cases i with
            | zero => cases e
            | succ i => cases e) h3.wlt)
      | _ => cases h4
end
/-! ### bundled -/
structure GFnV (P : Program) (w : World) (K : PySem.W.Frag) (mg : Str → Option Value) (base : Heap) (x : Str) (k m : Nat) (fn : List D → Option T) : Prop where
  ex : ∃ (f : Addr) (fd : FuncData) (ps : List Str), FnOk P w K mg base CX0 k f fd ps (spV K m fn) ∧ mg x = some (.ref f) ∧ PySem.W.keepIn K (.ref f) = true ∧ Binds K fd ps []
def BDefV (C : XS) (K : PySem.W.Frag) (n : Nat) (W : List Nat) (st : List Stmt) (f : List S → Option Fl) : Prop := ∃ A, BSs C K n W A false st f
section
variable {P : Program} {w : World} {K : PySem.W.Frag} {mg : Str → Option Value} {base : Heap} {N : List Str} {sc : Scope} {k n : Nat} {C : XS} {W A B : List Nat} {Y Y' Y2 Z Z' : Bool}
variable {pos : Pos} {a b e : Expr} {es : List Expr} {st : Stmt} {sts : List Stmt}
theorem BDefV.of {f : List S → Option Fl} (h : BSs C K n W A Z sts f) (hz : Z = false := by rfl) : BDefV C K n W sts f := by subst hz; exact ⟨A, h⟩
theorem gfnV {x y qual : Str} {st : Stmt} {f : Addr} {fd : FuncData} {N ps : List Str} {k m n : Nat} {W : List Nat} {fb : List S → Option Fl} (F : Fun K x qual st f fd) (hmg : mg y = some (.ref f)) (hbi : Binds K fd ps []) (S' : FnScope N ps (defScope st)) (hm : ps.length = m) (hn : N.length = n) (hmn : m ≤ n) (hW : ∀ i ∈ W, i < n)
    (hb : BDefV (bodyS P w K mg base N qual (defScope st) f k) K n W (defBody st) fb) : GFnV P w K mg base y (k + 1) m (fnV n fb) := by
  obtain ⟨A, t, h1, h2⟩ := hb
  exact ⟨f, fd, ps, fn_okV F S' hm hn hmn hW fun cdv A' outer s H E hr => ⟨t, h1 _ ⟨cdv, A', outer, s, H, E, hr, rfl⟩, h2⟩, hmg, F.kp, hbi⟩
theorem be_callV {x : Str} {p : Pos} {j m : Nat} {fn : List D → Option T} {fa : List S → Option (List Ar × List S)} (c : Ctx P w K mg base N sc k C) (G : GFnV P w K mg base x j m fn) (hj : j ≤ k) (hg : sc.names.lookup x = some .globalImplicit) (ha : BA C K n W Y (e :: es) fa)
    (hdb : (x == ("__debug__" : Str)) = false := by decide) (hs : ∀ env : Env, starEach (e :: es) env = (false, eval e env) :: starEach es env := by intro _; rfl) (hpl : ∀ env : Env, (backTo pos (starEach es env)).any (·.1) = false := by intro _; rfl) :
    BE C K n W true (.Call (.Name x p) (e :: es) [] pos) (eCallV m fn fa) := by
  obtain ⟨f, fd, ps, F, hm, hk, hb⟩ := G.ex
  obtain ⟨t, h1, h2⟩ := ha
  refine ⟨tCall (spV K m fn) [] E0 t, fun X hX => ?_, re_callV h2⟩
  have q := c X hX
  have hsc := q.hsc
  have hP := q.hP
  have hw := q.hw
  have hK := q.hK
  have hmg := q.hmg
  have hbs := q.hb
  subst hP hw hK hmg hbs
  exact pe_call F (q.room.mono hj) (show X.env.scope.names.lookup x = _ by rw [hsc]; exact hg) hm hk hb .nil pass0 (h1 X hX) hdb (hs _) (hpl _)
/-- typed -/
def RetV (d : D) (k : Tk) : Fl → Prop
  | .rt r _ => r = (k, d)
  | _ => False
theorem fn_rtV {n : Nat} {fb : List S → Option Fl} {ds : List D} {L : List S} {d : D} {k : Tk} (hL : ds.map valS ++ List.replicate (n - ds.length) .gone = L) (hk : k ≠ .bor) (h1 : Go (fb L) (RetV d k)) : fnV n fb ds = some (k, d) := by
  obtain ⟨fl, e, q⟩ := h1
  unfold fnV
  rw [hL, e]
  cases fl with
  | rt r e => have q : r = (k, d) := q; subst q; simp only [if_neg hk]
  | _ => exact q.elim
theorem te_callV {m : Nat} {fn : List D → Option T} {fa : List S → Option (List Ar × List S)} {env env1 : List S} {as : List Ar} {ts : List T} {r : T} (h1 : fa env = some (as, env1)) (h2 : tmps as = some ts) (h3 : (ts.length = m ∧ ts.all (fun t => t.1 == .val) = true) = True) (h4 : fn (ts.map (·.2)) = some r) : eCallV m fn fa env = some (r, env1) := by
  unfold eCallV
  rw [h1]
  simp only [h2, h3, if_true, h4, Option.map_some]
end
end RG

set_option maxRecDepth 100000
set_option maxHeartbeats 4000000
namespace RG
open PySem PySem.Spec PyProof.Rows L2
section
variable {α β γ : Type} {e : α → D} {e2 : β → D} {e3 : γ → D}
/-! ### == of things that may be None -/
class NonQ (e : α → D) : Prop where
  out : ∀ a, PyData.eqv .none (e a).py = false
instance : NonQ D.str := ⟨fun _ => rfl⟩
instance (e : α → D) : NonQ (eL e) := ⟨fun _ => rfl⟩
instance (e : α → D) : NonQ (eT e) := ⟨fun _ => rfl⟩
instance [DecidableEq α] (e : α → D) [q : EqE e] [p : NonP e] [p2 : NonQ e] : EqE (eO e) := ⟨fun a b => by
  cases a with
  | none => cases b with
    | none => rfl
    | some b => exact p2.out b
  | some a => cases b with
    | none => exact p.out a
    | some b => show PyData.eqv (e a).py (e b).py = _; rw [q.out]; by_cases h : a = b <;> simp [h]⟩
end
end RG

set_option maxRecDepth 100000
set_option maxHeartbeats 4000000
namespace RG
open PySem PySem.Spec PyProof.Rows L2
noncomputable section

/-- the dice of a script -/
def mixA : List Int → Int → Int
  | [], m => m
  | c :: cs, m => mixA cs ((m * 48271 + c % 2147483647 * 69621 + 11) % 2147483647)
def p__law_dice (script_ : List Int) : Option Die := some ⟨script_, 0, mixA script_ 0 * bI (decide (2 < (script_.length : Int))), 0⟩
def p__law_next (d : Die) (many : Int) : Option (Int × Die) :=
  if 0 ≤ d.i ∧ 0 < many ∧ many < 1073741824 then
    (if 0 < d.h then some (d.h % many, ⟨d.ns, d.i, d.m, d.h / many⟩)
     else if h : d.i + 1 ≤ d.ns.length ∧ d.i.toNat < d.ns.length then
       (if (1000000000000000000 : Int) ≤ d.ns[d.i.toNat]'h.2 then some ((d.ns[d.i.toNat]'h.2) % many, ⟨d.ns, d.i + 1, d.m, (d.ns[d.i.toNat]'h.2) / many⟩)
        else some ((d.ns[d.i.toNat]'h.2) % many, ⟨d.ns, d.i + 1, d.m, 0⟩))
     else if d.i + 1 ≤ d.ns.length then none
     else some (d.m * 48271 % 2147483647 / 7 % many, ⟨d.ns, d.i + 1, d.m * 48271 % 2147483647, d.h⟩))
  else none
def pl__law_names_1 : (Die × (List Str) × (List Str)) → Int → Option (Die × (List Str) × (List Str)) := fun (d_3, menu_4, found_5) x8 =>
    (p__law_next d_3 (menu_4.length : Int)).bind fun (r9, d10) =>
    (pPopAt menu_4 r9).bind fun (x12, l13) =>
    (p__law_next d10 3).bind fun (r15, d16) =>
    (if (decide (r15 = 2)) then ((pLenS x12).bind fun n18 => some (decide (n18 < 7))) else some false).bind fun b20 =>
    (if b20 then (
    (p__law_next d16 26).bind fun (r22, d23) =>
    (pIxS ("abcdefghijklmnopqrstuvwxyz" : Str) r22).bind fun x25 =>
    (pAddS x25 x12).bind fun s27 =>
    some (d23, s27)
    ) else (
    some (d16, x12)
    )).bind fun (v29, v30) =>
    (if (decide (v30 ∈ found_5)) then (
    (pAddS v30 ("z" : Str)).bind fun s34 =>
    some s34
    ) else (
    some v30
    )).bind fun v36 =>
    (pApp found_5 v36).bind fun l40 =>
    some (v29, l13, l40)
def p__law_names (d_ : Die) (many_ : Int) : Option ((List Str) × Die) :=
    (pRange many_).bind fun l1 =>
    (pFor (pl__law_names_1) l1 (d_, [("a" : Str), ("b" : Str), ("ab" : Str), ("or" : Str), ("ba" : Str), ("never" : Str), ("same" : Str), ("samewise" : Str)], ([] : (List Str)))).bind fun (d_45, menu_46, found_47) =>
    some (found_47, d_45)
def pl__law_strip_1 (names_ : (List Str)) (r1 : Int) (r4 : Int) (r19 : Int) : (Die × (List Str)) → Int → Option (Die × (List Str)) := fun (d_24, plot_25) x27 =>
    (if (decide (r1 = 0)) then ((p__law_next d_24 2).bind fun (r28, d29) => some ((decide (r28 = 1)), d29)) else some (false, d_24)).bind fun (b31, d32) =>
    (if b31 then some (true, d32) else ((if (decide (0 < r1)) then ((if (decide (((r4 - 1) + r19) ≤ x27)) then ((if (decide (r1 = 1)) then some (true, d32) else ((p__law_next d32 4).bind fun (r34, d35) => some ((decide (r34 < 3)), d35))).bind fun (b37, d38) => some (b37, d38)) else some (false, d32)).bind fun (b40, d41) => some (b40, d41)) else some (false, d32)).bind fun (b43, d44) => some (b43, d44))).bind fun (b46, d47) =>
    if b46 then (
    (atI names_ x27).bind fun x49 =>
    (pApp plot_25 x49).bind fun l51 =>
    some (d47, l51)
    ) else
    some (d47, plot_25)
def pl__law_strip_2 (names_ : (List Str)) (r1 : Int) (r4 : Int) : (Die × (List (List Str))) → Int → Option (Die × (List (List Str))) := fun (d_12, found_13) x18 =>
    (p__law_next d_12 3).bind fun (r19, d20) =>
    (pRange (names_.length : Int)).bind fun l22 =>
    (pFor (pl__law_strip_1 names_ r1 r4 r19) l22 (d20, ([] : (List Str)))).bind fun (d_56, plot_57) =>
    (pSort plot_57).bind fun l59 =>
    (pApp found_13 l59).bind fun l61 =>
    some (d_56, l61)
def p__law_strip (d_ : Die) (names_ : (List Str)) (most_ : Int) : Option ((List (List Str)) × Die) :=
    (p__law_next d_ 3).bind fun (r1, d2) =>
    (p__law_next d2 ((names_.length : Int) + 1)).bind fun (r4, d5) =>
    (p__law_next d5 most_).bind fun (r7, d8) =>
    (pRange (1 + r7)).bind fun l10 =>
    (pFor (pl__law_strip_2 names_ r1 r4) l10 (d8, ([] : (List (List Str))))).bind fun (d_66, found_67) =>
    some (found_67, d_66)
def pc__law_drawing_1 (names_ : (List Str)) : Die → Int → Option (Option (List (List Str)) × Die) := fun d15 x6 =>
    (p__law_next d15 4).bind fun (r16, d17) =>
    (atI [3, 3, 3, 8] r16).bind fun x19 =>
    (p__law_strip d17 names_ x19).bind fun (r21, d22) =>
    some (some r21, d22)
def pl__law_drawing_2 : (List Str) → (List Str) → Option (List Str) := fun there_33 x35 =>
    (pAddL there_33 x35).bind fun l36 =>
    some l36
def pl__law_drawing_3 : (List Str) → (List (List Str)) → Option (List Str) := fun there_29 x32 =>
    (pFor (pl__law_drawing_2) x32 there_29).bind fun there_41 =>
    some there_41
def pl__law_drawing_4 (there_46 : (List Str)) : (List (List (List Str))) → Str → Option (List (List (List Str))) := fun found_49 x51 =>
    if (!decide (x51 ∈ there_46)) then (
    (pApp found_49 [[x51]]).bind fun l52 =>
    some l52
    ) else
    some found_49
def p__law_drawing (d_ : Die) (names_ : (List Str)) (most_ : Int) : Option ((List (List (List Str))) × Die) :=
    (p__law_next d_ (most_ + 1)).bind fun (r1, d2) =>
    (pRange r1).bind fun l4 =>
    (pCompS (pc__law_drawing_1 names_) l4 d2).bind fun (l24, d25) =>
    (pFor (pl__law_drawing_3) l24 ([] : (List Str))).bind fun there_46 =>
    (pFor (pl__law_drawing_4 there_46) names_ l24).bind fun found_57 =>
    some (found_57, d25)
def pl__law_places_1 (drawing_ : (List (List (List Str)))) (name_ : Str) (x6 : Int) : (List (Int × Int)) → Int → Option (List (Int × Int)) := fun found_11 x13 =>
    (atI drawing_ x6).bind fun x14 =>
    (atI x14 x13).bind fun x16 =>
    if (decide (name_ ∈ x16)) then (
    (pApp found_11 (x6, x13)).bind fun l18 =>
    some l18
    ) else
    some found_11
def pl__law_places_2 (drawing_ : (List (List (List Str)))) (name_ : Str) : (List (Int × Int)) → Int → Option (List (Int × Int)) := fun found_3 x6 =>
    (atI drawing_ x6).bind fun x7 =>
    (pRange (x7.length : Int)).bind fun l9 =>
    (pFor (pl__law_places_1 drawing_ name_ x6) l9 found_3).bind fun found_23 =>
    some found_23
def p__law_places (drawing_ : (List (List (List Str)))) (name_ : Str) : Option (List (Int × Int)) :=
    (pRange (drawing_.length : Int)).bind fun l1 =>
    (pFor (pl__law_places_2 drawing_ name_) l1 ([] : (List (Int × Int)))).bind fun found_28 =>
    some found_28
def pl__law_near_1 (drawing_ : (List (List (List Str)))) : (List (Int × Int)) → (Int × Int) → Option (List (Int × Int)) := fun found_1 x4 =>
    (if (decide (0 < x4.2)) then (
    (pApp found_1 (x4.1, (x4.2 - 1))).bind fun l5 =>
    some l5
    ) else (
    some found_1
    )).bind fun v7 =>
    (atI drawing_ x4.1).bind fun x11 =>
    if (decide ((x4.2 + 1) < (x11.length : Int))) then (
    (pApp v7 (x4.1, (x4.2 + 1))).bind fun l13 =>
    some l13
    ) else
    some v7
def p__law_near (drawing_ : (List (List (List Str)))) (places_ : (List (Int × Int))) : Option (List (Int × Int)) :=
    (pFor (pl__law_near_1 drawing_) places_ ([] : (List (Int × Int)))).bind fun found_18 =>
    some found_18
def pc__law_seen_1 (r3 : (List (Int × Int))) : (Int × Int) → Option (Option (Int × Int)) := fun x5 =>
    (pIn (eP2 D.int D.int) x5 r3).bind fun b6 =>
    if b6 then
    some (some x5) else some none
def pc__law_seen_2 (r3 : (List (Int × Int))) : (Int × Int) → Option (Option (Int × Int)) := fun x16 =>
    (pIn (eP2 D.int D.int) x16 r3).bind fun b17 =>
    if (!b17) then
    some (some x16) else some none
def pc__law_seen_3 (r1 : (List (Int × Int))) : (Int × Int) → Option (Option (Int × Int)) := fun x29 =>
    (pIn (eP2 D.int D.int) x29 r1).bind fun b30 =>
    if (!b30) then
    some (some x29) else some none
def pc__law_seen_4 (r3 : (List (Int × Int))) : (Int × Int) → Option (Option (Int × Int)) := fun x42 =>
    (pIn (eP2 D.int D.int) x42 r3).bind fun b43 =>
    if b43 then
    some (some x42) else some none
def p__law_seen (drawing_ : (List (List (List Str)))) (one_ : Str) (other_ : Str) : Option Str :=
    (p__law_places drawing_ one_).bind fun r1 =>
    (p__law_places drawing_ other_).bind fun r3 =>
    (pComp (pc__law_seen_1 r3) r1).bind fun l8 =>
    (pEq (eL (eP2 D.int D.int)) r1 r3).bind fun b10 =>
    if b10 then (
    some ("same" : Str)
    ) else
    (pEq (eL (eP2 D.int D.int)) l8 r1).bind fun b12 =>
    if b12 then (
    (p__law_near drawing_ r1).bind fun r14 =>
    (pComp (pc__law_seen_2 r3) r14).bind fun l19 =>
    (pEq (eL (eP2 D.int D.int)) l19 ([] : (List (Int × Int)))).bind fun b21 =>
    (atI [("incore" : Str), ("inrim" : Str)] (bI (!b21))).bind fun x23 =>
    some x23
    ) else
    (pEq (eL (eP2 D.int D.int)) l8 r3).bind fun b25 =>
    if b25 then (
    (p__law_near drawing_ r3).bind fun r27 =>
    (pComp (pc__law_seen_3 r1) r27).bind fun l32 =>
    (pEq (eL (eP2 D.int D.int)) l32 ([] : (List (Int × Int)))).bind fun b34 =>
    (atI [("hascore" : Str), ("hasrim" : Str)] (bI (!b34))).bind fun x36 =>
    some x36
    ) else
    (pEq (eL (eP2 D.int D.int)) l8 ([] : (List (Int × Int)))).bind fun b38 =>
    if (!b38) then (
    some ("over" : Str)
    ) else
    (p__law_near drawing_ r1).bind fun r40 =>
    (pComp (pc__law_seen_4 r3) r40).bind fun l45 =>
    (pEq (eL (eP2 D.int D.int)) l45 ([] : (List (Int × Int)))).bind fun b47 =>
    (atI [("apart" : Str), ("meets" : Str)] (bI (!b47))).bind fun x49 =>
    some x49
def pl__law_sight_1 (drawing_ : (List (List (List Str)))) (x4 : Str) : (List Str) → Str → Option (List Str) := fun found_9 x11 =>
    (p__law_seen drawing_ x4 x11).bind fun r12 =>
    (pApp found_9 r12).bind fun l14 =>
    some l14
def pl__law_sight_2 (drawing_ : (List (List (List Str)))) (names_ : (List Str)) : (List Str) → Str → Option (Ct (Option (List Str)) (List Str)) := fun found_1 x4 =>
    (p__law_places drawing_ x4).bind fun r5 =>
    (pEq (eL (eP2 D.int D.int)) r5 ([] : (List (Int × Int)))).bind fun b7 =>
    if b7 then (
    some (.rt (none : (Option (List Str))))
    ) else
    (pFor (pl__law_sight_1 drawing_ x4) names_ found_1).bind fun found_19 =>
    some (.nx found_19)
def p__law_sight (drawing_ : (List (List (List Str)))) (names_ : (List Str)) : Option (Option (List Str)) :=
    (pForR (pl__law_sight_2 drawing_ names_) names_ ([] : (List Str))).bind fun c27 => match c27 with
    | .rt r => some r
    | .nx found_24 =>
    some (some found_24)
def pl__law_due_1 (names_ : (List Str)) (r1 : (Option (List Str))) : ((List (List (List Str))) × Int) → Int → Option ((List (List (List Str))) × Int) := fun (left_5, at_6) x9 =>
    (pDrop left_5 at_6).bind fun l10 =>
    (p__law_sight l10 names_).bind fun r12 =>
    (pEq (eO (eL D.str)) r12 r1).bind fun b14 =>
    if b14 then (
    some (l10, at_6)
    ) else
    some (left_5, (at_6 + 1))
def p__law_due (drawing_ : (List (List (List Str)))) (names_ : (List Str)) : Option (List (List (List Str))) :=
    (p__law_sight drawing_ names_).bind fun r1 =>
    (pRange (drawing_.length : Int)).bind fun l3 =>
    (pFor (pl__law_due_1 names_ r1) l3 (drawing_, 0)).bind fun (left_19, at_20) =>
    some left_19
def p__law_copied (x : List (List (List Str))) : Option (List (List (List Str))) := some x
def pl_lands_1 : (List (Str × Bool)) → Str → Option (List (Str × Bool)) := fun found_10 x12 =>
    (pPut found_10 x12 true).bind fun l13 =>
    some l13
def pl_lands_2 : (List (Str × Bool)) → (List Str) → Option (List (Str × Bool)) := fun found_6 x9 =>
    (pFor (pl_lands_1) x9 found_6).bind fun found_18 =>
    some found_18
def pl_lands_3 : (List (Str × Bool)) → (List (List Str)) → Option (List (Str × Bool)) := fun found_1 x5 =>
    (pFor (pl_lands_2) x5 found_1).bind fun found_23 =>
    some found_23
def p_lands (drawing_ : (List (List (List Str)))) : Option (List Str) :=
    (pFor (pl_lands_3) drawing_ ([] : (List (Str × Bool)))).bind fun found_29 =>
    (pSort (found_29.map (·.1))).bind fun l33 =>
    some l33
def pl_plots_of_1 (drawing_ : (List (List (List Str)))) (name_ : Str) (x6 : Int) : (List (Int × Int)) → Int → Option (List (Int × Int)) := fun found_11 x13 =>
    (atI drawing_ x6).bind fun x14 =>
    (atI x14 x13).bind fun x16 =>
    if (decide (name_ ∈ x16)) then (
    (pApp found_11 (x6, x13)).bind fun l18 =>
    some l18
    ) else
    some found_11
def pl_plots_of_2 (drawing_ : (List (List (List Str)))) (name_ : Str) : (List (Int × Int)) → Int → Option (List (Int × Int)) := fun found_3 x6 =>
    (atI drawing_ x6).bind fun x7 =>
    (pRange (x7.length : Int)).bind fun l9 =>
    (pFor (pl_plots_of_1 drawing_ name_ x6) l9 found_3).bind fun found_23 =>
    some found_23
def p_plots_of (drawing_ : (List (List (List Str)))) (name_ : Str) : Option (List (Int × Int)) :=
    (pRange (drawing_.length : Int)).bind fun l1 =>
    (pFor (pl_plots_of_2 drawing_ name_) l1 ([] : (List (Int × Int)))).bind fun found_28 =>
    (pEq (eL (eP2 D.int D.int)) found_28 ([] : (List (Int × Int)))).bind fun b31 =>
    if b31 then (
    none
    ) else
    some found_28
def pl_are_near_1 (theirs_ : (List (Int × Int))) : Unit → (Int × Int) → Option (Ct Bool Unit) := fun _ x3 =>
    (pIn (eP2 D.int D.int) (x3.1, (x3.2 - 1)) theirs_).bind fun b4 =>
    (if b4 then some true else ((pIn (eP2 D.int D.int) (x3.1, (x3.2 + 1)) theirs_).bind fun b6 => some b6)).bind fun b8 =>
    if b8 then (
    some (.rt true)
    ) else
    some (.nx ())
def p_are_near (mine_ : (List (Int × Int))) (theirs_ : (List (Int × Int))) : Option Bool :=
    (pForR (pl_are_near_1 theirs_) mine_ ()).bind fun c15 => match c15 with
    | .rt r => some r
    | .nx _ =>
    some false
def pl_reaches_out_1 (theirs_ : (List (Int × Int))) (drawing_ : (List (List (List Str)))) (x4 : (Int × Int)) : Unit → Int → Option (Ct Bool Unit) := fun _ x6 =>
    (atI drawing_ x4.1).bind fun x7 =>
    (if ((decide (0 ≤ x6)) && (decide (x6 < (x7.length : Int)))) then ((pIn (eP2 D.int D.int) (x4.1, x6) theirs_).bind fun b9 => some (!b9)) else some false).bind fun b11 =>
    if b11 then (
    some (.rt true)
    ) else
    some (.nx ())
def pl_reaches_out_2 (theirs_ : (List (Int × Int))) (drawing_ : (List (List (List Str)))) : Unit → (Int × Int) → Option (Ct Bool Unit) := fun _ x4 =>
    (pForR (pl_reaches_out_1 theirs_ drawing_ x4) [(x4.2 - 1), (x4.2 + 1)] ()).bind fun c17 => match c17 with
    | .rt r => some (.rt r)
    | .nx _ =>
    some (.nx ())
def p_reaches_out (mine_ : (List (Int × Int))) (theirs_ : (List (Int × Int))) (drawing_ : (List (List (List Str)))) : Option Bool :=
    (pForR (pl_reaches_out_2 theirs_ drawing_) mine_ ()).bind fun c24 => match c24 with
    | .rt r => some r
    | .nx _ =>
    some false
def pc_seen_1 (r3 : (List (Int × Int))) : (Int × Int) → Option (Option (Int × Int)) := fun x5 =>
    (pIn (eP2 D.int D.int) x5 r3).bind fun b6 =>
    if b6 then
    some (some x5) else some none
def p_seen (drawing_ : (List (List (List Str)))) (one_ : Str) (other_ : Str) : Option Str :=
    (p_plots_of drawing_ one_).bind fun r1 =>
    (p_plots_of drawing_ other_).bind fun r3 =>
    (pComp (pc_seen_1 r3) r1).bind fun l8 =>
    if ((decide ((l8.length : Int) = (r1.length : Int))) && (decide ((l8.length : Int) = (r3.length : Int)))) then (
    some ("same" : Str)
    ) else
    if (decide ((l8.length : Int) = (r1.length : Int))) then (
    (p_reaches_out r1 r3 drawing_).bind fun r10 =>
    if r10 then (
    some ("inrim" : Str)
    ) else
    some ("incore" : Str)
    ) else
    if (decide ((l8.length : Int) = (r3.length : Int))) then (
    (p_reaches_out r3 r1 drawing_).bind fun r12 =>
    if r12 then (
    some ("hasrim" : Str)
    ) else
    some ("hascore" : Str)
    ) else
    (pEq (eL (eP2 D.int D.int)) l8 ([] : (List (Int × Int)))).bind fun b14 =>
    if (!b14) then (
    some ("over" : Str)
    ) else
    (p_are_near r1 r3).bind fun r16 =>
    if r16 then (
    some ("meets" : Str)
    ) else
    some ("apart" : Str)
def pl_sight_1 (drawing_ : (List (List (List Str)))) (x6 : Str) : (List ((Str × Str) × Str)) → Str → Option (List ((Str × Str) × Str)) := fun found_7 x9 =>
    if (decide (ltS x6 x9)) then (
    (p_seen drawing_ x6 x9).bind fun r10 =>
    (pPut found_7 (x6, x9) r10).bind fun l12 =>
    some l12
    ) else
    some found_7
def pl_sight_2 (drawing_ : (List (List (List Str)))) (r1 : (List Str)) : (List ((Str × Str) × Str)) → Str → Option (List ((Str × Str) × Str)) := fun found_3 x6 =>
    (pFor (pl_sight_1 drawing_ x6) r1 found_3).bind fun found_17 =>
    some found_17
def p_sight (drawing_ : (List (List (List Str)))) : Option (List ((Str × Str) × Str)) :=
    (p_lands drawing_).bind fun r1 =>
    (pFor (pl_sight_2 drawing_ r1) r1 ([] : (List ((Str × Str) × Str)))).bind fun found_22 =>
    some found_22
def p_copied (drawing_ : (List (List (List Str)))) : Option (List (List (List Str))) :=
    some drawing_
def pt_trimmed_1 : ((List (List (List Str))) × Int) → Option Bool := fun (left_7, at_8) =>
    some (decide (at_8 < (left_7.length : Int)))
def pl_trimmed_2 (r1 : (List ((Str × Str) × Str))) (r3 : (List Str)) : ((List (List (List Str))) × Int) → Option ((List (List (List Str))) × Int) := fun (left_7, at_8) =>
    (pDrop left_7 at_8).bind fun l10 =>
    (p_lands l10).bind fun r12 =>
    (pEq (eL D.str) r12 r3).bind fun b14 =>
    (if b14 then ((p_sight l10).bind fun r16 => some (pEqT r16 r1)) else some false).bind fun b18 =>
    if b18 then (
    some (l10, at_8)
    ) else
    some (left_7, (at_8 + 1))
def p_trimmed (drawing_ : (List (List (List Str)))) : Option (List (List (List Str))) :=
    (p_sight drawing_).bind fun r1 =>
    (p_lands drawing_).bind fun r3 =>
    (p_copied drawing_).bind fun r5 =>
    (pWhile (pt_trimmed_1) (pl_trimmed_2 r1 r3) 100 (r5, 0)).bind fun (left_23, at_24) =>
    some left_23
open Classical in
def p__law_like (a b : D) : Option Bool := if LikeL 5 a b then some true else none
def pl_law_1 : (Die × (List (List (List Str)))) → Int → Option (Die × (List (List (List Str)))) := fun (d_17, drawing_18) x21 =>
    (p__law_next d_17 (drawing_18.length : Int)).bind fun (r22, d23) =>
    (atI drawing_18 r22).bind fun x25 =>
    (p__law_next d23 3).bind fun (r27, d28) =>
    (atI [[([] : (List Str))], [([] : (List Str)), ([] : (List Str))], x25] r27).bind fun x30 =>
    (p__law_next d28 ((drawing_18.length : Int) + 1)).bind fun (r32, d33) =>
    (pIns drawing_18 r32 x30).bind fun l35 =>
    some (d33, l35)
def pl_law_2 (drawing_41 : (List (List (List Str)))) (r44 : (List (List (List Str)))) (r46 : (List (List (List Str)))) : Unit → Int → Option (Ct Bool Unit) := fun _ x52 =>
    (p_trimmed r46).bind fun r53 =>
    (p__law_like ((eL (eL (eT D.str))) r53) ((eL (eL (eT D.str))) r44)).bind fun r55 =>
    (if (!r55) then some true else ((pEq (eL (eL (eT D.str))) r46 drawing_41).bind fun b57 => some (!b57))).bind fun b59 =>
    if b59 then (
    some (.rt false)
    ) else
    (r53[0]?).bind fun y61 =>
    (pApp y61 [("zz" : Str)]).bind fun l62 =>
    (pApp (r53.set 0 l62) [[("zz" : Str)]]).bind fun l65 =>
    some (.nx ())
def p_law (script_ : (List Int)) : Option Bool :=
    (p__law_dice script_).bind fun r1 =>
    (p__law_next r1 4).bind fun (r3, d4) =>
    (p__law_names d4 (1 + r3)).bind fun (r6, d7) =>
    (p__law_drawing d7 r6 6).bind fun (r9, d10) =>
    (p__law_next d10 4).bind fun (r12, d13) =>
    (pRange r12).bind fun l15 =>
    (pFor (pl_law_1) l15 (d13, r9)).bind fun (d_40, drawing_41) =>
    (p__law_due drawing_41 r6).bind fun r44 =>
    (p__law_copied drawing_41).bind fun r46 =>
    (pRange 2).bind fun l48 =>
    (pForR (pl_law_2 drawing_41 r44 r46) l48 ()).bind fun c72 => match c72 with
    | .rt r => some r
    | .nx _ =>
    (p_trimmed r44).bind fun r73 =>
    (pEq (eL (eL (eT D.str))) r73 r44).bind fun b75 =>
    some b75
end
end RG

set_option maxRecDepth 100000
set_option maxHeartbeats 4000000
namespace RG
open PySem PySem.Spec PyProof.Rows L2
def lb__law_dice_1 : List S → Option Fl :=
    (sAsg (lift (pOp oMod (pCons (pOp oAdd (pCons (pOp oAdd (pCons (pOp oMul (pCons (pVar [] 1) (pCons (pC (.int 48271)) (fun _ => some [])))) (pCons (pOp oMul (pCons (pOp oMod (pCons (pVar [] 2) (pCons (pC (.int 2147483647)) (fun _ => some [])))) (pCons (pC (.int 69621)) (fun _ => some [])))) (fun _ => some [])))) (pCons (pC (.int 11)) (fun _ => some [])))) (pCons (pC (.int 2147483647)) (fun _ => some []))))) (gSet 1))
def fb__law_dice : List S → Option Fl :=
    (sSeq (sAsg (lift (pC (.int 0))) (gSet 1))
    (sSeq (sFor false (iSq (lift (pVar [] 0))) (gSet 2)
    lb__law_dice_1)
    (sRet (eOp oLst (aCons false (lift (pVar [] 0)) (aCons false (lift (pC (.int 0))) (aCons false (lift (pOp oMul (pCons (pVar [] 1) (pCons (pOp oInt (pCons (pOp oGt (pCons (pOp oLen (pCons (pVar [] 0) (fun _ => some []))) (pCons (pC (.int 2)) (fun _ => some [])))) (fun _ => some []))) (fun _ => some []))))) (aCons false (lift (pC (.int 0))) (fun env => some ([], env))))))))))
def fn__law_dice : Fn := fnOf 3 fb__law_dice
def fb__law_next : List S → Option Fl :=
    (sSeq (sIf (bE (lift (pOp oGt (pCons (pOp oIx (pCons (pVar [] 0) (pCons (pC (.int 3)) (fun _ => some [])))) (pCons (pC (.int 0)) (fun _ => some []))))))
    (sSeq (sAsg (lift (pOp oMod (pCons (pOp oIx (pCons (pVar [] 0) (pCons (pC (.int 3)) (fun _ => some [])))) (pCons (pVar [] 1) (fun _ => some []))))) (gSet 2))
    (sSeq (sPut 0 oSetL (lift (pOp oDiv (pCons (pOp oIx (pCons (pVar [] 0) (pCons (pC (.int 3)) (fun _ => some [])))) (pCons (pVar [] 1) (fun _ => some []))))) (lift (pC (.int 3))))
    (sRet (eTake 2))))
    (fun env => some (.nx env)))
    (sSeq (sPut 0 oSetL (lift (pOp oAdd (pCons (pOp oIx (pCons (pVar [] 0) (pCons (pC (.int 1)) (fun _ => some [])))) (pCons (pC (.int 1)) (fun _ => some []))))) (lift (pC (.int 1))))
    (sSeq (sIf (bE (lift (pOp oLe (pCons (pOp oIx (pCons (pVar [] 0) (pCons (pC (.int 1)) (fun _ => some [])))) (pCons (pOp oLen (pCons (pOp oIx (pCons (pVar [] 0) (pCons (pC (.int 0)) (fun _ => some [])))) (fun _ => some []))) (fun _ => some []))))))
    (sSeq (sAsg (lift (pOp oIx (pCons (pOp oIx (pCons (pVar [] 0) (pCons (pC (.int 0)) (fun _ => some [])))) (pCons (pOp oSub (pCons (pOp oIx (pCons (pVar [] 0) (pCons (pC (.int 1)) (fun _ => some [])))) (pCons (pC (.int 1)) (fun _ => some [])))) (fun _ => some []))))) (gSet 3))
    (sSeq (sPut 0 oSetL (eIf (bE (lift (pOp oGe (pCons (pVar [] 3) (pCons (pOp oPow (pCons (pC (.int 10)) (pCons (pC (.int 18)) (fun _ => some [])))) (fun _ => some [])))))) (lift (pOp oDiv (pCons (pVar [] 3) (pCons (pVar [] 1) (fun _ => some []))))) (lift (pC (.int 0)))) (lift (pC (.int 3))))
    (sRet (lift (pOp oMod (pCons (pVar [] 3) (pCons (pVar [] 1) (fun _ => some []))))))))
    (fun env => some (.nx env)))
    (sSeq (sPut 0 oSetL (lift (pOp oMod (pCons (pOp oMul (pCons (pOp oIx (pCons (pVar [] 0) (pCons (pC (.int 2)) (fun _ => some [])))) (pCons (pC (.int 48271)) (fun _ => some [])))) (pCons (pC (.int 2147483647)) (fun _ => some []))))) (lift (pC (.int 2))))
    (sRet (lift (pOp oMod (pCons (pOp oDiv (pCons (pOp oIx (pCons (pVar [] 0) (pCons (pC (.int 2)) (fun _ => some [])))) (pCons (pC (.int 7)) (fun _ => some [])))) (pCons (pVar [] 1) (fun _ => some []))))))))))
def fn__law_next : Fn := fnOf 4 fb__law_next
def fb__law_names : List S → Option Fl :=
    (sSeq (sAsg (eOp oLst (aCons false (lift (pC (.str "a"))) (aCons false (lift (pC (.str "b"))) (aCons false (lift (pC (.str "ab"))) (aCons false (lift (pC (.str "or"))) (aCons false (lift (pC (.str "ba"))) (aCons false (lift (pC (.str "never"))) (aCons false (lift (pC (.str "same"))) (aCons false (lift (pC (.str "samewise"))) (fun env => some ([], env))))))))))) (gSet 2))
    (sSeq (sAsg (lift (pOp oLst (fun _ => some []))) (gSet 3))
    (sSeq (sFor false (iRange1 (lift (pVar [0] 1))) (gSet 4)
    (sSeq (sAsg (eMut 2 "list" mPopAt (aCons false (eCall 2 [0] fn__law_next (aPtr 0 (aCons false (lift (pOp oLen (pCons (pVar [0] 2) (fun _ => some [])))) (fun env => some ([], env))))) (fun env => some ([], env)))) (gSet 5))
    (sSeq (sIf (bAnd (bE (eOp oEq (aCons false (eCall 2 [0] fn__law_next (aPtr 0 (aCons false (lift (pC (.int 3))) (fun env => some ([], env))))) (aCons false (lift (pC (.int 2))) (fun env => some ([], env)))))) (bE (lift (pOp oLt (pCons (pOp oLen (pCons (pVar [0] 5) (fun _ => some []))) (pCons (pC (.int 7)) (fun _ => some [])))))))
    (sAsg (eOp oAdd (aCons false (eOp oIx (aCons false (lift (pC (.str "abcdefghijklmnopqrstuvwxyz"))) (aCons false (eCall 2 [0] fn__law_next (aPtr 0 (aCons false (lift (pC (.int 26))) (fun env => some ([], env))))) (fun env => some ([], env))))) (aCons false (lift (pVar [0] 5)) (fun env => some ([], env))))) (gSet 5))
    (fun env => some (.nx env)))
    (sSeq (sIf (bE (lift (pOp oInA (pCons (pVar [0] 5) (pCons (pVar [0] 3) (fun _ => some []))))))
    (sAsg (lift (pOp oAdd (pCons (pVar [0] 5) (pCons (pC (.str "z")) (fun _ => some []))))) (gSet 5))
    (fun env => some (.nx env)))
    (sExpr (eMut 3 "list" mAppend (aCons false (lift (pVar [0] 5)) (fun env => some ([], env)))))))))
    (sRet (eTake 3)))))
def fn__law_names : Fn := fnOf 6 fb__law_names
def fb__law_strip : List S → Option Fl :=
    (sSeq (sAsg (eCall 2 [0] fn__law_next (aPtr 0 (aCons false (lift (pC (.int 3))) (fun env => some ([], env))))) (gSet 3))
    (sSeq (sAsg (eCall 2 [0] fn__law_next (aPtr 0 (aCons false (lift (pOp oAdd (pCons (pOp oLen (pCons (pVar [0] 1) (fun _ => some []))) (pCons (pC (.int 1)) (fun _ => some []))))) (fun env => some ([], env))))) (gSet 4))
    (sSeq (sAsg (lift (pOp oLst (fun _ => some []))) (gSet 5))
    (sSeq (sFor false (iRange1 (eOp oAdd (aCons false (lift (pC (.int 1))) (aCons false (eCall 2 [0] fn__law_next (aPtr 0 (aCons false (lift (pVar [0] 2)) (fun env => some ([], env))))) (fun env => some ([], env)))))) (gSet 6)
    (sSeq (sAsg (eOp oAdd (aCons false (lift (pOp oSub (pCons (pVar [0] 4) (pCons (pC (.int 1)) (fun _ => some []))))) (aCons false (eCall 2 [0] fn__law_next (aPtr 0 (aCons false (lift (pC (.int 3))) (fun env => some ([], env))))) (fun env => some ([], env))))) (gSet 7))
    (sSeq (sAsg (lift (pOp oLst (fun _ => some []))) (gSet 8))
    (sSeq (sFor false (iRange1 (lift (pOp oLen (pCons (pVar [0] 1) (fun _ => some []))))) (gSet 9)
    (sIf (bOr (bAnd (bE (lift (pOp oEq (pCons (pVar [0] 3) (pCons (pC (.int 0)) (fun _ => some [])))))) (bE (eOp oEq (aCons false (eCall 2 [0] fn__law_next (aPtr 0 (aCons false (lift (pC (.int 2))) (fun env => some ([], env))))) (aCons false (lift (pC (.int 1))) (fun env => some ([], env))))))) (bAnd (bE (lift (pOp oGt (pCons (pVar [0] 3) (pCons (pC (.int 0)) (fun _ => some [])))))) (bAnd (bE (lift (pOp oGe (pCons (pVar [0] 9) (pCons (pVar [0] 7) (fun _ => some [])))))) (bOr (bE (lift (pOp oEq (pCons (pVar [0] 3) (pCons (pC (.int 1)) (fun _ => some [])))))) (bE (eOp oLt (aCons false (eCall 2 [0] fn__law_next (aPtr 0 (aCons false (lift (pC (.int 4))) (fun env => some ([], env))))) (aCons false (lift (pC (.int 3))) (fun env => some ([], env))))))))))
    (sExpr (eMut 8 "list" mAppend (aCons false (lift (pOp oIx (pCons (pVar [0] 1) (pCons (pVar [0] 9) (fun _ => some []))))) (fun env => some ([], env)))))
    (fun env => some (.nx env))))
    (sExpr (eMut 5 "list" mAppend (aCons false (lift (pOp oTuple (pCons (pOp oSorted (pCons (pVar [0] 8) (fun _ => some []))) (fun _ => some [])))) (fun env => some ([], env)))))))))
    (sRet (eTake 5))))))
def fn__law_strip : Fn := fnOf 10 fb__law_strip
def fb__law_drawing : List S → Option Fl :=
    (sSeq (sAsg (eComp [4] (iRange1 (eCall 2 [0] fn__law_next (aPtr 0 (aCons false (lift (pOp oAdd (pCons (pVar [0] 2) (pCons (pC (.int 1)) (fun _ => some []))))) (fun env => some ([], env)))))) (gSet 4) (fun env => some (true, env)) (eCall 3 [0] fn__law_strip (aPtr 0 (aCons false (lift (pVar [0] 1)) (aCons false (eOp oIx (aCons false (lift (pOp oLst (pCons (pC (.int 3)) (pCons (pC (.int 3)) (pCons (pC (.int 3)) (pCons (pC (.int 8)) (fun _ => some []))))))) (aCons false (eCall 2 [0] fn__law_next (aPtr 0 (aCons false (lift (pC (.int 4))) (fun env => some ([], env))))) (fun env => some ([], env))))) (fun env => some ([], env))))))) (gSet 3))
    (sSeq (sAsg (lift (pOp oLst (fun _ => some []))) (gSet 5))
    (fun env => (sSeq (sFor false (iSq (lift (pVar [0] 3))) (gSet 6)
    (sFor false (iSq (lift (pVar [0] 6))) (gSet 7)
    (sAsg (lift (pOp oAdd (pCons (pVar [0] 5) (pCons (pOp oList (pCons (pVar [0] 7) (fun _ => some []))) (fun _ => some []))))) (gSet 5))))
    (fun env => (sSeq (sFor false (iSq (lift (pVar [0] 1))) (gSet 8)
    (sIf (bE (lift (pOp oNotInA (pCons (pVar [0] 8) (pCons (pVar [0] 5) (fun _ => some []))))))
    (sExpr (eMut 3 "list" mAppend (aCons false (eOp oLst (aCons false (eOp oTup (aCons false (lift (pVar [0] 8)) (fun env => some ([], env)))) (fun env => some ([], env)))) (fun env => some ([], env)))))
    (fun env => some (.nx env))))
    (sRet (eTake 3))) (ownE 3 env))) (frzE 3 env))))
def fn__law_drawing : Fn := fnOf 9 fb__law_drawing
def fb__law_places : List S → Option Fl :=
    (sSeq (sAsg (lift (pOp oLst (fun _ => some []))) (gSet 2))
    (sSeq (sFor false (iRange1 (lift (pOp oLen (pCons (pVar [] 0) (fun _ => some []))))) (gSet 3)
    (sFor false (iRange1 (lift (pOp oLen (pCons (pOp oIx (pCons (pVar [] 0) (pCons (pVar [] 3) (fun _ => some [])))) (fun _ => some []))))) (gSet 4)
    (sIf (bE (lift (pOp oInA (pCons (pVar [] 1) (pCons (pOp oIx (pCons (pOp oIx (pCons (pVar [] 0) (pCons (pVar [] 3) (fun _ => some [])))) (pCons (pVar [] 4) (fun _ => some [])))) (fun _ => some []))))))
    (sExpr (eMut 2 "list" mAppend (aCons false (eOp oTup (aCons false (lift (pVar [] 3)) (aCons false (lift (pVar [] 4)) (fun env => some ([], env))))) (fun env => some ([], env)))))
    (fun env => some (.nx env)))))
    (sRet (eTake 2))))
def fn__law_places : Fn := fnOf 5 fb__law_places
def fb__law_near : List S → Option Fl :=
    (sSeq (sAsg (lift (pOp oLst (fun _ => some []))) (gSet 2))
    (sSeq (sFor false (iSq (lift (pVar [] 1))) (gTups [3, 4])
    (sSeq (sIf (bE (lift (pOp oGt (pCons (pVar [] 4) (pCons (pC (.int 0)) (fun _ => some []))))))
    (sExpr (eMut 2 "list" mAppend (aCons false (eOp oTup (aCons false (lift (pVar [] 3)) (aCons false (lift (pOp oSub (pCons (pVar [] 4) (pCons (pC (.int 1)) (fun _ => some []))))) (fun env => some ([], env))))) (fun env => some ([], env)))))
    (fun env => some (.nx env)))
    (sIf (bE (lift (pOp oLt (pCons (pOp oAdd (pCons (pVar [] 4) (pCons (pC (.int 1)) (fun _ => some [])))) (pCons (pOp oLen (pCons (pOp oIx (pCons (pVar [] 0) (pCons (pVar [] 3) (fun _ => some [])))) (fun _ => some []))) (fun _ => some []))))))
    (sExpr (eMut 2 "list" mAppend (aCons false (eOp oTup (aCons false (lift (pVar [] 3)) (aCons false (lift (pOp oAdd (pCons (pVar [] 4) (pCons (pC (.int 1)) (fun _ => some []))))) (fun env => some ([], env))))) (fun env => some ([], env)))))
    (fun env => some (.nx env)))))
    (sRet (eTake 2))))
def fn__law_near : Fn := fnOf 5 fb__law_near
def fb__law_seen : List S → Option Fl :=
    (sSeq (sAsg (eCall 2 [] fn__law_places (aCons false (lift (pVar [] 0)) (aCons false (lift (pVar [] 1)) (fun env => some ([], env))))) (gSet 3))
    (sSeq (sAsg (eCall 2 [] fn__law_places (aCons false (lift (pVar [] 0)) (aCons false (lift (pVar [] 2)) (fun env => some ([], env))))) (gSet 4))
    (fun env => (sSeq (sAsg (eComp [6] (iSq (lift (pVar [] 3))) (gSet 6) (bE (lift (pOp oInA (pCons (pVar [] 6) (pCons (pVar [] 4) (fun _ => some [])))))) (lift (pVar [] 6))) (gSet 5))
    (sSeq (sIf (bE (lift (pOp oEq (pCons (pVar [] 3) (pCons (pVar [] 4) (fun _ => some []))))))
    (sRet (lift (pC (.str "same"))))
    (fun env => some (.nx env)))
    (sSeq (sIf (bE (lift (pOp oEq (pCons (pVar [] 5) (pCons (pVar [] 3) (fun _ => some []))))))
    (sSeq (sAsg (eComp [6] (iSq (eCall 2 [] fn__law_near (aCons false (lift (pVar [] 0)) (aCons false (lift (pVar [] 3)) (fun env => some ([], env)))))) (gSet 6) (bE (lift (pOp oNotInA (pCons (pVar [] 6) (pCons (pVar [] 4) (fun _ => some [])))))) (lift (pVar [] 6))) (gSet 7))
    (sRet (lift (pOp oIx (pCons (pOp oLst (pCons (pC (.str "incore")) (pCons (pC (.str "inrim")) (fun _ => some [])))) (pCons (pOp oInt (pCons (pOp oNe (pCons (pVar [] 7) (pCons (pOp oLst (fun _ => some [])) (fun _ => some [])))) (fun _ => some []))) (fun _ => some [])))))))
    (fun env => some (.nx env)))
    (sSeq (sIf (bE (lift (pOp oEq (pCons (pVar [] 5) (pCons (pVar [] 4) (fun _ => some []))))))
    (sSeq (sAsg (eComp [6] (iSq (eCall 2 [] fn__law_near (aCons true (lift (pVar [] 0)) (aCons false (eTake 4) (fun env => some ([], env)))))) (gSet 6) (bE (lift (pOp oNotInA (pCons (pVar [] 6) (pCons (pVar [] 3) (fun _ => some [])))))) (lift (pVar [] 6))) (gSet 7))
    (sRet (lift (pOp oIx (pCons (pOp oLst (pCons (pC (.str "hascore")) (pCons (pC (.str "hasrim")) (fun _ => some [])))) (pCons (pOp oInt (pCons (pOp oNe (pCons (pVar [] 7) (pCons (pOp oLst (fun _ => some [])) (fun _ => some [])))) (fun _ => some []))) (fun _ => some [])))))))
    (fun env => some (.nx env)))
    (sSeq (sIf (bE (lift (pOp oNe (pCons (pVar [] 5) (pCons (pOp oLst (fun _ => some [])) (fun _ => some []))))))
    (sRet (lift (pC (.str "over"))))
    (fun env => some (.nx env)))
    (sSeq (sAsg (eComp [6] (iSq (eCall 2 [] fn__law_near (aCons false (lift (pVar [] 0)) (aCons false (lift (pVar [] 3)) (fun env => some ([], env)))))) (gSet 6) (bE (lift (pOp oInA (pCons (pVar [] 6) (pCons (pVar [] 4) (fun _ => some [])))))) (lift (pVar [] 6))) (gSet 8))
    (sRet (lift (pOp oIx (pCons (pOp oLst (pCons (pC (.str "apart")) (pCons (pC (.str "meets")) (fun _ => some [])))) (pCons (pOp oInt (pCons (pOp oNe (pCons (pVar [] 8) (pCons (pOp oLst (fun _ => some [])) (fun _ => some [])))) (fun _ => some []))) (fun _ => some [])))))))))))) (frzE 3 env))))
def fn__law_seen : Fn := fnOf 9 fb__law_seen
def fb__law_sight : List S → Option Fl :=
    (sSeq (sAsg (lift (pOp oLst (fun _ => some []))) (gSet 2))
    (sSeq (sFor false (iSq (lift (pVar [] 1))) (gSet 3)
    (sSeq (sIf (bE (eOp oEq (aCons false (eCall 2 [] fn__law_places (aCons false (lift (pVar [] 0)) (aCons false (lift (pVar [] 3)) (fun env => some ([], env))))) (aCons false (lift (pOp oLst (fun _ => some []))) (fun env => some ([], env))))))
    (sRet (lift (pC .non)))
    (fun env => some (.nx env)))
    (sFor false (iSq (lift (pVar [] 1))) (gSet 4)
    (sExpr (eMut 2 "list" mAppend (aCons false (eCall 3 [] fn__law_seen (aCons false (lift (pVar [] 0)) (aCons false (lift (pVar [] 3)) (aCons false (lift (pVar [] 4)) (fun env => some ([], env)))))) (fun env => some ([], env))))))))
    (sRet (eTake 2))))
def fn__law_sight : Fn := fnOf 5 fb__law_sight
def fb__law_due : List S → Option Fl :=
    (sSeq (sAsg (eCall 2 [] fn__law_sight (aCons false (lift (pVar [] 0)) (aCons false (lift (pVar [] 1)) (fun env => some ([], env))))) (gSet 2))
    (sSeq (sAsg (eW .val (eOp oList (aCons false (lift (pVar [] 0)) (fun env => some ([], env))))) (gSet 3))
    (sSeq (sAsg (lift (pC (.int 0))) (gSet 4))
    (sSeq (sFor false (iRange1 (lift (pOp oLen (pCons (pVar [] 0) (fun _ => some []))))) (gSet 5)
    (sSeq (sAsg (eDrop 3 4) (gSet 6))
    (sIf (bE (eOp oEq (aCons false (eCall 2 [] fn__law_sight (aCons false (lift (pVar [] 6)) (aCons false (lift (pVar [] 1)) (fun env => some ([], env))))) (aCons false (lift (pVar [] 2)) (fun env => some ([], env))))))
    (sAsg (lift (pVar [] 6)) (gSet 3))
    (sAsg (lift (pOp oAdd (pCons (pVar [] 4) (pCons (pC (.int 1)) (fun _ => some []))))) (gSet 4)))))
    (sRet (lift (pVar [] 3)))))))
def fnv__law_due : List D → Option T := fnV 7 fb__law_due
def le__law_copied_1 (r : Fn) : List S → Option (RG.T × List S) :=
    (eCall 1 [] r (aCons false (lift (pVar [] 1)) (fun env => some ([], env))))
def le__law_copied_2 (r : Fn) : List S → Option (RG.T × List S) :=
    (eCall 1 [] r (aCons false (lift (pVar [] 1)) (fun env => some ([], env))))
def fb__law_copied (r : Fn) : List S → Option Fl :=
    (sSeq (sIf (bE (lift (pIsi "list" (pVar [] 0))))
    (sRet (eComp [1] (iSq (lift (pVar [] 0))) (gSet 1) (fun env => some (true, env)) (le__law_copied_1 r)))
    (fun env => some (.nx env)))
    (sSeq (sIf (bE (lift (pIsi "dict" (pVar [] 0))))
    (fun _ => none)
    (fun env => some (.nx env)))
    (sSeq (sIf (bE (lift (pIsi "tuple" (pVar [] 0))))
    (sRet (eOp oTuple (aCons false (eComp [1] (iSq (lift (pVar [] 0))) (gSet 1) (fun env => some (true, env)) (le__law_copied_2 r)) (fun env => some ([], env)))))
    (fun env => some (.nx env)))
    (sRet (lift (pVar [] 0))))))
def fn__law_copied : Fn := fnRec 2 fb__law_copied 5
def fb_lands : List S → Option Fl :=
    (sSeq (sAsg (lift (pDisp [])) (gSet 1))
    (sSeq (sFor false (iSq (lift (pVar [] 0))) (gSet 2)
    (sFor false (iSq (lift (pVar [] 2))) (gSet 3)
    (sFor false (iSq (lift (pVar [] 3))) (gSet 4)
    (sPut 1 oDPut (lift (pC (.bl true))) (lift (pVar [] 4))))))
    (sRet (lift (pOp oSorted (pCons (pVar [] 1) (fun _ => some [])))))))
def fn_lands : Fn := fnOf 5 fb_lands
def fb_plots_of : List S → Option Fl :=
    (sSeq (sAsg (lift (pOp oLst (fun _ => some []))) (gSet 2))
    (sSeq (sFor false (iRange1 (lift (pOp oLen (pCons (pVar [] 0) (fun _ => some []))))) (gSet 3)
    (sFor false (iRange1 (lift (pOp oLen (pCons (pOp oIx (pCons (pVar [] 0) (pCons (pVar [] 3) (fun _ => some [])))) (fun _ => some []))))) (gSet 4)
    (sIf (bE (lift (pOp oInA (pCons (pVar [] 1) (pCons (pOp oIx (pCons (pOp oIx (pCons (pVar [] 0) (pCons (pVar [] 3) (fun _ => some [])))) (pCons (pVar [] 4) (fun _ => some [])))) (fun _ => some []))))))
    (sExpr (eMut 2 "list" mAppend (aCons false (eOp oTup (aCons false (lift (pVar [] 3)) (aCons false (lift (pVar [] 4)) (fun env => some ([], env))))) (fun env => some ([], env)))))
    (fun env => some (.nx env)))))
    (sSeq (sIf (bE (lift (pOp oEq (pCons (pVar [] 2) (pCons (pOp oLst (fun _ => some [])) (fun _ => some []))))))
    (fun _ => none)
    (fun env => some (.nx env)))
    (sRet (eTake 2)))))
def fn_plots_of : Fn := fnOf 5 fb_plots_of
def fb_are_near : List S → Option Fl :=
    (sSeq (sFor false (iSq (lift (pVar [] 0))) (gTups [2, 3])
    (sIf (bOr (bE (lift (pOp oInA (pCons (pOp oTup (pCons (pVar [] 2) (pCons (pOp oSub (pCons (pVar [] 3) (pCons (pC (.int 1)) (fun _ => some [])))) (fun _ => some [])))) (pCons (pVar [] 1) (fun _ => some [])))))) (bE (lift (pOp oInA (pCons (pOp oTup (pCons (pVar [] 2) (pCons (pOp oAdd (pCons (pVar [] 3) (pCons (pC (.int 1)) (fun _ => some [])))) (fun _ => some [])))) (pCons (pVar [] 1) (fun _ => some [])))))))
    (sRet (lift (pC (.bl true))))
    (fun env => some (.nx env))))
    (sRet (lift (pC (.bl false)))))
def fn_are_near : Fn := fnOf 4 fb_are_near
def fb_reaches_out : List S → Option Fl :=
    (sSeq (sFor false (iSq (lift (pVar [] 0))) (gTups [3, 4])
    (sFor false (iSq (eOp oLst (aCons false (lift (pOp oSub (pCons (pVar [] 4) (pCons (pC (.int 1)) (fun _ => some []))))) (aCons false (lift (pOp oAdd (pCons (pVar [] 4) (pCons (pC (.int 1)) (fun _ => some []))))) (fun env => some ([], env)))))) (gSet 5)
    (sIf (bAnd (bE (lift (pChain oLe oLt (pC (.int 0)) (pVar [] 5) (pOp oLen (pCons (pOp oIx (pCons (pVar [] 2) (pCons (pVar [] 3) (fun _ => some [])))) (fun _ => some [])))))) (bE (lift (pOp oNotInA (pCons (pOp oTup (pCons (pVar [] 3) (pCons (pVar [] 5) (fun _ => some [])))) (pCons (pVar [] 1) (fun _ => some [])))))))
    (sRet (lift (pC (.bl true))))
    (fun env => some (.nx env)))))
    (sRet (lift (pC (.bl false)))))
def fn_reaches_out : Fn := fnOf 6 fb_reaches_out
def fb_seen : List S → Option Fl :=
    (sSeq (sAsg (eCall 2 [] fn_plots_of (aCons false (lift (pVar [] 0)) (aCons false (lift (pVar [] 1)) (fun env => some ([], env))))) (gSet 3))
    (sSeq (sAsg (eCall 2 [] fn_plots_of (aCons false (lift (pVar [] 0)) (aCons false (lift (pVar [] 2)) (fun env => some ([], env))))) (gSet 4))
    (fun env => (sSeq (sAsg (eComp [6] (iSq (lift (pVar [] 3))) (gSet 6) (bE (lift (pOp oInA (pCons (pVar [] 6) (pCons (pVar [] 4) (fun _ => some [])))))) (lift (pVar [] 6))) (gSet 5))
    (sSeq (sIf (bAnd (bE (lift (pOp oEq (pCons (pOp oLen (pCons (pVar [] 5) (fun _ => some []))) (pCons (pOp oLen (pCons (pVar [] 3) (fun _ => some []))) (fun _ => some [])))))) (bE (lift (pOp oEq (pCons (pOp oLen (pCons (pVar [] 5) (fun _ => some []))) (pCons (pOp oLen (pCons (pVar [] 4) (fun _ => some []))) (fun _ => some [])))))))
    (sRet (lift (pC (.str "same"))))
    (fun env => some (.nx env)))
    (sSeq (sIf (bE (lift (pOp oEq (pCons (pOp oLen (pCons (pVar [] 5) (fun _ => some []))) (pCons (pOp oLen (pCons (pVar [] 3) (fun _ => some []))) (fun _ => some []))))))
    (sSeq (sIf (bE (eCall 3 [] fn_reaches_out (aCons true (lift (pVar [] 3)) (aCons false (eTake 4) (aCons false (lift (pVar [] 0)) (fun env => some ([], env)))))))
    (sRet (lift (pC (.str "inrim"))))
    (fun env => some (.nx env)))
    (sRet (lift (pC (.str "incore")))))
    (fun env => some (.nx env)))
    (sSeq (sIf (bE (lift (pOp oEq (pCons (pOp oLen (pCons (pVar [] 5) (fun _ => some []))) (pCons (pOp oLen (pCons (pVar [] 4) (fun _ => some []))) (fun _ => some []))))))
    (sSeq (sIf (bE (eCall 3 [] fn_reaches_out (aCons false (eTake 4) (aCons false (lift (pVar [] 3)) (aCons false (lift (pVar [] 0)) (fun env => some ([], env)))))))
    (sRet (lift (pC (.str "hasrim"))))
    (fun env => some (.nx env)))
    (sRet (lift (pC (.str "hascore")))))
    (fun env => some (.nx env)))
    (sSeq (sIf (bE (lift (pOp oNe (pCons (pVar [] 5) (pCons (pOp oLst (fun _ => some [])) (fun _ => some []))))))
    (sRet (lift (pC (.str "over"))))
    (fun env => some (.nx env)))
    (sSeq (sIf (bE (eCall 2 [] fn_are_near (aCons true (lift (pVar [] 3)) (aCons false (eTake 4) (fun env => some ([], env))))))
    (sRet (lift (pC (.str "meets"))))
    (fun env => some (.nx env)))
    (sRet (lift (pC (.str "apart")))))))))) (frzE 3 env))))
def fn_seen : Fn := fnOf 7 fb_seen
def fb_sight : List S → Option Fl :=
    (sSeq (sAsg (eCall 1 [] fn_lands (aCons false (lift (pVar [] 0)) (fun env => some ([], env)))) (gSet 1))
    (sSeq (sAsg (lift (fun _ => some (some .own, .dT []))) (gSet 2))
    (fun env => (sSeq (sFor false (iSq (lift (pVar [] 1))) (gSet 3)
    (sFor false (iSq (lift (pVar [] 1))) (gSet 4)
    (sIf (bE (lift (pOp oLt (pCons (pVar [] 3) (pCons (pVar [] 4) (fun _ => some []))))))
    (sPut 2 oDPut (eCall 3 [] fn_seen (aCons false (lift (pVar [] 0)) (aCons false (lift (pVar [] 3)) (aCons false (lift (pVar [] 4)) (fun env => some ([], env)))))) (lift (pOp oTup (pCons (pVar [] 3) (pCons (pVar [] 4) (fun _ => some []))))))
    (fun env => some (.nx env)))))
    (sRet (eTake 2))) (frzE 1 env))))
def fn_sight : Fn := fnOf 5 fb_sight
def fb_copied : List S → Option Fl :=
    (sRet (eComp [1] (iSq (lift (pVar [] 0))) (gSet 1) (fun env => some (true, env)) (lift (pOp oList (pCons (pVar [] 1) (fun _ => some []))))))
def fn_copied : Fn := fnOf 2 fb_copied
def fb_trimmed : List S → Option Fl :=
    (sSeq (sAsg (eCall 1 [] fn_sight (aCons false (lift (pVar [] 0)) (fun env => some ([], env)))) (gSet 1))
    (sSeq (sAsg (eCall 1 [] fn_lands (aCons false (lift (pVar [] 0)) (fun env => some ([], env)))) (gSet 2))
    (sSeq (sAsg (eCall 1 [] fn_copied (aCons false (lift (pVar [] 0)) (fun env => some ([], env)))) (gSet 3))
    (sSeq (sAsg (lift (pC (.int 0))) (gSet 4))
    (fun env => (sSeq (sWhile (bE (lift (pOp oLt (pCons (pVar [] 4) (pCons (pOp oLen (pCons (pVar [] 3) (fun _ => some []))) (fun _ => some []))))))
    (sSeq (sAsg (eDrop 3 4) (gSet 5))
    (sIf (bAnd (bE (eOp oEq (aCons false (eCall 1 [] fn_lands (aCons false (lift (pVar [] 5)) (fun env => some ([], env)))) (aCons false (lift (pVar [] 2)) (fun env => some ([], env)))))) (bE (eOp oEqA (aCons false (eCall 1 [] fn_sight (aCons false (lift (pVar [] 5)) (fun env => some ([], env)))) (aCons false (lift (pVar [] 1)) (fun env => some ([], env)))))))
    (sAsg (lift (pVar [] 5)) (gSet 3))
    (sAsg (lift (pOp oAdd (pCons (pVar [] 4) (pCons (pC (.int 1)) (fun _ => some []))))) (gSet 4)))) 100)
    (sRet (lift (pVar [] 3)))) (frzE 3 env))))))
def fn_trimmed : Fn := fnOf 6 fb_trimmed
def lc__law_like_1 (r : Fn) : List S → Option (Bool × List S) :=
    (bOr (bE (lift (pOp oNotInA (pCons (pVar [] 2) (pCons (pVar [] 0) (fun _ => some [])))))) (bNot (bE (eCall 2 [] r (aCons false (lift (pOp oIx (pCons (pVar [] 0) (pCons (pVar [] 2) (fun _ => some []))))) (aCons false (lift (pOp oIx (pCons (pVar [] 1) (pCons (pVar [] 2) (fun _ => some []))))) (fun env => some ([], env))))))))
def le__law_like_1 (r : Fn) : List S → Option (RG.T × List S) :=
    (lift (pVar [] 2))
def lb__law_like_1 (r : Fn) : List S → Option Fl :=
    (sIf (bNot (bE (eCall 2 [] r (aCons false (lift (pOp oIx (pCons (pVar [] 0) (pCons (pVar [] 3) (fun _ => some []))))) (aCons false (lift (pOp oIx (pCons (pVar [] 1) (pCons (pVar [] 3) (fun _ => some []))))) (fun env => some ([], env)))))))
    (sRet (lift (pC (.bl false))))
    (fun env => some (.nx env)))
def fb__law_like (r : Fn) : List S → Option Fl :=
    (sSeq (sIf (bE (lift (pIsi "bool" (pVar [] 1))))
    (sRet (eB (bAnd (bE (lift (pIsi "bool" (pVar [] 0)))) (bE (lift (pOp oEq (pCons (pVar [] 0) (pCons (pVar [] 1) (fun _ => some [])))))))))
    (fun env => some (.nx env)))
    (sSeq (sIf (bE (lift (pIsi "str" (pVar [] 1))))
    (sRet (eB (bAnd (bE (lift (pIsi "str" (pVar [] 0)))) (bE (lift (pOp oEq (pCons (pVar [] 0) (pCons (pVar [] 1) (fun _ => some [])))))))))
    (fun env => some (.nx env)))
    (sSeq (sIf (bE (lift (pIsi "int" (pVar [] 1))))
    (sRet (eB (bAnd (bE (lift (pIsi "int" (pVar [] 0)))) (bE (eB (bAnd (bE (eB (bNot (bE (lift (pIsi "bool" (pVar [] 0))))))) (bE (lift (pOp oEq (pCons (pVar [] 0) (pCons (pVar [] 1) (fun _ => some []))))))))))))
    (fun env => some (.nx env)))
    (sSeq (sIf (bE (lift (pOp oIsN (pCons (pVar [] 1) (pCons (pC .non) (fun _ => some []))))))
    (sRet (lift (pOp oIsN (pCons (pVar [] 0) (pCons (pC .non) (fun _ => some []))))))
    (fun env => some (.nx env)))
    (sSeq (sIf (bE (lift (pIsi "dict" (pVar [] 1))))
    (sSeq (sIf (bOr (bNot (bE (lift (pIsi "dict" (pVar [] 0))))) (bE (lift (pOp oNe (pCons (pOp oLen (pCons (pVar [] 0) (fun _ => some []))) (pCons (pOp oLen (pCons (pVar [] 1) (fun _ => some []))) (fun _ => some [])))))))
    (sRet (lift (pC (.bl false))))
    (fun env => some (.nx env)))
    (sRet (eOp oEq (aCons false (eComp [2] (iSq (lift (pVar [] 1))) (gSet 2) (lc__law_like_1 r) (le__law_like_1 r)) (aCons false (lift (pOp oLst (fun _ => some []))) (fun env => some ([], env)))))))
    (fun env => some (.nx env)))
    (sSeq (sIf (bOr (bE (lift (pOp oNe (pCons (pIsi "tuple" (pVar [] 1)) (pCons (pIsi "tuple" (pVar [] 0)) (fun _ => some [])))))) (bE (lift (pOp oNe (pCons (pIsi "list" (pVar [] 1)) (pCons (pIsi "list" (pVar [] 0)) (fun _ => some [])))))))
    (sRet (lift (pC (.bl false))))
    (fun env => some (.nx env)))
    (sSeq (sIf (bE (lift (pOp oNe (pCons (pOp oLen (pCons (pVar [] 0) (fun _ => some []))) (pCons (pOp oLen (pCons (pVar [] 1) (fun _ => some []))) (fun _ => some []))))))
    (sRet (lift (pC (.bl false))))
    (fun env => some (.nx env)))
    (sSeq (sFor false (iRange1 (lift (pOp oLen (pCons (pVar [] 1) (fun _ => some []))))) (gSet 3)
    (lb__law_like_1 r))
    (sRet (lift (pC (.bl true))))))))))))
def fn__law_like : Fn := fnRec 4 fb__law_like 5
def fb_law : List S → Option Fl :=
    (sSeq (sAsg (eCall 1 [1] fn__law_dice (aCons false (lift (pVar [1] 0)) (fun env => some ([], env)))) (gSet 1))
    (sSeq (sAsg (eCall 2 [1] fn__law_names (aPtr 1 (aCons false (eOp oAdd (aCons false (lift (pC (.int 1))) (aCons false (eCall 2 [1] fn__law_next (aPtr 1 (aCons false (lift (pC (.int 4))) (fun env => some ([], env))))) (fun env => some ([], env))))) (fun env => some ([], env))))) (gSet 2))
    (sSeq (sAsg (eCall 3 [1] fn__law_drawing (aPtr 1 (aCons false (lift (pVar [1] 2)) (aCons false (lift (pC (.int 6))) (fun env => some ([], env)))))) (gSet 3))
    (sSeq (sFor false (iRange1 (eCall 2 [1] fn__law_next (aPtr 1 (aCons false (lift (pC (.int 4))) (fun env => some ([], env)))))) (gSet 4)
    (sSeq (sAsg (eOp oIx (aCons false (eOp oLst (aCons false (lift (pOp oLst (pCons (pOp oTup (fun _ => some [])) (fun _ => some [])))) (aCons false (lift (pOp oLst (pCons (pOp oTup (fun _ => some [])) (pCons (pOp oTup (fun _ => some [])) (fun _ => some []))))) (aCons false (eOp oList (aCons false (eOp oIx (aCons false (lift (pVar [1] 3)) (aCons false (eCall 2 [1] fn__law_next (aPtr 1 (aCons false (lift (pOp oLen (pCons (pVar [1] 3) (fun _ => some [])))) (fun env => some ([], env))))) (fun env => some ([], env))))) (fun env => some ([], env)))) (fun env => some ([], env)))))) (aCons false (eCall 2 [1] fn__law_next (aPtr 1 (aCons false (lift (pC (.int 3))) (fun env => some ([], env))))) (fun env => some ([], env))))) (gSet 5))
    (sExpr (eMut 3 "list" mInsert (aCons true (eCall 2 [1] fn__law_next (aPtr 1 (aCons false (lift (pOp oAdd (pCons (pOp oLen (pCons (pVar [1] 3) (fun _ => some []))) (pCons (pC (.int 1)) (fun _ => some []))))) (fun env => some ([], env))))) (aCons false (eTake 5) (fun env => some ([], env))))))))
    (fun env => (sSeq (sAsg (eCallV 2 fnv__law_due (aCons true (eW .val (lift (pVar [1] 3))) (aCons false (eW .val (eTake 2)) (fun env => some ([], env))))) (gSet 6))
    (sSeq (sAsg (eCall 1 [1] fn__law_copied (aCons false (lift (pVar [1] 3)) (fun env => some ([], env)))) (gSet 7))
    (sSeq (sFor false (iRange1 (lift (pC (.int 2)))) (gSet 4)
    (sSeq (sAsg (eCall 1 [1] fn_trimmed (aCons false (lift (pVar [1] 7)) (fun env => some ([], env)))) (gSet 8))
    (sSeq (sIf (bOr (bNot (bE (eCall 2 [1] fn__law_like (aCons false (lift (pVar [1] 8)) (aCons false (lift (pVar [1] 6)) (fun env => some ([], env))))))) (bE (lift (pOp oNe (pCons (pVar [1] 7) (pCons (pVar [1] 3) (fun _ => some [])))))))
    (sRet (lift (pC (.bl false))))
    (fun env => some (.nx env)))
    (sSeq (sExpr (eMutI 8 0 "list" mAppend (pCons (pOp oTup (pCons (pC (.str "zz")) (fun _ => some []))) (fun _ => some []))))
    (sExpr (eMut 8 "list" mAppend (aCons false (eOp oLst (aCons false (eOp oTup (aCons false (lift (pC (.str "zz"))) (fun env => some ([], env)))) (fun env => some ([], env)))) (fun env => some ([], env)))))))))
    (sRet (eOp oEq (aCons false (eCall 1 [1] fn_trimmed (aCons false (lift (pVar [1] 6)) (fun env => some ([], env)))) (aCons false (lift (pVar [1] 6)) (fun env => some ([], env))))))))) (frzE 3 env))))))
def fn_law : Fn := fnOf 9 fb_law
end RG

set_option maxRecDepth 100000
set_option maxHeartbeats 4000000
namespace RG
open PySem PySem.Spec PyProof.Rows L2
def top (i : Nat) : Stmt := PySem.Challenge.pw_regionsay_k17_idle_strips.main.body.getD i (.Pass ⟨0, 0, 0, 0⟩)
structure Mod (K : PySem.W.Frag) (w : World) (mg : Str → Option Value) : Prop where
  b_bool : mg "bool" = none
  b_dict : mg "dict" = none
  b_int : mg "int" = none
  b_isinstance : mg "isinstance" = none
  b_len : mg "len" = none
  b_list : mg "list" = none
  b_range : mg "range" = none
  b_sorted : mg "sorted" = none
  b_str : mg "str" = none
  b_tuple : mg "tuple" = none
section
variable {P : Program} {w : World} {K : PySem.W.Frag} {mg : Str → Option Value} {base : Heap}
abbrev s__law_dice : Stmt := top 13
abbrev N__law_dice : List Str := ["_law_script", "_law_mixed", "_law_cell"]
theorem sc__law_dice : FnScope N__law_dice ["_law_script"] (defScope s__law_dice) := ⟨rfl, rfl, rfl, by decide +kernel, rfl, by decide +kernel, by decide +kernel⟩
theorem b__law_dice {f : Addr} (M : Mod K w mg) : BDef (bodyS P w K mg base N__law_dice "_law_dice" (defScope s__law_dice) f 0) K 3 [] (defBody s__law_dice) (fb__law_dice) := by
  have c := ctx_body (P := P) (w := w) (K := K) (mg := mg) (base := base) (sc := defScope s__law_dice) (qual := "_law_dice") (f := f) (k := 0) sc__law_dice.nd
  exact BDef.of (bss_cons (bs_set (i := 1) c rfl (Or.inl rfl) (by decide) fnx_body (be_p bp_int))
    (bss_cons (bs_for c (bi_sq c (be_p (bp_var (i := 0) c rfl (Or.inl rfl) (by decide)))) (bg_name (i := 2) c rfl (Or.inl rfl) (by decide) fnx_body)
    (bss_one (bs_set (i := 1) c rfl (Or.inl rfl) (by decide) fnx_body (be_p (bp_bin opa_mod vop_mod (bp_bin opa_add vop_add (bp_bin opa_add vop_add (bp_bin opa_mul vop_mul (bp_var (i := 1) c rfl (Or.inl rfl) (by decide)) bp_int) (bp_bin opa_mul vop_mul (bp_bin opa_mod vop_mod (bp_var (i := 2) c rfl (Or.inl rfl) (by decide)) bp_int) bp_int)) bp_int) bp_int)))))
    (bss_one (bs_ret (be_lst (ba_cons (be_p (bp_var (i := 0) c rfl (Or.inl rfl) (by decide))) (ba_cons (be_p bp_int) (ba_cons (be_p (bp_bin opa_mul vop_mul (bp_var (i := 1) c rfl (Or.inl rfl) (by decide)) (bp_callTy c clr_int vop_toInt rfl M.b_int PyProof.Rows.boot_int (bpa_cons (bp_cmp opa_gt vop_gt (bp_callB c (clr_len c) vop_len rfl M.b_len PySem.boot_len (bpa_cons (bp_var (i := 0) c rfl (Or.inl rfl) (by decide)) bpa_nil)) bp_int rfl) bpa_nil)))) (ba_cons (be_p bp_int) ba_nil)))))))))

abbrev s__law_next : Stmt := top 14
abbrev N__law_next : List Str := ["_law_dice_here", "_law_many", "_law_found", "_law_cell"]
theorem sc__law_next : FnScope N__law_next ["_law_dice_here", "_law_many"] (defScope s__law_next) := ⟨rfl, rfl, rfl, by decide +kernel, rfl, by decide +kernel, by decide +kernel⟩
theorem b__law_next {f : Addr} (M : Mod K w mg) : BDef (bodyS P w K mg base N__law_next "_law_next" (defScope s__law_next) f 0) K 4 [] (defBody s__law_next) (fb__law_next) := by
  have c := ctx_body (P := P) (w := w) (K := K) (mg := mg) (base := base) (sc := defScope s__law_next) (qual := "_law_next") (f := f) (k := 0) sc__law_next.nd
  exact BDef.of (bss_cons (bs_if (btp_cmp opa_gt vop_gt (bp_ix c (bp_var (i := 0) c rfl (Or.inl rfl) (by decide)) bp_int (fun _ _ => rfl)) bp_int rfl)
    (bss_cons (bs_set (i := 2) c rfl (Or.inl rfl) (by decide) fnx_body (be_p (bp_bin opa_mod vop_mod (bp_ix c (bp_var (i := 0) c rfl (Or.inl rfl) (by decide)) bp_int (fun _ _ => rfl)) (bp_var (i := 1) c rfl (Or.inl rfl) (by decide)))))
    (bss_cons (bs_lput (i := 0) c rfl (Or.inl rfl) (by decide) (be_p (bp_bin opa_div vop_div (bp_ix c (bp_var (i := 0) c rfl (Or.inl rfl) (by decide)) bp_int (fun _ _ => rfl)) (bp_var (i := 1) c rfl (Or.inl rfl) (by decide)))) (be_p bp_int))
    (bss_one (bs_ret (be_take (i := 2) c rfl (Or.inl rfl) (by decide))))))
    bss_nil)
    (bss_cons (bs_lput (i := 0) c rfl (Or.inl rfl) (by decide) (be_p (bp_bin opa_add vop_add (bp_ix c (bp_var (i := 0) c rfl (Or.inl rfl) (by decide)) bp_int (fun _ _ => rfl)) bp_int)) (be_p bp_int))
    (bss_cons (bs_if (btp_cmp opa_le vop_le (bp_ix c (bp_var (i := 0) c rfl (Or.inl rfl) (by decide)) bp_int (fun _ _ => rfl)) (bp_callB c (clr_len c) vop_len rfl M.b_len PySem.boot_len (bpa_cons (bp_ix c (bp_var (i := 0) c rfl (Or.inl rfl) (by decide)) bp_int (fun _ _ => rfl)) bpa_nil)) rfl)
    (bss_cons (bs_set (i := 3) c rfl (Or.inl rfl) (by decide) fnx_body (be_p (bp_ix c (bp_ix c (bp_var (i := 0) c rfl (Or.inl rfl) (by decide)) bp_int (fun _ _ => rfl)) (bp_bin opa_sub vop_sub (bp_ix c (bp_var (i := 0) c rfl (Or.inl rfl) (by decide)) bp_int (fun _ _ => rfl)) bp_int) (fun _ _ => rfl))))
    (bss_cons (bs_lput (i := 0) c rfl (Or.inl rfl) (by decide) (be_if (btp_cmp opa_ge vop_ge (bp_var (i := 3) c rfl (Or.inl rfl) (by decide)) (bp_bin opa_pow vop_pow bp_int bp_int) rfl) (be_p (bp_bin opa_div vop_div (bp_var (i := 3) c rfl (Or.inl rfl) (by decide)) (bp_var (i := 1) c rfl (Or.inl rfl) (by decide)))) (be_p bp_int)) (be_p bp_int))
    (bss_one (bs_ret (be_p (bp_bin opa_mod vop_mod (bp_var (i := 3) c rfl (Or.inl rfl) (by decide)) (bp_var (i := 1) c rfl (Or.inl rfl) (by decide))))))))
    bss_nil)
    (bss_cons (bs_lput (i := 0) c rfl (Or.inl rfl) (by decide) (be_p (bp_bin opa_mod vop_mod (bp_bin opa_mul vop_mul (bp_ix c (bp_var (i := 0) c rfl (Or.inl rfl) (by decide)) bp_int (fun _ _ => rfl)) bp_int) bp_int)) (be_p bp_int))
    (bss_one (bs_ret (be_p (bp_bin opa_mod vop_mod (bp_bin opa_div vop_div (bp_ix c (bp_var (i := 0) c rfl (Or.inl rfl) (by decide)) bp_int (fun _ _ => rfl)) bp_int) (bp_var (i := 1) c rfl (Or.inl rfl) (by decide))))))))))

abbrev s__law_names : Stmt := top 16
abbrev N__law_names : List Str := ["_law_d", "_law_many", "_law_menu", "_law_found", "_law_k", "_law_name"]
theorem sc__law_names : FnScope N__law_names ["_law_d", "_law_many"] (defScope s__law_names) := ⟨rfl, rfl, rfl, by decide +kernel, rfl, by decide +kernel, by decide +kernel⟩
theorem b__law_names {f : Addr} (G__law_next : GFn P w K mg base "_law_next" 1 2 fn__law_next) (M : Mod K w mg) : BDef (bodyS P w K mg base N__law_names "_law_names" (defScope s__law_names) f 1) K 6 [0] (defBody s__law_names) (fb__law_names) := by
  have c := ctx_body (P := P) (w := w) (K := K) (mg := mg) (base := base) (sc := defScope s__law_names) (qual := "_law_names") (f := f) (k := 1) sc__law_names.nd
  exact BDef.of (bss_cons (bs_set (i := 2) c rfl (Or.inl rfl) (by decide) fnx_body (be_lst (ba_cons (be_p bp_str) (ba_cons (be_p bp_str) (ba_cons (be_p bp_str) (ba_cons (be_p bp_str) (ba_cons (be_p bp_str) (ba_cons (be_p bp_str) (ba_cons (be_p bp_str) (ba_cons (be_p bp_str) ba_nil))))))))))
    (bss_cons (bs_set (i := 3) c rfl (Or.inl rfl) (by decide) fnx_body (be_p (bp_lst bpa_nil)))
    (bss_cons (bs_for c (bi_range1 c rfl M.b_range (be_p (bp_var (i := 1) c rfl (Or.inl rfl) (by decide)))) (bg_name (i := 4) c rfl (Or.inl rfl) (by decide) fnx_body)
    (bss_cons (bs_set (i := 5) c rfl (Or.inl rfl) (by decide) fnx_body (be_mut (i := 2) c PySem.F.plainAttrs_list PySem.F.slot_list_pop PySem.F.type_list_pop (by decide) (fun _ => mt_popAt) vm_popAt rfl (Or.inl rfl) (by decide) (ba_cons (be_call c G__law_next (by decide) rfl (ba_ptr (i := 0) c rfl (Or.inl rfl) (by decide) (ba_cons (be_p (bp_callB c (clr_len c) vop_len rfl M.b_len PySem.boot_len (bpa_cons (bp_var (i := 2) c rfl (Or.inl rfl) (by decide)) bpa_nil))) ba_nil))) ba_nil)))
    (bss_cons (bs_if (bt_w (bw_and (bt_cmp (opa_eq c) vop_eq (be_call c G__law_next (by decide) rfl (ba_ptr (i := 0) c rfl (Or.inl rfl) (by decide) (ba_cons (be_p bp_int) ba_nil))) (be_p bp_int) rfl) (bw_and1 (btp_cmp opa_lt vop_lt (bp_callB c (clr_len c) vop_len rfl M.b_len PySem.boot_len (bpa_cons (bp_var (i := 5) c rfl (Or.inl rfl) (by decide)) bpa_nil)) bp_int rfl))))
    (bss_one (bs_set (i := 5) c rfl (Or.inl rfl) (by decide) fnx_body (be_bin opa_add vop_add (be_ix c (be_p bp_str) (be_call c G__law_next (by decide) rfl (ba_ptr (i := 0) c rfl (Or.inl rfl) (by decide) (ba_cons (be_p bp_int) ba_nil))) (fun _ _ => rfl)) (be_p (bp_var (i := 5) c rfl (Or.inl rfl) (by decide))))))
    bss_nil)
    (bss_cons (bs_if (btp_cmp (opa_inA c) vop_inA (bp_var (i := 5) c rfl (Or.inl rfl) (by decide)) (bp_var (i := 3) c rfl (Or.inl rfl) (by decide)) rfl)
    (bss_one (bs_set (i := 5) c rfl (Or.inl rfl) (by decide) fnx_body (be_p (bp_bin opa_add vop_add (bp_var (i := 5) c rfl (Or.inl rfl) (by decide)) bp_str))))
    bss_nil)
    (bss_one (bs_expr (be_mut (i := 3) c PySem.F.plainAttrs_list PySem.F.slot_list_append PySem.F.type_list_append (by decide) (fun _ => mt_append) vm_append rfl (Or.inl rfl) (by decide) (ba_cons (be_p (bp_var (i := 5) c rfl (Or.inl rfl) (by decide))) ba_nil))))))))
    (bss_one (bs_ret (be_take (i := 3) c rfl (Or.inl rfl) (by decide)))))))

abbrev s__law_strip : Stmt := top 17
abbrev N__law_strip : List Str := ["_law_d", "_law_names_here", "_law_most", "_law_kind", "_law_first", "_law_found", "_law_k", "_law_cut", "_law_plot", "_law_at"]
theorem sc__law_strip : FnScope N__law_strip ["_law_d", "_law_names_here", "_law_most"] (defScope s__law_strip) := ⟨rfl, rfl, rfl, by decide +kernel, rfl, by decide +kernel, by decide +kernel⟩
theorem b__law_strip {f : Addr} (G__law_next : GFn P w K mg base "_law_next" 1 2 fn__law_next) (M : Mod K w mg) : BDef (bodyS P w K mg base N__law_strip "_law_strip" (defScope s__law_strip) f 1) K 10 [0] (defBody s__law_strip) (fb__law_strip) := by
  have c := ctx_body (P := P) (w := w) (K := K) (mg := mg) (base := base) (sc := defScope s__law_strip) (qual := "_law_strip") (f := f) (k := 1) sc__law_strip.nd
  exact BDef.of (bss_cons (bs_set (i := 3) c rfl (Or.inl rfl) (by decide) fnx_body (be_call c G__law_next (by decide) rfl (ba_ptr (i := 0) c rfl (Or.inl rfl) (by decide) (ba_cons (be_p bp_int) ba_nil))))
    (bss_cons (bs_set (i := 4) c rfl (Or.inl rfl) (by decide) fnx_body (be_call c G__law_next (by decide) rfl (ba_ptr (i := 0) c rfl (Or.inl rfl) (by decide) (ba_cons (be_p (bp_bin opa_add vop_add (bp_callB c (clr_len c) vop_len rfl M.b_len PySem.boot_len (bpa_cons (bp_var (i := 1) c rfl (Or.inl rfl) (by decide)) bpa_nil)) bp_int)) ba_nil))))
    (bss_cons (bs_set (i := 5) c rfl (Or.inl rfl) (by decide) fnx_body (be_p (bp_lst bpa_nil)))
    (bss_cons (bs_for c (bi_range1 c rfl M.b_range (be_bin opa_add vop_add (be_p bp_int) (be_call c G__law_next (by decide) rfl (ba_ptr (i := 0) c rfl (Or.inl rfl) (by decide) (ba_cons (be_p (bp_var (i := 2) c rfl (Or.inl rfl) (by decide))) ba_nil))))) (bg_name (i := 6) c rfl (Or.inl rfl) (by decide) fnx_body)
    (bss_cons (bs_set (i := 7) c rfl (Or.inl rfl) (by decide) fnx_body (be_bin opa_add vop_add (be_p (bp_bin opa_sub vop_sub (bp_var (i := 4) c rfl (Or.inl rfl) (by decide)) bp_int)) (be_call c G__law_next (by decide) rfl (ba_ptr (i := 0) c rfl (Or.inl rfl) (by decide) (ba_cons (be_p bp_int) ba_nil)))))
    (bss_cons (bs_set (i := 8) c rfl (Or.inl rfl) (by decide) fnx_body (be_p (bp_lst bpa_nil)))
    (bss_cons (bs_for c (bi_range1 c rfl M.b_range (be_p (bp_callB c (clr_len c) vop_len rfl M.b_len PySem.boot_len (bpa_cons (bp_var (i := 1) c rfl (Or.inl rfl) (by decide)) bpa_nil)))) (bg_name (i := 9) c rfl (Or.inl rfl) (by decide) fnx_body)
    (bss_one (bs_if (bt_w (bw_or (bt_w (bw_and (btp_cmp (opa_eq c) vop_eq (bp_var (i := 3) c rfl (Or.inl rfl) (by decide)) bp_int rfl) (bw_and1 (bt_cmp (opa_eq c) vop_eq (be_call c G__law_next (by decide) rfl (ba_ptr (i := 0) c rfl (Or.inl rfl) (by decide) (ba_cons (be_p bp_int) ba_nil))) (be_p bp_int) rfl)))) (bw_or1 (bt_w (bw_and (btp_cmp opa_gt vop_gt (bp_var (i := 3) c rfl (Or.inl rfl) (by decide)) bp_int rfl) (bw_and (btp_cmp opa_ge vop_ge (bp_var (i := 9) c rfl (Or.inl rfl) (by decide)) (bp_var (i := 7) c rfl (Or.inl rfl) (by decide)) rfl) (bw_and1 (bt_w (bw_or (btp_cmp (opa_eq c) vop_eq (bp_var (i := 3) c rfl (Or.inl rfl) (by decide)) bp_int rfl) (bw_or1 (bt_cmp opa_lt vop_lt (be_call c G__law_next (by decide) rfl (ba_ptr (i := 0) c rfl (Or.inl rfl) (by decide) (ba_cons (be_p bp_int) ba_nil))) (be_p bp_int) rfl)))))))))))
    (bss_one (bs_expr (be_mut (i := 8) c PySem.F.plainAttrs_list PySem.F.slot_list_append PySem.F.type_list_append (by decide) (fun _ => mt_append) vm_append rfl (Or.inl rfl) (by decide) (ba_cons (be_p (bp_ix c (bp_var (i := 1) c rfl (Or.inl rfl) (by decide)) (bp_var (i := 9) c rfl (Or.inl rfl) (by decide)) (fun _ _ => rfl))) ba_nil))))
    bss_nil)))
    (bss_one (bs_expr (be_mut (i := 5) c PySem.F.plainAttrs_list PySem.F.slot_list_append PySem.F.type_list_append (by decide) (fun _ => mt_append) vm_append rfl (Or.inl rfl) (by decide) (ba_cons (be_p (bp_callTy c (clr_tuple c) vop_tuple rfl M.b_tuple PyProof.Rows.boot_tuple (bpa_cons (bp_callB c (clr_sorted c) vop_sorted rfl M.b_sorted PyProof.Rows.boot_sorted (bpa_cons (bp_var (i := 8) c rfl (Or.inl rfl) (by decide)) bpa_nil)) bpa_nil))) ba_nil))))))))
    (bss_one (bs_ret (be_take (i := 5) c rfl (Or.inl rfl) (by decide))))))))

abbrev s__law_drawing : Stmt := top 18
abbrev N__law_drawing : List Str := ["_law_d", "_law_names_here", "_law_most", "_law_found", "_law_k", "_law_there", "_law_strip_here", "_law_plot", "_law_name"]
theorem sc__law_drawing : FnScope N__law_drawing ["_law_d", "_law_names_here", "_law_most"] (defScope s__law_drawing) := ⟨rfl, rfl, rfl, by decide +kernel, rfl, by decide +kernel, by decide +kernel⟩
theorem b__law_drawing {f : Addr} (G__law_next : GFn P w K mg base "_law_next" 1 2 fn__law_next) (G__law_strip : GFn P w K mg base "_law_strip" 2 3 fn__law_strip) (M : Mod K w mg) : BDef (bodyS P w K mg base N__law_drawing "_law_drawing" (defScope s__law_drawing) f 2) K 9 [0] (defBody s__law_drawing) (fb__law_drawing) := by
  have c := ctx_body (P := P) (w := w) (K := K) (mg := mg) (base := base) (sc := defScope s__law_drawing) (qual := "_law_drawing") (f := f) (k := 2) sc__law_drawing.nd
  exact BDef.of (bss_cons (bs_setLc (i := 3) c rfl rfl (by decide) rfl rfl (by decide +kernel) (bi_range1 c rfl M.b_range (be_call c G__law_next (by decide) rfl (ba_ptr (i := 0) c rfl (Or.inr (Or.inl rfl)) (by decide) (ba_cons (be_p (bp_bin opa_add vop_add (bp_var (i := 2) c rfl (Or.inl rfl) (by decide)) bp_int)) ba_nil)))) (own := [("_law_k", 4)]) (by decide +kernel) (bg_name (i := 4) (ctx_blk c) rfl (Or.inl rfl) (by decide) (fnx_local (ctx_blk c) rfl)) bts_nil (be_call (ctx_blk c) G__law_strip (by decide) rfl (ba_ptr (i := 0) (ctx_blk c) rfl (Or.inr (Or.inl rfl)) (by decide) (ba_cons (be_p (bp_var (i := 1) (ctx_blk c) rfl (Or.inr (Or.inl rfl)) (by decide))) (ba_cons (be_ix (ctx_blk c) (be_p (bp_lst (bpa_cons bp_int (bpa_cons bp_int (bpa_cons bp_int (bpa_cons bp_int bpa_nil)))))) (be_call (ctx_blk c) G__law_next (by decide) rfl (ba_ptr (i := 0) (ctx_blk c) rfl (Or.inr (Or.inl rfl)) (by decide) (ba_cons (be_p bp_int) ba_nil))) (fun _ _ => rfl)) ba_nil)))) (by decide) (by decide))
    (bss_cons (bs_set (i := 5) c rfl (Or.inl rfl) (by decide) fnx_body (be_p (bp_lst bpa_nil)))
    (bss_frz 3 (by decide) (bss_cons (bs_for c (bi_sq c (be_p (bp_var (i := 3) c rfl (Or.inl rfl) (by decide)))) (bg_name (i := 6) c rfl (Or.inl rfl) (by decide) fnx_body)
    (bss_one (bs_for c (bi_sq c (be_p (bp_var (i := 6) c rfl (Or.inl rfl) (by decide)))) (bg_name (i := 7) c rfl (Or.inl rfl) (by decide) fnx_body)
    (bss_one (bs_set (i := 5) c rfl (Or.inl rfl) (by decide) fnx_body (be_p (bp_bin opa_add vop_add (bp_var (i := 5) c rfl (Or.inl rfl) (by decide)) (bp_callTy c (clr_list c) vop_list rfl M.b_list PyProof.Rows.boot_list (bpa_cons (bp_var (i := 7) c rfl (Or.inl rfl) (by decide)) bpa_nil)))))))))
    (bss_own 3 (by decide) (bss_cons (bs_for c (bi_sq c (be_p (bp_var (i := 1) c rfl (Or.inr (Or.inl rfl)) (by decide)))) (bg_name (i := 8) c rfl (Or.inl rfl) (by decide) fnx_body)
    (bss_one (bs_if (btp_cmp (opa_notInA c) vop_notInA (bp_var (i := 8) c rfl (Or.inl rfl) (by decide)) (bp_var (i := 5) c rfl (Or.inl rfl) (by decide)) rfl)
    (bss_one (bs_expr (be_mut (i := 3) c PySem.F.plainAttrs_list PySem.F.slot_list_append PySem.F.type_list_append (by decide) (fun _ => mt_append) vm_append rfl (Or.inl rfl) (by decide) (ba_cons (be_lst (ba_cons (be_tup (ba_cons (be_p (bp_var (i := 8) c rfl (Or.inl rfl) (by decide))) ba_nil)) ba_nil)) ba_nil))))
    bss_nil)))
    (bss_one (bs_ret (be_take (i := 3) c rfl (Or.inl rfl) (by decide))))))))))

abbrev s__law_places : Stmt := top 19
abbrev N__law_places : List Str := ["_law_drawing_here", "_law_name", "_law_found", "_law_row", "_law_at"]
theorem sc__law_places : FnScope N__law_places ["_law_drawing_here", "_law_name"] (defScope s__law_places) := ⟨rfl, rfl, rfl, by decide +kernel, rfl, by decide +kernel, by decide +kernel⟩
theorem b__law_places {f : Addr} (M : Mod K w mg) : BDef (bodyS P w K mg base N__law_places "_law_places" (defScope s__law_places) f 0) K 5 [] (defBody s__law_places) (fb__law_places) := by
  have c := ctx_body (P := P) (w := w) (K := K) (mg := mg) (base := base) (sc := defScope s__law_places) (qual := "_law_places") (f := f) (k := 0) sc__law_places.nd
  exact BDef.of (bss_cons (bs_set (i := 2) c rfl (Or.inl rfl) (by decide) fnx_body (be_p (bp_lst bpa_nil)))
    (bss_cons (bs_for c (bi_range1 c rfl M.b_range (be_p (bp_callB c (clr_len c) vop_len rfl M.b_len PySem.boot_len (bpa_cons (bp_var (i := 0) c rfl (Or.inl rfl) (by decide)) bpa_nil)))) (bg_name (i := 3) c rfl (Or.inl rfl) (by decide) fnx_body)
    (bss_one (bs_for c (bi_range1 c rfl M.b_range (be_p (bp_callB c (clr_len c) vop_len rfl M.b_len PySem.boot_len (bpa_cons (bp_ix c (bp_var (i := 0) c rfl (Or.inl rfl) (by decide)) (bp_var (i := 3) c rfl (Or.inl rfl) (by decide)) (fun _ _ => rfl)) bpa_nil)))) (bg_name (i := 4) c rfl (Or.inl rfl) (by decide) fnx_body)
    (bss_one (bs_if (btp_cmp (opa_inA c) vop_inA (bp_var (i := 1) c rfl (Or.inl rfl) (by decide)) (bp_ix c (bp_ix c (bp_var (i := 0) c rfl (Or.inl rfl) (by decide)) (bp_var (i := 3) c rfl (Or.inl rfl) (by decide)) (fun _ _ => rfl)) (bp_var (i := 4) c rfl (Or.inl rfl) (by decide)) (fun _ _ => rfl)) rfl)
    (bss_one (bs_expr (be_mut (i := 2) c PySem.F.plainAttrs_list PySem.F.slot_list_append PySem.F.type_list_append (by decide) (fun _ => mt_append) vm_append rfl (Or.inl rfl) (by decide) (ba_cons (be_tup (ba_cons (be_p (bp_var (i := 3) c rfl (Or.inl rfl) (by decide))) (ba_cons (be_p (bp_var (i := 4) c rfl (Or.inl rfl) (by decide))) ba_nil))) ba_nil))))
    bss_nil)))))
    (bss_one (bs_ret (be_take (i := 2) c rfl (Or.inl rfl) (by decide))))))

abbrev s__law_near : Stmt := top 20
abbrev N__law_near : List Str := ["_law_drawing_here", "_law_places_here", "_law_found", "_law_row", "_law_at"]
theorem sc__law_near : FnScope N__law_near ["_law_drawing_here", "_law_places_here"] (defScope s__law_near) := ⟨rfl, rfl, rfl, by decide +kernel, rfl, by decide +kernel, by decide +kernel⟩
theorem b__law_near {f : Addr} (M : Mod K w mg) : BDef (bodyS P w K mg base N__law_near "_law_near" (defScope s__law_near) f 0) K 5 [] (defBody s__law_near) (fb__law_near) := by
  have c := ctx_body (P := P) (w := w) (K := K) (mg := mg) (base := base) (sc := defScope s__law_near) (qual := "_law_near") (f := f) (k := 0) sc__law_near.nd
  exact BDef.of (bss_cons (bs_set (i := 2) c rfl (Or.inl rfl) (by decide) fnx_body (be_p (bp_lst bpa_nil)))
    (bss_cons (bs_for c (bi_sq c (be_p (bp_var (i := 1) c rfl (Or.inl rfl) (by decide)))) (bg_tup c (bgn_cons (i := 3) c rfl (Or.inl rfl) fnx_body (bgn_cons (i := 4) c rfl (Or.inl rfl) fnx_body bgn_nil)) (by decide) rfl)
    (bss_cons (bs_if (btp_cmp opa_gt vop_gt (bp_var (i := 4) c rfl (Or.inl rfl) (by decide)) bp_int rfl)
    (bss_one (bs_expr (be_mut (i := 2) c PySem.F.plainAttrs_list PySem.F.slot_list_append PySem.F.type_list_append (by decide) (fun _ => mt_append) vm_append rfl (Or.inl rfl) (by decide) (ba_cons (be_tup (ba_cons (be_p (bp_var (i := 3) c rfl (Or.inl rfl) (by decide))) (ba_cons (be_p (bp_bin opa_sub vop_sub (bp_var (i := 4) c rfl (Or.inl rfl) (by decide)) bp_int)) ba_nil))) ba_nil))))
    bss_nil)
    (bss_one (bs_if (btp_cmp opa_lt vop_lt (bp_bin opa_add vop_add (bp_var (i := 4) c rfl (Or.inl rfl) (by decide)) bp_int) (bp_callB c (clr_len c) vop_len rfl M.b_len PySem.boot_len (bpa_cons (bp_ix c (bp_var (i := 0) c rfl (Or.inl rfl) (by decide)) (bp_var (i := 3) c rfl (Or.inl rfl) (by decide)) (fun _ _ => rfl)) bpa_nil)) rfl)
    (bss_one (bs_expr (be_mut (i := 2) c PySem.F.plainAttrs_list PySem.F.slot_list_append PySem.F.type_list_append (by decide) (fun _ => mt_append) vm_append rfl (Or.inl rfl) (by decide) (ba_cons (be_tup (ba_cons (be_p (bp_var (i := 3) c rfl (Or.inl rfl) (by decide))) (ba_cons (be_p (bp_bin opa_add vop_add (bp_var (i := 4) c rfl (Or.inl rfl) (by decide)) bp_int)) ba_nil))) ba_nil))))
    bss_nil))))
    (bss_one (bs_ret (be_take (i := 2) c rfl (Or.inl rfl) (by decide))))))

abbrev s__law_seen : Stmt := top 21
abbrev N__law_seen : List Str := ["_law_drawing_here", "_law_one", "_law_other", "_law_mine", "_law_theirs", "_law_both", "_law_place", "_law_out", "_law_touched"]
theorem sc__law_seen : FnScope N__law_seen ["_law_drawing_here", "_law_one", "_law_other"] (defScope s__law_seen) := ⟨rfl, rfl, rfl, by decide +kernel, rfl, by decide +kernel, by decide +kernel⟩
theorem b__law_seen {f : Addr} (G__law_near : GFn P w K mg base "_law_near" 1 2 fn__law_near) (G__law_places : GFn P w K mg base "_law_places" 1 2 fn__law_places) (M : Mod K w mg) : BDef (bodyS P w K mg base N__law_seen "_law_seen" (defScope s__law_seen) f 1) K 9 [] (defBody s__law_seen) (fb__law_seen) := by
  have c := ctx_body (P := P) (w := w) (K := K) (mg := mg) (base := base) (sc := defScope s__law_seen) (qual := "_law_seen") (f := f) (k := 1) sc__law_seen.nd
  exact BDef.of (bss_cons (bs_set (i := 3) c rfl (Or.inr rfl) (by decide) fnx_body (be_call c G__law_places (by decide) rfl (ba_cons (be_p (bp_var (i := 0) c rfl (Or.inl rfl) (by decide))) (ba_cons (be_p (bp_var (i := 1) c rfl (Or.inl rfl) (by decide))) ba_nil))))
    (bss_cons (bs_set (i := 4) c rfl (Or.inr rfl) (by decide) fnx_body (be_call c G__law_places (by decide) rfl (ba_cons (be_p (bp_var (i := 0) c rfl (Or.inl rfl) (by decide))) (ba_cons (be_p (bp_var (i := 2) c rfl (Or.inl rfl) (by decide))) ba_nil))))
    (bss_frz 3 (by decide) (bss_cons (bs_setLc (i := 5) c rfl rfl (by decide) rfl rfl (by decide +kernel) (bi_sq c (be_p (bp_var (i := 3) c rfl (Or.inr (Or.inl rfl)) (by decide)))) (own := [("_law_place", 6)]) (by decide +kernel) (bg_name (i := 6) (ctx_blk c) rfl (Or.inl rfl) (by decide) (fnx_local (ctx_blk c) rfl)) (bts_one (btp_cmp (opa_inA (ctx_blk c)) vop_inA (bp_var (i := 6) (ctx_blk c) rfl (Or.inl rfl) (by decide)) (bp_var (i := 4) (ctx_blk c) rfl (Or.inr (Or.inl rfl)) (by decide)) rfl)) (be_p (bp_var (i := 6) (ctx_blk c) rfl (Or.inl rfl) (by decide))) (by decide) (by decide))
    (bss_cons (bs_if (btp_cmp (opa_eq c) vop_eq (bp_var (i := 3) c rfl (Or.inr (Or.inl rfl)) (by decide)) (bp_var (i := 4) c rfl (Or.inr (Or.inl rfl)) (by decide)) rfl)
    (bss_one (bs_ret (be_p bp_str)))
    bss_nil)
    (bss_cons (bs_if (btp_cmp (opa_eq c) vop_eq (bp_var (i := 5) c rfl (Or.inl rfl) (by decide)) (bp_var (i := 3) c rfl (Or.inr (Or.inl rfl)) (by decide)) rfl)
    (bss_cons (bs_setLc (i := 7) c rfl rfl (by decide) rfl rfl (by decide +kernel) (bi_sq c (be_call c G__law_near (by decide) rfl (ba_cons (be_p (bp_var (i := 0) c rfl (Or.inl rfl) (by decide))) (ba_cons (be_p (bp_var (i := 3) c rfl (Or.inr (Or.inl rfl)) (by decide))) ba_nil)))) (own := [("_law_place", 6)]) (by decide +kernel) (bg_name (i := 6) (ctx_blk c) rfl (Or.inl rfl) (by decide) (fnx_local (ctx_blk c) rfl)) (bts_one (btp_cmp (opa_notInA (ctx_blk c)) vop_notInA (bp_var (i := 6) (ctx_blk c) rfl (Or.inl rfl) (by decide)) (bp_var (i := 4) (ctx_blk c) rfl (Or.inr (Or.inl rfl)) (by decide)) rfl)) (be_p (bp_var (i := 6) (ctx_blk c) rfl (Or.inl rfl) (by decide))) (by decide) (by decide))
    (bss_one (bs_ret (be_p (bp_ix c (bp_lst (bpa_cons bp_str (bpa_cons bp_str bpa_nil))) (bp_callTy c clr_int vop_toInt rfl M.b_int PyProof.Rows.boot_int (bpa_cons (bp_cmp (opa_ne c) vop_ne (bp_var (i := 7) c rfl (Or.inl rfl) (by decide)) (bp_lst bpa_nil) rfl) bpa_nil)) (fun _ _ => rfl))))))
    bss_nil)
    (bss_cons (bs_if (btp_cmp (opa_eq c) vop_eq (bp_var (i := 5) c rfl (Or.inl rfl) (by decide)) (bp_var (i := 4) c rfl (Or.inr (Or.inl rfl)) (by decide)) rfl)
    (bss_cons (bs_setLc (i := 7) c rfl rfl (by decide) rfl rfl (by decide +kernel) (bi_sq c (be_call c G__law_near (by decide) rfl (ba_cons (be_p (bp_var (i := 0) c rfl (Or.inl rfl) (by decide))) (ba_cons (be_take (i := 4) c rfl (Or.inr (Or.inl rfl)) (by decide)) ba_nil)))) (own := [("_law_place", 6)]) (by decide +kernel) (bg_name (i := 6) (ctx_blk c) rfl (Or.inl rfl) (by decide) (fnx_local (ctx_blk c) rfl)) (bts_one (btp_cmp (opa_notInA (ctx_blk c)) vop_notInA (bp_var (i := 6) (ctx_blk c) rfl (Or.inl rfl) (by decide)) (bp_var (i := 3) (ctx_blk c) rfl (Or.inr (Or.inl rfl)) (by decide)) rfl)) (be_p (bp_var (i := 6) (ctx_blk c) rfl (Or.inl rfl) (by decide))) (by decide) (by decide))
    (bss_one (bs_ret (be_p (bp_ix c (bp_lst (bpa_cons bp_str (bpa_cons bp_str bpa_nil))) (bp_callTy c clr_int vop_toInt rfl M.b_int PyProof.Rows.boot_int (bpa_cons (bp_cmp (opa_ne c) vop_ne (bp_var (i := 7) c rfl (Or.inl rfl) (by decide)) (bp_lst bpa_nil) rfl) bpa_nil)) (fun _ _ => rfl))))))
    bss_nil)
    (bss_cons (bs_if (btp_cmp (opa_ne c) vop_ne (bp_var (i := 5) c rfl (Or.inl rfl) (by decide)) (bp_lst bpa_nil) rfl)
    (bss_one (bs_ret (be_p bp_str)))
    bss_nil)
    (bss_cons (bs_setLc (i := 8) c rfl rfl (by decide) rfl rfl (by decide +kernel) (bi_sq c (be_call c G__law_near (by decide) rfl (ba_cons (be_p (bp_var (i := 0) c rfl (Or.inl rfl) (by decide))) (ba_cons (be_p (bp_var (i := 3) c rfl (Or.inr (Or.inl rfl)) (by decide))) ba_nil)))) (own := [("_law_place", 6)]) (by decide +kernel) (bg_name (i := 6) (ctx_blk c) rfl (Or.inl rfl) (by decide) (fnx_local (ctx_blk c) rfl)) (bts_one (btp_cmp (opa_inA (ctx_blk c)) vop_inA (bp_var (i := 6) (ctx_blk c) rfl (Or.inl rfl) (by decide)) (bp_var (i := 4) (ctx_blk c) rfl (Or.inr (Or.inl rfl)) (by decide)) rfl)) (be_p (bp_var (i := 6) (ctx_blk c) rfl (Or.inl rfl) (by decide))) (by decide) (by decide))
    (bss_one (bs_ret (be_p (bp_ix c (bp_lst (bpa_cons bp_str (bpa_cons bp_str bpa_nil))) (bp_callTy c clr_int vop_toInt rfl M.b_int PyProof.Rows.boot_int (bpa_cons (bp_cmp (opa_ne c) vop_ne (bp_var (i := 8) c rfl (Or.inl rfl) (by decide)) (bp_lst bpa_nil) rfl) bpa_nil)) (fun _ _ => rfl))))))))))))))

abbrev s__law_sight : Stmt := top 23
abbrev N__law_sight : List Str := ["_law_drawing_here", "_law_names_here", "_law_found", "_law_one", "_law_other"]
theorem sc__law_sight : FnScope N__law_sight ["_law_drawing_here", "_law_names_here"] (defScope s__law_sight) := ⟨rfl, rfl, rfl, by decide +kernel, rfl, by decide +kernel, by decide +kernel⟩
theorem b__law_sight {f : Addr} (G__law_places : GFn P w K mg base "_law_places" 1 2 fn__law_places) (G__law_seen : GFn P w K mg base "_law_seen" 2 3 fn__law_seen) (M : Mod K w mg) : BDef (bodyS P w K mg base N__law_sight "_law_sight" (defScope s__law_sight) f 2) K 5 [] (defBody s__law_sight) (fb__law_sight) := by
  have c := ctx_body (P := P) (w := w) (K := K) (mg := mg) (base := base) (sc := defScope s__law_sight) (qual := "_law_sight") (f := f) (k := 2) sc__law_sight.nd
  exact BDef.of (bss_cons (bs_set (i := 2) c rfl (Or.inl rfl) (by decide) fnx_body (be_p (bp_lst bpa_nil)))
    (bss_cons (bs_for c (bi_sq c (be_p (bp_var (i := 1) c rfl (Or.inl rfl) (by decide)))) (bg_name (i := 3) c rfl (Or.inl rfl) (by decide) fnx_body)
    (bss_cons (bs_if (bt_cmp (opa_eq c) vop_eq (be_call c G__law_places (by decide) rfl (ba_cons (be_p (bp_var (i := 0) c rfl (Or.inl rfl) (by decide))) (ba_cons (be_p (bp_var (i := 3) c rfl (Or.inl rfl) (by decide))) ba_nil))) (be_p (bp_lst bpa_nil)) rfl)
    (bss_one (bs_ret (be_p bp_non)))
    bss_nil)
    (bss_one (bs_for c (bi_sq c (be_p (bp_var (i := 1) c rfl (Or.inl rfl) (by decide)))) (bg_name (i := 4) c rfl (Or.inl rfl) (by decide) fnx_body)
    (bss_one (bs_expr (be_mut (i := 2) c PySem.F.plainAttrs_list PySem.F.slot_list_append PySem.F.type_list_append (by decide) (fun _ => mt_append) vm_append rfl (Or.inl rfl) (by decide) (ba_cons (be_call c G__law_seen (by decide) rfl (ba_cons (be_p (bp_var (i := 0) c rfl (Or.inl rfl) (by decide))) (ba_cons (be_p (bp_var (i := 3) c rfl (Or.inl rfl) (by decide))) (ba_cons (be_p (bp_var (i := 4) c rfl (Or.inl rfl) (by decide))) ba_nil)))) ba_nil))))))))
    (bss_one (bs_ret (be_take (i := 2) c rfl (Or.inl rfl) (by decide))))))

abbrev s__law_due : Stmt := top 24
abbrev N__law_due : List Str := ["_law_drawing_here", "_law_names_here", "_law_due_here", "_law_left", "_law_at", "_law_k", "_law_less"]
theorem sc__law_due : FnScope N__law_due ["_law_drawing_here", "_law_names_here"] (defScope s__law_due) := ⟨rfl, rfl, rfl, by decide +kernel, rfl, by decide +kernel, by decide +kernel⟩
theorem b__law_due {f : Addr} (G__law_sight : GFn P w K mg base "_law_sight" 3 2 fn__law_sight) (M : Mod K w mg) : BDefV (bodyS P w K mg base N__law_due "_law_due" (defScope s__law_due) f 3) K 7 [] (defBody s__law_due) (fb__law_due) := by
  have c := ctx_body (P := P) (w := w) (K := K) (mg := mg) (base := base) (sc := defScope s__law_due) (qual := "_law_due") (f := f) (k := 3) sc__law_due.nd
  exact BDefV.of (bss_cons (bs_set (i := 2) c rfl (Or.inl rfl) (by decide) fnx_body (be_call c G__law_sight (by decide) rfl (ba_cons (be_p (bp_var (i := 0) c rfl (Or.inl rfl) (by decide))) (ba_cons (be_p (bp_var (i := 1) c rfl (Or.inl rfl) (by decide))) ba_nil))))
    (bss_cons (bs_set (i := 3) c rfl (Or.inl rfl) (by decide) fnx_body (be_weak .val (be_callTy c (clr_list c) vop_list rfl M.b_list PyProof.Rows.boot_list (ba_cons (be_p (bp_var (i := 0) c rfl (Or.inl rfl) (by decide))) ba_nil))))
    (bss_cons (bs_set (i := 4) c rfl (Or.inl rfl) (by decide) fnx_body (be_p bp_int))
    (bss_cons (bs_for c (bi_range1 c rfl M.b_range (be_p (bp_callB c (clr_len c) vop_len rfl M.b_len PySem.boot_len (bpa_cons (bp_var (i := 0) c rfl (Or.inl rfl) (by decide)) bpa_nil)))) (bg_name (i := 5) c rfl (Or.inl rfl) (by decide) fnx_body)
    (bss_cons (bs_set (i := 6) c rfl (Or.inl rfl) (by decide) fnx_body (be_drop (i := 3) (j := 4) c rfl (Or.inl rfl) (by decide) rfl (Or.inl rfl) (by decide)))
    (bss_one (bs_if (bt_cmp (opa_eq c) vop_eq (be_call c G__law_sight (by decide) rfl (ba_cons (be_p (bp_var (i := 6) c rfl (Or.inl rfl) (by decide))) (ba_cons (be_p (bp_var (i := 1) c rfl (Or.inl rfl) (by decide))) ba_nil))) (be_p (bp_var (i := 2) c rfl (Or.inl rfl) (by decide))) rfl)
    (bss_one (bs_set (i := 3) c rfl (Or.inl rfl) (by decide) fnx_body (be_p (bp_var (i := 6) c rfl (Or.inl rfl) (by decide)))))
    (bss_one (bs_set (i := 4) c rfl (Or.inl rfl) (by decide) fnx_body (be_p (bp_bin opa_add vop_add (bp_var (i := 4) c rfl (Or.inl rfl) (by decide)) bp_int))))))))
    (bss_one (bs_ret (be_p (bp_var (i := 3) c rfl (Or.inl rfl) (by decide)))))))))

abbrev s__law_copied : Stmt := top 22
abbrev N__law_copied : List Str := ["_law_found", "_law_one"]
theorem sc__law_copied : FnScope N__law_copied ["_law_found"] (defScope s__law_copied) := ⟨rfl, rfl, rfl, by decide +kernel, rfl, by decide +kernel, by decide +kernel⟩
theorem b__law_copied {f : Addr} {r : Fn} {k : Nat} (G__law_copied : GFn P w K mg base "_law_copied" k 1 r) (M : Mod K w mg) : BDef (bodyS P w K mg base N__law_copied "_law_copied" (defScope s__law_copied) f k) K 2 [] (defBody s__law_copied) (fb__law_copied r) := by
  have c := ctx_body (P := P) (w := w) (K := K) (mg := mg) (base := base) (sc := defScope s__law_copied) (qual := "_law_copied") (f := f) (k := k) sc__law_copied.nd
  exact BDef.of (bss_cons (bs_if (bt_val (be_p (bp_isi c (bp_var (i := 0) c rfl (Or.inl rfl) (by decide)) rfl M.b_isinstance rfl M.b_list PyProof.Rows.boot_list PyProof.Rows.boot_isinstance)))
    (bss_one (bs_ret (be_comp c (bi_sq c (be_p (bp_var (i := 0) c rfl (Or.inl rfl) (by decide)))) (own := [("_law_one", 1)]) (by decide +kernel) (bg_name (i := 1) (ctx_blk c) rfl (Or.inl rfl) (by decide) (fnx_local (ctx_blk c) rfl)) bts_nil (be_call (ctx_blk c) G__law_copied (Nat.le_refl _) rfl (ba_cons (be_p (bp_var (i := 1) (ctx_blk c) rfl (Or.inl rfl) (by decide))) ba_nil)) (by decide) (by decide))))
    bss_nil)
    (bss_cons (bs_if (bt_val (be_p (bp_isi c (bp_var (i := 0) c rfl (Or.inl rfl) (by decide)) rfl M.b_isinstance rfl M.b_dict PyProof.Rows.boot_dict PyProof.Rows.boot_isinstance)))
    (bss_one bs_never)
    bss_nil)
    (bss_cons (bs_if (bt_val (be_p (bp_isi c (bp_var (i := 0) c rfl (Or.inl rfl) (by decide)) rfl M.b_isinstance rfl M.b_tuple PyProof.Rows.boot_tuple PyProof.Rows.boot_isinstance)))
    (bss_one (bs_ret (be_callTy c (clr_tuple c) vop_tuple rfl M.b_tuple PyProof.Rows.boot_tuple (ba_cons (be_comp c (bi_sq c (be_p (bp_var (i := 0) c rfl (Or.inl rfl) (by decide)))) (own := [("_law_one", 1)]) (by decide +kernel) (bg_name (i := 1) (ctx_blk c) rfl (Or.inl rfl) (by decide) (fnx_local (ctx_blk c) rfl)) bts_nil (be_call (ctx_blk c) G__law_copied (Nat.le_refl _) rfl (ba_cons (be_p (bp_var (i := 1) (ctx_blk c) rfl (Or.inl rfl) (by decide))) ba_nil)) (by decide) (by decide)) ba_nil))))
    bss_nil)
    (bss_one (bs_ret (be_p (bp_var (i := 0) c rfl (Or.inl rfl) (by decide))))))))

abbrev s_lands : Stmt := top 4
abbrev N_lands : List Str := ["drawing", "found", "strip", "plot", "name"]
theorem sc_lands : FnScope N_lands ["drawing"] (defScope s_lands) := ⟨rfl, rfl, rfl, by decide +kernel, rfl, by decide +kernel, by decide +kernel⟩
theorem b_lands {f : Addr} (M : Mod K w mg) : BDef (bodyS P w K mg base N_lands "lands" (defScope s_lands) f 0) K 5 [] (defBody s_lands) (fb_lands) := by
  have c := ctx_body (P := P) (w := w) (K := K) (mg := mg) (base := base) (sc := defScope s_lands) (qual := "lands") (f := f) (k := 0) sc_lands.nd
  exact BDef.of (bss_cons (bs_set (i := 1) c rfl (Or.inl rfl) (by decide) fnx_body (be_p bp_dnewK))
    (bss_cons (bs_for c (bi_sq c (be_p (bp_var (i := 0) c rfl (Or.inl rfl) (by decide)))) (bg_name (i := 2) c rfl (Or.inl rfl) (by decide) fnx_body)
    (bss_one (bs_for c (bi_sq c (be_p (bp_var (i := 2) c rfl (Or.inl rfl) (by decide)))) (bg_name (i := 3) c rfl (Or.inl rfl) (by decide) fnx_body)
    (bss_one (bs_for c (bi_sq c (be_p (bp_var (i := 3) c rfl (Or.inl rfl) (by decide)))) (bg_name (i := 4) c rfl (Or.inl rfl) (by decide) fnx_body)
    (bss_one (bs_dput (i := 1) c rfl (Or.inl rfl) (by decide) (be_p bp_bl) (be_p (bp_var (i := 4) c rfl (Or.inl rfl) (by decide))))))))))
    (bss_one (bs_ret (be_p (bp_callB c (clr_sorted c) vop_sorted rfl M.b_sorted PyProof.Rows.boot_sorted (bpa_cons (bp_var (i := 1) c rfl (Or.inl rfl) (by decide)) bpa_nil)))))))

abbrev s_plots_of : Stmt := top 5
abbrev N_plots_of : List Str := ["drawing", "name", "found", "row", "at"]
theorem sc_plots_of : FnScope N_plots_of ["drawing", "name"] (defScope s_plots_of) := ⟨rfl, rfl, rfl, by decide +kernel, rfl, by decide +kernel, by decide +kernel⟩
theorem b_plots_of {f : Addr} (M : Mod K w mg) : BDef (bodyS P w K mg base N_plots_of "plots_of" (defScope s_plots_of) f 0) K 5 [] (defBody s_plots_of) (fb_plots_of) := by
  have c := ctx_body (P := P) (w := w) (K := K) (mg := mg) (base := base) (sc := defScope s_plots_of) (qual := "plots_of") (f := f) (k := 0) sc_plots_of.nd
  exact BDef.of (bss_cons (bs_set (i := 2) c rfl (Or.inl rfl) (by decide) fnx_body (be_p (bp_lst bpa_nil)))
    (bss_cons (bs_for c (bi_range1 c rfl M.b_range (be_p (bp_callB c (clr_len c) vop_len rfl M.b_len PySem.boot_len (bpa_cons (bp_var (i := 0) c rfl (Or.inl rfl) (by decide)) bpa_nil)))) (bg_name (i := 3) c rfl (Or.inl rfl) (by decide) fnx_body)
    (bss_one (bs_for c (bi_range1 c rfl M.b_range (be_p (bp_callB c (clr_len c) vop_len rfl M.b_len PySem.boot_len (bpa_cons (bp_ix c (bp_var (i := 0) c rfl (Or.inl rfl) (by decide)) (bp_var (i := 3) c rfl (Or.inl rfl) (by decide)) (fun _ _ => rfl)) bpa_nil)))) (bg_name (i := 4) c rfl (Or.inl rfl) (by decide) fnx_body)
    (bss_one (bs_if (btp_cmp (opa_inA c) vop_inA (bp_var (i := 1) c rfl (Or.inl rfl) (by decide)) (bp_ix c (bp_ix c (bp_var (i := 0) c rfl (Or.inl rfl) (by decide)) (bp_var (i := 3) c rfl (Or.inl rfl) (by decide)) (fun _ _ => rfl)) (bp_var (i := 4) c rfl (Or.inl rfl) (by decide)) (fun _ _ => rfl)) rfl)
    (bss_one (bs_expr (be_mut (i := 2) c PySem.F.plainAttrs_list PySem.F.slot_list_append PySem.F.type_list_append (by decide) (fun _ => mt_append) vm_append rfl (Or.inl rfl) (by decide) (ba_cons (be_tup (ba_cons (be_p (bp_var (i := 3) c rfl (Or.inl rfl) (by decide))) (ba_cons (be_p (bp_var (i := 4) c rfl (Or.inl rfl) (by decide))) ba_nil))) ba_nil))))
    bss_nil)))))
    (bss_cons (bs_if (btp_cmp (opa_eq c) vop_eq (bp_var (i := 2) c rfl (Or.inl rfl) (by decide)) (bp_lst bpa_nil) rfl)
    (bss_one bs_never)
    bss_nil)
    (bss_one (bs_ret (be_take (i := 2) c rfl (Or.inl rfl) (by decide)))))))

abbrev s_are_near : Stmt := top 7
abbrev N_are_near : List Str := ["mine", "theirs", "row", "at"]
theorem sc_are_near : FnScope N_are_near ["mine", "theirs"] (defScope s_are_near) := ⟨rfl, rfl, rfl, by decide +kernel, rfl, by decide +kernel, by decide +kernel⟩
theorem b_are_near {f : Addr} (M : Mod K w mg) : BDef (bodyS P w K mg base N_are_near "are_near" (defScope s_are_near) f 0) K 4 [] (defBody s_are_near) (fb_are_near) := by
  have c := ctx_body (P := P) (w := w) (K := K) (mg := mg) (base := base) (sc := defScope s_are_near) (qual := "are_near") (f := f) (k := 0) sc_are_near.nd
  exact BDef.of (bss_cons (bs_for c (bi_sq c (be_p (bp_var (i := 0) c rfl (Or.inl rfl) (by decide)))) (bg_tup c (bgn_cons (i := 2) c rfl (Or.inl rfl) fnx_body (bgn_cons (i := 3) c rfl (Or.inl rfl) fnx_body bgn_nil)) (by decide) rfl)
    (bss_one (bs_if (bt_w (bw_or (btp_cmp (opa_inA c) vop_inA (bp_tup (bpa_cons (bp_var (i := 2) c rfl (Or.inl rfl) (by decide)) (bpa_cons (bp_bin opa_sub vop_sub (bp_var (i := 3) c rfl (Or.inl rfl) (by decide)) bp_int) bpa_nil))) (bp_var (i := 1) c rfl (Or.inl rfl) (by decide)) rfl) (bw_or1 (btp_cmp (opa_inA c) vop_inA (bp_tup (bpa_cons (bp_var (i := 2) c rfl (Or.inl rfl) (by decide)) (bpa_cons (bp_bin opa_add vop_add (bp_var (i := 3) c rfl (Or.inl rfl) (by decide)) bp_int) bpa_nil))) (bp_var (i := 1) c rfl (Or.inl rfl) (by decide)) rfl))))
    (bss_one (bs_ret (be_p bp_bl)))
    bss_nil)))
    (bss_one (bs_ret (be_p bp_bl))))

abbrev s_reaches_out : Stmt := top 6
abbrev N_reaches_out : List Str := ["mine", "theirs", "drawing", "row", "at", "near"]
theorem sc_reaches_out : FnScope N_reaches_out ["mine", "theirs", "drawing"] (defScope s_reaches_out) := ⟨rfl, rfl, rfl, by decide +kernel, rfl, by decide +kernel, by decide +kernel⟩
theorem b_reaches_out {f : Addr} (M : Mod K w mg) : BDef (bodyS P w K mg base N_reaches_out "reaches_out" (defScope s_reaches_out) f 0) K 6 [] (defBody s_reaches_out) (fb_reaches_out) := by
  have c := ctx_body (P := P) (w := w) (K := K) (mg := mg) (base := base) (sc := defScope s_reaches_out) (qual := "reaches_out") (f := f) (k := 0) sc_reaches_out.nd
  exact BDef.of (bss_cons (bs_for c (bi_sq c (be_p (bp_var (i := 0) c rfl (Or.inl rfl) (by decide)))) (bg_tup c (bgn_cons (i := 3) c rfl (Or.inl rfl) fnx_body (bgn_cons (i := 4) c rfl (Or.inl rfl) fnx_body bgn_nil)) (by decide) rfl)
    (bss_one (bs_for c (bi_sq c (be_lst (ba_cons (be_p (bp_bin opa_sub vop_sub (bp_var (i := 4) c rfl (Or.inl rfl) (by decide)) bp_int)) (ba_cons (be_p (bp_bin opa_add vop_add (bp_var (i := 4) c rfl (Or.inl rfl) (by decide)) bp_int)) ba_nil)))) (bg_name (i := 5) c rfl (Or.inl rfl) (by decide) fnx_body)
    (bss_one (bs_if (bt_w (bw_and (btp_chain opa_le vop_le opa_lt vop_lt bp_int (bp_var (i := 5) c rfl (Or.inl rfl) (by decide)) (bp_callB c (clr_len c) vop_len rfl M.b_len PySem.boot_len (bpa_cons (bp_ix c (bp_var (i := 2) c rfl (Or.inl rfl) (by decide)) (bp_var (i := 3) c rfl (Or.inl rfl) (by decide)) (fun _ _ => rfl)) bpa_nil))) (bw_and1 (btp_cmp (opa_notInA c) vop_notInA (bp_tup (bpa_cons (bp_var (i := 3) c rfl (Or.inl rfl) (by decide)) (bpa_cons (bp_var (i := 5) c rfl (Or.inl rfl) (by decide)) bpa_nil))) (bp_var (i := 1) c rfl (Or.inl rfl) (by decide)) rfl))))
    (bss_one (bs_ret (be_p bp_bl)))
    bss_nil)))))
    (bss_one (bs_ret (be_p bp_bl))))

abbrev s_seen : Stmt := top 8
abbrev N_seen : List Str := ["drawing", "one", "other", "mine", "theirs", "common", "place"]
theorem sc_seen : FnScope N_seen ["drawing", "one", "other"] (defScope s_seen) := ⟨rfl, rfl, rfl, by decide +kernel, rfl, by decide +kernel, by decide +kernel⟩
theorem b_seen {f : Addr} (G_are_near : GFn P w K mg base "are_near" 1 2 fn_are_near) (G_plots_of : GFn P w K mg base "plots_of" 1 2 fn_plots_of) (G_reaches_out : GFn P w K mg base "reaches_out" 1 3 fn_reaches_out) (M : Mod K w mg) : BDef (bodyS P w K mg base N_seen "seen" (defScope s_seen) f 1) K 7 [] (defBody s_seen) (fb_seen) := by
  have c := ctx_body (P := P) (w := w) (K := K) (mg := mg) (base := base) (sc := defScope s_seen) (qual := "seen") (f := f) (k := 1) sc_seen.nd
  exact BDef.of (bss_cons (bs_set (i := 3) c rfl (Or.inl rfl) (by decide) fnx_body (be_call c G_plots_of (by decide) rfl (ba_cons (be_p (bp_var (i := 0) c rfl (Or.inl rfl) (by decide))) (ba_cons (be_p (bp_var (i := 1) c rfl (Or.inl rfl) (by decide))) ba_nil))))
    (bss_cons (bs_set (i := 4) c rfl (Or.inr rfl) (by decide) fnx_body (be_call c G_plots_of (by decide) rfl (ba_cons (be_p (bp_var (i := 0) c rfl (Or.inl rfl) (by decide))) (ba_cons (be_p (bp_var (i := 2) c rfl (Or.inl rfl) (by decide))) ba_nil))))
    (bss_frz 3 (by decide) (bss_cons (bs_setLc (i := 5) c rfl rfl (by decide) rfl rfl (by decide +kernel) (bi_sq c (be_p (bp_var (i := 3) c rfl (Or.inl rfl) (by decide)))) (own := [("place", 6)]) (by decide +kernel) (bg_name (i := 6) (ctx_blk c) rfl (Or.inl rfl) (by decide) (fnx_local (ctx_blk c) rfl)) (bts_one (btp_cmp (opa_inA (ctx_blk c)) vop_inA (bp_var (i := 6) (ctx_blk c) rfl (Or.inl rfl) (by decide)) (bp_var (i := 4) (ctx_blk c) rfl (Or.inr (Or.inl rfl)) (by decide)) rfl)) (be_p (bp_var (i := 6) (ctx_blk c) rfl (Or.inl rfl) (by decide))) (by decide) (by decide))
    (bss_cons (bs_if (bt_w (bw_and (btp_cmp (opa_eq c) vop_eq (bp_callB c (clr_len c) vop_len rfl M.b_len PySem.boot_len (bpa_cons (bp_var (i := 5) c rfl (Or.inl rfl) (by decide)) bpa_nil)) (bp_callB c (clr_len c) vop_len rfl M.b_len PySem.boot_len (bpa_cons (bp_var (i := 3) c rfl (Or.inl rfl) (by decide)) bpa_nil)) rfl) (bw_and1 (btp_cmp (opa_eq c) vop_eq (bp_callB c (clr_len c) vop_len rfl M.b_len PySem.boot_len (bpa_cons (bp_var (i := 5) c rfl (Or.inl rfl) (by decide)) bpa_nil)) (bp_callB c (clr_len c) vop_len rfl M.b_len PySem.boot_len (bpa_cons (bp_var (i := 4) c rfl (Or.inr (Or.inl rfl)) (by decide)) bpa_nil)) rfl))))
    (bss_one (bs_ret (be_p bp_str)))
    bss_nil)
    (bss_cons (bs_if (btp_cmp (opa_eq c) vop_eq (bp_callB c (clr_len c) vop_len rfl M.b_len PySem.boot_len (bpa_cons (bp_var (i := 5) c rfl (Or.inl rfl) (by decide)) bpa_nil)) (bp_callB c (clr_len c) vop_len rfl M.b_len PySem.boot_len (bpa_cons (bp_var (i := 3) c rfl (Or.inl rfl) (by decide)) bpa_nil)) rfl)
    (bss_cons (bs_if (bt_val (be_call c G_reaches_out (by decide) rfl (ba_cons (be_p (bp_var (i := 3) c rfl (Or.inl rfl) (by decide))) (ba_cons (be_take (i := 4) c rfl (Or.inr (Or.inl rfl)) (by decide)) (ba_cons (be_p (bp_var (i := 0) c rfl (Or.inl rfl) (by decide))) ba_nil)))))
    (bss_one (bs_ret (be_p bp_str)))
    bss_nil)
    (bss_one (bs_ret (be_p bp_str))))
    bss_nil)
    (bss_cons (bs_if (btp_cmp (opa_eq c) vop_eq (bp_callB c (clr_len c) vop_len rfl M.b_len PySem.boot_len (bpa_cons (bp_var (i := 5) c rfl (Or.inl rfl) (by decide)) bpa_nil)) (bp_callB c (clr_len c) vop_len rfl M.b_len PySem.boot_len (bpa_cons (bp_var (i := 4) c rfl (Or.inr (Or.inl rfl)) (by decide)) bpa_nil)) rfl)
    (bss_cons (bs_if (bt_val (be_call c G_reaches_out (by decide) rfl (ba_cons (be_take (i := 4) c rfl (Or.inr (Or.inl rfl)) (by decide)) (ba_cons (be_p (bp_var (i := 3) c rfl (Or.inl rfl) (by decide))) (ba_cons (be_p (bp_var (i := 0) c rfl (Or.inl rfl) (by decide))) ba_nil)))))
    (bss_one (bs_ret (be_p bp_str)))
    bss_nil)
    (bss_one (bs_ret (be_p bp_str))))
    bss_nil)
    (bss_cons (bs_if (btp_cmp (opa_ne c) vop_ne (bp_var (i := 5) c rfl (Or.inl rfl) (by decide)) (bp_lst bpa_nil) rfl)
    (bss_one (bs_ret (be_p bp_str)))
    bss_nil)
    (bss_cons (bs_if (bt_val (be_call c G_are_near (by decide) rfl (ba_cons (be_p (bp_var (i := 3) c rfl (Or.inl rfl) (by decide))) (ba_cons (be_take (i := 4) c rfl (Or.inr (Or.inl rfl)) (by decide)) ba_nil))))
    (bss_one (bs_ret (be_p bp_str)))
    bss_nil)
    (bss_one (bs_ret (be_p bp_str))))))))))))

abbrev s_sight : Stmt := top 9
abbrev N_sight : List Str := ["drawing", "names", "found", "one", "other"]
theorem sc_sight : FnScope N_sight ["drawing"] (defScope s_sight) := ⟨rfl, rfl, rfl, by decide +kernel, rfl, by decide +kernel, by decide +kernel⟩
theorem b_sight {f : Addr} (G_lands : GFn P w K mg base "lands" 1 1 fn_lands) (G_seen : GFn P w K mg base "seen" 2 3 fn_seen) (M : Mod K w mg) : BDef (bodyS P w K mg base N_sight "sight" (defScope s_sight) f 2) K 5 [] (defBody s_sight) (fb_sight) := by
  have c := ctx_body (P := P) (w := w) (K := K) (mg := mg) (base := base) (sc := defScope s_sight) (qual := "sight") (f := f) (k := 2) sc_sight.nd
  exact BDef.of (bss_cons (bs_set (i := 1) c rfl (Or.inl rfl) (by decide) fnx_body (be_call c G_lands (by decide) rfl (ba_cons (be_p (bp_var (i := 0) c rfl (Or.inl rfl) (by decide))) ba_nil)))
    (bss_cons (bs_set (i := 2) c rfl (Or.inl rfl) (by decide) fnx_body (be_p bp_dnewT))
    (bss_frz 1 (by decide) (bss_cons (bs_for c (bi_sq c (be_p (bp_var (i := 1) c rfl (Or.inl rfl) (by decide)))) (bg_name (i := 3) c rfl (Or.inl rfl) (by decide) fnx_body)
    (bss_one (bs_for c (bi_sq c (be_p (bp_var (i := 1) c rfl (Or.inl rfl) (by decide)))) (bg_name (i := 4) c rfl (Or.inl rfl) (by decide) fnx_body)
    (bss_one (bs_if (btp_cmp opa_lt vop_lt (bp_var (i := 3) c rfl (Or.inl rfl) (by decide)) (bp_var (i := 4) c rfl (Or.inl rfl) (by decide)) rfl)
    (bss_one (bs_dput (i := 2) c rfl (Or.inl rfl) (by decide) (be_call c G_seen (by decide) rfl (ba_cons (be_p (bp_var (i := 0) c rfl (Or.inl rfl) (by decide))) (ba_cons (be_p (bp_var (i := 3) c rfl (Or.inl rfl) (by decide))) (ba_cons (be_p (bp_var (i := 4) c rfl (Or.inl rfl) (by decide))) ba_nil)))) (be_p (bp_tup (bpa_cons (bp_var (i := 3) c rfl (Or.inl rfl) (by decide)) (bpa_cons (bp_var (i := 4) c rfl (Or.inl rfl) (by decide)) bpa_nil))))))
    bss_nil)))))
    (bss_one (bs_ret (be_take (i := 2) c rfl (Or.inl rfl) (by decide))))))))

abbrev s_copied : Stmt := top 10
abbrev N_copied : List Str := ["drawing", "strip"]
theorem sc_copied : FnScope N_copied ["drawing"] (defScope s_copied) := ⟨rfl, rfl, rfl, by decide +kernel, rfl, by decide +kernel, by decide +kernel⟩
theorem b_copied {f : Addr} (M : Mod K w mg) : BDef (bodyS P w K mg base N_copied "copied" (defScope s_copied) f 0) K 2 [] (defBody s_copied) (fb_copied) := by
  have c := ctx_body (P := P) (w := w) (K := K) (mg := mg) (base := base) (sc := defScope s_copied) (qual := "copied") (f := f) (k := 0) sc_copied.nd
  exact BDef.of (bss_one (bs_ret (be_comp c (bi_sq c (be_p (bp_var (i := 0) c rfl (Or.inl rfl) (by decide)))) (own := [("strip", 1)]) (by decide +kernel) (bg_name (i := 1) (ctx_blk c) rfl (Or.inl rfl) (by decide) (fnx_local (ctx_blk c) rfl)) bts_nil (be_p (bp_callTy (ctx_blk c) (clr_list (ctx_blk c)) vop_list rfl M.b_list PyProof.Rows.boot_list (bpa_cons (bp_var (i := 1) (ctx_blk c) rfl (Or.inl rfl) (by decide)) bpa_nil))) (by decide) (by decide))))

abbrev s_trimmed : Stmt := top 11
abbrev N_trimmed : List Str := ["drawing", "due", "names", "left", "at", "less"]
theorem sc_trimmed : FnScope N_trimmed ["drawing"] (defScope s_trimmed) := ⟨rfl, rfl, rfl, by decide +kernel, rfl, by decide +kernel, by decide +kernel⟩
theorem b_trimmed {f : Addr} (G_copied : GFn P w K mg base "copied" 1 1 fn_copied) (G_lands : GFn P w K mg base "lands" 1 1 fn_lands) (G_sight : GFn P w K mg base "sight" 3 1 fn_sight) (M : Mod K w mg) : BDef (bodyS P w K mg base N_trimmed "trimmed" (defScope s_trimmed) f 3) K 6 [] (defBody s_trimmed) (fb_trimmed) := by
  have c := ctx_body (P := P) (w := w) (K := K) (mg := mg) (base := base) (sc := defScope s_trimmed) (qual := "trimmed") (f := f) (k := 3) sc_trimmed.nd
  exact BDef.of (bss_cons (bs_set (i := 1) c rfl (Or.inl rfl) (by decide) fnx_body (be_call c G_sight (by decide) rfl (ba_cons (be_p (bp_var (i := 0) c rfl (Or.inl rfl) (by decide))) ba_nil)))
    (bss_cons (bs_set (i := 2) c rfl (Or.inl rfl) (by decide) fnx_body (be_call c G_lands (by decide) rfl (ba_cons (be_p (bp_var (i := 0) c rfl (Or.inl rfl) (by decide))) ba_nil)))
    (bss_cons (bs_set (i := 3) c rfl (Or.inl rfl) (by decide) fnx_body (be_call c G_copied (by decide) rfl (ba_cons (be_p (bp_var (i := 0) c rfl (Or.inl rfl) (by decide))) ba_nil)))
    (bss_cons (bs_set (i := 4) c rfl (Or.inl rfl) (by decide) fnx_body (be_p bp_int))
    (bss_frz 3 (by decide) (bss_cons (bs_while 100 c (btp_cmp opa_lt vop_lt (bp_var (i := 4) c rfl (Or.inl rfl) (by decide)) (bp_callB c (clr_len c) vop_len rfl M.b_len PySem.boot_len (bpa_cons (bp_var (i := 3) c rfl (Or.inl rfl) (by decide)) bpa_nil)) rfl)
    (bss_cons (bs_set (i := 5) c rfl (Or.inl rfl) (by decide) fnx_body (be_drop (i := 3) (j := 4) c rfl (Or.inl rfl) (by decide) rfl (Or.inl rfl) (by decide)))
    (bss_one (bs_if (bt_w (bw_and (bt_cmp (opa_eq c) vop_eq (be_call c G_lands (by decide) rfl (ba_cons (be_p (bp_var (i := 5) c rfl (Or.inl rfl) (by decide))) ba_nil)) (be_p (bp_var (i := 2) c rfl (Or.inl rfl) (by decide))) rfl) (bw_and1 (bt_cmp (opa_eqA c) vop_eqA (be_call c G_sight (by decide) rfl (ba_cons (be_p (bp_var (i := 5) c rfl (Or.inl rfl) (by decide))) ba_nil)) (be_p (bp_var (i := 1) c rfl (Or.inl rfl) (by decide))) rfl))))
    (bss_one (bs_set (i := 3) c rfl (Or.inl rfl) (by decide) fnx_body (be_p (bp_var (i := 5) c rfl (Or.inl rfl) (by decide)))))
    (bss_one (bs_set (i := 4) c rfl (Or.inl rfl) (by decide) fnx_body (be_p (bp_bin opa_add vop_add (bp_var (i := 4) c rfl (Or.inl rfl) (by decide)) bp_int))))))))
    (bss_one (bs_ret (be_p (bp_var (i := 3) c rfl (Or.inl rfl) (by decide)))))))))))

abbrev s__law_like : Stmt := top 15
abbrev N__law_like : List Str := ["_law_found", "_law_due_here", "_law_key", "_law_k"]
theorem sc__law_like : FnScope N__law_like ["_law_found", "_law_due_here"] (defScope s__law_like) := ⟨rfl, rfl, rfl, by decide +kernel, rfl, by decide +kernel, by decide +kernel⟩
theorem b__law_like {f : Addr} {r : Fn} {k : Nat} (G__law_like : GFn P w K mg base "_law_like" k 2 r) (M : Mod K w mg) : BDef (bodyS P w K mg base N__law_like "_law_like" (defScope s__law_like) f k) K 4 [] (defBody s__law_like) (fb__law_like r) := by
  have c := ctx_body (P := P) (w := w) (K := K) (mg := mg) (base := base) (sc := defScope s__law_like) (qual := "_law_like") (f := f) (k := k) sc__law_like.nd
  exact BDef.of (bss_cons (bs_if (bt_val (be_p (bp_isi c (bp_var (i := 1) c rfl (Or.inr (Or.inl rfl)) (by decide)) rfl M.b_isinstance rfl M.b_bool PyProof.Rows.boot_bool PyProof.Rows.boot_isinstance)))
    (bss_one (bs_ret (be_and (be_p (bp_isi c (bp_var (i := 0) c rfl (Or.inr (Or.inl rfl)) (by decide)) rfl M.b_isinstance rfl M.b_bool PyProof.Rows.boot_bool PyProof.Rows.boot_isinstance)) (be_one (be_p (bp_cmp (opa_eq c) vop_eq (bp_var (i := 0) c rfl (Or.inr (Or.inl rfl)) (by decide)) (bp_var (i := 1) c rfl (Or.inr (Or.inl rfl)) (by decide)) rfl))))))
    bss_nil)
    (bss_cons (bs_if (bt_val (be_p (bp_isi c (bp_var (i := 1) c rfl (Or.inr (Or.inl rfl)) (by decide)) rfl M.b_isinstance rfl M.b_str PyProof.Rows.boot_str PyProof.Rows.boot_isinstance)))
    (bss_one (bs_ret (be_and (be_p (bp_isi c (bp_var (i := 0) c rfl (Or.inr (Or.inl rfl)) (by decide)) rfl M.b_isinstance rfl M.b_str PyProof.Rows.boot_str PyProof.Rows.boot_isinstance)) (be_one (be_p (bp_cmp (opa_eq c) vop_eq (bp_var (i := 0) c rfl (Or.inr (Or.inl rfl)) (by decide)) (bp_var (i := 1) c rfl (Or.inr (Or.inl rfl)) (by decide)) rfl))))))
    bss_nil)
    (bss_cons (bs_if (bt_val (be_p (bp_isi c (bp_var (i := 1) c rfl (Or.inr (Or.inl rfl)) (by decide)) rfl M.b_isinstance rfl M.b_int PyProof.Rows.boot_int PyProof.Rows.boot_isinstance)))
    (bss_one (bs_ret (be_and (be_p (bp_isi c (bp_var (i := 0) c rfl (Or.inr (Or.inl rfl)) (by decide)) rfl M.b_isinstance rfl M.b_int PyProof.Rows.boot_int PyProof.Rows.boot_isinstance)) (be_and (be_not (be_p (bp_isi c (bp_var (i := 0) c rfl (Or.inr (Or.inl rfl)) (by decide)) rfl M.b_isinstance rfl M.b_bool PyProof.Rows.boot_bool PyProof.Rows.boot_isinstance))) (be_one (be_p (bp_cmp (opa_eq c) vop_eq (bp_var (i := 0) c rfl (Or.inr (Or.inl rfl)) (by decide)) (bp_var (i := 1) c rfl (Or.inr (Or.inl rfl)) (by decide)) rfl)))))))
    bss_nil)
    (bss_cons (bs_if (btp_cmp opa_isN vop_isN (bp_var (i := 1) c rfl (Or.inr (Or.inl rfl)) (by decide)) bp_non rfl)
    (bss_one (bs_ret (be_p (bp_cmp opa_isN vop_isN (bp_var (i := 0) c rfl (Or.inr (Or.inl rfl)) (by decide)) bp_non rfl))))
    bss_nil)
    (bss_cons (bs_if (bt_val (be_p (bp_isi c (bp_var (i := 1) c rfl (Or.inr (Or.inl rfl)) (by decide)) rfl M.b_isinstance rfl M.b_dict PyProof.Rows.boot_dict PyProof.Rows.boot_isinstance)))
    (bss_cons (bs_if (bt_w (bw_or (bt_not (bt_val (be_p (bp_isi c (bp_var (i := 0) c rfl (Or.inr (Or.inl rfl)) (by decide)) rfl M.b_isinstance rfl M.b_dict PyProof.Rows.boot_dict PyProof.Rows.boot_isinstance)))) (bw_or1 (btp_cmp (opa_ne c) vop_ne (bp_callB c (clr_len c) vop_len rfl M.b_len PySem.boot_len (bpa_cons (bp_var (i := 0) c rfl (Or.inr (Or.inl rfl)) (by decide)) bpa_nil)) (bp_callB c (clr_len c) vop_len rfl M.b_len PySem.boot_len (bpa_cons (bp_var (i := 1) c rfl (Or.inr (Or.inl rfl)) (by decide)) bpa_nil)) rfl))))
    (bss_one (bs_ret (be_p bp_bl)))
    bss_nil)
    (bss_one (bs_ret (be_cmp (opa_eq c) vop_eq (be_comp c (bi_sq c (be_p (bp_var (i := 1) c rfl (Or.inr (Or.inl rfl)) (by decide)))) (own := [("_law_key", 2)]) (by decide +kernel) (bg_name (i := 2) (ctx_blk c) rfl (Or.inl rfl) (by decide) (fnx_local (ctx_blk c) rfl)) (bts_one (bt_w (bw_or (btp_cmp (opa_notInA (ctx_blk c)) vop_notInA (bp_var (i := 2) (ctx_blk c) rfl (Or.inl rfl) (by decide)) (bp_var (i := 0) (ctx_blk c) rfl (Or.inr (Or.inl rfl)) (by decide)) rfl) (bw_or1 (bt_not (bt_val (be_call (ctx_blk c) G__law_like (Nat.le_refl _) rfl (ba_cons (be_p (bp_ix (ctx_blk c) (bp_var (i := 0) (ctx_blk c) rfl (Or.inr (Or.inl rfl)) (by decide)) (bp_var (i := 2) (ctx_blk c) rfl (Or.inl rfl) (by decide)) (fun _ _ => rfl))) (ba_cons (be_p (bp_ix (ctx_blk c) (bp_var (i := 1) (ctx_blk c) rfl (Or.inr (Or.inl rfl)) (by decide)) (bp_var (i := 2) (ctx_blk c) rfl (Or.inl rfl) (by decide)) (fun _ _ => rfl))) ba_nil))))))))) (be_p (bp_var (i := 2) (ctx_blk c) rfl (Or.inl rfl) (by decide))) (by decide) (by decide)) (be_p (bp_lst bpa_nil)) rfl))))
    bss_nil)
    (bss_cons (bs_if (bt_w (bw_or (btp_cmp (opa_ne c) vop_ne (bp_isi c (bp_var (i := 1) c rfl (Or.inr (Or.inl rfl)) (by decide)) rfl M.b_isinstance rfl M.b_tuple PyProof.Rows.boot_tuple PyProof.Rows.boot_isinstance) (bp_isi c (bp_var (i := 0) c rfl (Or.inr (Or.inl rfl)) (by decide)) rfl M.b_isinstance rfl M.b_tuple PyProof.Rows.boot_tuple PyProof.Rows.boot_isinstance) rfl) (bw_or1 (btp_cmp (opa_ne c) vop_ne (bp_isi c (bp_var (i := 1) c rfl (Or.inr (Or.inl rfl)) (by decide)) rfl M.b_isinstance rfl M.b_list PyProof.Rows.boot_list PyProof.Rows.boot_isinstance) (bp_isi c (bp_var (i := 0) c rfl (Or.inr (Or.inl rfl)) (by decide)) rfl M.b_isinstance rfl M.b_list PyProof.Rows.boot_list PyProof.Rows.boot_isinstance) rfl))))
    (bss_one (bs_ret (be_p bp_bl)))
    bss_nil)
    (bss_cons (bs_if (btp_cmp (opa_ne c) vop_ne (bp_callB c (clr_len c) vop_len rfl M.b_len PySem.boot_len (bpa_cons (bp_var (i := 0) c rfl (Or.inr (Or.inl rfl)) (by decide)) bpa_nil)) (bp_callB c (clr_len c) vop_len rfl M.b_len PySem.boot_len (bpa_cons (bp_var (i := 1) c rfl (Or.inr (Or.inl rfl)) (by decide)) bpa_nil)) rfl)
    (bss_one (bs_ret (be_p bp_bl)))
    bss_nil)
    (bss_cons (bs_for c (bi_range1 c rfl M.b_range (be_p (bp_callB c (clr_len c) vop_len rfl M.b_len PySem.boot_len (bpa_cons (bp_var (i := 1) c rfl (Or.inr (Or.inl rfl)) (by decide)) bpa_nil)))) (bg_name (i := 3) c rfl (Or.inl rfl) (by decide) fnx_body)
    (bss_one (bs_if (bt_not (bt_val (be_call c G__law_like (Nat.le_refl _) rfl (ba_cons (be_p (bp_ix c (bp_var (i := 0) c rfl (Or.inr (Or.inl rfl)) (by decide)) (bp_var (i := 3) c rfl (Or.inl rfl) (by decide)) (fun _ _ => rfl))) (ba_cons (be_p (bp_ix c (bp_var (i := 1) c rfl (Or.inr (Or.inl rfl)) (by decide)) (bp_var (i := 3) c rfl (Or.inl rfl) (by decide)) (fun _ _ => rfl))) ba_nil)))))
    (bss_one (bs_ret (be_p bp_bl)))
    bss_nil)))
    (bss_one (bs_ret (be_p bp_bl)))))))))))

abbrev s_law : Stmt := top 25
abbrev N_law : List Str := ["_law_script", "_law_d", "_law_names_here", "_law_drawing_here", "_law_turn", "_law_more", "_law_due_here", "_law_handed", "_law_told"]
theorem sc_law : FnScope N_law ["_law_script"] (defScope s_law) := ⟨rfl, rfl, rfl, by decide +kernel, rfl, by decide +kernel, by decide +kernel⟩
theorem b_law {f : Addr} (G__law_copied : GFn P w K mg base "_law_copied" 5 1 fn__law_copied) (G__law_dice : GFn P w K mg base "_law_dice" 1 1 fn__law_dice) (G__law_drawing : GFn P w K mg base "_law_drawing" 3 3 fn__law_drawing) (G__law_due : GFnV P w K mg base "_law_due" 4 2 fnv__law_due) (G__law_like : GFn P w K mg base "_law_like" 5 2 fn__law_like) (G__law_names : GFn P w K mg base "_law_names" 2 2 fn__law_names) (G__law_next : GFn P w K mg base "_law_next" 1 2 fn__law_next) (G_trimmed : GFn P w K mg base "trimmed" 4 1 fn_trimmed) (M : Mod K w mg) : BDef (bodyS P w K mg base N_law "law" (defScope s_law) f 5) K 9 [1] (defBody s_law) (fb_law) := by
  have c := ctx_body (P := P) (w := w) (K := K) (mg := mg) (base := base) (sc := defScope s_law) (qual := "law") (f := f) (k := 5) sc_law.nd
  exact BDef.of (bss_cons (bs_set (i := 1) c rfl (Or.inl rfl) (by decide) fnx_body (be_call c G__law_dice (by decide) rfl (ba_cons (be_p (bp_var (i := 0) c rfl (Or.inl rfl) (by decide))) ba_nil)))
    (bss_cons (bs_set (i := 2) c rfl (Or.inl rfl) (by decide) fnx_body (be_call c G__law_names (by decide) rfl (ba_ptr (i := 1) c rfl (Or.inl rfl) (by decide) (ba_cons (be_bin opa_add vop_add (be_p bp_int) (be_call c G__law_next (by decide) rfl (ba_ptr (i := 1) c rfl (Or.inl rfl) (by decide) (ba_cons (be_p bp_int) ba_nil)))) ba_nil))))
    (bss_cons (bs_set (i := 3) c rfl (Or.inl rfl) (by decide) fnx_body (be_call c G__law_drawing (by decide) rfl (ba_ptr (i := 1) c rfl (Or.inl rfl) (by decide) (ba_cons (be_p (bp_var (i := 2) c rfl (Or.inl rfl) (by decide))) (ba_cons (be_p bp_int) ba_nil)))))
    (bss_cons (bs_for c (bi_range1 c rfl M.b_range (be_call c G__law_next (by decide) rfl (ba_ptr (i := 1) c rfl (Or.inl rfl) (by decide) (ba_cons (be_p bp_int) ba_nil)))) (bg_name (i := 4) c rfl (Or.inl rfl) (by decide) fnx_body)
    (bss_cons (bs_set (i := 5) c rfl (Or.inl rfl) (by decide) fnx_body (be_ix c (be_lst (ba_cons (be_p (bp_lst (bpa_cons (bp_tup bpa_nil) bpa_nil))) (ba_cons (be_p (bp_lst (bpa_cons (bp_tup bpa_nil) (bpa_cons (bp_tup bpa_nil) bpa_nil)))) (ba_cons (be_callTy c (clr_list c) vop_list rfl M.b_list PyProof.Rows.boot_list (ba_cons (be_ix c (be_p (bp_var (i := 3) c rfl (Or.inl rfl) (by decide))) (be_call c G__law_next (by decide) rfl (ba_ptr (i := 1) c rfl (Or.inl rfl) (by decide) (ba_cons (be_p (bp_callB c (clr_len c) vop_len rfl M.b_len PySem.boot_len (bpa_cons (bp_var (i := 3) c rfl (Or.inl rfl) (by decide)) bpa_nil))) ba_nil))) (fun _ _ => rfl)) ba_nil)) ba_nil)))) (be_call c G__law_next (by decide) rfl (ba_ptr (i := 1) c rfl (Or.inl rfl) (by decide) (ba_cons (be_p bp_int) ba_nil))) (fun _ _ => rfl)))
    (bss_one (bs_expr (be_mut (i := 3) c PySem.F.plainAttrs_list PySem.F.slot_list_insert PySem.F.type_list_insert (by decide) (fun _ => mt_insert) vm_insert rfl (Or.inl rfl) (by decide) (ba_cons (be_call c G__law_next (by decide) rfl (ba_ptr (i := 1) c rfl (Or.inl rfl) (by decide) (ba_cons (be_p (bp_bin opa_add vop_add (bp_callB c (clr_len c) vop_len rfl M.b_len PySem.boot_len (bpa_cons (bp_var (i := 3) c rfl (Or.inl rfl) (by decide)) bpa_nil)) bp_int)) ba_nil))) (ba_cons (be_take (i := 5) c rfl (Or.inl rfl) (by decide)) ba_nil)))))))
    (bss_frz 3 (by decide) (bss_cons (bs_set (i := 6) c rfl (Or.inl rfl) (by decide) fnx_body (be_callV c G__law_due (by decide) rfl (ba_cons (be_weak .val (be_p (bp_var (i := 3) c rfl (Or.inl rfl) (by decide)))) (ba_cons (be_weak .val (be_take (i := 2) c rfl (Or.inl rfl) (by decide))) ba_nil))))
    (bss_cons (bs_set (i := 7) c rfl (Or.inl rfl) (by decide) fnx_body (be_call c G__law_copied (by decide) rfl (ba_cons (be_p (bp_var (i := 3) c rfl (Or.inl rfl) (by decide))) ba_nil)))
    (bss_cons (bs_for c (bi_range1 c rfl M.b_range (be_p bp_int)) (bg_name (i := 4) c rfl (Or.inl rfl) (by decide) fnx_body)
    (bss_cons (bs_set (i := 8) c rfl (Or.inl rfl) (by decide) fnx_body (be_call c G_trimmed (by decide) rfl (ba_cons (be_p (bp_var (i := 7) c rfl (Or.inl rfl) (by decide))) ba_nil)))
    (bss_cons (bs_if (bt_w (bw_or (bt_not (bt_val (be_call c G__law_like (by decide) rfl (ba_cons (be_p (bp_var (i := 8) c rfl (Or.inl rfl) (by decide))) (ba_cons (be_p (bp_var (i := 6) c rfl (Or.inl rfl) (by decide))) ba_nil))))) (bw_or1 (btp_cmp (opa_ne c) vop_ne (bp_var (i := 7) c rfl (Or.inl rfl) (by decide)) (bp_var (i := 3) c rfl (Or.inl rfl) (by decide)) rfl))))
    (bss_one (bs_ret (be_p bp_bl)))
    bss_nil)
    (bss_cons (bs_expr (be_mutI (i := 8) (m := 0) c PySem.F.plainAttrs_list PySem.F.slot_list_append PySem.F.type_list_append (by decide) (fun _ => mt_append) vm_append rfl (Or.inl rfl) (by decide) (bpa_cons (bp_tup (bpa_cons bp_str bpa_nil)) bpa_nil)))
    (bss_one (bs_expr (be_mut (i := 8) c PySem.F.plainAttrs_list PySem.F.slot_list_append PySem.F.type_list_append (by decide) (fun _ => mt_append) vm_append rfl (Or.inl rfl) (by decide) (ba_cons (be_lst (ba_cons (be_tup (ba_cons (be_p bp_str) ba_nil)) ba_nil)) ba_nil))))))))
    (bss_one (bs_ret (be_cmp (opa_eq c) vop_eq (be_call c G_trimmed (by decide) rfl (ba_cons (be_p (bp_var (i := 6) c rfl (Or.inl rfl) (by decide))) ba_nil)) (be_p (bp_var (i := 6) c rfl (Or.inl rfl) (by decide))) rfl)))))))))))

end
end RG

set_option maxRecDepth 100000
set_option maxHeartbeats 4000000
namespace RG
open PySem PySem.Spec PyProof.Rows L2
theorem dice_loop : ∀ (cs : List Int) (d : D) (k : Tk) (x : Int) (s : S), ∃ s', sLoop (gSet 2) lb__law_dice_1 (cs.map fun i => (Tk.own, D.int i)) [.t k d, .t .own (.int x), s] = some (.nx [.t k d, .t .own (.int (mixA cs x)), s'])
  | [], d, k, x, s => ⟨s, rfl⟩
  | c :: cs, d, k, x, s => by
    obtain ⟨s', e⟩ := dice_loop cs d k ((x * 48271 + c % 2147483647 * 69621 + 11) % 2147483647) (.t .own (.int c))
    refine ⟨s', ?_⟩
    unfold mixA
    rw [← e]
    simp [sSeq, sIf, bE, lift, pOp, pCons, pVar, oIx, atI, ixN, oGt, oGe, oLe, oLen, sAsg, gSet, oMod, sPut, oSetL, oDiv, oAdd, oSub, oMul, oPow, T.sl, pC, S.get, S.with, tt1, D.isTy, D.flat, D.flats, sRet, eTake, outs, S.only, Rk.pk, pJoin, Tk.join, Rk.kind, eIf, eOp, aCons, tmps, kJoin, aPtr, eCall, argS, wb, ptrs, S.back, S.wr, S.d?, S.isBor, oTup, oLst, oTuple, oInt, iSq, iSeqL, iSeqT, sk_t_own_t, sk_t_own_f, sk_t_frz_t, sk_t_frz_f, sk_t_old_t, sk_t_old_f, sk_t_val_t, sk_t_val_f, sk_t_bor_t, sk_t_bor_f, sk_f_own_t, sk_f_own_f, sk_f_frz_t, sk_f_frz_f, sk_f_old_t, sk_f_old_f, sk_f_val_t, sk_f_val_f, sk_f_bor_t, sk_f_bor_f, sFor, sLoop, Tk.mix, S.clean, wipeE, oList, bNot, bAnd, bOr, eB, pIsi, D.tyn, iRange1, eMut, tts, sExpr, bAnd, bOr, lb__law_dice_1]
theorem t__law_dice {script_ : List Int} {r : Die} (h : p__law_dice script_ = some r) : fn__law_dice [.t .old (.scr script_)] = some (eDie r, [.gone]) := by
  unfold p__law_dice at h
  cases h
  obtain ⟨s', e⟩ := dice_loop script_ (.scr script_) .old 0 .gone
  unfold fn__law_dice fnOf fb__law_dice eDie bI
  by_cases h2 : (2 : Int) < script_.length
  · simp [sSeq, sIf, bE, lift, pOp, pCons, pVar, oIx, atI, ixN, oGt, oGe, oLe, oLen, sAsg, gSet, oMod, sPut, oSetL, oDiv, oAdd, oSub, oMul, oPow, T.sl, pC, S.get, S.with, tt1, D.isTy, D.flat, D.flats, sRet, eTake, outs, S.only, Rk.pk, pJoin, Tk.join, Rk.kind, eIf, eOp, aCons, tmps, kJoin, aPtr, eCall, argS, wb, ptrs, S.back, S.wr, S.d?, S.isBor, oTup, oLst, oTuple, oInt, iSq, iSeqL, iSeqT, sk_t_own_t, sk_t_own_f, sk_t_frz_t, sk_t_frz_f, sk_t_old_t, sk_t_old_f, sk_t_val_t, sk_t_val_f, sk_t_bor_t, sk_t_bor_f, sk_f_own_t, sk_f_own_f, sk_f_frz_t, sk_f_frz_f, sk_f_old_t, sk_f_old_f, sk_f_val_t, sk_f_val_f, sk_f_bor_t, sk_f_bor_f, sFor, sLoop, Tk.mix, S.clean, wipeE, oList, bNot, bAnd, bOr, eB, pIsi, D.tyn, iRange1, eMut, tts, sExpr, bAnd, bOr, e, h2]
  · simp [sSeq, sIf, bE, lift, pOp, pCons, pVar, oIx, atI, ixN, oGt, oGe, oLe, oLen, sAsg, gSet, oMod, sPut, oSetL, oDiv, oAdd, oSub, oMul, oPow, T.sl, pC, S.get, S.with, tt1, D.isTy, D.flat, D.flats, sRet, eTake, outs, S.only, Rk.pk, pJoin, Tk.join, Rk.kind, eIf, eOp, aCons, tmps, kJoin, aPtr, eCall, argS, wb, ptrs, S.back, S.wr, S.d?, S.isBor, oTup, oLst, oTuple, oInt, iSq, iSeqL, iSeqT, sk_t_own_t, sk_t_own_f, sk_t_frz_t, sk_t_frz_f, sk_t_old_t, sk_t_old_f, sk_t_val_t, sk_t_val_f, sk_t_bor_t, sk_t_bor_f, sk_f_own_t, sk_f_own_f, sk_f_frz_t, sk_f_frz_f, sk_f_old_t, sk_f_old_f, sk_f_val_t, sk_f_val_f, sk_f_bor_t, sk_f_bor_f, sFor, sLoop, Tk.mix, S.clean, wipeE, oList, bNot, bAnd, bOr, eB, pIsi, D.tyn, iRange1, eMut, tts, sExpr, bAnd, bOr, e, h2]

theorem t__law_next {d : Die} {many : Int} {r : Int × Die} (h : p__law_next d many = some r) : fn__law_next [.io (eDie d), .t .old (.int many)] = some (.int r.1, [.io (eDie r.2), .gone]) := by
  obtain ⟨ns, i, m, hh⟩ := d
  unfold p__law_next at h
  simp only at h
  split at h
  · rename_i q
    obtain ⟨hi, h0, h1⟩ := q
    unfold fn__law_next fnOf fb__law_next eDie
    by_cases hh : 0 < hh
    · rw [if_pos hh] at h
      cases h
      simp [sSeq, sIf, bE, lift, pOp, pCons, pVar, oIx, atI, ixN, oGt, oGe, oLe, oLen, sAsg, gSet, oMod, sPut, oSetL, oDiv, oAdd, oSub, oMul, oPow, T.sl, pC, S.get, S.with, tt1, D.isTy, D.flat, D.flats, sRet, eTake, outs, S.only, Rk.pk, pJoin, Tk.join, Rk.kind, eIf, eOp, aCons, tmps, kJoin, aPtr, eCall, argS, wb, ptrs, S.back, S.wr, S.d?, S.isBor, oTup, oLst, oTuple, oInt, iSq, iSeqL, iSeqT, sk_t_own_t, sk_t_own_f, sk_t_frz_t, sk_t_frz_f, sk_t_old_t, sk_t_old_f, sk_t_val_t, sk_t_val_f, sk_t_bor_t, sk_t_bor_f, sk_f_own_t, sk_f_own_f, sk_f_frz_t, sk_f_frz_f, sk_f_old_t, sk_f_old_f, sk_f_val_t, sk_f_val_f, sk_f_bor_t, sk_f_bor_f, sFor, sLoop, Tk.mix, S.clean, wipeE, oList, bNot, bAnd, bOr, eB, pIsi, D.tyn, iRange1, eMut, tts, sExpr, bAnd, bOr, hh, h0, h1]
    · rw [if_neg hh] at h
      split at h
      · rename_i q
        obtain ⟨hl, hb⟩ := q
        have hlt : i < (ns.length : Int) := by omega
        split at h
        · rename_i hg
          cases h
          simp [sSeq, sIf, bE, lift, pOp, pCons, pVar, oIx, atI, ixN, oGt, oGe, oLe, oLen, sAsg, gSet, oMod, sPut, oSetL, oDiv, oAdd, oSub, oMul, oPow, T.sl, pC, S.get, S.with, tt1, D.isTy, D.flat, D.flats, sRet, eTake, outs, S.only, Rk.pk, pJoin, Tk.join, Rk.kind, eIf, eOp, aCons, tmps, kJoin, aPtr, eCall, argS, wb, ptrs, S.back, S.wr, S.d?, S.isBor, oTup, oLst, oTuple, oInt, iSq, iSeqL, iSeqT, sk_t_own_t, sk_t_own_f, sk_t_frz_t, sk_t_frz_f, sk_t_old_t, sk_t_old_f, sk_t_val_t, sk_t_val_f, sk_t_bor_t, sk_t_bor_f, sk_f_own_t, sk_f_own_f, sk_f_frz_t, sk_f_frz_f, sk_f_old_t, sk_f_old_f, sk_f_val_t, sk_f_val_f, sk_f_bor_t, sk_f_bor_f, sFor, sLoop, Tk.mix, S.clean, wipeE, oList, bNot, bAnd, bOr, eB, pIsi, D.tyn, iRange1, eMut, tts, sExpr, bAnd, bOr, hh, h0, h1, hl, hlt, hg, hi]
        · rename_i hg
          cases h
          simp [sSeq, sIf, bE, lift, pOp, pCons, pVar, oIx, atI, ixN, oGt, oGe, oLe, oLen, sAsg, gSet, oMod, sPut, oSetL, oDiv, oAdd, oSub, oMul, oPow, T.sl, pC, S.get, S.with, tt1, D.isTy, D.flat, D.flats, sRet, eTake, outs, S.only, Rk.pk, pJoin, Tk.join, Rk.kind, eIf, eOp, aCons, tmps, kJoin, aPtr, eCall, argS, wb, ptrs, S.back, S.wr, S.d?, S.isBor, oTup, oLst, oTuple, oInt, iSq, iSeqL, iSeqT, sk_t_own_t, sk_t_own_f, sk_t_frz_t, sk_t_frz_f, sk_t_old_t, sk_t_old_f, sk_t_val_t, sk_t_val_f, sk_t_bor_t, sk_t_bor_f, sk_f_own_t, sk_f_own_f, sk_f_frz_t, sk_f_frz_f, sk_f_old_t, sk_f_old_f, sk_f_val_t, sk_f_val_f, sk_f_bor_t, sk_f_bor_f, sFor, sLoop, Tk.mix, S.clean, wipeE, oList, bNot, bAnd, bOr, eB, pIsi, D.tyn, iRange1, eMut, tts, sExpr, bAnd, bOr, hh, h0, h1, hl, hlt, hg, hi]
      · rename_i q
        split at h
        · cases h
        · rename_i hl
          cases h
          simp [sSeq, sIf, bE, lift, pOp, pCons, pVar, oIx, atI, ixN, oGt, oGe, oLe, oLen, sAsg, gSet, oMod, sPut, oSetL, oDiv, oAdd, oSub, oMul, oPow, T.sl, pC, S.get, S.with, tt1, D.isTy, D.flat, D.flats, sRet, eTake, outs, S.only, Rk.pk, pJoin, Tk.join, Rk.kind, eIf, eOp, aCons, tmps, kJoin, aPtr, eCall, argS, wb, ptrs, S.back, S.wr, S.d?, S.isBor, oTup, oLst, oTuple, oInt, iSq, iSeqL, iSeqT, sk_t_own_t, sk_t_own_f, sk_t_frz_t, sk_t_frz_f, sk_t_old_t, sk_t_old_f, sk_t_val_t, sk_t_val_f, sk_t_bor_t, sk_t_bor_f, sk_f_own_t, sk_f_own_f, sk_f_frz_t, sk_f_frz_f, sk_f_old_t, sk_f_old_f, sk_f_val_t, sk_f_val_f, sk_f_bor_t, sk_f_bor_f, sFor, sLoop, Tk.mix, S.clean, wipeE, oList, bNot, bAnd, bOr, eB, pIsi, D.tyn, iRange1, eMut, tts, sExpr, bAnd, bOr, hh, h0, h1, hl]
  · cases h

theorem t__law_names {d_ : Die} {many_ : Int} {r : ((List Str) × Die)} (h : p__law_names d_ many_ = some r) : fn__law_names [.io (eDie d_), .t .old (D.int many_)] = some (((eL D.str) r.1), [.io (eDie r.2), .gone]) := by
  unfold p__law_names at h
  unfold fn__law_names
  refine fn_rt (L := [.io (eDie d_), .t .old (D.int many_), .gone, .gone, .gone, .gone]) rfl ?_
  unfold fb__law_names
  refine go_seq (env1 := [.io (eDie d_), .t .old (D.int many_), .t .own ((eL D.str) [("a" : Str), ("b" : Str), ("ab" : Str), ("or" : Str), ("ba" : Str), ("never" : Str), ("same" : Str), ("samewise" : Str)]), .gone, .gone, .gone]) (ts_asg (te_op (ta_cons (te_lift tp_c) (ta_cons (te_lift tp_c) (ta_cons (te_lift tp_c) (ta_cons (te_lift tp_c) (ta_cons (te_lift tp_c) (ta_cons (te_lift tp_c) (ta_cons (te_lift tp_c) (ta_cons (te_lift tp_c) ta_nil)))))))) rfl (o_lst_F (e := D.str) [("a" : Str), ("b" : Str), ("ab" : Str), ("or" : Str), ("ba" : Str), ("never" : Str), ("same" : Str), ("samewise" : Str)] (Nat.le_of_ble_eq_true rfl)) rfl) (tg_set rfl)) ?_
  refine go_seq (env1 := [.io (eDie d_), .t .old (D.int many_), .t .own ((eL D.str) [("a" : Str), ("b" : Str), ("ab" : Str), ("or" : Str), ("ba" : Str), ("never" : Str), ("same" : Str), ("samewise" : Str)]), .t .own ((eL D.str) ([] : (List Str))), .gone, .gone]) (ts_asg (te_lift (tp_op rfl (o_lst_0 (e := D.str)) rfl)) (tg_set rfl)) ?_
  replace h := bnd h
  obtain ⟨l1, h2, h⟩ := h
  replace h := bnd h
  obtain ⟨⟨d_45, menu_46, found_47⟩, h42, h⟩ := h
  try dsimp only at h
  refine go_forS (R := (fun (st : (Die × (List Str) × (List Str))) e => ∃ (j6 : S) (j7 : S), e = [.io (eDie st.1), .t .old (D.int many_), .t .own ((eL D.str) st.2.1), .t .own ((eL D.str) st.2.2), j6, j7])) (st := (d_, [("a" : Str), ("b" : Str), ("ab" : Str), ("or" : Str), ("ba" : Str), ("never" : Str), ("same" : Str), ("samewise" : Str)], ([] : (List Str)))) (Z := false) ⟨_, ti_range (te_lift (tv_old rfl)) h2, rfl⟩ ⟨_, _, rfl⟩ (by
      rintro x8 ⟨d_3, menu_4, found_5⟩ _ st1 ⟨j6, j7, rfl⟩ h
      unfold pl__law_names_1 at h
      try dsimp only at h
      refine ⟨_, (tg_set rfl), ?_⟩
      replace h := bnd h
      obtain ⟨⟨r9, d10⟩, h11, h⟩ := h
      try dsimp only at h
      replace h := bnd h
      obtain ⟨⟨x12, l13⟩, h14, h⟩ := h
      try dsimp only at h
      refine go_seq (env1 := [.io (eDie d10), .t .old (D.int many_), .t .own ((eL D.str) l13), .t .own ((eL D.str) found_5), .t .own (D.int x8), .t .own (D.str x12)]) (ts_asg (te_mut rfl rfl rfl (ta_cons (te_call (env2 := [.io (eDie d10), .t .old (D.int many_), .t .own ((eL D.str) menu_4), .t .own ((eL D.str) found_5), .t .own (D.int x8), j7]) (ta_ptr rfl rfl (ta_cons (te_lift (tp_op (tp_cons (tv_own rfl rfl) rfl) (o_len_l (e := D.str)) rfl)) ta_nil)) rfl rfl (t__law_next h11) rfl) ta_nil) rfl rfl rfl rfl (m_popAt (e := D.str) h14) rfl) (tg_set rfl)) ?_
      replace h := bnd h
      obtain ⟨⟨r15, d16⟩, h17, h⟩ := h
      try dsimp only at h
      replace h := bnd h
      obtain ⟨b20, h21, h⟩ := h
      replace h := bnd h
      obtain ⟨⟨v29, v30⟩, h31, h⟩ := h
      try dsimp only at h
      refine go_joinS (R := (fun e => e = [.io (eDie v29), .t .old (D.int many_), .t .own ((eL D.str) l13), .t .own ((eL D.str) found_5), .t .own (D.int x8), .t .own (D.str v30)])) (tb_and (c := b20) (env2 := [.io (eDie d16), .t .old (D.int many_), .t .own ((eL D.str) l13), .t .own ((eL D.str) found_5), .t .own (D.int x8), .t .own (D.str x12)]) (tb_e (te_op (ta_cons (te_call (env2 := [.io (eDie d16), .t .old (D.int many_), .t .own ((eL D.str) l13), .t .own ((eL D.str) found_5), .t .own (D.int x8), .t .own (D.str x12)]) (ta_ptr rfl rfl (ta_cons (te_lift tp_c) ta_nil)) rfl rfl (t__law_next h17) rfl) (ta_cons (te_lift tp_c) ta_nil)) rfl o_eq_i rfl)) (fun c1 => by have h := pitT h21 c1; replace h := bnd h; obtain ⟨n18, h19, h⟩ := h; obtain rfl := pj1 h; exact (tb_e (te_lift (tp_op (tp_cons (tp_op (tp_cons (tv_own rfl rfl) rfl) (o_len_s h19) rfl) (tp_cons tp_c rfl)) o_lt_i rfl)))) (fun c1 => by have h := pitF h21 c1; obtain rfl := pj1 h; exact ⟨rfl, rfl⟩)) (fun c1 => by
          have h := pitT h31 c1
          replace h := bnd h
          obtain ⟨⟨r22, d23⟩, h24, h⟩ := h
          try dsimp only at h
          replace h := bnd h
          obtain ⟨x25, h26, h⟩ := h
          replace h := bnd h
          obtain ⟨s27, h28, h⟩ := h
          refine go_one (env1 := [.io (eDie d23), .t .old (D.int many_), .t .own ((eL D.str) l13), .t .own ((eL D.str) found_5), .t .own (D.int x8), .t .own (D.str s27)]) (ts_asg (te_op (ta_cons (te_op (ta_cons (te_lift tp_c) (ta_cons (te_call (env2 := [.io (eDie d23), .t .old (D.int many_), .t .own ((eL D.str) l13), .t .own ((eL D.str) found_5), .t .own (D.int x8), .t .own (D.str x12)]) (ta_ptr rfl rfl (ta_cons (te_lift tp_c) ta_nil)) rfl rfl (t__law_next h24) rfl) ta_nil)) rfl (o_ix_s h26) rfl) (ta_cons (te_lift (tv_own rfl rfl)) ta_nil)) rfl (o_add_s h28) rfl) (tg_set rfl)) ?_
          cases h; exact ⟨_, rfl, rfl⟩) (fun c1 => by
          have h := pitF h31 c1
          refine go_skip ?_
          cases h; exact ⟨_, rfl, rfl⟩) ?_
      rintro _ rfl
      replace h := bnd h
      obtain ⟨v36, h37, h⟩ := h
      refine go_joinS (R := (fun e => e = [.io (eDie v29), .t .old (D.int many_), .t .own ((eL D.str) l13), .t .own ((eL D.str) found_5), .t .own (D.int x8), .t .own (D.str v36)])) (tb_e (te_lift (tp_op (tp_cons (tv_own rfl rfl) (tp_cons (tv_own rfl rfl) rfl)) (o_in_l (e := D.str)) rfl))) (fun c1 => by
          have h := pitT h37 c1
          replace h := bnd h
          obtain ⟨s34, h35, h⟩ := h
          refine go_one (env1 := [.io (eDie v29), .t .old (D.int many_), .t .own ((eL D.str) l13), .t .own ((eL D.str) found_5), .t .own (D.int x8), .t .own (D.str s34)]) (ts_asg (te_lift (tp_op (tp_cons (tv_own rfl rfl) (tp_cons tp_c rfl)) (o_add_s h35) rfl)) (tg_set rfl)) ?_
          cases h; exact ⟨_, rfl, rfl⟩) (fun c1 => by
          have h := pitF h37 c1
          refine go_skip ?_
          cases h; exact ⟨_, rfl, rfl⟩) ?_
      rintro _ rfl
      replace h := bnd h
      obtain ⟨l40, h41, h⟩ := h
      refine go_one (env1 := [.io (eDie v29), .t .old (D.int many_), .t .own ((eL D.str) l13), .t .own ((eL D.str) l40), .t .own (D.int x8), .t .own (D.str v36)]) (ts_expr (te_mut rfl rfl rfl (ta_cons (te_lift (tv_own rfl rfl)) ta_nil) rfl (tts_flat1 (FlatE.out (e := D.str) _)) rfl rfl (m_app (e := D.str) h41) rfl)) ?_
      obtain rfl := pj1 h
      exact ⟨_, .inl rfl, _, _, rfl⟩) h42 ?_
  rintro _ ⟨j48, j49, rfl⟩
  obtain rfl := pj1 h
  exact go_ret (ts_ret (te_take rfl)) (ro_k rfl rfl)
theorem t__law_strip {d_ : Die} {names_ : (List Str)} {most_ : Int} {r : ((List (List Str)) × Die)} (h : p__law_strip d_ names_ most_ = some r) : fn__law_strip [.io (eDie d_), .t .old ((eL D.str) names_), .t .old (D.int most_)] = some (((eL (eT D.str)) r.1), [.io (eDie r.2), .gone, .gone]) := by
  unfold p__law_strip at h
  unfold fn__law_strip
  refine fn_rt (L := [.io (eDie d_), .t .old ((eL D.str) names_), .t .old (D.int most_), .gone, .gone, .gone, .gone, .gone, .gone, .gone]) rfl ?_
  unfold fb__law_strip
  replace h := bnd h
  obtain ⟨⟨r1, d2⟩, h3, h⟩ := h
  try dsimp only at h
  refine go_seq (env1 := [.io (eDie d2), .t .old ((eL D.str) names_), .t .old (D.int most_), .t .own (D.int r1), .gone, .gone, .gone, .gone, .gone, .gone]) (ts_asg (te_call (env2 := [.io (eDie d2), .t .old ((eL D.str) names_), .t .old (D.int most_), .gone, .gone, .gone, .gone, .gone, .gone, .gone]) (ta_ptr rfl rfl (ta_cons (te_lift tp_c) ta_nil)) rfl rfl (t__law_next h3) rfl) (tg_set rfl)) ?_
  replace h := bnd h
  obtain ⟨⟨r4, d5⟩, h6, h⟩ := h
  try dsimp only at h
  refine go_seq (env1 := [.io (eDie d5), .t .old ((eL D.str) names_), .t .old (D.int most_), .t .own (D.int r1), .t .own (D.int r4), .gone, .gone, .gone, .gone, .gone]) (ts_asg (te_call (env2 := [.io (eDie d5), .t .old ((eL D.str) names_), .t .old (D.int most_), .t .own (D.int r1), .gone, .gone, .gone, .gone, .gone, .gone]) (ta_ptr rfl rfl (ta_cons (te_lift (tp_op (tp_cons (tp_op (tp_cons (tv_old rfl) rfl) (o_len_l (e := D.str)) rfl) (tp_cons tp_c rfl)) o_add_i rfl)) ta_nil)) rfl rfl (t__law_next h6) rfl) (tg_set rfl)) ?_
  refine go_seq (env1 := [.io (eDie d5), .t .old ((eL D.str) names_), .t .old (D.int most_), .t .own (D.int r1), .t .own (D.int r4), .t .own ((eL (eT D.str)) ([] : (List (List Str)))), .gone, .gone, .gone, .gone]) (ts_asg (te_lift (tp_op rfl (o_lst_0 (e := (eT D.str))) rfl)) (tg_set rfl)) ?_
  replace h := bnd h
  obtain ⟨⟨r7, d8⟩, h9, h⟩ := h
  try dsimp only at h
  replace h := bnd h
  obtain ⟨l10, h11, h⟩ := h
  replace h := bnd h
  obtain ⟨⟨d_66, found_67⟩, h63, h⟩ := h
  try dsimp only at h
  refine go_forS (R := (fun (st : (Die × (List (List Str)))) e => ∃ (j14 : S) (j15 : S) (j16 : S) (j17 : S), e = [.io (eDie st.1), .t .old ((eL D.str) names_), .t .old (D.int most_), .t .own (D.int r1), .t .own (D.int r4), .t .own ((eL (eT D.str)) st.2), j14, j15, j16, j17])) (st := (d8, ([] : (List (List Str))))) (Z := false) ⟨_, ti_range (te_op (ta_cons (te_lift tp_c) (ta_cons (te_call (env2 := [.io (eDie d8), .t .old ((eL D.str) names_), .t .old (D.int most_), .t .own (D.int r1), .t .own (D.int r4), .t .own ((eL (eT D.str)) ([] : (List (List Str)))), .gone, .gone, .gone, .gone]) (ta_ptr rfl rfl (ta_cons (te_lift (tv_old rfl)) ta_nil)) rfl rfl (t__law_next h9) rfl) ta_nil)) rfl o_add_i rfl) h11, rfl⟩ ⟨_, _, _, _, rfl⟩ (by
      rintro x18 ⟨d_12, found_13⟩ _ st1 ⟨j14, j15, j16, j17, rfl⟩ h
      unfold pl__law_strip_2 at h
      try dsimp only at h
      refine ⟨_, (tg_set rfl), ?_⟩
      replace h := bnd h
      obtain ⟨⟨r19, d20⟩, h21, h⟩ := h
      try dsimp only at h
      refine go_seq (env1 := [.io (eDie d20), .t .old ((eL D.str) names_), .t .old (D.int most_), .t .own (D.int r1), .t .own (D.int r4), .t .own ((eL (eT D.str)) found_13), .t .own (D.int x18), .t .own (D.int ((r4 - 1) + r19)), j16, j17]) (ts_asg (te_op (ta_cons (te_lift (tp_op (tp_cons (tv_own rfl rfl) (tp_cons tp_c rfl)) o_sub_i rfl)) (ta_cons (te_call (env2 := [.io (eDie d20), .t .old ((eL D.str) names_), .t .old (D.int most_), .t .own (D.int r1), .t .own (D.int r4), .t .own ((eL (eT D.str)) found_13), .t .own (D.int x18), j15, j16, j17]) (ta_ptr rfl rfl (ta_cons (te_lift tp_c) ta_nil)) rfl rfl (t__law_next h21) rfl) ta_nil)) rfl o_add_i rfl) (tg_set rfl)) ?_
      refine go_seq (env1 := [.io (eDie d20), .t .old ((eL D.str) names_), .t .old (D.int most_), .t .own (D.int r1), .t .own (D.int r4), .t .own ((eL (eT D.str)) found_13), .t .own (D.int x18), .t .own (D.int ((r4 - 1) + r19)), .t .own ((eL D.str) ([] : (List Str))), j17]) (ts_asg (te_lift (tp_op rfl (o_lst_0 (e := D.str)) rfl)) (tg_set rfl)) ?_
      replace h := bnd h
      obtain ⟨l22, h23, h⟩ := h
      replace h := bnd h
      obtain ⟨⟨d_56, plot_57⟩, h53, h⟩ := h
      try dsimp only at h
      refine go_forS (R := (fun (st : (Die × (List Str))) e => ∃ (j26 : S), e = [.io (eDie st.1), .t .old ((eL D.str) names_), .t .old (D.int most_), .t .own (D.int r1), .t .own (D.int r4), .t .own ((eL (eT D.str)) found_13), .t .own (D.int x18), .t .own (D.int ((r4 - 1) + r19)), .t .own ((eL D.str) st.2), j26])) (st := (d20, ([] : (List Str)))) (Z := false) ⟨_, ti_range (te_lift (tp_op (tp_cons (tv_old rfl) rfl) (o_len_l (e := D.str)) rfl)) h23, rfl⟩ ⟨_, rfl⟩ (by
          rintro x27 ⟨d_24, plot_25⟩ _ st1 ⟨j26, rfl⟩ h
          unfold pl__law_strip_1 at h
          try dsimp only at h
          refine ⟨_, (tg_set rfl), ?_⟩
          replace h := bnd h
          obtain ⟨⟨b31, d32⟩, h33, h⟩ := h
          try dsimp only at h
          replace h := bnd h
          obtain ⟨⟨b46, d47⟩, h48, h⟩ := h
          try dsimp only at h
          replace h := pit h
          obtain ⟨c1, h⟩ | ⟨c1, h⟩ := h
          · refine go_ifT (tb_val (tb_or (c := b46) (env2 := [.io (eDie d47), .t .old ((eL D.str) names_), .t .old (D.int most_), .t .own (D.int r1), .t .own (D.int r4), .t .own ((eL (eT D.str)) found_13), .t .own (D.int x18), .t .own (D.int ((r4 - 1) + r19)), .t .own ((eL D.str) plot_25), .t .own (D.int x27)]) (tb_and (c := b31) (env2 := [.io (eDie d32), .t .old ((eL D.str) names_), .t .old (D.int most_), .t .own (D.int r1), .t .own (D.int r4), .t .own ((eL (eT D.str)) found_13), .t .own (D.int x18), .t .own (D.int ((r4 - 1) + r19)), .t .own ((eL D.str) plot_25), .t .own (D.int x27)]) (tb_e (te_lift (tp_op (tp_cons (tv_own rfl rfl) (tp_cons tp_c rfl)) o_eq_i rfl))) (fun c1 => by have h := pitT h33 c1; replace h := bnd h; obtain ⟨⟨r28, d29⟩, h30, h⟩ := h; try dsimp only at h; obtain ⟨rfl, rfl⟩ := pj2 h; exact (tb_e (te_op (ta_cons (te_call (env2 := [.io (eDie d29), .t .old ((eL D.str) names_), .t .old (D.int most_), .t .own (D.int r1), .t .own (D.int r4), .t .own ((eL (eT D.str)) found_13), .t .own (D.int x18), .t .own (D.int ((r4 - 1) + r19)), .t .own ((eL D.str) plot_25), .t .own (D.int x27)]) (ta_ptr rfl rfl (ta_cons (te_lift tp_c) ta_nil)) rfl rfl (t__law_next h30) rfl) (ta_cons (te_lift tp_c) ta_nil)) rfl o_eq_i rfl))) (fun c1 => by have h := pitF h33 c1; obtain ⟨rfl, rfl⟩ := pj2 h; exact ⟨rfl, rfl⟩)) (fun c1 => by have h := pitF h48 c1; replace h := bnd h; obtain ⟨⟨b43, d44⟩, h45, h⟩ := h; try dsimp only at h; obtain ⟨rfl, rfl⟩ := pj2 h; exact (tb_and (c := b43) (env2 := [.io (eDie d44), .t .old ((eL D.str) names_), .t .old (D.int most_), .t .own (D.int r1), .t .own (D.int r4), .t .own ((eL (eT D.str)) found_13), .t .own (D.int x18), .t .own (D.int ((r4 - 1) + r19)), .t .own ((eL D.str) plot_25), .t .own (D.int x27)]) (tb_e (te_lift (tp_op (tp_cons (tv_own rfl rfl) (tp_cons tp_c rfl)) o_gt_i rfl))) (fun c1 => by have h := pitT h45 c1; replace h := bnd h; obtain ⟨⟨b40, d41⟩, h42, h⟩ := h; try dsimp only at h; obtain ⟨rfl, rfl⟩ := pj2 h; exact (tb_and (c := b40) (env2 := [.io (eDie d41), .t .old ((eL D.str) names_), .t .old (D.int most_), .t .own (D.int r1), .t .own (D.int r4), .t .own ((eL (eT D.str)) found_13), .t .own (D.int x18), .t .own (D.int ((r4 - 1) + r19)), .t .own ((eL D.str) plot_25), .t .own (D.int x27)]) (tb_e (te_lift (tp_op (tp_cons (tv_own rfl rfl) (tp_cons (tv_own rfl rfl) rfl)) o_ge_i rfl))) (fun c1 => by have h := pitT h42 c1; replace h := bnd h; obtain ⟨⟨b37, d38⟩, h39, h⟩ := h; try dsimp only at h; obtain ⟨rfl, rfl⟩ := pj2 h; exact (tb_or (c := b37) (env2 := [.io (eDie d38), .t .old ((eL D.str) names_), .t .old (D.int most_), .t .own (D.int r1), .t .own (D.int r4), .t .own ((eL (eT D.str)) found_13), .t .own (D.int x18), .t .own (D.int ((r4 - 1) + r19)), .t .own ((eL D.str) plot_25), .t .own (D.int x27)]) (tb_e (te_lift (tp_op (tp_cons (tv_own rfl rfl) (tp_cons tp_c rfl)) o_eq_i rfl))) (fun c1 => by have h := pitF h39 c1; replace h := bnd h; obtain ⟨⟨r34, d35⟩, h36, h⟩ := h; try dsimp only at h; obtain ⟨rfl, rfl⟩ := pj2 h; exact (tb_e (te_op (ta_cons (te_call (env2 := [.io (eDie d35), .t .old ((eL D.str) names_), .t .old (D.int most_), .t .own (D.int r1), .t .own (D.int r4), .t .own ((eL (eT D.str)) found_13), .t .own (D.int x18), .t .own (D.int ((r4 - 1) + r19)), .t .own ((eL D.str) plot_25), .t .own (D.int x27)]) (ta_ptr rfl rfl (ta_cons (te_lift tp_c) ta_nil)) rfl rfl (t__law_next h36) rfl) (ta_cons (te_lift tp_c) ta_nil)) rfl o_lt_i rfl))) (fun c1 => by have h := pitT h39 c1; obtain ⟨rfl, rfl⟩ := pj2 h; exact ⟨rfl, rfl⟩))) (fun c1 => by have h := pitF h42 c1; obtain ⟨rfl, rfl⟩ := pj2 h; exact ⟨rfl, rfl⟩))) (fun c1 => by have h := pitF h45 c1; obtain ⟨rfl, rfl⟩ := pj2 h; exact ⟨rfl, rfl⟩))) (fun c1 => by have h := pitT h48 c1; obtain ⟨rfl, rfl⟩ := pj2 h; exact ⟨rfl, rfl⟩)) c1) ?_
            replace h := bnd h
            obtain ⟨x49, h50, h⟩ := h
            replace h := bnd h
            obtain ⟨l51, h52, h⟩ := h
            refine go_one (env1 := [.io (eDie d47), .t .old ((eL D.str) names_), .t .old (D.int most_), .t .own (D.int r1), .t .own (D.int r4), .t .own ((eL (eT D.str)) found_13), .t .own (D.int x18), .t .own (D.int ((r4 - 1) + r19)), .t .own ((eL D.str) l51), .t .own (D.int x27)]) (ts_expr (te_mut rfl rfl rfl (ta_cons (te_lift (tp_op (tp_cons (tv_old rfl) (tp_cons (tv_own rfl rfl) rfl)) (o_ix_lF (e := D.str) h50) rfl)) ta_nil) rfl rfl rfl rfl (m_app (e := D.str) h52) rfl)) ?_
            obtain rfl := pj1 h
            exact ⟨_, .inl rfl, _, rfl⟩
          refine go_ifF (tb_val (tb_or (c := b46) (env2 := [.io (eDie d47), .t .old ((eL D.str) names_), .t .old (D.int most_), .t .own (D.int r1), .t .own (D.int r4), .t .own ((eL (eT D.str)) found_13), .t .own (D.int x18), .t .own (D.int ((r4 - 1) + r19)), .t .own ((eL D.str) plot_25), .t .own (D.int x27)]) (tb_and (c := b31) (env2 := [.io (eDie d32), .t .old ((eL D.str) names_), .t .old (D.int most_), .t .own (D.int r1), .t .own (D.int r4), .t .own ((eL (eT D.str)) found_13), .t .own (D.int x18), .t .own (D.int ((r4 - 1) + r19)), .t .own ((eL D.str) plot_25), .t .own (D.int x27)]) (tb_e (te_lift (tp_op (tp_cons (tv_own rfl rfl) (tp_cons tp_c rfl)) o_eq_i rfl))) (fun c1 => by have h := pitT h33 c1; replace h := bnd h; obtain ⟨⟨r28, d29⟩, h30, h⟩ := h; try dsimp only at h; obtain ⟨rfl, rfl⟩ := pj2 h; exact (tb_e (te_op (ta_cons (te_call (env2 := [.io (eDie d29), .t .old ((eL D.str) names_), .t .old (D.int most_), .t .own (D.int r1), .t .own (D.int r4), .t .own ((eL (eT D.str)) found_13), .t .own (D.int x18), .t .own (D.int ((r4 - 1) + r19)), .t .own ((eL D.str) plot_25), .t .own (D.int x27)]) (ta_ptr rfl rfl (ta_cons (te_lift tp_c) ta_nil)) rfl rfl (t__law_next h30) rfl) (ta_cons (te_lift tp_c) ta_nil)) rfl o_eq_i rfl))) (fun c1 => by have h := pitF h33 c1; obtain ⟨rfl, rfl⟩ := pj2 h; exact ⟨rfl, rfl⟩)) (fun c1 => by have h := pitF h48 c1; replace h := bnd h; obtain ⟨⟨b43, d44⟩, h45, h⟩ := h; try dsimp only at h; obtain ⟨rfl, rfl⟩ := pj2 h; exact (tb_and (c := b43) (env2 := [.io (eDie d44), .t .old ((eL D.str) names_), .t .old (D.int most_), .t .own (D.int r1), .t .own (D.int r4), .t .own ((eL (eT D.str)) found_13), .t .own (D.int x18), .t .own (D.int ((r4 - 1) + r19)), .t .own ((eL D.str) plot_25), .t .own (D.int x27)]) (tb_e (te_lift (tp_op (tp_cons (tv_own rfl rfl) (tp_cons tp_c rfl)) o_gt_i rfl))) (fun c1 => by have h := pitT h45 c1; replace h := bnd h; obtain ⟨⟨b40, d41⟩, h42, h⟩ := h; try dsimp only at h; obtain ⟨rfl, rfl⟩ := pj2 h; exact (tb_and (c := b40) (env2 := [.io (eDie d41), .t .old ((eL D.str) names_), .t .old (D.int most_), .t .own (D.int r1), .t .own (D.int r4), .t .own ((eL (eT D.str)) found_13), .t .own (D.int x18), .t .own (D.int ((r4 - 1) + r19)), .t .own ((eL D.str) plot_25), .t .own (D.int x27)]) (tb_e (te_lift (tp_op (tp_cons (tv_own rfl rfl) (tp_cons (tv_own rfl rfl) rfl)) o_ge_i rfl))) (fun c1 => by have h := pitT h42 c1; replace h := bnd h; obtain ⟨⟨b37, d38⟩, h39, h⟩ := h; try dsimp only at h; obtain ⟨rfl, rfl⟩ := pj2 h; exact (tb_or (c := b37) (env2 := [.io (eDie d38), .t .old ((eL D.str) names_), .t .old (D.int most_), .t .own (D.int r1), .t .own (D.int r4), .t .own ((eL (eT D.str)) found_13), .t .own (D.int x18), .t .own (D.int ((r4 - 1) + r19)), .t .own ((eL D.str) plot_25), .t .own (D.int x27)]) (tb_e (te_lift (tp_op (tp_cons (tv_own rfl rfl) (tp_cons tp_c rfl)) o_eq_i rfl))) (fun c1 => by have h := pitF h39 c1; replace h := bnd h; obtain ⟨⟨r34, d35⟩, h36, h⟩ := h; try dsimp only at h; obtain ⟨rfl, rfl⟩ := pj2 h; exact (tb_e (te_op (ta_cons (te_call (env2 := [.io (eDie d35), .t .old ((eL D.str) names_), .t .old (D.int most_), .t .own (D.int r1), .t .own (D.int r4), .t .own ((eL (eT D.str)) found_13), .t .own (D.int x18), .t .own (D.int ((r4 - 1) + r19)), .t .own ((eL D.str) plot_25), .t .own (D.int x27)]) (ta_ptr rfl rfl (ta_cons (te_lift tp_c) ta_nil)) rfl rfl (t__law_next h36) rfl) (ta_cons (te_lift tp_c) ta_nil)) rfl o_lt_i rfl))) (fun c1 => by have h := pitT h39 c1; obtain ⟨rfl, rfl⟩ := pj2 h; exact ⟨rfl, rfl⟩))) (fun c1 => by have h := pitF h42 c1; obtain ⟨rfl, rfl⟩ := pj2 h; exact ⟨rfl, rfl⟩))) (fun c1 => by have h := pitF h45 c1; obtain ⟨rfl, rfl⟩ := pj2 h; exact ⟨rfl, rfl⟩))) (fun c1 => by have h := pitT h48 c1; obtain ⟨rfl, rfl⟩ := pj2 h; exact ⟨rfl, rfl⟩)) c1) ?_
          refine go_skip ?_
          obtain rfl := pj1 h
          exact ⟨_, .inl rfl, _, rfl⟩) h53 ?_
      rintro _ ⟨j58, rfl⟩
      replace h := bnd h
      obtain ⟨l59, h60, h⟩ := h
      replace h := bnd h
      obtain ⟨l61, h62, h⟩ := h
      refine go_one (env1 := [.io (eDie d_56), .t .old ((eL D.str) names_), .t .old (D.int most_), .t .own (D.int r1), .t .own (D.int r4), .t .own ((eL (eT D.str)) l61), .t .own (D.int x18), .t .own (D.int ((r4 - 1) + r19)), .t .own ((eL D.str) plot_57), j58]) (ts_expr (te_mut rfl rfl rfl (ta_cons (te_lift (tp_op (tp_cons (tp_op (tp_cons (tv_own rfl rfl) rfl) (o_sort_l h60) rfl) rfl) (o_tuple_lF (e := D.str)) rfl)) ta_nil) rfl rfl rfl rfl (m_app (e := (eT D.str)) h62) rfl)) ?_
      obtain rfl := pj1 h
      exact ⟨_, .inl rfl, _, _, _, _, rfl⟩) h63 ?_
  rintro _ ⟨j68, j69, j70, j71, rfl⟩
  obtain rfl := pj1 h
  exact go_ret (ts_ret (te_take rfl)) (ro_k rfl rfl)
theorem t__law_drawing {d_ : Die} {names_ : (List Str)} {most_ : Int} {r : ((List (List (List Str))) × Die)} (h : p__law_drawing d_ names_ most_ = some r) : fn__law_drawing [.io (eDie d_), .t .old ((eL D.str) names_), .t .old (D.int most_)] = some (((eL (eL (eT D.str))) r.1), [.io (eDie r.2), .gone, .gone]) := by
  unfold p__law_drawing at h
  unfold fn__law_drawing
  refine fn_rt (L := [.io (eDie d_), .t .old ((eL D.str) names_), .t .old (D.int most_), .gone, .gone, .gone, .gone, .gone, .gone]) rfl ?_
  unfold fb__law_drawing
  replace h := bnd h
  obtain ⟨⟨r1, d2⟩, h3, h⟩ := h
  try dsimp only at h
  replace h := bnd h
  obtain ⟨l4, h5, h⟩ := h
  replace h := bnd h
  obtain ⟨⟨l24, d25⟩, h26, h⟩ := h
  try dsimp only at h
  refine go_seq (env1 := [.io (eDie d25), .t .old ((eL D.str) names_), .t .old (D.int most_), .t .own ((eL (eL (eT D.str))) l24), .gone, .gone, .gone, .gone, .gone]) (ts_asg (te_compE (eb := (eL (eT D.str))) (st := d2) (E := fun st => [.io (eDie st), .t .old ((eL D.str) names_), .t .old (D.int most_), .gone, .gone, .gone, .gone, .gone, .gone]) ⟨_, ti_range (te_call (env2 := [.io (eDie d2), .t .old ((eL D.str) names_), .t .old (D.int most_), .gone, .gone, .gone, .gone, .gone, .gone]) (ta_ptr rfl rfl (ta_cons (te_lift (tp_op (tp_cons (tv_old rfl) (tp_cons tp_c rfl)) o_add_i rfl)) ta_nil)) rfl rfl (t__law_next h3) rfl) h5, rfl⟩ rfl (fun x6 d15 o h => by
            unfold pc__law_drawing_1 at h
            try dsimp only at h
            replace h := bnd h
            obtain ⟨⟨r16, d17⟩, h18, h⟩ := h
            try dsimp only at h
            replace h := bnd h
            obtain ⟨x19, h20, h⟩ := h
            replace h := bnd h
            obtain ⟨⟨r21, d22⟩, h23, h⟩ := h
            try dsimp only at h
            obtain rfl := pj1 h
            exact ⟨_, _, _, (tg_set rfl), tb_yes, .inr ⟨rfl, _, _, (te_call (env2 := [.io (eDie d22), .t .old ((eL D.str) names_), .t .old (D.int most_), .gone, .t .own (D.int x6), .gone, .gone, .gone, .gone]) (ta_ptr rfl rfl (ta_cons (te_lift (tv_old rfl)) (ta_cons (te_op (ta_cons (te_lift (tp_op (tp_cons tp_c (tp_cons tp_c (tp_cons tp_c (tp_cons tp_c rfl)))) (o_lst_F (e := D.int) [3, 3, 3, 8] (Nat.le_of_ble_eq_true rfl)) rfl)) (ta_cons (te_call (env2 := [.io (eDie d17), .t .old ((eL D.str) names_), .t .old (D.int most_), .gone, .t .own (D.int x6), .gone, .gone, .gone, .gone]) (ta_ptr rfl rfl (ta_cons (te_lift tp_c) ta_nil)) rfl rfl (t__law_next h18) rfl) ta_nil)) rfl (o_ix_lF (e := D.int) h20) rfl) ta_nil))) rfl rfl (t__law_strip h23) rfl), rfl, rfl, rfl⟩⟩) h26 rfl) (tg_set rfl)) ?_
  refine go_seq (env1 := [.io (eDie d25), .t .old ((eL D.str) names_), .t .old (D.int most_), .t .own ((eL (eL (eT D.str))) l24), .gone, .t .own ((eL D.str) ([] : (List Str))), .gone, .gone, .gone]) (ts_asg (te_lift (tp_op rfl (o_lst_0 (e := D.str)) rfl)) (tg_set rfl)) ?_
  refine go_frz (env1 := [.io (eDie d25), .t .old ((eL D.str) names_), .t .old (D.int most_), .t .frz ((eL (eL (eT D.str))) l24), .gone, .t .own ((eL D.str) ([] : (List Str))), .gone, .gone, .gone]) rfl ?_
  replace h := bnd h
  obtain ⟨there_46, h43, h⟩ := h
  refine go_forS (R := (fun (st : (List Str)) e => ∃ (j30 : S) (j31 : S), e = [.io (eDie d25), .t .old ((eL D.str) names_), .t .old (D.int most_), .t .frz ((eL (eL (eT D.str))) l24), .gone, .t .own ((eL D.str) st), j30, j31, .gone])) (st := ([] : (List Str))) (Z := false) (ti_lNZ (e := (eL (eT D.str))) (te_lift (tv_frz rfl)) rfl) ⟨_, _, rfl⟩ (by
      rintro x32 there_29 _ st1 ⟨j30, j31, rfl⟩ h
      unfold pl__law_drawing_3 at h
      try dsimp only at h
      refine ⟨_, (tg_set rfl), ?_⟩
      replace h := bnd h
      obtain ⟨there_41, h38, h⟩ := h
      refine go_for (R := (fun (st : (List Str)) e => ∃ (j34 : S), e = [.io (eDie d25), .t .old ((eL D.str) names_), .t .old (D.int most_), .t .frz ((eL (eL (eT D.str))) l24), .gone, .t .own ((eL D.str) st), .t .frz ((eL (eT D.str)) x32), j34, .gone])) (st := there_29) (Z := false) ⟨_, ti_lF (e := (eT D.str)) (te_lift (tv_frz rfl)) rfl, rfl⟩ ⟨_, rfl⟩ (by
          rintro x35 there_33 _ st1 ⟨j34, rfl⟩ h
          unfold pl__law_drawing_2 at h
          try dsimp only at h
          refine ⟨_, (tg_set rfl), ?_⟩
          replace h := bnd h
          obtain ⟨l36, h37, h⟩ := h
          refine go_one (env1 := [.io (eDie d25), .t .old ((eL D.str) names_), .t .old (D.int most_), .t .frz ((eL (eL (eT D.str))) l24), .gone, .t .own ((eL D.str) l36), .t .frz ((eL (eT D.str)) x32), .t .own ((eT D.str) x35), .gone]) (ts_asg (te_lift (tp_op (tp_cons (tv_own rfl rfl) (tp_cons (tp_op (tp_cons (tv_own rfl rfl) rfl) (o_list_tF (e := D.str)) rfl) rfl)) (o_add_lF h37) rfl)) (tg_set rfl)) ?_
          obtain rfl := pj1 h
          exact ⟨_, .inl rfl, _, rfl⟩) h38 ?_
      rintro _ ⟨j42, rfl⟩
      obtain rfl := pj1 h
      exact ⟨_, .inl rfl, _, _, rfl⟩) h43 ?_
  rintro _ ⟨j47, j48, rfl⟩
  refine go_own (env1 := [.io (eDie d25), .t .old ((eL D.str) names_), .t .old (D.int most_), .t .own ((eL (eL (eT D.str))) l24), .gone, .t .own ((eL D.str) there_46), (S.lone j47), (S.lone j48), .gone]) (by simp [ownE, S.lone, D.flat, lone_F, eL, eDie]) ?_
  replace h := bnd h
  obtain ⟨found_57, h54, h⟩ := h
  refine go_forS (R := (fun (st : (List (List (List Str)))) e => ∃ (j50 : S), e = [.io (eDie d25), .t .old ((eL D.str) names_), .t .old (D.int most_), .t .own ((eL (eL (eT D.str))) st), .gone, .t .own ((eL D.str) there_46), (S.lone j47), (S.lone j48), j50])) (st := l24) (Z := false) ⟨_, ti_lF (e := D.str) (te_lift (tv_old rfl)) rfl, rfl⟩ ⟨_, rfl⟩ (by
      rintro x51 found_49 _ st1 ⟨j50, rfl⟩ h
      unfold pl__law_drawing_4 at h
      try dsimp only at h
      refine ⟨_, (tg_set rfl), ?_⟩
      replace h := pit h
      obtain ⟨c1, h⟩ | ⟨c1, h⟩ := h
      · refine go_ifT (tb_val (tb_e (te_lift (tp_op (tp_cons (tv_own rfl rfl) (tp_cons (tv_own rfl rfl) rfl)) (o_ni_l (e := D.str)) rfl))) c1) ?_
        replace h := bnd h
        obtain ⟨l52, h53, h⟩ := h
        refine go_one (env1 := [.io (eDie d25), .t .old ((eL D.str) names_), .t .old (D.int most_), .t .own ((eL (eL (eT D.str))) l52), .gone, .t .own ((eL D.str) there_46), (S.lone j47), (S.lone j48), .t .own (D.str x51)]) (ts_expr (te_mut rfl rfl rfl (ta_cons (te_op (ta_cons (te_op (ta_cons (te_lift (tv_own rfl rfl)) ta_nil) rfl (o_tup_F (e := D.str) [x51] (Nat.le_of_ble_eq_true rfl)) rfl) ta_nil) rfl (o_lst_F (e := (eT D.str)) [[x51]] (Nat.le_of_ble_eq_true rfl)) rfl) ta_nil) rfl rfl rfl rfl (m_app (e := (eL (eT D.str))) h53) rfl)) ?_
        obtain rfl := pj1 h
        exact ⟨_, .inl rfl, _, rfl⟩
      refine go_ifF (tb_val (tb_e (te_lift (tp_op (tp_cons (tv_own rfl rfl) (tp_cons (tv_own rfl rfl) rfl)) (o_ni_l (e := D.str)) rfl))) c1) ?_
      refine go_skip ?_
      obtain rfl := pj1 h
      exact ⟨_, .inl rfl, _, rfl⟩) h54 ?_
  rintro _ ⟨j58, rfl⟩
  obtain rfl := pj1 h
  exact go_ret (ts_ret (te_take rfl)) (ro_k rfl rfl)
theorem t__law_places {drawing_ : (List (List (List Str)))} {name_ : Str} {r : (List (Int × Int))} (h : p__law_places drawing_ name_ = some r) : fn__law_places [.t .old ((eL (eL (eT D.str))) drawing_), .t .old (D.str name_)] = some (((eL (eP2 D.int D.int)) r), [.gone, .gone]) := by
  unfold p__law_places at h
  unfold fn__law_places
  refine fn_rt (L := [.t .old ((eL (eL (eT D.str))) drawing_), .t .old (D.str name_), .gone, .gone, .gone]) rfl ?_
  unfold fb__law_places
  refine go_seq (env1 := [.t .old ((eL (eL (eT D.str))) drawing_), .t .old (D.str name_), .t .own ((eL (eP2 D.int D.int)) ([] : (List (Int × Int)))), .gone, .gone]) (ts_asg (te_lift (tp_op rfl (o_lst_0 (e := (eP2 D.int D.int))) rfl)) (tg_set rfl)) ?_
  replace h := bnd h
  obtain ⟨l1, h2, h⟩ := h
  replace h := bnd h
  obtain ⟨found_28, h25, h⟩ := h
  refine go_forS (R := (fun (st : (List (Int × Int))) e => ∃ (j4 : S) (j5 : S), e = [.t .old ((eL (eL (eT D.str))) drawing_), .t .old (D.str name_), .t .own ((eL (eP2 D.int D.int)) st), j4, j5])) (st := ([] : (List (Int × Int)))) (Z := false) ⟨_, ti_range (te_lift (tp_op (tp_cons (tv_old rfl) rfl) (o_len_l (e := (eL (eT D.str)))) rfl)) h2, rfl⟩ ⟨_, _, rfl⟩ (by
      rintro x6 found_3 _ st1 ⟨j4, j5, rfl⟩ h
      unfold pl__law_places_2 at h
      try dsimp only at h
      refine ⟨_, (tg_set rfl), ?_⟩
      replace h := bnd h
      obtain ⟨x7, h8, h⟩ := h
      replace h := bnd h
      obtain ⟨l9, h10, h⟩ := h
      replace h := bnd h
      obtain ⟨found_23, h20, h⟩ := h
      refine go_for (R := (fun (st : (List (Int × Int))) e => ∃ (j12 : S), e = [.t .old ((eL (eL (eT D.str))) drawing_), .t .old (D.str name_), .t .own ((eL (eP2 D.int D.int)) st), .t .own (D.int x6), j12])) (st := found_3) (Z := false) ⟨_, ti_range (te_lift (tp_op (tp_cons (tp_op (tp_cons (tv_old rfl) (tp_cons (tv_own rfl rfl) rfl)) (o_ix_lN (e := (eL (eT D.str))) h8) rfl) rfl) (o_len_l (e := (eT D.str))) rfl)) h10, rfl⟩ ⟨_, rfl⟩ (by
          rintro x13 found_11 _ st1 ⟨j12, rfl⟩ h
          unfold pl__law_places_1 at h
          try dsimp only at h
          refine ⟨_, (tg_set rfl), ?_⟩
          replace h := bnd h
          obtain ⟨x14, h15, h⟩ := h
          replace h := bnd h
          obtain ⟨x16, h17, h⟩ := h
          replace h := pit h
          obtain ⟨c1, h⟩ | ⟨c1, h⟩ := h
          · refine go_ifT (tb_val (tb_e (te_lift (tp_op (tp_cons (tv_old rfl) (tp_cons (tp_op (tp_cons (tp_op (tp_cons (tv_old rfl) (tp_cons (tv_own rfl rfl) rfl)) (o_ix_lN (e := (eL (eT D.str))) h15) rfl) (tp_cons (tv_own rfl rfl) rfl)) (o_ix_lF (e := (eT D.str)) h17) rfl) rfl)) (o_in_t (e := D.str)) rfl))) c1) ?_
            replace h := bnd h
            obtain ⟨l18, h19, h⟩ := h
            refine go_one (env1 := [.t .old ((eL (eL (eT D.str))) drawing_), .t .old (D.str name_), .t .own ((eL (eP2 D.int D.int)) l18), .t .own (D.int x6), .t .own (D.int x13)]) (ts_expr (te_mut rfl rfl rfl (ta_cons (te_op (ta_cons (te_lift (tv_own rfl rfl)) (ta_cons (te_lift (tv_own rfl rfl)) ta_nil)) rfl (o_tup_2 (e := D.int) (e2 := D.int)) rfl) ta_nil) rfl rfl rfl rfl (m_app (e := (eP2 D.int D.int)) h19) rfl)) ?_
            obtain rfl := pj1 h
            exact ⟨_, .inl rfl, _, rfl⟩
          refine go_ifF (tb_val (tb_e (te_lift (tp_op (tp_cons (tv_old rfl) (tp_cons (tp_op (tp_cons (tp_op (tp_cons (tv_old rfl) (tp_cons (tv_own rfl rfl) rfl)) (o_ix_lN (e := (eL (eT D.str))) h15) rfl) (tp_cons (tv_own rfl rfl) rfl)) (o_ix_lF (e := (eT D.str)) h17) rfl) rfl)) (o_in_t (e := D.str)) rfl))) c1) ?_
          refine go_skip ?_
          obtain rfl := pj1 h
          exact ⟨_, .inl rfl, _, rfl⟩) h20 ?_
      rintro _ ⟨j24, rfl⟩
      obtain rfl := pj1 h
      exact ⟨_, .inl rfl, _, _, rfl⟩) h25 ?_
  rintro _ ⟨j29, j30, rfl⟩
  obtain rfl := pj1 h
  exact go_ret (ts_ret (te_take rfl)) (ro_k rfl rfl)
theorem t__law_near {drawing_ : (List (List (List Str)))} {places_ : (List (Int × Int))} {r : (List (Int × Int))} (h : p__law_near drawing_ places_ = some r) : fn__law_near [.t .old ((eL (eL (eT D.str))) drawing_), .t .old ((eL (eP2 D.int D.int)) places_)] = some (((eL (eP2 D.int D.int)) r), [.gone, .gone]) := by
  unfold p__law_near at h
  unfold fn__law_near
  refine fn_rt (L := [.t .old ((eL (eL (eT D.str))) drawing_), .t .old ((eL (eP2 D.int D.int)) places_), .gone, .gone, .gone]) rfl ?_
  unfold fb__law_near
  refine go_seq (env1 := [.t .old ((eL (eL (eT D.str))) drawing_), .t .old ((eL (eP2 D.int D.int)) places_), .t .own ((eL (eP2 D.int D.int)) ([] : (List (Int × Int)))), .gone, .gone]) (ts_asg (te_lift (tp_op rfl (o_lst_0 (e := (eP2 D.int D.int))) rfl)) (tg_set rfl)) ?_
  replace h := bnd h
  obtain ⟨found_18, h15, h⟩ := h
  refine go_forS (R := (fun (st : (List (Int × Int))) e => ∃ (j2 : S) (j3 : S), e = [.t .old ((eL (eL (eT D.str))) drawing_), .t .old ((eL (eP2 D.int D.int)) places_), .t .own ((eL (eP2 D.int D.int)) st), j2, j3])) (st := ([] : (List (Int × Int)))) (Z := false) ⟨_, ti_lF (e := (eP2 D.int D.int)) (te_lift (tv_old rfl)) rfl, rfl⟩ ⟨_, _, rfl⟩ (by
      rintro x4 found_1 _ st1 ⟨j2, j3, rfl⟩ h
      unfold pl__law_near_1 at h
      try dsimp only at h
      refine ⟨_, rfl, ?_⟩
      replace h := bnd h
      obtain ⟨v7, h8, h⟩ := h
      refine go_joinS (R := (fun e => e = [.t .old ((eL (eL (eT D.str))) drawing_), .t .old ((eL (eP2 D.int D.int)) places_), .t .own ((eL (eP2 D.int D.int)) v7), .t .own (D.int x4.1), .t .own (D.int x4.2)])) (tb_e (te_lift (tp_op (tp_cons (tv_own rfl rfl) (tp_cons tp_c rfl)) o_gt_i rfl))) (fun c1 => by
          have h := pitT h8 c1
          replace h := bnd h
          obtain ⟨l5, h6, h⟩ := h
          refine go_one (env1 := [.t .old ((eL (eL (eT D.str))) drawing_), .t .old ((eL (eP2 D.int D.int)) places_), .t .own ((eL (eP2 D.int D.int)) l5), .t .own (D.int x4.1), .t .own (D.int x4.2)]) (ts_expr (te_mut rfl rfl rfl (ta_cons (te_op (ta_cons (te_lift (tv_own rfl rfl)) (ta_cons (te_lift (tp_op (tp_cons (tv_own rfl rfl) (tp_cons tp_c rfl)) o_sub_i rfl)) ta_nil)) rfl (o_tup_2 (e := D.int) (e2 := D.int)) rfl) ta_nil) rfl rfl rfl rfl (m_app (e := (eP2 D.int D.int)) h6) rfl)) ?_
          cases h; exact ⟨_, rfl, rfl⟩) (fun c1 => by
          have h := pitF h8 c1
          refine go_skip ?_
          cases h; exact ⟨_, rfl, rfl⟩) ?_
      rintro _ rfl
      replace h := bnd h
      obtain ⟨x11, h12, h⟩ := h
      replace h := pit h
      obtain ⟨c1, h⟩ | ⟨c1, h⟩ := h
      · refine go_ifT (tb_val (tb_e (te_lift (tp_op (tp_cons (tp_op (tp_cons (tv_own rfl rfl) (tp_cons tp_c rfl)) o_add_i rfl) (tp_cons (tp_op (tp_cons (tp_op (tp_cons (tv_old rfl) (tp_cons (tv_own rfl rfl) rfl)) (o_ix_lN (e := (eL (eT D.str))) h12) rfl) rfl) (o_len_l (e := (eT D.str))) rfl) rfl)) o_lt_i rfl))) c1) ?_
        replace h := bnd h
        obtain ⟨l13, h14, h⟩ := h
        refine go_one (env1 := [.t .old ((eL (eL (eT D.str))) drawing_), .t .old ((eL (eP2 D.int D.int)) places_), .t .own ((eL (eP2 D.int D.int)) l13), .t .own (D.int x4.1), .t .own (D.int x4.2)]) (ts_expr (te_mut rfl rfl rfl (ta_cons (te_op (ta_cons (te_lift (tv_own rfl rfl)) (ta_cons (te_lift (tp_op (tp_cons (tv_own rfl rfl) (tp_cons tp_c rfl)) o_add_i rfl)) ta_nil)) rfl (o_tup_2 (e := D.int) (e2 := D.int)) rfl) ta_nil) rfl rfl rfl rfl (m_app (e := (eP2 D.int D.int)) h14) rfl)) ?_
        obtain rfl := pj1 h
        exact ⟨_, .inl rfl, _, _, rfl⟩
      refine go_ifF (tb_val (tb_e (te_lift (tp_op (tp_cons (tp_op (tp_cons (tv_own rfl rfl) (tp_cons tp_c rfl)) o_add_i rfl) (tp_cons (tp_op (tp_cons (tp_op (tp_cons (tv_old rfl) (tp_cons (tv_own rfl rfl) rfl)) (o_ix_lN (e := (eL (eT D.str))) h12) rfl) rfl) (o_len_l (e := (eT D.str))) rfl) rfl)) o_lt_i rfl))) c1) ?_
      refine go_skip ?_
      obtain rfl := pj1 h
      exact ⟨_, .inl rfl, _, _, rfl⟩) h15 ?_
  rintro _ ⟨j19, j20, rfl⟩
  obtain rfl := pj1 h
  exact go_ret (ts_ret (te_take rfl)) (ro_k rfl rfl)
theorem t__law_seen {drawing_ : (List (List (List Str)))} {one_ : Str} {other_ : Str} {r : Str} (h : p__law_seen drawing_ one_ other_ = some r) : fn__law_seen [.t .old ((eL (eL (eT D.str))) drawing_), .t .old (D.str one_), .t .old (D.str other_)] = some ((D.str r), [.gone, .gone, .gone]) := by
  unfold p__law_seen at h
  unfold fn__law_seen
  refine fn_rt (L := [.t .old ((eL (eL (eT D.str))) drawing_), .t .old (D.str one_), .t .old (D.str other_), .gone, .gone, .gone, .gone, .gone, .gone]) rfl ?_
  unfold fb__law_seen
  replace h := bnd h
  obtain ⟨r1, h2, h⟩ := h
  refine go_seq (env1 := [.t .old ((eL (eL (eT D.str))) drawing_), .t .old (D.str one_), .t .old (D.str other_), .t .own ((eL (eP2 D.int D.int)) r1), .gone, .gone, .gone, .gone, .gone]) (ts_asg (te_call (env2 := [.t .old ((eL (eL (eT D.str))) drawing_), .t .old (D.str one_), .t .old (D.str other_), .gone, .gone, .gone, .gone, .gone, .gone]) (ta_cons (te_lift (tv_old rfl)) (ta_cons (te_lift (tv_old rfl)) ta_nil)) rfl rfl (t__law_places h2) rfl) (tg_set rfl)) ?_
  replace h := bnd h
  obtain ⟨r3, h4, h⟩ := h
  refine go_seq (env1 := [.t .old ((eL (eL (eT D.str))) drawing_), .t .old (D.str one_), .t .old (D.str other_), .t .own ((eL (eP2 D.int D.int)) r1), .t .own ((eL (eP2 D.int D.int)) r3), .gone, .gone, .gone, .gone]) (ts_asg (te_call (env2 := [.t .old ((eL (eL (eT D.str))) drawing_), .t .old (D.str one_), .t .old (D.str other_), .t .own ((eL (eP2 D.int D.int)) r1), .gone, .gone, .gone, .gone, .gone]) (ta_cons (te_lift (tv_old rfl)) (ta_cons (te_lift (tv_old rfl)) ta_nil)) rfl rfl (t__law_places h4) rfl) (tg_set rfl)) ?_
  refine go_frz (env1 := [.t .old ((eL (eL (eT D.str))) drawing_), .t .old (D.str one_), .t .old (D.str other_), .t .frz ((eL (eP2 D.int D.int)) r1), .t .own ((eL (eP2 D.int D.int)) r3), .gone, .gone, .gone, .gone]) rfl ?_
  replace h := bnd h
  obtain ⟨l8, h9, h⟩ := h
  refine go_seq (env1 := [.t .old ((eL (eL (eT D.str))) drawing_), .t .old (D.str one_), .t .old (D.str other_), .t .frz ((eL (eP2 D.int D.int)) r1), .t .own ((eL (eP2 D.int D.int)) r3), .t .own ((eL (eP2 D.int D.int)) l8), .gone, .gone, .gone]) (ts_asg (te_compPE (E := [.t .old ((eL (eL (eT D.str))) drawing_), .t .old (D.str one_), .t .old (D.str other_), .t .frz ((eL (eP2 D.int D.int)) r1), .t .own ((eL (eP2 D.int D.int)) r3), .gone, .gone, .gone, .gone]) (eb := (eP2 D.int D.int)) ⟨_, ti_lF (e := (eP2 D.int D.int)) (te_lift (tv_frz rfl)) rfl, rfl⟩ rfl (fun x5 o h => by
            unfold pc__law_seen_1 at h
            replace h := bnd h
            obtain ⟨b6, h7, h⟩ := h
            replace h := pit h
            obtain ⟨c1, h⟩ | ⟨c1, h⟩ := h
            · obtain rfl := pj1 h; exact ⟨_, _, _, (tg_set rfl), tb_val (tb_e (te_lift (tp_op (tp_cons (tv_own rfl rfl) (tp_cons (tv_own rfl rfl) rfl)) (o_in_p (e := (eP2 D.int D.int)) h7) rfl))) c1, .inr ⟨rfl, _, _, (te_lift (tv_own rfl rfl)), (tt1_flat (FlatE.out (e := (eP2 D.int D.int)) _)), rfl, rfl⟩⟩
            · obtain rfl := pj1 h; exact ⟨_, _, _, (tg_set rfl), tb_val (tb_e (te_lift (tp_op (tp_cons (tv_own rfl rfl) (tp_cons (tv_own rfl rfl) rfl)) (o_in_p (e := (eP2 D.int D.int)) h7) rfl))) c1, .inl ⟨rfl, rfl, rfl⟩⟩) h9 rfl) (tg_set rfl)) ?_
  replace h := bnd h
  obtain ⟨b10, h11, h⟩ := h
  replace h := pit h
  obtain ⟨c1, h⟩ | ⟨c1, h⟩ := h
  · refine go_ifTS (tb_val (tb_e (te_lift (tp_op (tp_cons (tv_frz rfl) (tp_cons (tv_own rfl rfl) rfl)) (o_eq (e := (eL (eP2 D.int D.int))) h11) rfl))) c1) ?_
    obtain rfl := pj1 h
    exact go_retS (ts_ret (te_lift tp_c)) (ro_k rfl rfl)
  refine go_ifFS (tb_val (tb_e (te_lift (tp_op (tp_cons (tv_frz rfl) (tp_cons (tv_own rfl rfl) rfl)) (o_eq (e := (eL (eP2 D.int D.int))) h11) rfl))) c1) ?_
  refine go_skipS ?_
  replace h := bnd h
  obtain ⟨b12, h13, h⟩ := h
  replace h := pit h
  obtain ⟨c1, h⟩ | ⟨c1, h⟩ := h
  · refine go_ifTS (tb_val (tb_e (te_lift (tp_op (tp_cons (tv_own rfl rfl) (tp_cons (tv_frz rfl) rfl)) (o_eq (e := (eL (eP2 D.int D.int))) h13) rfl))) c1) ?_
    refine go_assoc ?_
    replace h := bnd h
    obtain ⟨r14, h15, h⟩ := h
    replace h := bnd h
    obtain ⟨l19, h20, h⟩ := h
    refine go_seq (env1 := [.t .old ((eL (eL (eT D.str))) drawing_), .t .old (D.str one_), .t .old (D.str other_), .t .frz ((eL (eP2 D.int D.int)) r1), .t .own ((eL (eP2 D.int D.int)) r3), .t .own ((eL (eP2 D.int D.int)) l8), .gone, .t .own ((eL (eP2 D.int D.int)) l19), .gone]) (ts_asg (te_compPE (E := [.t .old ((eL (eL (eT D.str))) drawing_), .t .old (D.str one_), .t .old (D.str other_), .t .frz ((eL (eP2 D.int D.int)) r1), .t .own ((eL (eP2 D.int D.int)) r3), .t .own ((eL (eP2 D.int D.int)) l8), .gone, .gone, .gone]) (eb := (eP2 D.int D.int)) ⟨_, ti_lF (e := (eP2 D.int D.int)) (te_call (env2 := [.t .old ((eL (eL (eT D.str))) drawing_), .t .old (D.str one_), .t .old (D.str other_), .t .frz ((eL (eP2 D.int D.int)) r1), .t .own ((eL (eP2 D.int D.int)) r3), .t .own ((eL (eP2 D.int D.int)) l8), .gone, .gone, .gone]) (ta_cons (te_lift (tv_old rfl)) (ta_cons (te_lift (tv_frz rfl)) ta_nil)) rfl rfl (t__law_near h15) rfl) rfl, rfl⟩ rfl (fun x16 o h => by
              unfold pc__law_seen_2 at h
              replace h := bnd h
              obtain ⟨b17, h18, h⟩ := h
              replace h := pit h
              obtain ⟨c1, h⟩ | ⟨c1, h⟩ := h
              · obtain rfl := pj1 h; exact ⟨_, _, _, (tg_set rfl), tb_val (tb_e (te_lift (tp_op (tp_cons (tv_own rfl rfl) (tp_cons (tv_own rfl rfl) rfl)) (o_ni_p (e := (eP2 D.int D.int)) h18) rfl))) c1, .inr ⟨rfl, _, _, (te_lift (tv_own rfl rfl)), (tt1_flat (FlatE.out (e := (eP2 D.int D.int)) _)), rfl, rfl⟩⟩
              · obtain rfl := pj1 h; exact ⟨_, _, _, (tg_set rfl), tb_val (tb_e (te_lift (tp_op (tp_cons (tv_own rfl rfl) (tp_cons (tv_own rfl rfl) rfl)) (o_ni_p (e := (eP2 D.int D.int)) h18) rfl))) c1, .inl ⟨rfl, rfl, rfl⟩⟩) h20 rfl) (tg_set rfl)) ?_
    replace h := bnd h
    obtain ⟨b21, h22, h⟩ := h
    replace h := bnd h
    obtain ⟨x23, h24, h⟩ := h
    obtain rfl := pj1 h
    exact go_retS (ts_ret (te_lift (tp_op (tp_cons (tp_op (tp_cons tp_c (tp_cons tp_c rfl)) (o_lst_F (e := D.str) [("incore" : Str), ("inrim" : Str)] (Nat.le_of_ble_eq_true rfl)) rfl) (tp_cons (tp_op (tp_cons (tp_op (tp_cons (tv_own rfl rfl) (tp_cons (tp_op rfl (o_lst_0 (e := (eP2 D.int D.int))) rfl) rfl)) (o_ne (e := (eL (eP2 D.int D.int))) h22) rfl) rfl) o_int_b rfl) rfl)) (o_ix_lF (e := D.str) h24) rfl))) (ro_k rfl rfl)
  refine go_ifFS (tb_val (tb_e (te_lift (tp_op (tp_cons (tv_own rfl rfl) (tp_cons (tv_frz rfl) rfl)) (o_eq (e := (eL (eP2 D.int D.int))) h13) rfl))) c1) ?_
  refine go_skipS ?_
  replace h := bnd h
  obtain ⟨b25, h26, h⟩ := h
  replace h := pit h
  obtain ⟨c1, h⟩ | ⟨c1, h⟩ := h
  · refine go_ifTS (tb_val (tb_e (te_lift (tp_op (tp_cons (tv_own rfl rfl) (tp_cons (tv_own rfl rfl) rfl)) (o_eq (e := (eL (eP2 D.int D.int))) h26) rfl))) c1) ?_
    refine go_assoc ?_
    replace h := bnd h
    obtain ⟨r27, h28, h⟩ := h
    replace h := bnd h
    obtain ⟨l32, h33, h⟩ := h
    refine go_seq (env1 := [.t .old ((eL (eL (eT D.str))) drawing_), .t .old (D.str one_), .t .old (D.str other_), .t .frz ((eL (eP2 D.int D.int)) r1), .gone, .t .own ((eL (eP2 D.int D.int)) l8), .gone, .t .own ((eL (eP2 D.int D.int)) l32), .gone]) (ts_asg (te_compPE (E := [.t .old ((eL (eL (eT D.str))) drawing_), .t .old (D.str one_), .t .old (D.str other_), .t .frz ((eL (eP2 D.int D.int)) r1), .gone, .t .own ((eL (eP2 D.int D.int)) l8), .gone, .gone, .gone]) (eb := (eP2 D.int D.int)) ⟨_, ti_lF (e := (eP2 D.int D.int)) (te_call (env2 := [.t .old ((eL (eL (eT D.str))) drawing_), .t .old (D.str one_), .t .old (D.str other_), .t .frz ((eL (eP2 D.int D.int)) r1), .gone, .t .own ((eL (eP2 D.int D.int)) l8), .gone, .gone, .gone]) (ta_consY (te_lift (tv_old rfl)) rfl (ta_cons (te_take rfl) ta_nil)) rfl rfl (t__law_near h28) rfl) rfl, rfl⟩ rfl (fun x29 o h => by
              unfold pc__law_seen_3 at h
              replace h := bnd h
              obtain ⟨b30, h31, h⟩ := h
              replace h := pit h
              obtain ⟨c1, h⟩ | ⟨c1, h⟩ := h
              · obtain rfl := pj1 h; exact ⟨_, _, _, (tg_set rfl), tb_val (tb_e (te_lift (tp_op (tp_cons (tv_own rfl rfl) (tp_cons (tv_frz rfl) rfl)) (o_ni_p (e := (eP2 D.int D.int)) h31) rfl))) c1, .inr ⟨rfl, _, _, (te_lift (tv_own rfl rfl)), (tt1_flat (FlatE.out (e := (eP2 D.int D.int)) _)), rfl, rfl⟩⟩
              · obtain rfl := pj1 h; exact ⟨_, _, _, (tg_set rfl), tb_val (tb_e (te_lift (tp_op (tp_cons (tv_own rfl rfl) (tp_cons (tv_frz rfl) rfl)) (o_ni_p (e := (eP2 D.int D.int)) h31) rfl))) c1, .inl ⟨rfl, rfl, rfl⟩⟩) h33 rfl) (tg_set rfl)) ?_
    replace h := bnd h
    obtain ⟨b34, h35, h⟩ := h
    replace h := bnd h
    obtain ⟨x36, h37, h⟩ := h
    obtain rfl := pj1 h
    exact go_retS (ts_ret (te_lift (tp_op (tp_cons (tp_op (tp_cons tp_c (tp_cons tp_c rfl)) (o_lst_F (e := D.str) [("hascore" : Str), ("hasrim" : Str)] (Nat.le_of_ble_eq_true rfl)) rfl) (tp_cons (tp_op (tp_cons (tp_op (tp_cons (tv_own rfl rfl) (tp_cons (tp_op rfl (o_lst_0 (e := (eP2 D.int D.int))) rfl) rfl)) (o_ne (e := (eL (eP2 D.int D.int))) h35) rfl) rfl) o_int_b rfl) rfl)) (o_ix_lF (e := D.str) h37) rfl))) (ro_k rfl rfl)
  refine go_ifFS (tb_val (tb_e (te_lift (tp_op (tp_cons (tv_own rfl rfl) (tp_cons (tv_own rfl rfl) rfl)) (o_eq (e := (eL (eP2 D.int D.int))) h26) rfl))) c1) ?_
  refine go_skipS ?_
  replace h := bnd h
  obtain ⟨b38, h39, h⟩ := h
  replace h := pit h
  obtain ⟨c1, h⟩ | ⟨c1, h⟩ := h
  · refine go_ifTS (tb_val (tb_e (te_lift (tp_op (tp_cons (tv_own rfl rfl) (tp_cons (tp_op rfl (o_lst_0 (e := (eP2 D.int D.int))) rfl) rfl)) (o_ne (e := (eL (eP2 D.int D.int))) h39) rfl))) c1) ?_
    obtain rfl := pj1 h
    exact go_retS (ts_ret (te_lift tp_c)) (ro_k rfl rfl)
  refine go_ifFS (tb_val (tb_e (te_lift (tp_op (tp_cons (tv_own rfl rfl) (tp_cons (tp_op rfl (o_lst_0 (e := (eP2 D.int D.int))) rfl) rfl)) (o_ne (e := (eL (eP2 D.int D.int))) h39) rfl))) c1) ?_
  refine go_skipS ?_
  replace h := bnd h
  obtain ⟨r40, h41, h⟩ := h
  replace h := bnd h
  obtain ⟨l45, h46, h⟩ := h
  refine go_seq (env1 := [.t .old ((eL (eL (eT D.str))) drawing_), .t .old (D.str one_), .t .old (D.str other_), .t .frz ((eL (eP2 D.int D.int)) r1), .t .own ((eL (eP2 D.int D.int)) r3), .t .own ((eL (eP2 D.int D.int)) l8), .gone, .gone, .t .own ((eL (eP2 D.int D.int)) l45)]) (ts_asg (te_compPE (E := [.t .old ((eL (eL (eT D.str))) drawing_), .t .old (D.str one_), .t .old (D.str other_), .t .frz ((eL (eP2 D.int D.int)) r1), .t .own ((eL (eP2 D.int D.int)) r3), .t .own ((eL (eP2 D.int D.int)) l8), .gone, .gone, .gone]) (eb := (eP2 D.int D.int)) ⟨_, ti_lF (e := (eP2 D.int D.int)) (te_call (env2 := [.t .old ((eL (eL (eT D.str))) drawing_), .t .old (D.str one_), .t .old (D.str other_), .t .frz ((eL (eP2 D.int D.int)) r1), .t .own ((eL (eP2 D.int D.int)) r3), .t .own ((eL (eP2 D.int D.int)) l8), .gone, .gone, .gone]) (ta_cons (te_lift (tv_old rfl)) (ta_cons (te_lift (tv_frz rfl)) ta_nil)) rfl rfl (t__law_near h41) rfl) rfl, rfl⟩ rfl (fun x42 o h => by
            unfold pc__law_seen_4 at h
            replace h := bnd h
            obtain ⟨b43, h44, h⟩ := h
            replace h := pit h
            obtain ⟨c1, h⟩ | ⟨c1, h⟩ := h
            · obtain rfl := pj1 h; exact ⟨_, _, _, (tg_set rfl), tb_val (tb_e (te_lift (tp_op (tp_cons (tv_own rfl rfl) (tp_cons (tv_own rfl rfl) rfl)) (o_in_p (e := (eP2 D.int D.int)) h44) rfl))) c1, .inr ⟨rfl, _, _, (te_lift (tv_own rfl rfl)), (tt1_flat (FlatE.out (e := (eP2 D.int D.int)) _)), rfl, rfl⟩⟩
            · obtain rfl := pj1 h; exact ⟨_, _, _, (tg_set rfl), tb_val (tb_e (te_lift (tp_op (tp_cons (tv_own rfl rfl) (tp_cons (tv_own rfl rfl) rfl)) (o_in_p (e := (eP2 D.int D.int)) h44) rfl))) c1, .inl ⟨rfl, rfl, rfl⟩⟩) h46 rfl) (tg_set rfl)) ?_
  replace h := bnd h
  obtain ⟨b47, h48, h⟩ := h
  replace h := bnd h
  obtain ⟨x49, h50, h⟩ := h
  obtain rfl := pj1 h
  exact go_ret (ts_ret (te_lift (tp_op (tp_cons (tp_op (tp_cons tp_c (tp_cons tp_c rfl)) (o_lst_F (e := D.str) [("apart" : Str), ("meets" : Str)] (Nat.le_of_ble_eq_true rfl)) rfl) (tp_cons (tp_op (tp_cons (tp_op (tp_cons (tv_own rfl rfl) (tp_cons (tp_op rfl (o_lst_0 (e := (eP2 D.int D.int))) rfl) rfl)) (o_ne (e := (eL (eP2 D.int D.int))) h48) rfl) rfl) o_int_b rfl) rfl)) (o_ix_lF (e := D.str) h50) rfl))) (ro_k rfl rfl)
theorem t__law_sight {drawing_ : (List (List (List Str)))} {names_ : (List Str)} {r : (Option (List Str))} (h : p__law_sight drawing_ names_ = some r) : fn__law_sight [.t .old ((eL (eL (eT D.str))) drawing_), .t .old ((eL D.str) names_)] = some (((eO (eL D.str)) r), [.gone, .gone]) := by
  unfold p__law_sight at h
  unfold fn__law_sight
  refine fn_rt (L := [.t .old ((eL (eL (eT D.str))) drawing_), .t .old ((eL D.str) names_), .gone, .gone, .gone]) rfl ?_
  unfold fb__law_sight
  refine go_seq (env1 := [.t .old ((eL (eL (eT D.str))) drawing_), .t .old ((eL D.str) names_), .t .own ((eL D.str) ([] : (List Str))), .gone, .gone]) (ts_asg (te_lift (tp_op rfl (o_lst_0 (e := D.str)) rfl)) (tg_set rfl)) ?_
  replace h := bnd h
  obtain ⟨c27, h21, h⟩ := h
  refine go_forRS (R := (fun (st : (List Str)) e => ∃ (j2 : S) (j3 : S), e = [.t .old ((eL (eL (eT D.str))) drawing_), .t .old ((eL D.str) names_), .t .own ((eL D.str) st), j2, j3])) (st := ([] : (List Str))) (Ψ := fun r fl => RetOk 2 ((eO (eL D.str)) r) [.gone, .gone] fl) (Z := false) ⟨_, ti_lF (e := D.str) (te_lift (tv_old rfl)) rfl, rfl⟩ ⟨_, _, rfl⟩ (by
      rintro x4 found_1 _ c ⟨j2, j3, rfl⟩ h
      unfold pl__law_sight_2 at h
      try dsimp only at h
      refine ⟨_, (tg_set rfl), ?_⟩
      replace h := bnd h
      obtain ⟨r5, h6, h⟩ := h
      replace h := bnd h
      obtain ⟨b7, h8, h⟩ := h
      replace h := pit h
      obtain ⟨c1, h⟩ | ⟨c1, h⟩ := h
      · refine go_ifTS (tb_val (tb_e (te_op (ta_cons (te_call (env2 := [.t .old ((eL (eL (eT D.str))) drawing_), .t .old ((eL D.str) names_), .t .own ((eL D.str) found_1), .t .own (D.str x4), j3]) (ta_cons (te_lift (tv_old rfl)) (ta_cons (te_lift (tv_own rfl rfl)) ta_nil)) rfl rfl (t__law_places h6) rfl) (ta_cons (te_lift (tp_op rfl (o_lst_0 (e := (eP2 D.int D.int))) rfl)) ta_nil)) rfl (o_eq (e := (eL (eP2 D.int D.int))) h8) rfl)) c1) ?_
        obtain rfl := pj1 h
        exact go_retS (ts_ret (te_lift tp_c)) ⟨_, _, rfl, (ro_k rfl rfl)⟩
      refine go_ifFS (tb_val (tb_e (te_op (ta_cons (te_call (env2 := [.t .old ((eL (eL (eT D.str))) drawing_), .t .old ((eL D.str) names_), .t .own ((eL D.str) found_1), .t .own (D.str x4), j3]) (ta_cons (te_lift (tv_old rfl)) (ta_cons (te_lift (tv_own rfl rfl)) ta_nil)) rfl rfl (t__law_places h6) rfl) (ta_cons (te_lift (tp_op rfl (o_lst_0 (e := (eP2 D.int D.int))) rfl)) ta_nil)) rfl (o_eq (e := (eL (eP2 D.int D.int))) h8) rfl)) c1) ?_
      refine go_skipS ?_
      replace h := bnd h
      obtain ⟨found_19, h16, h⟩ := h
      refine go_for (R := (fun (st : (List Str)) e => ∃ (j10 : S), e = [.t .old ((eL (eL (eT D.str))) drawing_), .t .old ((eL D.str) names_), .t .own ((eL D.str) st), .t .own (D.str x4), j10])) (st := found_1) (Z := false) ⟨_, ti_lF (e := D.str) (te_lift (tv_old rfl)) rfl, rfl⟩ ⟨_, rfl⟩ (by
          rintro x11 found_9 _ st1 ⟨j10, rfl⟩ h
          unfold pl__law_sight_1 at h
          try dsimp only at h
          refine ⟨_, (tg_set rfl), ?_⟩
          replace h := bnd h
          obtain ⟨r12, h13, h⟩ := h
          replace h := bnd h
          obtain ⟨l14, h15, h⟩ := h
          refine go_one (env1 := [.t .old ((eL (eL (eT D.str))) drawing_), .t .old ((eL D.str) names_), .t .own ((eL D.str) l14), .t .own (D.str x4), .t .own (D.str x11)]) (ts_expr (te_mut rfl rfl rfl (ta_cons (te_call (env2 := [.t .old ((eL (eL (eT D.str))) drawing_), .t .old ((eL D.str) names_), .t .own ((eL D.str) found_9), .t .own (D.str x4), .t .own (D.str x11)]) (ta_cons (te_lift (tv_old rfl)) (ta_cons (te_lift (tv_own rfl rfl)) (ta_cons (te_lift (tv_own rfl rfl)) ta_nil))) rfl rfl (t__law_seen h13) rfl) ta_nil) rfl rfl rfl rfl (m_app (e := D.str) h15) rfl)) ?_
          obtain rfl := pj1 h
          exact ⟨_, .inl rfl, _, rfl⟩) h16 ?_
      rintro _ ⟨j20, rfl⟩
      obtain rfl := pj1 h
      exact ⟨_, .inl rfl, _, _, rfl⟩) h21 ?_ ?_
  · rintro r1 rfl _ _ q
    obtain rfl := pj1 h
    exact q
  rintro found_24 rfl _ ⟨j25, j26, rfl⟩
  try dsimp only at h
  obtain rfl := pj1 h
  exact go_ret (ts_ret (te_take rfl)) (ro_k rfl rfl)
theorem t__law_due {drawing_ : (List (List (List Str)))} {names_ : (List Str)} {r : (List (List (List Str)))} (h : p__law_due drawing_ names_ = some r) : fnv__law_due [((eL (eL (eT D.str))) drawing_), ((eL D.str) names_)] = some (.val, ((eL (eL (eT D.str))) r)) := by
  unfold p__law_due at h
  unfold fnv__law_due
  refine fn_rtV (L := [.t .val ((eL (eL (eT D.str))) drawing_), .t .val ((eL D.str) names_), .gone, .gone, .gone, .gone, .gone]) rfl (by decide) ?_
  unfold fb__law_due
  replace h := bnd h
  obtain ⟨r1, h2, h⟩ := h
  refine go_seq (env1 := [.t .val ((eL (eL (eT D.str))) drawing_), .t .val ((eL D.str) names_), .t .own ((eO (eL D.str)) r1), .gone, .gone, .gone, .gone]) (ts_asg (te_call (env2 := [.t .val ((eL (eL (eT D.str))) drawing_), .t .val ((eL D.str) names_), .gone, .gone, .gone, .gone, .gone]) (ta_cons (te_lift (tv_val rfl)) (ta_cons (te_lift (tv_val rfl)) ta_nil)) rfl rfl (t__law_sight h2) rfl) (tg_set rfl)) ?_
  refine go_seq (env1 := [.t .val ((eL (eL (eT D.str))) drawing_), .t .val ((eL D.str) names_), .t .own ((eO (eL D.str)) r1), .t .val ((eL (eL (eT D.str))) drawing_), .gone, .gone, .gone]) (ts_asg (te_mixW (k := .val) (ta_cons (te_lift (tv_val rfl)) ta_nil) rfl (o_list_lN (e := (eL (eT D.str)))) ⟨rfl, rfl⟩) (tg_set rfl)) ?_
  refine go_seq (env1 := [.t .val ((eL (eL (eT D.str))) drawing_), .t .val ((eL D.str) names_), .t .own ((eO (eL D.str)) r1), .t .val ((eL (eL (eT D.str))) drawing_), .t .own (D.int 0), .gone, .gone]) (ts_asg (te_lift tp_c) (tg_set rfl)) ?_
  replace h := bnd h
  obtain ⟨l3, h4, h⟩ := h
  replace h := bnd h
  obtain ⟨⟨left_19, at_20⟩, h16, h⟩ := h
  try dsimp only at h
  refine go_forS (R := (fun (st : ((List (List (List Str))) × Int)) e => ∃ (j7 : S) (j8 : S), e = [.t .val ((eL (eL (eT D.str))) drawing_), .t .val ((eL D.str) names_), .t .own ((eO (eL D.str)) r1), .t .val ((eL (eL (eT D.str))) st.1), .t .own (D.int st.2), j7, j8])) (st := (drawing_, 0)) (Z := false) ⟨_, ti_range (te_lift (tp_op (tp_cons (tv_val rfl) rfl) (o_len_l (e := (eL (eT D.str)))) rfl)) h4, rfl⟩ ⟨_, _, rfl⟩ (by
      rintro x9 ⟨left_5, at_6⟩ _ st1 ⟨j7, j8, rfl⟩ h
      unfold pl__law_due_1 at h
      try dsimp only at h
      refine ⟨_, (tg_set rfl), ?_⟩
      replace h := bnd h
      obtain ⟨l10, h11, h⟩ := h
      refine go_seq (env1 := [.t .val ((eL (eL (eT D.str))) drawing_), .t .val ((eL D.str) names_), .t .own ((eO (eL D.str)) r1), .t .val ((eL (eL (eT D.str))) left_5), .t .own (D.int at_6), .t .own (D.int x9), .t .val ((eL (eL (eT D.str))) l10)]) (ts_asg (te_drop rfl rfl h11 (by decide) (by decide) rfl) (tg_set rfl)) ?_
      replace h := bnd h
      obtain ⟨r12, h13, h⟩ := h
      replace h := bnd h
      obtain ⟨b14, h15, h⟩ := h
      replace h := pit h
      obtain ⟨c1, h⟩ | ⟨c1, h⟩ := h
      · refine go_ifT (tb_val (tb_e (te_op (ta_cons (te_call (env2 := [.t .val ((eL (eL (eT D.str))) drawing_), .t .val ((eL D.str) names_), .t .own ((eO (eL D.str)) r1), .t .val ((eL (eL (eT D.str))) left_5), .t .own (D.int at_6), .t .own (D.int x9), .t .val ((eL (eL (eT D.str))) l10)]) (ta_cons (te_lift (tv_val rfl)) (ta_cons (te_lift (tv_val rfl)) ta_nil)) rfl rfl (t__law_sight h13) rfl) (ta_cons (te_lift (tv_own rfl rfl)) ta_nil)) rfl (o_eq (e := (eO (eL D.str))) h15) rfl)) c1) ?_
        refine go_one (env1 := [.t .val ((eL (eL (eT D.str))) drawing_), .t .val ((eL D.str) names_), .t .own ((eO (eL D.str)) r1), .t .val ((eL (eL (eT D.str))) l10), .t .own (D.int at_6), .t .own (D.int x9), .t .val ((eL (eL (eT D.str))) l10)]) (ts_asg (te_lift (tv_val rfl)) (tg_set rfl)) ?_
        obtain rfl := pj1 h
        exact ⟨_, .inl rfl, _, _, rfl⟩
      refine go_ifF (tb_val (tb_e (te_op (ta_cons (te_call (env2 := [.t .val ((eL (eL (eT D.str))) drawing_), .t .val ((eL D.str) names_), .t .own ((eO (eL D.str)) r1), .t .val ((eL (eL (eT D.str))) left_5), .t .own (D.int at_6), .t .own (D.int x9), .t .val ((eL (eL (eT D.str))) l10)]) (ta_cons (te_lift (tv_val rfl)) (ta_cons (te_lift (tv_val rfl)) ta_nil)) rfl rfl (t__law_sight h13) rfl) (ta_cons (te_lift (tv_own rfl rfl)) ta_nil)) rfl (o_eq (e := (eO (eL D.str))) h15) rfl)) c1) ?_
      refine go_one (env1 := [.t .val ((eL (eL (eT D.str))) drawing_), .t .val ((eL D.str) names_), .t .own ((eO (eL D.str)) r1), .t .val ((eL (eL (eT D.str))) left_5), .t .own (D.int (at_6 + 1)), .t .own (D.int x9), .t .val ((eL (eL (eT D.str))) l10)]) (ts_asg (te_lift (tp_op (tp_cons (tv_own rfl rfl) (tp_cons tp_c rfl)) o_add_i rfl)) (tg_set rfl)) ?_
      obtain rfl := pj1 h
      exact ⟨_, .inl rfl, _, _, rfl⟩) h16 ?_
  rintro _ ⟨j21, j22, rfl⟩
  obtain rfl := pj1 h
  exact go_ret (ts_ret (te_lift (tv_val rfl))) rfl
theorem kc1 : kitB "str" "list" = some false := by kernel_rfl
theorem kc2 : kitB "str" "dict" = some false := by kernel_rfl
theorem kc3 : kitB "str" "tuple" = some false := by kernel_rfl
theorem kc4 : kitB "tuple" "list" = some false := by kernel_rfl
theorem kc5 : kitB "tuple" "dict" = some false := by kernel_rfl
theorem kc6 : kitB "tuple" "tuple" = some true := by kernel_rfl
theorem kc7 : kitB "list" "list" = some true := by kernel_rfl
theorem copy_str (m : Nat) (x : Str) : fnRec 2 fb__law_copied (m + 1) [.t .old (.str x)] = some (.str x, [.gone]) := by
  refine fn_rt (L := [.t .old (.str x), .gone]) rfl ?_
  unfold fb__law_copied
  refine go_ifFS (env1 := [.t .old (.str x), .gone]) (tb_e (te_lift (tp_isi (t := "str") (tv_old rfl) rfl kc1))) ?_
  refine go_skipS ?_
  refine go_ifFS (env1 := [.t .old (.str x), .gone]) (tb_e (te_lift (tp_isi (t := "str") (tv_old rfl) rfl kc2))) ?_
  refine go_skipS ?_
  refine go_ifFS (env1 := [.t .old (.str x), .gone]) (tb_e (te_lift (tp_isi (t := "str") (tv_old rfl) rfl kc3))) ?_
  refine go_skipS ?_
  exact go_ret (ts_ret (te_lift (tv_old rfl))) (ro_f rfl rfl)
theorem copy_tup (m : Nat) (xs : List Str) : fnRec 2 fb__law_copied (m + 2) [.t .old (eT D.str xs)] = some (eT D.str xs, [.gone]) := by
  refine fn_rt (L := [.t .old (eT D.str xs), .gone]) rfl ?_
  unfold fb__law_copied
  refine go_ifFS (env1 := [.t .old (eT D.str xs), .gone]) (tb_e (te_lift (tp_isi (t := "tuple") (tv_old rfl) rfl kc4))) ?_
  refine go_skipS ?_
  refine go_ifFS (env1 := [.t .old (eT D.str xs), .gone]) (tb_e (te_lift (tp_isi (t := "tuple") (tv_old rfl) rfl kc5))) ?_
  refine go_skipS ?_
  refine go_ifTS (env1 := [.t .old (eT D.str xs), .gone]) (tb_e (te_lift (tp_isi (t := "tuple") (tv_old rfl) rfl kc6))) ?_
  have hc : eComp [1] (iSq (lift (pVar [] 0))) (gSet 1) (fun env => some (true, env)) (le__law_copied_2 (fnRec 2 fb__law_copied (m + 1))) [.t .old (eT D.str xs), .gone] = some ((.own, eL D.str ((xs.filter fun _ => true).map fun x => x)), [.t .old (eT D.str xs), .gone]) :=
    te_pickE (E := [.t .old (eT D.str xs), .gone]) (c := fun _ => true) (f := fun x => x) (eb := D.str) (ti_tFZ (e := D.str) (te_lift (tv_old rfl))) rfl
      (fun x => ⟨_, _, tg_set rfl, tb_yes, rfl, fun _ => ⟨_, _, te_call (env2 := [.t .old (eT D.str xs), .t .own (.str x)]) (ta_cons (te_lift (tv_own rfl rfl)) ta_nil) rfl rfl (copy_str m x) rfl, rfl, rfl⟩⟩) rfl
  have e0 : (xs.filter fun _ => true).map (fun x => x) = xs := filter_yes_id
  rw [e0] at hc
  exact go_retS (ts_ret (te_op (ta_cons hc ta_nil) rfl (o_tuple_lF (e := D.str)) rfl)) (ro_f (FlatE.out (e := eT D.str) _) rfl)
theorem copy_strip (m : Nat) (xs : List (List Str)) : fnRec 2 fb__law_copied (m + 3) [.t .old (eL (eT D.str) xs)] = some (eL (eT D.str) xs, [.gone]) := by
  refine fn_rt (L := [.t .old (eL (eT D.str) xs), .gone]) rfl ?_
  unfold fb__law_copied
  refine go_ifTS (env1 := [.t .old (eL (eT D.str) xs), .gone]) (tb_e (te_lift (tp_isi (t := "list") (tv_old rfl) rfl kc7))) ?_
  have hc : eComp [1] (iSq (lift (pVar [] 0))) (gSet 1) (fun env => some (true, env)) (le__law_copied_1 (fnRec 2 fb__law_copied (m + 2))) [.t .old (eL (eT D.str) xs), .gone] = some ((.own, eL (eT D.str) ((xs.filter fun _ => true).map fun x => x)), [.t .old (eL (eT D.str) xs), .gone]) :=
    te_pickE (E := [.t .old (eL (eT D.str) xs), .gone]) (c := fun _ => true) (f := fun x => x) (eb := eT D.str) ⟨_, ti_lF (e := eT D.str) (te_lift (tv_old rfl)) rfl, rfl⟩ rfl
      (fun x => ⟨_, _, tg_set rfl, tb_yes, rfl, fun _ => ⟨_, _, te_call (env2 := [.t .old (eL (eT D.str) xs), .t .own (eT D.str x)]) (ta_cons (te_lift (tv_own rfl rfl)) ta_nil) rfl rfl (copy_tup m x) rfl, rfl, rfl⟩⟩) rfl
  have e0 : (xs.filter fun _ => true).map (fun x => x) = xs := filter_yes_id
  rw [e0] at hc
  exact go_retS (ts_ret hc) (ro_k rfl rfl)
theorem copy_drw (m : Nat) (xs : List (List (List Str))) : fnRec 2 fb__law_copied (m + 4) [.t .old (eL (eL (eT D.str)) xs)] = some (eL (eL (eT D.str)) xs, [.gone]) := by
  refine fn_rt (L := [.t .old (eL (eL (eT D.str)) xs), .gone]) rfl ?_
  unfold fb__law_copied
  refine go_ifTS (env1 := [.t .old (eL (eL (eT D.str)) xs), .gone]) (tb_e (te_lift (tp_isi (t := "list") (tv_old rfl) rfl kc7))) ?_
  have hc : eComp [1] (iSq (lift (pVar [] 0))) (gSet 1) (fun env => some (true, env)) (le__law_copied_1 (fnRec 2 fb__law_copied (m + 3))) [.t .old (eL (eL (eT D.str)) xs), .gone] = some ((.own, eL (eL (eT D.str)) ((xs.filter fun _ => true).map fun x => x)), [.t .old (eL (eL (eT D.str)) xs), .gone]) :=
    te_pickE (E := [.t .old (eL (eL (eT D.str)) xs), .gone]) (c := fun _ => true) (f := fun x => x) (eb := eL (eT D.str)) (ti_lNZ (e := eL (eT D.str)) (te_lift (tv_old rfl)) rfl) rfl
      (fun x => ⟨_, _, tg_set rfl, tb_yes, rfl, fun _ => ⟨_, _, te_call (env2 := [.t .old (eL (eL (eT D.str)) xs), .t .old (eL (eT D.str) x)]) (ta_cons (te_lift (tv_old rfl)) ta_nil) rfl rfl (copy_strip m x) rfl, rfl, rfl⟩⟩) rfl
  have e0 : (xs.filter fun _ => true).map (fun x => x) = xs := filter_yes_id
  rw [e0] at hc
  exact go_retS (ts_ret hc) (ro_k rfl rfl)
theorem t__law_copied {x : List (List (List Str))} {r : List (List (List Str))} (h : p__law_copied x = some r) : fn__law_copied [.t .old (eL (eL (eT D.str)) x)] = some (eL (eL (eT D.str)) r, [.gone]) := by
  obtain rfl := pj1 h
  exact copy_drw 1 x

theorem t_lands {drawing_ : (List (List (List Str)))} {r : (List Str)} (h : p_lands drawing_ = some r) : fn_lands [.t .old ((eL (eL (eT D.str))) drawing_)] = some (((eL D.str) r), [.gone]) := by
  unfold p_lands at h
  unfold fn_lands
  refine fn_rt (L := [.t .old ((eL (eL (eT D.str))) drawing_), .gone, .gone, .gone, .gone]) rfl ?_
  unfold fb_lands
  refine go_seq (env1 := [.t .old ((eL (eL (eT D.str))) drawing_), .t .own ((eDK D.bl) ([] : (List (Str × Bool)))), .gone, .gone, .gone]) (ts_asg (te_lift rfl) (tg_set rfl)) ?_
  replace h := bnd h
  obtain ⟨found_29, h26, h⟩ := h
  refine go_forS (R := (fun (st : (List (Str × Bool))) e => ∃ (j2 : S) (j3 : S) (j4 : S), e = [.t .old ((eL (eL (eT D.str))) drawing_), .t .own ((eDK D.bl) st), j2, j3, j4])) (st := ([] : (List (Str × Bool)))) (Z := false) (ti_lNZ (e := (eL (eT D.str))) (te_lift (tv_old rfl)) rfl) ⟨_, _, _, rfl⟩ (by
      rintro x5 found_1 _ st1 ⟨j2, j3, j4, rfl⟩ h
      unfold pl_lands_3 at h
      try dsimp only at h
      refine ⟨_, (tg_set rfl), ?_⟩
      replace h := bnd h
      obtain ⟨found_23, h20, h⟩ := h
      refine go_for (R := (fun (st : (List (Str × Bool))) e => ∃ (j7 : S) (j8 : S), e = [.t .old ((eL (eL (eT D.str))) drawing_), .t .own ((eDK D.bl) st), .t .old ((eL (eT D.str)) x5), j7, j8])) (st := found_1) (Z := false) ⟨_, ti_lF (e := (eT D.str)) (te_lift (tv_old rfl)) rfl, rfl⟩ ⟨_, _, rfl⟩ (by
          rintro x9 found_6 _ st1 ⟨j7, j8, rfl⟩ h
          unfold pl_lands_2 at h
          try dsimp only at h
          refine ⟨_, (tg_set rfl), ?_⟩
          replace h := bnd h
          obtain ⟨found_18, h15, h⟩ := h
          refine go_for (R := (fun (st : (List (Str × Bool))) e => ∃ (j11 : S), e = [.t .old ((eL (eL (eT D.str))) drawing_), .t .own ((eDK D.bl) st), .t .old ((eL (eT D.str)) x5), .t .own ((eT D.str) x9), j11])) (st := found_6) (Z := false) (ti_tFZ (e := D.str) (te_lift (tv_own rfl rfl))) ⟨_, rfl⟩ (by
              rintro x12 found_10 _ st1 ⟨j11, rfl⟩ h
              unfold pl_lands_1 at h
              try dsimp only at h
              refine ⟨_, (tg_set rfl), ?_⟩
              replace h := bnd h
              obtain ⟨l13, h14, h⟩ := h
              refine go_one (env1 := [.t .old ((eL (eL (eT D.str))) drawing_), .t .own ((eDK D.bl) l13), .t .old ((eL (eT D.str)) x5), .t .own ((eT D.str) x9), .t .own (D.str x12)]) (ts_put (te_lift tp_c) rfl rfl (te_lift (tv_own rfl rfl)) rfl rfl rfl (u_put_k (e := D.bl) h14) rfl) ?_
              obtain rfl := pj1 h
              exact ⟨_, .inl rfl, _, rfl⟩) h15 ?_
          rintro _ ⟨j19, rfl⟩
          obtain rfl := pj1 h
          exact ⟨_, .inl rfl, _, _, rfl⟩) h20 ?_
      rintro _ ⟨j24, j25, rfl⟩
      obtain rfl := pj1 h
      exact ⟨_, .inl rfl, _, _, _, rfl⟩) h26 ?_
  rintro _ ⟨j30, j31, j32, rfl⟩
  replace h := bnd h
  obtain ⟨l33, h34, h⟩ := h
  obtain rfl := pj1 h
  exact go_ret (ts_ret (te_lift (tp_op (tp_cons (tv_own rfl rfl) rfl) (o_sort_d (e := D.bl) h34) rfl))) (ro_k rfl rfl)
theorem t_plots_of {drawing_ : (List (List (List Str)))} {name_ : Str} {r : (List (Int × Int))} (h : p_plots_of drawing_ name_ = some r) : fn_plots_of [.t .old ((eL (eL (eT D.str))) drawing_), .t .old (D.str name_)] = some (((eL (eP2 D.int D.int)) r), [.gone, .gone]) := by
  unfold p_plots_of at h
  unfold fn_plots_of
  refine fn_rt (L := [.t .old ((eL (eL (eT D.str))) drawing_), .t .old (D.str name_), .gone, .gone, .gone]) rfl ?_
  unfold fb_plots_of
  refine go_seq (env1 := [.t .old ((eL (eL (eT D.str))) drawing_), .t .old (D.str name_), .t .own ((eL (eP2 D.int D.int)) ([] : (List (Int × Int)))), .gone, .gone]) (ts_asg (te_lift (tp_op rfl (o_lst_0 (e := (eP2 D.int D.int))) rfl)) (tg_set rfl)) ?_
  replace h := bnd h
  obtain ⟨l1, h2, h⟩ := h
  replace h := bnd h
  obtain ⟨found_28, h25, h⟩ := h
  refine go_forS (R := (fun (st : (List (Int × Int))) e => ∃ (j4 : S) (j5 : S), e = [.t .old ((eL (eL (eT D.str))) drawing_), .t .old (D.str name_), .t .own ((eL (eP2 D.int D.int)) st), j4, j5])) (st := ([] : (List (Int × Int)))) (Z := false) ⟨_, ti_range (te_lift (tp_op (tp_cons (tv_old rfl) rfl) (o_len_l (e := (eL (eT D.str)))) rfl)) h2, rfl⟩ ⟨_, _, rfl⟩ (by
      rintro x6 found_3 _ st1 ⟨j4, j5, rfl⟩ h
      unfold pl_plots_of_2 at h
      try dsimp only at h
      refine ⟨_, (tg_set rfl), ?_⟩
      replace h := bnd h
      obtain ⟨x7, h8, h⟩ := h
      replace h := bnd h
      obtain ⟨l9, h10, h⟩ := h
      replace h := bnd h
      obtain ⟨found_23, h20, h⟩ := h
      refine go_for (R := (fun (st : (List (Int × Int))) e => ∃ (j12 : S), e = [.t .old ((eL (eL (eT D.str))) drawing_), .t .old (D.str name_), .t .own ((eL (eP2 D.int D.int)) st), .t .own (D.int x6), j12])) (st := found_3) (Z := false) ⟨_, ti_range (te_lift (tp_op (tp_cons (tp_op (tp_cons (tv_old rfl) (tp_cons (tv_own rfl rfl) rfl)) (o_ix_lN (e := (eL (eT D.str))) h8) rfl) rfl) (o_len_l (e := (eT D.str))) rfl)) h10, rfl⟩ ⟨_, rfl⟩ (by
          rintro x13 found_11 _ st1 ⟨j12, rfl⟩ h
          unfold pl_plots_of_1 at h
          try dsimp only at h
          refine ⟨_, (tg_set rfl), ?_⟩
          replace h := bnd h
          obtain ⟨x14, h15, h⟩ := h
          replace h := bnd h
          obtain ⟨x16, h17, h⟩ := h
          replace h := pit h
          obtain ⟨c1, h⟩ | ⟨c1, h⟩ := h
          · refine go_ifT (tb_val (tb_e (te_lift (tp_op (tp_cons (tv_old rfl) (tp_cons (tp_op (tp_cons (tp_op (tp_cons (tv_old rfl) (tp_cons (tv_own rfl rfl) rfl)) (o_ix_lN (e := (eL (eT D.str))) h15) rfl) (tp_cons (tv_own rfl rfl) rfl)) (o_ix_lF (e := (eT D.str)) h17) rfl) rfl)) (o_in_t (e := D.str)) rfl))) c1) ?_
            replace h := bnd h
            obtain ⟨l18, h19, h⟩ := h
            refine go_one (env1 := [.t .old ((eL (eL (eT D.str))) drawing_), .t .old (D.str name_), .t .own ((eL (eP2 D.int D.int)) l18), .t .own (D.int x6), .t .own (D.int x13)]) (ts_expr (te_mut rfl rfl rfl (ta_cons (te_op (ta_cons (te_lift (tv_own rfl rfl)) (ta_cons (te_lift (tv_own rfl rfl)) ta_nil)) rfl (o_tup_2 (e := D.int) (e2 := D.int)) rfl) ta_nil) rfl rfl rfl rfl (m_app (e := (eP2 D.int D.int)) h19) rfl)) ?_
            obtain rfl := pj1 h
            exact ⟨_, .inl rfl, _, rfl⟩
          refine go_ifF (tb_val (tb_e (te_lift (tp_op (tp_cons (tv_old rfl) (tp_cons (tp_op (tp_cons (tp_op (tp_cons (tv_old rfl) (tp_cons (tv_own rfl rfl) rfl)) (o_ix_lN (e := (eL (eT D.str))) h15) rfl) (tp_cons (tv_own rfl rfl) rfl)) (o_ix_lF (e := (eT D.str)) h17) rfl) rfl)) (o_in_t (e := D.str)) rfl))) c1) ?_
          refine go_skip ?_
          obtain rfl := pj1 h
          exact ⟨_, .inl rfl, _, rfl⟩) h20 ?_
      rintro _ ⟨j24, rfl⟩
      obtain rfl := pj1 h
      exact ⟨_, .inl rfl, _, _, rfl⟩) h25 ?_
  rintro _ ⟨j29, j30, rfl⟩
  replace h := bnd h
  obtain ⟨b31, h32, h⟩ := h
  replace h := pit h
  obtain ⟨c1, h⟩ | ⟨c1, h⟩ := h
  · refine go_ifTS (tb_val (tb_e (te_lift (tp_op (tp_cons (tv_own rfl rfl) (tp_cons (tp_op rfl (o_lst_0 (e := (eP2 D.int D.int))) rfl) rfl)) (o_eq (e := (eL (eP2 D.int D.int))) h32) rfl))) c1) ?_
    cases h
  refine go_ifFS (tb_val (tb_e (te_lift (tp_op (tp_cons (tv_own rfl rfl) (tp_cons (tp_op rfl (o_lst_0 (e := (eP2 D.int D.int))) rfl) rfl)) (o_eq (e := (eL (eP2 D.int D.int))) h32) rfl))) c1) ?_
  refine go_skipS ?_
  obtain rfl := pj1 h
  exact go_ret (ts_ret (te_take rfl)) (ro_k rfl rfl)
theorem t_are_near {mine_ : (List (Int × Int))} {theirs_ : (List (Int × Int))} {r : Bool} (h : p_are_near mine_ theirs_ = some r) : fn_are_near [.t .old ((eL (eP2 D.int D.int)) mine_), .t .old ((eL (eP2 D.int D.int)) theirs_)] = some ((D.bl r), [.gone, .gone]) := by
  unfold p_are_near at h
  unfold fn_are_near
  refine fn_rt (L := [.t .old ((eL (eP2 D.int D.int)) mine_), .t .old ((eL (eP2 D.int D.int)) theirs_), .gone, .gone]) rfl ?_
  unfold fb_are_near
  replace h := bnd h
  obtain ⟨c15, h10, h⟩ := h
  refine go_forRS (R := (fun (st : Unit) e => ∃ (j1 : S) (j2 : S), e = [.t .old ((eL (eP2 D.int D.int)) mine_), .t .old ((eL (eP2 D.int D.int)) theirs_), j1, j2])) (st := ()) (Ψ := fun r fl => RetOk 2 (D.bl r) [.gone, .gone] fl) (Z := false) ⟨_, ti_lF (e := (eP2 D.int D.int)) (te_lift (tv_old rfl)) rfl, rfl⟩ ⟨_, _, rfl⟩ (by
      rintro x3 ⟨⟩ _ c ⟨j1, j2, rfl⟩ h
      unfold pl_are_near_1 at h
      try dsimp only at h
      refine ⟨_, rfl, ?_⟩
      replace h := bnd h
      obtain ⟨b4, h5, h⟩ := h
      replace h := bnd h
      obtain ⟨b8, h9, h⟩ := h
      replace h := pit h
      obtain ⟨c1, h⟩ | ⟨c1, h⟩ := h
      · refine go_ifT (tb_val (tb_or (c := b8) (env2 := [.t .old ((eL (eP2 D.int D.int)) mine_), .t .old ((eL (eP2 D.int D.int)) theirs_), .t .own (D.int x3.1), .t .own (D.int x3.2)]) (tb_e (te_lift (tp_op (tp_cons (tp_op (tp_cons (tv_own rfl rfl) (tp_cons (tp_op (tp_cons (tv_own rfl rfl) (tp_cons tp_c rfl)) o_sub_i rfl) rfl)) (o_tup_2 (e := D.int) (e2 := D.int)) rfl) (tp_cons (tv_old rfl) rfl)) (o_in_p (e := (eP2 D.int D.int)) h5) rfl))) (fun c1 => by have h := pitF h9 c1; replace h := bnd h; obtain ⟨b6, h7, h⟩ := h; obtain rfl := pj1 h; exact (tb_e (te_lift (tp_op (tp_cons (tp_op (tp_cons (tv_own rfl rfl) (tp_cons (tp_op (tp_cons (tv_own rfl rfl) (tp_cons tp_c rfl)) o_add_i rfl) rfl)) (o_tup_2 (e := D.int) (e2 := D.int)) rfl) (tp_cons (tv_old rfl) rfl)) (o_in_p (e := (eP2 D.int D.int)) h7) rfl)))) (fun c1 => by have h := pitT h9 c1; obtain rfl := pj1 h; exact ⟨rfl, rfl⟩)) c1) ?_
        obtain rfl := pj1 h
        exact go_ret (ts_ret (te_lift tp_c)) ⟨_, _, rfl, (ro_k rfl rfl)⟩
      refine go_ifF (tb_val (tb_or (c := b8) (env2 := [.t .old ((eL (eP2 D.int D.int)) mine_), .t .old ((eL (eP2 D.int D.int)) theirs_), .t .own (D.int x3.1), .t .own (D.int x3.2)]) (tb_e (te_lift (tp_op (tp_cons (tp_op (tp_cons (tv_own rfl rfl) (tp_cons (tp_op (tp_cons (tv_own rfl rfl) (tp_cons tp_c rfl)) o_sub_i rfl) rfl)) (o_tup_2 (e := D.int) (e2 := D.int)) rfl) (tp_cons (tv_old rfl) rfl)) (o_in_p (e := (eP2 D.int D.int)) h5) rfl))) (fun c1 => by have h := pitF h9 c1; replace h := bnd h; obtain ⟨b6, h7, h⟩ := h; obtain rfl := pj1 h; exact (tb_e (te_lift (tp_op (tp_cons (tp_op (tp_cons (tv_own rfl rfl) (tp_cons (tp_op (tp_cons (tv_own rfl rfl) (tp_cons tp_c rfl)) o_add_i rfl) rfl)) (o_tup_2 (e := D.int) (e2 := D.int)) rfl) (tp_cons (tv_old rfl) rfl)) (o_in_p (e := (eP2 D.int D.int)) h7) rfl)))) (fun c1 => by have h := pitT h9 c1; obtain rfl := pj1 h; exact ⟨rfl, rfl⟩)) c1) ?_
      refine go_skip ?_
      obtain rfl := pj1 h
      exact ⟨_, .inl rfl, _, _, rfl⟩) h10 ?_ ?_
  · rintro r1 rfl _ _ q
    obtain rfl := pj1 h
    exact q
  rintro _ rfl _ ⟨j13, j14, rfl⟩
  try dsimp only at h
  obtain rfl := pj1 h
  exact go_ret (ts_ret (te_lift tp_c)) (ro_k rfl rfl)
theorem t_reaches_out {mine_ : (List (Int × Int))} {theirs_ : (List (Int × Int))} {drawing_ : (List (List (List Str)))} {r : Bool} (h : p_reaches_out mine_ theirs_ drawing_ = some r) : fn_reaches_out [.t .old ((eL (eP2 D.int D.int)) mine_), .t .old ((eL (eP2 D.int D.int)) theirs_), .t .old ((eL (eL (eT D.str))) drawing_)] = some ((D.bl r), [.gone, .gone, .gone]) := by
  unfold p_reaches_out at h
  unfold fn_reaches_out
  refine fn_rt (L := [.t .old ((eL (eP2 D.int D.int)) mine_), .t .old ((eL (eP2 D.int D.int)) theirs_), .t .old ((eL (eL (eT D.str))) drawing_), .gone, .gone, .gone]) rfl ?_
  unfold fb_reaches_out
  replace h := bnd h
  obtain ⟨c24, h18, h⟩ := h
  refine go_forRS (R := (fun (st : Unit) e => ∃ (j1 : S) (j2 : S) (j3 : S), e = [.t .old ((eL (eP2 D.int D.int)) mine_), .t .old ((eL (eP2 D.int D.int)) theirs_), .t .old ((eL (eL (eT D.str))) drawing_), j1, j2, j3])) (st := ()) (Ψ := fun r fl => RetOk 3 (D.bl r) [.gone, .gone, .gone] fl) (Z := false) ⟨_, ti_lF (e := (eP2 D.int D.int)) (te_lift (tv_old rfl)) rfl, rfl⟩ ⟨_, _, _, rfl⟩ (by
      rintro x4 ⟨⟩ _ c ⟨j1, j2, j3, rfl⟩ h
      unfold pl_reaches_out_2 at h
      try dsimp only at h
      refine ⟨_, rfl, ?_⟩
      replace h := bnd h
      obtain ⟨c17, h13, h⟩ := h
      refine go_forR (R := (fun (st : Unit) e => ∃ (j5 : S), e = [.t .old ((eL (eP2 D.int D.int)) mine_), .t .old ((eL (eP2 D.int D.int)) theirs_), .t .old ((eL (eL (eT D.str))) drawing_), .t .own (D.int x4.1), .t .own (D.int x4.2), j5])) (st := ()) (Ψ := fun r fl => RetOk 3 (D.bl r) [.gone, .gone, .gone] fl) (Z := false) ⟨_, ti_lF (e := D.int) (te_op (ta_cons (te_lift (tp_op (tp_cons (tv_own rfl rfl) (tp_cons tp_c rfl)) o_sub_i rfl)) (ta_cons (te_lift (tp_op (tp_cons (tv_own rfl rfl) (tp_cons tp_c rfl)) o_add_i rfl)) ta_nil)) rfl (o_lst_F (e := D.int) [(x4.2 - 1), (x4.2 + 1)] (Nat.le_of_ble_eq_true rfl)) rfl) rfl, rfl⟩ ⟨_, rfl⟩ (by
          rintro x6 ⟨⟩ _ c ⟨j5, rfl⟩ h
          unfold pl_reaches_out_1 at h
          try dsimp only at h
          refine ⟨_, (tg_set rfl), ?_⟩
          replace h := bnd h
          obtain ⟨x7, h8, h⟩ := h
          replace h := bnd h
          obtain ⟨b11, h12, h⟩ := h
          replace h := pit h
          obtain ⟨c1, h⟩ | ⟨c1, h⟩ := h
          · refine go_ifT (tb_val (tb_and (c := b11) (env2 := [.t .old ((eL (eP2 D.int D.int)) mine_), .t .old ((eL (eP2 D.int D.int)) theirs_), .t .old ((eL (eL (eT D.str))) drawing_), .t .own (D.int x4.1), .t .own (D.int x4.2), .t .own (D.int x6)]) (tb_e (te_lift (tp_chT tp_c (tv_own rfl rfl) (tp_op (tp_cons (tp_op (tp_cons (tv_old rfl) (tp_cons (tv_own rfl rfl) rfl)) (o_ix_lN (e := (eL (eT D.str))) h8) rfl) rfl) (o_len_l (e := (eT D.str))) rfl) o_le_i o_lt_i))) (fun c1 => by have h := pitT h12 c1; replace h := bnd h; obtain ⟨b9, h10, h⟩ := h; obtain rfl := pj1 h; exact (tb_e (te_lift (tp_op (tp_cons (tp_op (tp_cons (tv_own rfl rfl) (tp_cons (tv_own rfl rfl) rfl)) (o_tup_2 (e := D.int) (e2 := D.int)) rfl) (tp_cons (tv_old rfl) rfl)) (o_ni_p (e := (eP2 D.int D.int)) h10) rfl)))) (fun c1 => by have h := pitF h12 c1; obtain rfl := pj1 h; exact ⟨rfl, rfl⟩)) c1) ?_
            obtain rfl := pj1 h
            exact go_ret (ts_ret (te_lift tp_c)) ⟨_, _, rfl, (ro_k rfl rfl)⟩
          refine go_ifF (tb_val (tb_and (c := b11) (env2 := [.t .old ((eL (eP2 D.int D.int)) mine_), .t .old ((eL (eP2 D.int D.int)) theirs_), .t .old ((eL (eL (eT D.str))) drawing_), .t .own (D.int x4.1), .t .own (D.int x4.2), .t .own (D.int x6)]) (tb_e (te_lift (tp_chT tp_c (tv_own rfl rfl) (tp_op (tp_cons (tp_op (tp_cons (tv_old rfl) (tp_cons (tv_own rfl rfl) rfl)) (o_ix_lN (e := (eL (eT D.str))) h8) rfl) rfl) (o_len_l (e := (eT D.str))) rfl) o_le_i o_lt_i))) (fun c1 => by have h := pitT h12 c1; replace h := bnd h; obtain ⟨b9, h10, h⟩ := h; obtain rfl := pj1 h; exact (tb_e (te_lift (tp_op (tp_cons (tp_op (tp_cons (tv_own rfl rfl) (tp_cons (tv_own rfl rfl) rfl)) (o_tup_2 (e := D.int) (e2 := D.int)) rfl) (tp_cons (tv_old rfl) rfl)) (o_ni_p (e := (eP2 D.int D.int)) h10) rfl)))) (fun c1 => by have h := pitF h12 c1; obtain rfl := pj1 h; exact ⟨rfl, rfl⟩)) c1) ?_
          refine go_skip ?_
          obtain rfl := pj1 h
          exact ⟨_, .inl rfl, _, rfl⟩) h13 ?_ ?_
      · rintro r1 rfl _ _ q
        obtain rfl := pj1 h
        exact ⟨_, _, rfl, q⟩
      rintro _ rfl _ ⟨j16, rfl⟩
      try dsimp only at h
      obtain rfl := pj1 h
      exact ⟨_, .inl rfl, _, _, _, rfl⟩) h18 ?_ ?_
  · rintro r1 rfl _ _ q
    obtain rfl := pj1 h
    exact q
  rintro _ rfl _ ⟨j21, j22, j23, rfl⟩
  try dsimp only at h
  obtain rfl := pj1 h
  exact go_ret (ts_ret (te_lift tp_c)) (ro_k rfl rfl)
theorem t_seen {drawing_ : (List (List (List Str)))} {one_ : Str} {other_ : Str} {r : Str} (h : p_seen drawing_ one_ other_ = some r) : fn_seen [.t .old ((eL (eL (eT D.str))) drawing_), .t .old (D.str one_), .t .old (D.str other_)] = some ((D.str r), [.gone, .gone, .gone]) := by
  unfold p_seen at h
  unfold fn_seen
  refine fn_rt (L := [.t .old ((eL (eL (eT D.str))) drawing_), .t .old (D.str one_), .t .old (D.str other_), .gone, .gone, .gone, .gone]) rfl ?_
  unfold fb_seen
  replace h := bnd h
  obtain ⟨r1, h2, h⟩ := h
  refine go_seq (env1 := [.t .old ((eL (eL (eT D.str))) drawing_), .t .old (D.str one_), .t .old (D.str other_), .t .own ((eL (eP2 D.int D.int)) r1), .gone, .gone, .gone]) (ts_asg (te_call (env2 := [.t .old ((eL (eL (eT D.str))) drawing_), .t .old (D.str one_), .t .old (D.str other_), .gone, .gone, .gone, .gone]) (ta_cons (te_lift (tv_old rfl)) (ta_cons (te_lift (tv_old rfl)) ta_nil)) rfl rfl (t_plots_of h2) rfl) (tg_set rfl)) ?_
  replace h := bnd h
  obtain ⟨r3, h4, h⟩ := h
  refine go_seq (env1 := [.t .old ((eL (eL (eT D.str))) drawing_), .t .old (D.str one_), .t .old (D.str other_), .t .own ((eL (eP2 D.int D.int)) r1), .t .own ((eL (eP2 D.int D.int)) r3), .gone, .gone]) (ts_asg (te_call (env2 := [.t .old ((eL (eL (eT D.str))) drawing_), .t .old (D.str one_), .t .old (D.str other_), .t .own ((eL (eP2 D.int D.int)) r1), .gone, .gone, .gone]) (ta_cons (te_lift (tv_old rfl)) (ta_cons (te_lift (tv_old rfl)) ta_nil)) rfl rfl (t_plots_of h4) rfl) (tg_set rfl)) ?_
  refine go_frz (env1 := [.t .old ((eL (eL (eT D.str))) drawing_), .t .old (D.str one_), .t .old (D.str other_), .t .frz ((eL (eP2 D.int D.int)) r1), .t .own ((eL (eP2 D.int D.int)) r3), .gone, .gone]) rfl ?_
  replace h := bnd h
  obtain ⟨l8, h9, h⟩ := h
  refine go_seq (env1 := [.t .old ((eL (eL (eT D.str))) drawing_), .t .old (D.str one_), .t .old (D.str other_), .t .frz ((eL (eP2 D.int D.int)) r1), .t .own ((eL (eP2 D.int D.int)) r3), .t .own ((eL (eP2 D.int D.int)) l8), .gone]) (ts_asg (te_compPE (E := [.t .old ((eL (eL (eT D.str))) drawing_), .t .old (D.str one_), .t .old (D.str other_), .t .frz ((eL (eP2 D.int D.int)) r1), .t .own ((eL (eP2 D.int D.int)) r3), .gone, .gone]) (eb := (eP2 D.int D.int)) ⟨_, ti_lF (e := (eP2 D.int D.int)) (te_lift (tv_frz rfl)) rfl, rfl⟩ rfl (fun x5 o h => by
            unfold pc_seen_1 at h
            replace h := bnd h
            obtain ⟨b6, h7, h⟩ := h
            replace h := pit h
            obtain ⟨c1, h⟩ | ⟨c1, h⟩ := h
            · obtain rfl := pj1 h; exact ⟨_, _, _, (tg_set rfl), tb_val (tb_e (te_lift (tp_op (tp_cons (tv_own rfl rfl) (tp_cons (tv_own rfl rfl) rfl)) (o_in_p (e := (eP2 D.int D.int)) h7) rfl))) c1, .inr ⟨rfl, _, _, (te_lift (tv_own rfl rfl)), (tt1_flat (FlatE.out (e := (eP2 D.int D.int)) _)), rfl, rfl⟩⟩
            · obtain rfl := pj1 h; exact ⟨_, _, _, (tg_set rfl), tb_val (tb_e (te_lift (tp_op (tp_cons (tv_own rfl rfl) (tp_cons (tv_own rfl rfl) rfl)) (o_in_p (e := (eP2 D.int D.int)) h7) rfl))) c1, .inl ⟨rfl, rfl, rfl⟩⟩) h9 rfl) (tg_set rfl)) ?_
  replace h := pit h
  obtain ⟨c1, h⟩ | ⟨c1, h⟩ := h
  · refine go_ifTS (tb_val (tb_andP (tb_e (te_lift (tp_op (tp_cons (tp_op (tp_cons (tv_own rfl rfl) rfl) (o_len_l (e := (eP2 D.int D.int))) rfl) (tp_cons (tp_op (tp_cons (tv_frz rfl) rfl) (o_len_l (e := (eP2 D.int D.int))) rfl) rfl)) o_eq_i rfl))) (tb_e (te_lift (tp_op (tp_cons (tp_op (tp_cons (tv_own rfl rfl) rfl) (o_len_l (e := (eP2 D.int D.int))) rfl) (tp_cons (tp_op (tp_cons (tv_own rfl rfl) rfl) (o_len_l (e := (eP2 D.int D.int))) rfl) rfl)) o_eq_i rfl)))) c1) ?_
    obtain rfl := pj1 h
    exact go_retS (ts_ret (te_lift tp_c)) (ro_k rfl rfl)
  refine go_ifFS (tb_val (tb_andP (tb_e (te_lift (tp_op (tp_cons (tp_op (tp_cons (tv_own rfl rfl) rfl) (o_len_l (e := (eP2 D.int D.int))) rfl) (tp_cons (tp_op (tp_cons (tv_frz rfl) rfl) (o_len_l (e := (eP2 D.int D.int))) rfl) rfl)) o_eq_i rfl))) (tb_e (te_lift (tp_op (tp_cons (tp_op (tp_cons (tv_own rfl rfl) rfl) (o_len_l (e := (eP2 D.int D.int))) rfl) (tp_cons (tp_op (tp_cons (tv_own rfl rfl) rfl) (o_len_l (e := (eP2 D.int D.int))) rfl) rfl)) o_eq_i rfl)))) c1) ?_
  refine go_skipS ?_
  replace h := pit h
  obtain ⟨c1, h⟩ | ⟨c1, h⟩ := h
  · refine go_ifTS (tb_val (tb_e (te_lift (tp_op (tp_cons (tp_op (tp_cons (tv_own rfl rfl) rfl) (o_len_l (e := (eP2 D.int D.int))) rfl) (tp_cons (tp_op (tp_cons (tv_frz rfl) rfl) (o_len_l (e := (eP2 D.int D.int))) rfl) rfl)) o_eq_i rfl))) c1) ?_
    refine go_assoc ?_
    replace h := bnd h
    obtain ⟨r10, h11, h⟩ := h
    replace h := pit h
    obtain ⟨c1, h⟩ | ⟨c1, h⟩ := h
    · refine go_ifTS (tb_val (tb_e (te_call (env2 := [.t .old ((eL (eL (eT D.str))) drawing_), .t .old (D.str one_), .t .old (D.str other_), .t .frz ((eL (eP2 D.int D.int)) r1), .gone, .t .own ((eL (eP2 D.int D.int)) l8), .gone]) (ta_consY (te_lift (tv_frz rfl)) rfl (ta_cons (te_take rfl) (ta_cons (te_lift (tv_old rfl)) ta_nil))) rfl rfl (t_reaches_out h11) rfl)) c1) ?_
      obtain rfl := pj1 h
      exact go_retS (ts_ret (te_lift tp_c)) (ro_k rfl rfl)
    refine go_ifFS (tb_val (tb_e (te_call (env2 := [.t .old ((eL (eL (eT D.str))) drawing_), .t .old (D.str one_), .t .old (D.str other_), .t .frz ((eL (eP2 D.int D.int)) r1), .gone, .t .own ((eL (eP2 D.int D.int)) l8), .gone]) (ta_consY (te_lift (tv_frz rfl)) rfl (ta_cons (te_take rfl) (ta_cons (te_lift (tv_old rfl)) ta_nil))) rfl rfl (t_reaches_out h11) rfl)) c1) ?_
    refine go_skipS ?_
    obtain rfl := pj1 h
    exact go_retS (ts_ret (te_lift tp_c)) (ro_k rfl rfl)
  refine go_ifFS (tb_val (tb_e (te_lift (tp_op (tp_cons (tp_op (tp_cons (tv_own rfl rfl) rfl) (o_len_l (e := (eP2 D.int D.int))) rfl) (tp_cons (tp_op (tp_cons (tv_frz rfl) rfl) (o_len_l (e := (eP2 D.int D.int))) rfl) rfl)) o_eq_i rfl))) c1) ?_
  refine go_skipS ?_
  replace h := pit h
  obtain ⟨c1, h⟩ | ⟨c1, h⟩ := h
  · refine go_ifTS (tb_val (tb_e (te_lift (tp_op (tp_cons (tp_op (tp_cons (tv_own rfl rfl) rfl) (o_len_l (e := (eP2 D.int D.int))) rfl) (tp_cons (tp_op (tp_cons (tv_own rfl rfl) rfl) (o_len_l (e := (eP2 D.int D.int))) rfl) rfl)) o_eq_i rfl))) c1) ?_
    refine go_assoc ?_
    replace h := bnd h
    obtain ⟨r12, h13, h⟩ := h
    replace h := pit h
    obtain ⟨c1, h⟩ | ⟨c1, h⟩ := h
    · refine go_ifTS (tb_val (tb_e (te_call (env2 := [.t .old ((eL (eL (eT D.str))) drawing_), .t .old (D.str one_), .t .old (D.str other_), .t .frz ((eL (eP2 D.int D.int)) r1), .gone, .t .own ((eL (eP2 D.int D.int)) l8), .gone]) (ta_cons (te_take rfl) (ta_cons (te_lift (tv_frz rfl)) (ta_cons (te_lift (tv_old rfl)) ta_nil))) rfl rfl (t_reaches_out h13) rfl)) c1) ?_
      obtain rfl := pj1 h
      exact go_retS (ts_ret (te_lift tp_c)) (ro_k rfl rfl)
    refine go_ifFS (tb_val (tb_e (te_call (env2 := [.t .old ((eL (eL (eT D.str))) drawing_), .t .old (D.str one_), .t .old (D.str other_), .t .frz ((eL (eP2 D.int D.int)) r1), .gone, .t .own ((eL (eP2 D.int D.int)) l8), .gone]) (ta_cons (te_take rfl) (ta_cons (te_lift (tv_frz rfl)) (ta_cons (te_lift (tv_old rfl)) ta_nil))) rfl rfl (t_reaches_out h13) rfl)) c1) ?_
    refine go_skipS ?_
    obtain rfl := pj1 h
    exact go_retS (ts_ret (te_lift tp_c)) (ro_k rfl rfl)
  refine go_ifFS (tb_val (tb_e (te_lift (tp_op (tp_cons (tp_op (tp_cons (tv_own rfl rfl) rfl) (o_len_l (e := (eP2 D.int D.int))) rfl) (tp_cons (tp_op (tp_cons (tv_own rfl rfl) rfl) (o_len_l (e := (eP2 D.int D.int))) rfl) rfl)) o_eq_i rfl))) c1) ?_
  refine go_skipS ?_
  replace h := bnd h
  obtain ⟨b14, h15, h⟩ := h
  replace h := pit h
  obtain ⟨c1, h⟩ | ⟨c1, h⟩ := h
  · refine go_ifTS (tb_val (tb_e (te_lift (tp_op (tp_cons (tv_own rfl rfl) (tp_cons (tp_op rfl (o_lst_0 (e := (eP2 D.int D.int))) rfl) rfl)) (o_ne (e := (eL (eP2 D.int D.int))) h15) rfl))) c1) ?_
    obtain rfl := pj1 h
    exact go_retS (ts_ret (te_lift tp_c)) (ro_k rfl rfl)
  refine go_ifFS (tb_val (tb_e (te_lift (tp_op (tp_cons (tv_own rfl rfl) (tp_cons (tp_op rfl (o_lst_0 (e := (eP2 D.int D.int))) rfl) rfl)) (o_ne (e := (eL (eP2 D.int D.int))) h15) rfl))) c1) ?_
  refine go_skipS ?_
  replace h := bnd h
  obtain ⟨r16, h17, h⟩ := h
  replace h := pit h
  obtain ⟨c1, h⟩ | ⟨c1, h⟩ := h
  · refine go_ifTS (tb_val (tb_e (te_call (env2 := [.t .old ((eL (eL (eT D.str))) drawing_), .t .old (D.str one_), .t .old (D.str other_), .t .frz ((eL (eP2 D.int D.int)) r1), .gone, .t .own ((eL (eP2 D.int D.int)) l8), .gone]) (ta_consY (te_lift (tv_frz rfl)) rfl (ta_cons (te_take rfl) ta_nil)) rfl rfl (t_are_near h17) rfl)) c1) ?_
    obtain rfl := pj1 h
    exact go_retS (ts_ret (te_lift tp_c)) (ro_k rfl rfl)
  refine go_ifFS (tb_val (tb_e (te_call (env2 := [.t .old ((eL (eL (eT D.str))) drawing_), .t .old (D.str one_), .t .old (D.str other_), .t .frz ((eL (eP2 D.int D.int)) r1), .gone, .t .own ((eL (eP2 D.int D.int)) l8), .gone]) (ta_consY (te_lift (tv_frz rfl)) rfl (ta_cons (te_take rfl) ta_nil)) rfl rfl (t_are_near h17) rfl)) c1) ?_
  refine go_skipS ?_
  obtain rfl := pj1 h
  exact go_ret (ts_ret (te_lift tp_c)) (ro_k rfl rfl)
theorem t_sight {drawing_ : (List (List (List Str)))} {r : (List ((Str × Str) × Str))} (h : p_sight drawing_ = some r) : fn_sight [.t .old ((eL (eL (eT D.str))) drawing_)] = some (((eDT D.str) r), [.gone]) := by
  unfold p_sight at h
  unfold fn_sight
  refine fn_rt (L := [.t .old ((eL (eL (eT D.str))) drawing_), .gone, .gone, .gone, .gone]) rfl ?_
  unfold fb_sight
  replace h := bnd h
  obtain ⟨r1, h2, h⟩ := h
  refine go_seq (env1 := [.t .old ((eL (eL (eT D.str))) drawing_), .t .own ((eL D.str) r1), .gone, .gone, .gone]) (ts_asg (te_call (env2 := [.t .old ((eL (eL (eT D.str))) drawing_), .gone, .gone, .gone, .gone]) (ta_cons (te_lift (tv_old rfl)) ta_nil) rfl rfl (t_lands h2) rfl) (tg_set rfl)) ?_
  refine go_seq (env1 := [.t .old ((eL (eL (eT D.str))) drawing_), .t .own ((eL D.str) r1), .t .own ((eDT D.str) ([] : (List ((Str × Str) × Str)))), .gone, .gone]) (ts_asg (te_lift rfl) (tg_set rfl)) ?_
  refine go_frz (env1 := [.t .old ((eL (eL (eT D.str))) drawing_), .t .frz ((eL D.str) r1), .t .own ((eDT D.str) ([] : (List ((Str × Str) × Str)))), .gone, .gone]) rfl ?_
  replace h := bnd h
  obtain ⟨found_22, h19, h⟩ := h
  refine go_forS (R := (fun (st : (List ((Str × Str) × Str))) e => ∃ (j4 : S) (j5 : S), e = [.t .old ((eL (eL (eT D.str))) drawing_), .t .frz ((eL D.str) r1), .t .own ((eDT D.str) st), j4, j5])) (st := ([] : (List ((Str × Str) × Str)))) (Z := false) ⟨_, ti_lF (e := D.str) (te_lift (tv_frz rfl)) rfl, rfl⟩ ⟨_, _, rfl⟩ (by
      rintro x6 found_3 _ st1 ⟨j4, j5, rfl⟩ h
      unfold pl_sight_2 at h
      try dsimp only at h
      refine ⟨_, (tg_set rfl), ?_⟩
      replace h := bnd h
      obtain ⟨found_17, h14, h⟩ := h
      refine go_for (R := (fun (st : (List ((Str × Str) × Str))) e => ∃ (j8 : S), e = [.t .old ((eL (eL (eT D.str))) drawing_), .t .frz ((eL D.str) r1), .t .own ((eDT D.str) st), .t .own (D.str x6), j8])) (st := found_3) (Z := false) ⟨_, ti_lF (e := D.str) (te_lift (tv_frz rfl)) rfl, rfl⟩ ⟨_, rfl⟩ (by
          rintro x9 found_7 _ st1 ⟨j8, rfl⟩ h
          unfold pl_sight_1 at h
          try dsimp only at h
          refine ⟨_, (tg_set rfl), ?_⟩
          replace h := pit h
          obtain ⟨c1, h⟩ | ⟨c1, h⟩ := h
          · refine go_ifT (tb_val (tb_e (te_lift (tp_op (tp_cons (tv_own rfl rfl) (tp_cons (tv_own rfl rfl) rfl)) o_lt_s rfl))) c1) ?_
            replace h := bnd h
            obtain ⟨r10, h11, h⟩ := h
            replace h := bnd h
            obtain ⟨l12, h13, h⟩ := h
            refine go_one (env1 := [.t .old ((eL (eL (eT D.str))) drawing_), .t .frz ((eL D.str) r1), .t .own ((eDT D.str) l12), .t .own (D.str x6), .t .own (D.str x9)]) (ts_put (te_call (env2 := [.t .old ((eL (eL (eT D.str))) drawing_), .t .frz ((eL D.str) r1), .t .own ((eDT D.str) found_7), .t .own (D.str x6), .t .own (D.str x9)]) (ta_cons (te_lift (tv_old rfl)) (ta_cons (te_lift (tv_own rfl rfl)) (ta_cons (te_lift (tv_own rfl rfl)) ta_nil))) rfl rfl (t_seen h11) rfl) rfl rfl (te_lift (tp_op (tp_cons (tv_own rfl rfl) (tp_cons (tv_own rfl rfl) rfl)) (o_tup_2 (e := D.str) (e2 := D.str)) rfl)) rfl rfl rfl (u_put_kt (e := D.str) h13) rfl) ?_
            obtain rfl := pj1 h
            exact ⟨_, .inl rfl, _, rfl⟩
          refine go_ifF (tb_val (tb_e (te_lift (tp_op (tp_cons (tv_own rfl rfl) (tp_cons (tv_own rfl rfl) rfl)) o_lt_s rfl))) c1) ?_
          refine go_skip ?_
          obtain rfl := pj1 h
          exact ⟨_, .inl rfl, _, rfl⟩) h14 ?_
      rintro _ ⟨j18, rfl⟩
      obtain rfl := pj1 h
      exact ⟨_, .inl rfl, _, _, rfl⟩) h19 ?_
  rintro _ ⟨j23, j24, rfl⟩
  obtain rfl := pj1 h
  exact go_ret (ts_ret (te_take rfl)) (ro_k rfl rfl)
theorem t_copied {drawing_ : (List (List (List Str)))} {r : (List (List (List Str)))} (h : p_copied drawing_ = some r) : fn_copied [.t .old ((eL (eL (eT D.str))) drawing_)] = some (((eL (eL (eT D.str))) r), [.gone]) := by
  unfold p_copied at h
  unfold fn_copied
  refine fn_rt (L := [.t .old ((eL (eL (eT D.str))) drawing_), .gone]) rfl ?_
  unfold fb_copied
  obtain rfl := pj1 h
  exact go_ret (ts_ret (te_cast (te_pickE (E := [.t .old ((eL (eL (eT D.str))) drawing_), .gone]) (c := (fun x1 => true)) (f := (fun x1 => x1)) (eb := (eL (eT D.str))) (ti_lNZ (e := (eL (eT D.str))) (te_lift (tv_old rfl)) rfl) rfl (fun x1 => ⟨_, _, (tg_set rfl), tb_yes, rfl, fun c1 => ⟨_, _, (te_lift (tp_op (tp_cons (tv_old rfl) rfl) (o_list_lF (e := (eT D.str))) rfl)), rfl, rfl⟩⟩) rfl) (congrArg (eL (eL (eT D.str))) (filter_yes_id)))) (ro_k rfl rfl)
theorem t_trimmed {drawing_ : (List (List (List Str)))} {r : (List (List (List Str)))} (h : p_trimmed drawing_ = some r) : fn_trimmed [.t .old ((eL (eL (eT D.str))) drawing_)] = some (((eL (eL (eT D.str))) r), [.gone]) := by
  unfold p_trimmed at h
  unfold fn_trimmed
  refine fn_rt (L := [.t .old ((eL (eL (eT D.str))) drawing_), .gone, .gone, .gone, .gone, .gone]) rfl ?_
  unfold fb_trimmed
  replace h := bnd h
  obtain ⟨r1, h2, h⟩ := h
  refine go_seq (env1 := [.t .old ((eL (eL (eT D.str))) drawing_), .t .own ((eDT D.str) r1), .gone, .gone, .gone, .gone]) (ts_asg (te_call (env2 := [.t .old ((eL (eL (eT D.str))) drawing_), .gone, .gone, .gone, .gone, .gone]) (ta_cons (te_lift (tv_old rfl)) ta_nil) rfl rfl (t_sight h2) rfl) (tg_set rfl)) ?_
  replace h := bnd h
  obtain ⟨r3, h4, h⟩ := h
  refine go_seq (env1 := [.t .old ((eL (eL (eT D.str))) drawing_), .t .own ((eDT D.str) r1), .t .own ((eL D.str) r3), .gone, .gone, .gone]) (ts_asg (te_call (env2 := [.t .old ((eL (eL (eT D.str))) drawing_), .t .own ((eDT D.str) r1), .gone, .gone, .gone, .gone]) (ta_cons (te_lift (tv_old rfl)) ta_nil) rfl rfl (t_lands h4) rfl) (tg_set rfl)) ?_
  replace h := bnd h
  obtain ⟨r5, h6, h⟩ := h
  refine go_seq (env1 := [.t .old ((eL (eL (eT D.str))) drawing_), .t .own ((eDT D.str) r1), .t .own ((eL D.str) r3), .t .own ((eL (eL (eT D.str))) r5), .gone, .gone]) (ts_asg (te_call (env2 := [.t .old ((eL (eL (eT D.str))) drawing_), .t .own ((eDT D.str) r1), .t .own ((eL D.str) r3), .gone, .gone, .gone]) (ta_cons (te_lift (tv_old rfl)) ta_nil) rfl rfl (t_copied h6) rfl) (tg_set rfl)) ?_
  refine go_seq (env1 := [.t .old ((eL (eL (eT D.str))) drawing_), .t .own ((eDT D.str) r1), .t .own ((eL D.str) r3), .t .own ((eL (eL (eT D.str))) r5), .t .own (D.int 0), .gone]) (ts_asg (te_lift tp_c) (tg_set rfl)) ?_
  refine go_frz (env1 := [.t .old ((eL (eL (eT D.str))) drawing_), .t .own ((eDT D.str) r1), .t .own ((eL D.str) r3), .t .frz ((eL (eL (eT D.str))) r5), .t .own (D.int 0), .gone]) rfl ?_
  replace h := bnd h
  obtain ⟨⟨left_23, at_24⟩, h20, h⟩ := h
  try dsimp only at h
  refine go_whileS (R := (fun (st : ((List (List (List Str))) × Int)) e => ∃ (j9 : S), e = [.t .old ((eL (eL (eT D.str))) drawing_), .t .own ((eDT D.str) r1), .t .own ((eL D.str) r3), .t .frz ((eL (eL (eT D.str))) st.1), .t .own (D.int st.2), j9])) (st := (r5, 0)) ⟨_, rfl⟩ (by
      rintro ⟨left_7, at_8⟩ _ b ⟨j9, rfl⟩ h
      unfold pt_trimmed_1 at h
      try dsimp only at h
      obtain rfl := pj1 h
      exact ⟨_, (tb_e (te_lift (tp_op (tp_cons (tv_own rfl rfl) (tp_cons (tp_op (tp_cons (tv_frz rfl) rfl) (o_len_l (e := (eL (eT D.str)))) rfl) rfl)) o_lt_i rfl))), ⟨_, rfl⟩⟩) (by
      rintro ⟨left_7, at_8⟩ _ st1 ⟨j9, rfl⟩ h
      unfold pl_trimmed_2 at h
      try dsimp only at h
      replace h := bnd h
      obtain ⟨l10, h11, h⟩ := h
      refine go_seq (env1 := [.t .old ((eL (eL (eT D.str))) drawing_), .t .own ((eDT D.str) r1), .t .own ((eL D.str) r3), .t .frz ((eL (eL (eT D.str))) left_7), .t .own (D.int at_8), .t .frz ((eL (eL (eT D.str))) l10)]) (ts_asg (te_drop rfl rfl h11 (by decide) (by decide) rfl) (tg_set rfl)) ?_
      replace h := bnd h
      obtain ⟨r12, h13, h⟩ := h
      replace h := bnd h
      obtain ⟨b14, h15, h⟩ := h
      replace h := bnd h
      obtain ⟨b18, h19, h⟩ := h
      replace h := pit h
      obtain ⟨c1, h⟩ | ⟨c1, h⟩ := h
      · refine go_ifT (tb_val (tb_and (c := b18) (env2 := [.t .old ((eL (eL (eT D.str))) drawing_), .t .own ((eDT D.str) r1), .t .own ((eL D.str) r3), .t .frz ((eL (eL (eT D.str))) left_7), .t .own (D.int at_8), .t .frz ((eL (eL (eT D.str))) l10)]) (tb_e (te_op (ta_cons (te_call (env2 := [.t .old ((eL (eL (eT D.str))) drawing_), .t .own ((eDT D.str) r1), .t .own ((eL D.str) r3), .t .frz ((eL (eL (eT D.str))) left_7), .t .own (D.int at_8), .t .frz ((eL (eL (eT D.str))) l10)]) (ta_cons (te_lift (tv_frz rfl)) ta_nil) rfl rfl (t_lands h13) rfl) (ta_cons (te_lift (tv_own rfl rfl)) ta_nil)) rfl (o_eq (e := (eL D.str)) h15) rfl)) (fun c1 => by have h := pitT h19 c1; replace h := bnd h; obtain ⟨r16, h17, h⟩ := h; obtain rfl := pj1 h; exact (tb_e (te_op (ta_cons (te_call (env2 := [.t .old ((eL (eL (eT D.str))) drawing_), .t .own ((eDT D.str) r1), .t .own ((eL D.str) r3), .t .frz ((eL (eL (eT D.str))) left_7), .t .own (D.int at_8), .t .frz ((eL (eL (eT D.str))) l10)]) (ta_cons (te_lift (tv_frz rfl)) ta_nil) rfl rfl (t_sight h17) rfl) (ta_cons (te_lift (tv_own rfl rfl)) ta_nil)) rfl o_eqT rfl))) (fun c1 => by have h := pitF h19 c1; obtain rfl := pj1 h; exact ⟨rfl, rfl⟩)) c1) ?_
        refine go_one (env1 := [.t .old ((eL (eL (eT D.str))) drawing_), .t .own ((eDT D.str) r1), .t .own ((eL D.str) r3), .t .frz ((eL (eL (eT D.str))) l10), .t .own (D.int at_8), .t .frz ((eL (eL (eT D.str))) l10)]) (ts_asg (te_lift (tv_frz rfl)) (tg_set rfl)) ?_
        obtain rfl := pj1 h
        exact ⟨_, .inl rfl, _, rfl⟩
      refine go_ifF (tb_val (tb_and (c := b18) (env2 := [.t .old ((eL (eL (eT D.str))) drawing_), .t .own ((eDT D.str) r1), .t .own ((eL D.str) r3), .t .frz ((eL (eL (eT D.str))) left_7), .t .own (D.int at_8), .t .frz ((eL (eL (eT D.str))) l10)]) (tb_e (te_op (ta_cons (te_call (env2 := [.t .old ((eL (eL (eT D.str))) drawing_), .t .own ((eDT D.str) r1), .t .own ((eL D.str) r3), .t .frz ((eL (eL (eT D.str))) left_7), .t .own (D.int at_8), .t .frz ((eL (eL (eT D.str))) l10)]) (ta_cons (te_lift (tv_frz rfl)) ta_nil) rfl rfl (t_lands h13) rfl) (ta_cons (te_lift (tv_own rfl rfl)) ta_nil)) rfl (o_eq (e := (eL D.str)) h15) rfl)) (fun c1 => by have h := pitT h19 c1; replace h := bnd h; obtain ⟨r16, h17, h⟩ := h; obtain rfl := pj1 h; exact (tb_e (te_op (ta_cons (te_call (env2 := [.t .old ((eL (eL (eT D.str))) drawing_), .t .own ((eDT D.str) r1), .t .own ((eL D.str) r3), .t .frz ((eL (eL (eT D.str))) left_7), .t .own (D.int at_8), .t .frz ((eL (eL (eT D.str))) l10)]) (ta_cons (te_lift (tv_frz rfl)) ta_nil) rfl rfl (t_sight h17) rfl) (ta_cons (te_lift (tv_own rfl rfl)) ta_nil)) rfl o_eqT rfl))) (fun c1 => by have h := pitF h19 c1; obtain rfl := pj1 h; exact ⟨rfl, rfl⟩)) c1) ?_
      refine go_one (env1 := [.t .old ((eL (eL (eT D.str))) drawing_), .t .own ((eDT D.str) r1), .t .own ((eL D.str) r3), .t .frz ((eL (eL (eT D.str))) left_7), .t .own (D.int (at_8 + 1)), .t .frz ((eL (eL (eT D.str))) l10)]) (ts_asg (te_lift (tp_op (tp_cons (tv_own rfl rfl) (tp_cons tp_c rfl)) o_add_i rfl)) (tg_set rfl)) ?_
      obtain rfl := pj1 h
      exact ⟨_, .inl rfl, _, rfl⟩) h20 ?_
  rintro _ ⟨j25, rfl⟩
  obtain rfl := pj1 h
  exact go_ret (ts_ret (te_lift (tv_frz rfl))) (ro_k rfl rfl)
theorem kb1 : kitB "str" "bool" = some false := by kernel_rfl
theorem kb2 : kitB "str" "str" = some true := by kernel_rfl
theorem kb3 : kitB "tuple" "bool" = some false := by kernel_rfl
theorem kb4 : kitB "tuple" "str" = some false := by kernel_rfl
theorem kb5 : kitB "tuple" "int" = some false := by kernel_rfl
theorem kb6 : kitB "tuple" "dict" = some false := by kernel_rfl
theorem kb7 : kitB "tuple" "tuple" = some true := by kernel_rfl
theorem kb8 : kitB "tuple" "list" = some false := by kernel_rfl
theorem kb9 : kitB "bool" "bool" = some true := by kernel_rfl
theorem kb10 : kitB "int" "bool" = some false := by kernel_rfl
theorem kb11 : kitB "int" "str" = some false := by kernel_rfl
theorem kb12 : kitB "int" "int" = some true := by kernel_rfl
theorem kb13 : kitB "NoneType" "bool" = some false := by kernel_rfl
theorem kb14 : kitB "NoneType" "str" = some false := by kernel_rfl
theorem kb15 : kitB "NoneType" "int" = some false := by kernel_rfl
theorem kb16 : kitB "list" "bool" = some false := by kernel_rfl
theorem kb17 : kitB "list" "str" = some false := by kernel_rfl
theorem kb18 : kitB "list" "int" = some false := by kernel_rfl
theorem kb19 : kitB "list" "dict" = some false := by kernel_rfl
theorem kb20 : kitB "list" "tuple" = some false := by kernel_rfl
theorem kb21 : kitB "list" "list" = some true := by kernel_rfl
theorem like_eq_str (x : Str) (hx : PyData.strOk x = true) : oEq [.str x, .str x] = some (.imm, .bl true) := by
  simp [oEq, D.pure, D.py, PyData.eqv, SeqAt.shaped, PyData.canLay0, PyData.depth, hx]
theorem like_loop (r : Fn) (a b : D) (n : Nat) (hx : ∀ i : Nat, i < n → ∃ d e rk rk', oIx [a, .int i] = some (rk, d) ∧ oIx [b, .int i] = some (rk', e) ∧ r [.t .old d, .t .old e] = some (.bl true, [.gone, .gone])) : ∀ (items : List T) (s : S), (∀ t ∈ items, ∃ i : Nat, t = (.own, .int i) ∧ i < n) →
    ∃ s', sLoop (gSet 3) (lb__law_like_1 r) items [.t .old a, .t .old b, .gone, s] = some (.nx [.t .old a, .t .old b, .gone, s'])
  | [], s, _ => ⟨s, rfl⟩
  | t :: ts, s, h => by
    obtain ⟨i, rfl, hi⟩ := h t List.mem_cons_self
    obtain ⟨d, e, rk, rk', h1, h2, h3⟩ := hx i hi
    obtain ⟨s', e2⟩ := like_loop r a b n hx ts (.t .own (.int i)) (fun t ht => h t (List.mem_cons_of_mem _ ht))
    refine ⟨s', ?_⟩
    rw [← e2]
    cases rk <;> cases rk' <;> simp [sSeq, sIf, bE, lift, pOp, pCons, pVar, oGt, oGe, oLe, oLen, sAsg, gSet, oMod, sPut, oSetL, oDiv, oAdd, oSub, oMul, oPow, T.sl, pC, S.get, S.with, tt1, D.isTy, D.flat, D.flats, sRet, eTake, outs, S.only, Rk.pk, pJoin, Tk.join, Rk.kind, eIf, eOp, aCons, tmps, kJoin, aPtr, eCall, argS, wb, ptrs, S.back, S.wr, S.d?, S.isBor, oTup, oLst, oTuple, oInt, iSq, iSeqL, iSeqT, sk_t_own_t, sk_t_own_f, sk_t_frz_t, sk_t_frz_f, sk_t_old_t, sk_t_old_f, sk_t_val_t, sk_t_val_f, sk_t_bor_t, sk_t_bor_f, sk_f_own_t, sk_f_own_f, sk_f_frz_t, sk_f_frz_f, sk_f_old_t, sk_f_old_f, sk_f_val_t, sk_f_val_f, sk_f_bor_t, sk_f_bor_f, sFor, sLoop, Tk.mix, S.clean, wipeE, oList, bNot, bAnd, bOr, eB, pIsi, D.tyn, iRange1, eMut, tts, sExpr, bAnd, bOr, lb__law_like_1, h1, h2, h3]
theorem like_ok : ∀ (n : Nat) (a b : D), LikeL n a b → fnRec 4 fb__law_like n [.t .old a, .t .old b] = some (.bl true, [.gone, .gone])
  | 0, _, _, h => h.elim
  | n + 1, .str x, b, h => by
    cases b <;> first | exact h.elim | skip
    obtain ⟨rfl, hx⟩ := h
    simp only [fnRec, fnOf]
    unfold fb__law_like
    simp [sSeq, sIf, bE, lift, pOp, pCons, pVar, oIx, atI, ixN, oGt, oGe, oLe, oLen, sAsg, gSet, oMod, sPut, oSetL, oDiv, oAdd, oSub, oMul, oPow, T.sl, pC, S.get, S.with, tt1, D.isTy, D.flat, D.flats, sRet, eTake, outs, S.only, Rk.pk, pJoin, Tk.join, Rk.kind, eIf, eOp, aCons, tmps, kJoin, aPtr, eCall, argS, wb, ptrs, S.back, S.wr, S.d?, S.isBor, oTup, oLst, oTuple, oInt, iSq, iSeqL, iSeqT, sk_t_own_t, sk_t_own_f, sk_t_frz_t, sk_t_frz_f, sk_t_old_t, sk_t_old_f, sk_t_val_t, sk_t_val_f, sk_t_bor_t, sk_t_bor_f, sk_f_own_t, sk_f_own_f, sk_f_frz_t, sk_f_frz_f, sk_f_old_t, sk_f_old_f, sk_f_val_t, sk_f_val_f, sk_f_bor_t, sk_f_bor_f, sFor, sLoop, Tk.mix, S.clean, wipeE, oList, bNot, bAnd, bOr, eB, pIsi, D.tyn, iRange1, eMut, tts, sExpr, bAnd, bOr, kb1, kb2, like_eq_str x hx]
  | n + 1, .bl x, b, h => by
    cases b <;> first | exact h.elim | skip
    have h : x = _ := h
    subst h
    simp only [fnRec, fnOf]
    unfold fb__law_like
    simp [sSeq, sIf, bE, lift, pOp, pCons, pVar, oIx, atI, ixN, oGt, oGe, oLe, oLen, sAsg, gSet, oMod, sPut, oSetL, oDiv, oAdd, oSub, oMul, oPow, T.sl, pC, S.get, S.with, tt1, D.isTy, D.flat, D.flats, sRet, eTake, outs, S.only, Rk.pk, pJoin, Tk.join, Rk.kind, eIf, eOp, aCons, tmps, kJoin, aPtr, eCall, argS, wb, ptrs, S.back, S.wr, S.d?, S.isBor, oTup, oLst, oTuple, oInt, iSq, iSeqL, iSeqT, sk_t_own_t, sk_t_own_f, sk_t_frz_t, sk_t_frz_f, sk_t_old_t, sk_t_old_f, sk_t_val_t, sk_t_val_f, sk_t_bor_t, sk_t_bor_f, sk_f_own_t, sk_f_own_f, sk_f_frz_t, sk_f_frz_f, sk_f_old_t, sk_f_old_f, sk_f_val_t, sk_f_val_f, sk_f_bor_t, sk_f_bor_f, sFor, sLoop, Tk.mix, S.clean, wipeE, oList, bNot, bAnd, bOr, eB, pIsi, D.tyn, iRange1, eMut, tts, sExpr, bAnd, bOr, kb9, o_eq_b]
  | n + 1, .int x, b, h => by
    cases b <;> first | exact h.elim | skip
    have h : x = _ := h
    subst h
    simp only [fnRec, fnOf]
    unfold fb__law_like
    simp [sSeq, sIf, bE, lift, pOp, pCons, pVar, oIx, atI, ixN, oGt, oGe, oLe, oLen, sAsg, gSet, oMod, sPut, oSetL, oDiv, oAdd, oSub, oMul, oPow, T.sl, pC, S.get, S.with, tt1, D.isTy, D.flat, D.flats, sRet, eTake, outs, S.only, Rk.pk, pJoin, Tk.join, Rk.kind, eIf, eOp, aCons, tmps, kJoin, aPtr, eCall, argS, wb, ptrs, S.back, S.wr, S.d?, S.isBor, oTup, oLst, oTuple, oInt, iSq, iSeqL, iSeqT, sk_t_own_t, sk_t_own_f, sk_t_frz_t, sk_t_frz_f, sk_t_old_t, sk_t_old_f, sk_t_val_t, sk_t_val_f, sk_t_bor_t, sk_t_bor_f, sk_f_own_t, sk_f_own_f, sk_f_frz_t, sk_f_frz_f, sk_f_old_t, sk_f_old_f, sk_f_val_t, sk_f_val_f, sk_f_bor_t, sk_f_bor_f, sFor, sLoop, Tk.mix, S.clean, wipeE, oList, bNot, bAnd, bOr, eB, pIsi, D.tyn, iRange1, eMut, tts, sExpr, bAnd, bOr, kb10, kb11, kb12, o_eq_i]
  | n + 1, .non, b, h => by
    cases b <;> first | exact h.elim | skip
    simp only [fnRec, fnOf]
    unfold fb__law_like
    simp [sSeq, sIf, bE, lift, pOp, pCons, pVar, oIx, atI, ixN, oGt, oGe, oLe, oLen, sAsg, gSet, oMod, sPut, oSetL, oDiv, oAdd, oSub, oMul, oPow, T.sl, pC, S.get, S.with, tt1, D.isTy, D.flat, D.flats, sRet, eTake, outs, S.only, Rk.pk, pJoin, Tk.join, Rk.kind, eIf, eOp, aCons, tmps, kJoin, aPtr, eCall, argS, wb, ptrs, S.back, S.wr, S.d?, S.isBor, oTup, oLst, oTuple, oInt, iSq, iSeqL, iSeqT, sk_t_own_t, sk_t_own_f, sk_t_frz_t, sk_t_frz_f, sk_t_old_t, sk_t_old_f, sk_t_val_t, sk_t_val_f, sk_t_bor_t, sk_t_bor_f, sk_f_own_t, sk_f_own_f, sk_f_frz_t, sk_f_frz_f, sk_f_old_t, sk_f_old_f, sk_f_val_t, sk_f_val_f, sk_f_bor_t, sk_f_bor_f, sFor, sLoop, Tk.mix, S.clean, wipeE, oList, bNot, bAnd, bOr, eB, pIsi, D.tyn, iRange1, eMut, tts, sExpr, bAnd, bOr, kb13, kb14, kb15, oIsN, D.isNon]
  | n + 1, .tup ds, b, h => by
    cases b with
    | tup es =>
      obtain ⟨hl, hn, hr⟩ := h
      obtain ⟨s', e⟩ := like_loop (fnRec 4 fb__law_like n) (.tup ds) (.tup es) es.length (fun i hi => by
        have hd : ds[i]? = some (ds[i]'(by omega)) := by simp [hl, hi]
        have he : es[i]? = some es[i] := by simp [hi]
        obtain ⟨f1, f2, q⟩ := hr i _ _ hd he
        refine ⟨ds[i]'(by omega), es[i], .imm, .imm, ?_, ?_, like_ok n _ _ q⟩
        · unfold oIx atI ixN; simp [hl, hi, f1]
        · unfold oIx atI ixN; simp [hi, f2]) (upTo 0 es.length) .gone (fun t ht => by
        obtain ⟨j, hj⟩ := List.getElem?_of_mem ht
        obtain ⟨rfl, hj2⟩ := upTo_get hj
        exact ⟨j, by simp, hj2⟩)
      simp only [fnRec, fnOf]
      generalize fnRec 4 fb__law_like n = R at *
      unfold fb__law_like
      have h1 : (-16777216 : Int) ≤ es.length := by omega
      have h2 : (es.length : Int) ≤ 16777216 := by omega
      have h3 : oNe [.int ds.length, .int es.length] = some (.imm, .bl false) := by rw [o_ne_i]; simp [hl]
      simp [sSeq, sIf, bE, lift, pOp, pCons, pVar, oGt, oGe, oLe, oLen, sAsg, gSet, oMod, sPut, oSetL, oDiv, oAdd, oSub, oMul, oPow, T.sl, pC, S.get, S.with, tt1, D.isTy, D.flat, D.flats, sRet, eTake, outs, S.only, Rk.pk, pJoin, Tk.join, Rk.kind, eIf, eOp, aCons, tmps, kJoin, aPtr, eCall, argS, wb, ptrs, S.back, S.wr, S.d?, S.isBor, oTup, oLst, oTuple, oInt, iSq, iSeqL, iSeqT, sk_t_own_t, sk_t_own_f, sk_t_frz_t, sk_t_frz_f, sk_t_old_t, sk_t_old_f, sk_t_val_t, sk_t_val_f, sk_t_bor_t, sk_t_bor_f, sk_f_own_t, sk_f_own_f, sk_f_frz_t, sk_f_frz_f, sk_f_old_t, sk_f_old_f, sk_f_val_t, sk_f_val_f, sk_f_bor_t, sk_f_bor_f, sFor, sLoop, Tk.mix, S.clean, wipeE, oList, bNot, bAnd, bOr, eB, pIsi, D.tyn, iRange1, eMut, tts, sExpr, bAnd, bOr, kb3, kb4, kb5, kb6, kb7, kb8, h3, o_ne_b, h1, h2, e, oIsN, D.isNon]
    | _ => exact h.elim
  | n + 1, .lst ds, b, h => by
    cases b with
    | lst es =>
      obtain ⟨hl, hn, hr⟩ := h
      obtain ⟨s', e⟩ := like_loop (fnRec 4 fb__law_like n) (.lst ds) (.lst es) es.length (fun i hi => by
        have hd : ds[i]? = some (ds[i]'(by omega)) := by simp [hl, hi]
        have he : es[i]? = some es[i] := by simp [hi]
        have q := hr i _ _ hd he
        refine ⟨ds[i]'(by omega), es[i], if (ds[i]'(by omega)).flat then .imm else .sub, if es[i].flat then .imm else .sub, ?_, ?_, like_ok n _ _ q⟩
        · unfold oIx atI ixN; simp [hl, hi]
        · unfold oIx atI ixN; simp [hi]) (upTo 0 es.length) .gone (fun t ht => by
        obtain ⟨j, hj⟩ := List.getElem?_of_mem ht
        obtain ⟨rfl, hj2⟩ := upTo_get hj
        exact ⟨j, by simp, hj2⟩)
      simp only [fnRec, fnOf]
      generalize fnRec 4 fb__law_like n = R at *
      unfold fb__law_like
      have h1 : (-16777216 : Int) ≤ es.length := by omega
      have h2 : (es.length : Int) ≤ 16777216 := by omega
      have h3 : oNe [.int ds.length, .int es.length] = some (.imm, .bl false) := by rw [o_ne_i]; simp [hl]
      simp [sSeq, sIf, bE, lift, pOp, pCons, pVar, oGt, oGe, oLe, oLen, sAsg, gSet, oMod, sPut, oSetL, oDiv, oAdd, oSub, oMul, oPow, T.sl, pC, S.get, S.with, tt1, D.isTy, D.flat, D.flats, sRet, eTake, outs, S.only, Rk.pk, pJoin, Tk.join, Rk.kind, eIf, eOp, aCons, tmps, kJoin, aPtr, eCall, argS, wb, ptrs, S.back, S.wr, S.d?, S.isBor, oTup, oLst, oTuple, oInt, iSq, iSeqL, iSeqT, sk_t_own_t, sk_t_own_f, sk_t_frz_t, sk_t_frz_f, sk_t_old_t, sk_t_old_f, sk_t_val_t, sk_t_val_f, sk_t_bor_t, sk_t_bor_f, sk_f_own_t, sk_f_own_f, sk_f_frz_t, sk_f_frz_f, sk_f_old_t, sk_f_old_f, sk_f_val_t, sk_f_val_f, sk_f_bor_t, sk_f_bor_f, sFor, sLoop, Tk.mix, S.clean, wipeE, oList, bNot, bAnd, bOr, eB, pIsi, D.tyn, iRange1, eMut, tts, sExpr, bAnd, bOr, kb16, kb17, kb18, kb19, kb20, kb21, h3, o_ne_b, h1, h2, e, oIsN, D.isNon]
    | _ => exact h.elim
  | n + 1, .scr _, b, h => by cases b <;> exact h.elim
  | n + 1, .dK _, b, h => by cases b <;> exact h.elim
  | n + 1, .dT _, b, h => by cases b <;> exact h.elim
  | n + 1, .ins _ _, b, h => by cases b <;> exact h.elim
theorem t__law_like {a b : D} {r : Bool} (h : p__law_like a b = some r) : fn__law_like [.t .old a, .t .old b] = some (.bl r, [.gone, .gone]) := by
  unfold p__law_like at h
  split at h
  · rename_i q; cases h; exact like_ok 5 _ _ q
  · cases h

theorem t_law {script_ : (List Int)} {r : Bool} (h : p_law script_ = some r) : fn_law [.t .old (D.scr script_)] = some ((D.bl r), [.gone]) := by
  unfold p_law at h
  unfold fn_law
  refine fn_rt (L := [.t .old (D.scr script_), .gone, .gone, .gone, .gone, .gone, .gone, .gone, .gone]) rfl ?_
  unfold fb_law
  replace h := bnd h
  obtain ⟨r1, h2, h⟩ := h
  refine go_seq (env1 := [.t .old (D.scr script_), .t .own (eDie r1), .gone, .gone, .gone, .gone, .gone, .gone, .gone]) (ts_asg (te_call (env2 := [.t .old (D.scr script_), .gone, .gone, .gone, .gone, .gone, .gone, .gone, .gone]) (ta_cons (te_lift (tv_old rfl)) ta_nil) rfl rfl (t__law_dice h2) rfl) (tg_set rfl)) ?_
  replace h := bnd h
  obtain ⟨⟨r3, d4⟩, h5, h⟩ := h
  try dsimp only at h
  replace h := bnd h
  obtain ⟨⟨r6, d7⟩, h8, h⟩ := h
  try dsimp only at h
  refine go_seq (env1 := [.t .old (D.scr script_), .t .own (eDie d7), .t .own ((eL D.str) r6), .gone, .gone, .gone, .gone, .gone, .gone]) (ts_asg (te_call (env2 := [.t .old (D.scr script_), .t .own (eDie d7), .gone, .gone, .gone, .gone, .gone, .gone, .gone]) (ta_ptr rfl rfl (ta_cons (te_op (ta_cons (te_lift tp_c) (ta_cons (te_call (env2 := [.t .old (D.scr script_), .t .own (eDie d4), .gone, .gone, .gone, .gone, .gone, .gone, .gone]) (ta_ptr rfl rfl (ta_cons (te_lift tp_c) ta_nil)) rfl rfl (t__law_next h5) rfl) ta_nil)) rfl o_add_i rfl) ta_nil)) rfl rfl (t__law_names h8) rfl) (tg_set rfl)) ?_
  replace h := bnd h
  obtain ⟨⟨r9, d10⟩, h11, h⟩ := h
  try dsimp only at h
  refine go_seq (env1 := [.t .old (D.scr script_), .t .own (eDie d10), .t .own ((eL D.str) r6), .t .own ((eL (eL (eT D.str))) r9), .gone, .gone, .gone, .gone, .gone]) (ts_asg (te_call (env2 := [.t .old (D.scr script_), .t .own (eDie d10), .t .own ((eL D.str) r6), .gone, .gone, .gone, .gone, .gone, .gone]) (ta_ptr rfl rfl (ta_cons (te_lift (tv_own rfl rfl)) (ta_cons (te_lift tp_c) ta_nil))) rfl rfl (t__law_drawing h11) rfl) (tg_set rfl)) ?_
  replace h := bnd h
  obtain ⟨⟨r12, d13⟩, h14, h⟩ := h
  try dsimp only at h
  replace h := bnd h
  obtain ⟨l15, h16, h⟩ := h
  replace h := bnd h
  obtain ⟨⟨d_40, drawing_41⟩, h37, h⟩ := h
  try dsimp only at h
  refine go_forS (R := (fun (st : (Die × (List (List (List Str))))) e => ∃ (j19 : S) (j20 : S), e = [.t .old (D.scr script_), .t .own (eDie st.1), .t .own ((eL D.str) r6), .t .own ((eL (eL (eT D.str))) st.2), j19, j20, .gone, .gone, .gone])) (st := (d13, r9)) (Z := false) ⟨_, ti_range (te_call (env2 := [.t .old (D.scr script_), .t .own (eDie d13), .t .own ((eL D.str) r6), .t .own ((eL (eL (eT D.str))) r9), .gone, .gone, .gone, .gone, .gone]) (ta_ptr rfl rfl (ta_cons (te_lift tp_c) ta_nil)) rfl rfl (t__law_next h14) rfl) h16, rfl⟩ ⟨_, _, rfl⟩ (by
      rintro x21 ⟨d_17, drawing_18⟩ _ st1 ⟨j19, j20, rfl⟩ h
      unfold pl_law_1 at h
      try dsimp only at h
      refine ⟨_, (tg_set rfl), ?_⟩
      replace h := bnd h
      obtain ⟨⟨r22, d23⟩, h24, h⟩ := h
      try dsimp only at h
      replace h := bnd h
      obtain ⟨x25, h26, h⟩ := h
      replace h := bnd h
      obtain ⟨⟨r27, d28⟩, h29, h⟩ := h
      try dsimp only at h
      replace h := bnd h
      obtain ⟨x30, h31, h⟩ := h
      refine go_seq (env1 := [.t .old (D.scr script_), .t .own (eDie d28), .t .own ((eL D.str) r6), .t .own ((eL (eL (eT D.str))) drawing_18), .t .own (D.int x21), .t .own ((eL (eT D.str)) x30), .gone, .gone, .gone]) (ts_asg (te_op (ta_cons (te_op (ta_cons (te_lift (tp_op (tp_cons (tp_op rfl (o_tup_F (e := D.str) [] (by decide)) rfl) rfl) (o_lst_F (e := (eT D.str)) [([] : (List Str))] (Nat.le_of_ble_eq_true rfl)) rfl)) (ta_cons (te_lift (tp_op (tp_cons (tp_op rfl (o_tup_F (e := D.str) [] (by decide)) rfl) (tp_cons (tp_op rfl (o_tup_F (e := D.str) [] (by decide)) rfl) rfl)) (o_lst_F (e := (eT D.str)) [([] : (List Str)), ([] : (List Str))] (Nat.le_of_ble_eq_true rfl)) rfl)) (ta_cons (te_op (ta_cons (te_op (ta_cons (te_lift (tv_own rfl rfl)) (ta_cons (te_call (env2 := [.t .old (D.scr script_), .t .own (eDie d23), .t .own ((eL D.str) r6), .t .own ((eL (eL (eT D.str))) drawing_18), .t .own (D.int x21), j20, .gone, .gone, .gone]) (ta_ptr rfl rfl (ta_cons (te_lift (tp_op (tp_cons (tv_own rfl rfl) rfl) (o_len_l (e := (eL (eT D.str)))) rfl)) ta_nil)) rfl rfl (t__law_next h24) rfl) ta_nil)) rfl (o_ix_lN (e := (eL (eT D.str))) h26) rfl) ta_nil) rfl (o_list_lF (e := (eT D.str))) rfl) ta_nil))) rfl (o_lst_N (e := (eL (eT D.str))) [([] : (List Str))] [[([] : (List Str)), ([] : (List Str))], x25] (Nat.le_of_ble_eq_true rfl)) rfl) (ta_cons (te_call (env2 := [.t .old (D.scr script_), .t .own (eDie d28), .t .own ((eL D.str) r6), .t .own ((eL (eL (eT D.str))) drawing_18), .t .own (D.int x21), j20, .gone, .gone, .gone]) (ta_ptr rfl rfl (ta_cons (te_lift tp_c) ta_nil)) rfl rfl (t__law_next h29) rfl) ta_nil)) rfl (o_ix_lN (e := (eL (eT D.str))) h31) rfl) (tg_set rfl)) ?_
      replace h := bnd h
      obtain ⟨⟨r32, d33⟩, h34, h⟩ := h
      try dsimp only at h
      replace h := bnd h
      obtain ⟨l35, h36, h⟩ := h
      refine go_one (env1 := [.t .old (D.scr script_), .t .own (eDie d33), .t .own ((eL D.str) r6), .t .own ((eL (eL (eT D.str))) l35), .t .own (D.int x21), .gone, .gone, .gone, .gone]) (ts_expr (te_mut rfl rfl rfl (ta_consY (te_call (env2 := [.t .old (D.scr script_), .t .own (eDie d33), .t .own ((eL D.str) r6), .t .own ((eL (eL (eT D.str))) drawing_18), .t .own (D.int x21), .t .own ((eL (eT D.str)) x30), .gone, .gone, .gone]) (ta_ptr rfl rfl (ta_cons (te_lift (tp_op (tp_cons (tp_op (tp_cons (tv_own rfl rfl) rfl) (o_len_l (e := (eL (eT D.str)))) rfl) (tp_cons tp_c rfl)) o_add_i rfl)) ta_nil)) rfl rfl (t__law_next h34) rfl) rfl (ta_cons (te_take rfl) ta_nil)) rfl rfl rfl rfl (m_ins (e := (eL (eT D.str))) h36) rfl)) ?_
      obtain rfl := pj1 h
      exact ⟨_, .inl rfl, _, _, rfl⟩) h37 ?_
  rintro _ ⟨j42, j43, rfl⟩
  refine go_frz (env1 := [.t .old (D.scr script_), .t .own (eDie d_40), .t .own ((eL D.str) r6), .t .frz ((eL (eL (eT D.str))) drawing_41), j42, j43, .gone, .gone, .gone]) rfl ?_
  replace h := bnd h
  obtain ⟨r44, h45, h⟩ := h
  refine go_seq (env1 := [.t .old (D.scr script_), .t .own (eDie d_40), .gone, .t .frz ((eL (eL (eT D.str))) drawing_41), j42, j43, .t .val ((eL (eL (eT D.str))) r44), .gone, .gone]) (ts_asg (te_callV (ta_consY (te_weak (te_lift (tv_frz rfl)) rfl) rfl (ta_cons (te_weak (te_take rfl) rfl) ta_nil)) rfl (by simp) (t__law_due h45)) (tg_set rfl)) ?_
  replace h := bnd h
  obtain ⟨r46, h47, h⟩ := h
  refine go_seq (env1 := [.t .old (D.scr script_), .t .own (eDie d_40), .gone, .t .frz ((eL (eL (eT D.str))) drawing_41), j42, j43, .t .val ((eL (eL (eT D.str))) r44), .t .own ((eL (eL (eT D.str))) r46), .gone]) (ts_asg (te_call (env2 := [.t .old (D.scr script_), .t .own (eDie d_40), .gone, .t .frz ((eL (eL (eT D.str))) drawing_41), j42, j43, .t .val ((eL (eL (eT D.str))) r44), .gone, .gone]) (ta_cons (te_lift (tv_frz rfl)) ta_nil) rfl rfl (t__law_copied h47) rfl) (tg_set rfl)) ?_
  replace h := bnd h
  obtain ⟨l48, h49, h⟩ := h
  replace h := bnd h
  obtain ⟨c72, h67, h⟩ := h
  refine go_forRS (R := (fun (st : Unit) e => ∃ (j50 : S) (j51 : S), e = [.t .old (D.scr script_), .t .own (eDie d_40), .gone, .t .frz ((eL (eL (eT D.str))) drawing_41), j50, j43, .t .val ((eL (eL (eT D.str))) r44), .t .own ((eL (eL (eT D.str))) r46), j51])) (st := ()) (Ψ := fun r fl => RetOk 1 (D.bl r) [.gone] fl) (Z := false) ⟨_, ti_range (te_lift tp_c) h49, rfl⟩ ⟨_, _, rfl⟩ (by
      rintro x52 ⟨⟩ _ c ⟨j50, j51, rfl⟩ h
      unfold pl_law_2 at h
      try dsimp only at h
      refine ⟨_, (tg_set rfl), ?_⟩
      replace h := bnd h
      obtain ⟨r53, h54, h⟩ := h
      refine go_seq (env1 := [.t .old (D.scr script_), .t .own (eDie d_40), .gone, .t .frz ((eL (eL (eT D.str))) drawing_41), .t .own (D.int x52), j43, .t .val ((eL (eL (eT D.str))) r44), .t .own ((eL (eL (eT D.str))) r46), .t .own ((eL (eL (eT D.str))) r53)]) (ts_asg (te_call (env2 := [.t .old (D.scr script_), .t .own (eDie d_40), .gone, .t .frz ((eL (eL (eT D.str))) drawing_41), .t .own (D.int x52), j43, .t .val ((eL (eL (eT D.str))) r44), .t .own ((eL (eL (eT D.str))) r46), j51]) (ta_cons (te_lift (tv_own rfl rfl)) ta_nil) rfl rfl (t_trimmed h54) rfl) (tg_set rfl)) ?_
      replace h := bnd h
      obtain ⟨r55, h56, h⟩ := h
      replace h := bnd h
      obtain ⟨b59, h60, h⟩ := h
      replace h := pit h
      obtain ⟨c1, h⟩ | ⟨c1, h⟩ := h
      · refine go_ifTS (tb_val (tb_or (c := b59) (env2 := [.t .old (D.scr script_), .t .own (eDie d_40), .gone, .t .frz ((eL (eL (eT D.str))) drawing_41), .t .own (D.int x52), j43, .t .val ((eL (eL (eT D.str))) r44), .t .own ((eL (eL (eT D.str))) r46), .t .own ((eL (eL (eT D.str))) r53)]) (tb_not (tb_e (te_call (env2 := [.t .old (D.scr script_), .t .own (eDie d_40), .gone, .t .frz ((eL (eL (eT D.str))) drawing_41), .t .own (D.int x52), j43, .t .val ((eL (eL (eT D.str))) r44), .t .own ((eL (eL (eT D.str))) r46), .t .own ((eL (eL (eT D.str))) r53)]) (ta_cons (te_lift (tv_own rfl rfl)) (ta_cons (te_lift (tv_val rfl)) ta_nil)) rfl rfl (t__law_like h56) rfl))) (fun c1 => by have h := pitF h60 c1; replace h := bnd h; obtain ⟨b57, h58, h⟩ := h; obtain rfl := pj1 h; exact (tb_e (te_lift (tp_op (tp_cons (tv_own rfl rfl) (tp_cons (tv_frz rfl) rfl)) (o_ne (e := (eL (eL (eT D.str)))) h58) rfl)))) (fun c1 => by have h := pitT h60 c1; obtain rfl := pj1 h; exact ⟨rfl, rfl⟩)) c1) ?_
        obtain rfl := pj1 h
        exact go_retS (ts_ret (te_lift tp_c)) ⟨_, _, rfl, (ro_k rfl rfl)⟩
      refine go_ifFS (tb_val (tb_or (c := b59) (env2 := [.t .old (D.scr script_), .t .own (eDie d_40), .gone, .t .frz ((eL (eL (eT D.str))) drawing_41), .t .own (D.int x52), j43, .t .val ((eL (eL (eT D.str))) r44), .t .own ((eL (eL (eT D.str))) r46), .t .own ((eL (eL (eT D.str))) r53)]) (tb_not (tb_e (te_call (env2 := [.t .old (D.scr script_), .t .own (eDie d_40), .gone, .t .frz ((eL (eL (eT D.str))) drawing_41), .t .own (D.int x52), j43, .t .val ((eL (eL (eT D.str))) r44), .t .own ((eL (eL (eT D.str))) r46), .t .own ((eL (eL (eT D.str))) r53)]) (ta_cons (te_lift (tv_own rfl rfl)) (ta_cons (te_lift (tv_val rfl)) ta_nil)) rfl rfl (t__law_like h56) rfl))) (fun c1 => by have h := pitF h60 c1; replace h := bnd h; obtain ⟨b57, h58, h⟩ := h; obtain rfl := pj1 h; exact (tb_e (te_lift (tp_op (tp_cons (tv_own rfl rfl) (tp_cons (tv_frz rfl) rfl)) (o_ne (e := (eL (eL (eT D.str)))) h58) rfl)))) (fun c1 => by have h := pitT h60 c1; obtain rfl := pj1 h; exact ⟨rfl, rfl⟩)) c1) ?_
      refine go_skipS ?_
      replace h := bnd h
      obtain ⟨y61, h63, h⟩ := h
      replace h := bnd h
      obtain ⟨l62, h64, h⟩ := h
      refine go_seq (env1 := [.t .old (D.scr script_), .t .own (eDie d_40), .gone, .t .frz ((eL (eL (eT D.str))) drawing_41), .t .own (D.int x52), j43, .t .val ((eL (eL (eT D.str))) r44), .t .own ((eL (eL (eT D.str))) r46), .t .own ((eL (eL (eT D.str))) (r53.set 0 l62))]) (ts_expr (te_mutI_app (m := 0) (e := (eT D.str)) rfl h63 h64 (tp_cons (tp_op (tp_cons tp_c rfl) (o_tup_F (e := D.str) [("zz" : Str)] (Nat.le_of_ble_eq_true rfl)) rfl) rfl) rfl)) ?_
      replace h := bnd h
      obtain ⟨l65, h66, h⟩ := h
      refine go_one (env1 := [.t .old (D.scr script_), .t .own (eDie d_40), .gone, .t .frz ((eL (eL (eT D.str))) drawing_41), .t .own (D.int x52), j43, .t .val ((eL (eL (eT D.str))) r44), .t .own ((eL (eL (eT D.str))) r46), .t .own ((eL (eL (eT D.str))) l65)]) (ts_expr (te_mut rfl rfl rfl (ta_cons (te_op (ta_cons (te_op (ta_cons (te_lift tp_c) ta_nil) rfl (o_tup_F (e := D.str) [("zz" : Str)] (Nat.le_of_ble_eq_true rfl)) rfl) ta_nil) rfl (o_lst_F (e := (eT D.str)) [[("zz" : Str)]] (Nat.le_of_ble_eq_true rfl)) rfl) ta_nil) rfl rfl rfl rfl (m_app (e := (eL (eT D.str))) h66) rfl)) ?_
      obtain rfl := pj1 h
      exact ⟨_, .inl rfl, _, _, rfl⟩) h67 ?_ ?_
  · rintro r1 rfl _ _ q
    obtain rfl := pj1 h
    exact q
  rintro _ rfl _ ⟨j70, j71, rfl⟩
  try dsimp only at h
  replace h := bnd h
  obtain ⟨r73, h74, h⟩ := h
  replace h := bnd h
  obtain ⟨b75, h76, h⟩ := h
  obtain rfl := pj1 h
  exact go_ret (ts_ret (te_op (ta_cons (te_call (env2 := [.t .old (D.scr script_), .t .own (eDie d_40), .gone, .t .frz ((eL (eL (eT D.str))) drawing_41), j70, j43, .t .val ((eL (eL (eT D.str))) r44), .t .own ((eL (eL (eT D.str))) r46), j71]) (ta_cons (te_lift (tv_val rfl)) ta_nil) rfl rfl (t_trimmed h74) rfl) (ta_cons (te_lift (tv_val rfl)) ta_nil)) rfl (o_eq (e := (eL (eL (eT D.str)))) h76) rfl)) (ro_k rfl rfl)
end RG

set_option maxRecDepth 100000
set_option maxHeartbeats 4000000
namespace RG
open PySem PySem.Spec PyProof.Rows L2
/-! ### what a plain function tells -/
section
variable {α β γ σ ρ : Type}
def Wp (x : Option α) (Q : α → Prop) : Prop := ∃ a, x = some a ∧ Q a
theorem wp_some {a : α} {Q : α → Prop} (h : Q a) : Wp (some a) Q := ⟨a, rfl, h⟩
theorem wp_bind {x : Option α} {f : α → Option β} {Q : β → Prop} (h : Wp x fun a => Wp (f a) Q) : Wp (x.bind f) Q := by
  obtain ⟨a, rfl, b, h1, h2⟩ := h
  exact ⟨b, h1, h2⟩
theorem wp_mono {x : Option α} {P Q : α → Prop} (h : Wp x P) (k : ∀ a, P a → Q a) : Wp x Q := by
  obtain ⟨a, h1, h2⟩ := h
  exact ⟨a, h1, k a h2⟩
theorem wp_then {x : Option α} {f : α → Option β} {P : α → Prop} {Q : β → Prop} (h : Wp x P) (k : ∀ a, P a → Wp (f a) Q) : Wp (x.bind f) Q := wp_bind (wp_mono h k)
theorem wp_eq {x : Option α} {a : α} {Q : α → Prop} (h : x = some a) (k : Q a) : Wp x Q := ⟨a, h, k⟩
theorem wp_if {c : Bool} {x y : Option α} {Q : α → Prop} (h1 : c = true → Wp x Q) (h2 : c = false → Wp y Q) : Wp (if c = true then x else y) Q := by
  cases c
  · simpa using h2 rfl
  · simpa using h1 rfl
theorem wp_for {body : σ → α → Option σ} (I : σ → Prop) : ∀ {xs : List α} {s : σ}, I s → (∀ x ∈ xs, ∀ s, I s → Wp (body s x) I) → Wp (pFor body xs s) I
  | [], s, h, _ => ⟨s, rfl, h⟩
  | x :: xs, s, h, k => by
    unfold pFor
    exact wp_then (k x List.mem_cons_self s h) fun s' h' => wp_for I h' fun y hy => k y (List.mem_cons_of_mem _ hy)
/-- .. with what was walked -/
theorem wp_forL {body : σ → α → Option σ} (I : List α → σ → Prop) : ∀ {xs pre : List α} {s : σ}, I pre s → (∀ pre x, x ∈ xs → ∀ s, I pre s → Wp (body s x) (I (pre ++ [x]))) → Wp (pFor body xs s) (I (pre ++ xs))
  | [], pre, s, h, _ => ⟨s, rfl, by simpa using h⟩
  | x :: xs, pre, s, h, k => by
    unfold pFor
    refine wp_then (k pre x List.mem_cons_self s h) fun s' h' => ?_
    have := wp_forL I (pre := pre ++ [x]) h' fun p y hy => k p y (List.mem_cons_of_mem _ hy)
    simpa using this
/-- .. with how many were walked -/
theorem wp_forN' {body : σ → α → Option σ} (I : Nat → σ → Prop) : ∀ {xs : List α} {k : Nat} {s : σ}, I k s → (∀ j x, j < k + xs.length → x ∈ xs → ∀ s, I j s → Wp (body s x) (I (j + 1))) → Wp (pFor body xs s) (I (k + xs.length))
  | [], k, s, h, _ => ⟨s, rfl, h⟩
  | x :: xs, k, s, h, h2 => by
    unfold pFor
    refine wp_then (h2 k x (by simp) List.mem_cons_self s h) fun s' h' => ?_
    have := wp_forN' I (k := k + 1) h' fun j y hj hy => h2 j y (by simp; omega) (List.mem_cons_of_mem _ hy)
    rw [List.length_cons, show k + (xs.length + 1) = k + 1 + xs.length by omega]
    exact this
theorem wp_forN {body : σ → α → Option σ} (I : Nat → σ → Prop) {xs : List α} {s : σ} (h : I 0 s) (h2 : ∀ j x, j < xs.length → x ∈ xs → ∀ s, I j s → Wp (body s x) (I (j + 1))) : Wp (pFor body xs s) (I xs.length) := by
  have := wp_forN' I h fun j x hj => h2 j x (by omega)
  rwa [Nat.zero_add] at this
/-- .. with what was walked, and what is to come -/
theorem wp_forP' {body : σ → α → Option σ} (I : List α → σ → Prop) (all : List α) : ∀ {xs pre : List α} {s : σ}, all = pre ++ xs → I pre s → (∀ pre x post, all = pre ++ x :: post → ∀ s, I pre s → Wp (body s x) (I (pre ++ [x]))) → Wp (pFor body xs s) (I all)
  | [], pre, s, e, h, _ => ⟨s, rfl, by rw [e, List.append_nil]; exact h⟩
  | x :: xs, pre, s, e, h, h2 => by
    unfold pFor
    refine wp_then (h2 pre x xs e s h) fun s' h' => ?_
    exact wp_forP' I all (pre := pre ++ [x]) (by rw [e]; simp) h' h2
theorem wp_forP {body : σ → α → Option σ} (I : List α → σ → Prop) {xs : List α} {s : σ} (h : I [] s) (h2 : ∀ pre x post, xs = pre ++ x :: post → ∀ s, I pre s → Wp (body s x) (I (pre ++ [x]))) : Wp (pFor body xs s) (I xs) := wp_forP' I xs (pre := []) rfl h h2
theorem for_eq {body : σ → α → Option σ} (f : σ → α → σ) (I : σ → Prop) : ∀ {xs : List α} {s : σ}, I s → (∀ x ∈ xs, ∀ s, I s → body s x = some (f s x) ∧ I (f s x)) → pFor body xs s = some (xs.foldl f s)
  | [], s, _, _ => rfl
  | x :: xs, s, h, k => by
    unfold pFor
    obtain ⟨h1, h2⟩ := k x List.mem_cons_self s h
    rw [h1]
    exact for_eq f I h2 fun y hy => k y (List.mem_cons_of_mem _ hy)
/-- a walk that never leaves by return -/
theorem wp_forR {body : σ → α → Option (Ct ρ σ)} (I : σ → Prop) : ∀ {xs : List α} {s : σ}, I s → (∀ x ∈ xs, ∀ s, I s → Wp (body s x) fun c => ∃ s', c = .nx s' ∧ I s') → Wp (pForR body xs s) fun c => ∃ s', c = .nx s' ∧ I s'
  | [], s, h, _ => ⟨_, rfl, s, rfl, h⟩
  | x :: xs, s, h, k => by
    unfold pForR
    refine wp_then (k x List.mem_cons_self s h) fun c hc => ?_
    obtain ⟨s', rfl, h'⟩ := hc
    exact wp_forR I h' fun y hy => k y (List.mem_cons_of_mem _ hy)
theorem wp_forRP' {body : σ → α → Option (Ct ρ σ)} (I : List α → σ → Prop) (all : List α) : ∀ {xs pre : List α} {s : σ}, all = pre ++ xs → I pre s → (∀ pre x post, all = pre ++ x :: post → ∀ s, I pre s → Wp (body s x) fun c => ∃ s', c = .nx s' ∧ I (pre ++ [x]) s') → Wp (pForR body xs s) fun c => ∃ s', c = .nx s' ∧ I all s'
  | [], pre, s, e, h, _ => ⟨_, rfl, s, rfl, by rw [e, List.append_nil]; exact h⟩
  | x :: xs, pre, s, e, h, h2 => by
    unfold pForR
    refine wp_then (h2 pre x xs e s h) fun c hc => ?_
    obtain ⟨s', rfl, h'⟩ := hc
    exact wp_forRP' I all (pre := pre ++ [x]) (by rw [e]; simp) h' h2
theorem wp_forRP {body : σ → α → Option (Ct ρ σ)} (I : List α → σ → Prop) {xs : List α} {s : σ} (h : I [] s) (h2 : ∀ pre x post, xs = pre ++ x :: post → ∀ s, I pre s → Wp (body s x) fun c => ∃ s', c = .nx s' ∧ I (pre ++ [x]) s') : Wp (pForR body xs s) fun c => ∃ s', c = .nx s' ∧ I xs s' := wp_forRP' I xs (pre := []) rfl h h2
/-- a walk that may leave: R what is told then -/
theorem wp_forRR {body : σ → α → Option (Ct ρ σ)} (I : List α → σ → Prop) (R : ρ → Prop) : ∀ {xs pre : List α} {s : σ}, I pre s → (∀ pre x, x ∈ xs → ∀ s, I pre s → Wp (body s x) fun c => match c with | .nx s' => I (pre ++ [x]) s' | .rt r => R r) → Wp (pForR body xs s) fun c => match c with | .nx s' => I (pre ++ xs) s' | .rt r => R r
  | [], pre, s, h, _ => ⟨_, rfl, by simpa using h⟩
  | x :: xs, pre, s, h, k => by
    unfold pForR
    refine wp_then (k pre x List.mem_cons_self s h) fun c hc => ?_
    cases c with
    | rt r => exact ⟨_, rfl, hc⟩
    | nx s' =>
      have := wp_forRR I R (pre := pre ++ [x]) hc fun p y hy => k p y (List.mem_cons_of_mem _ hy)
      simpa using this
theorem comp_pick {body : α → Option (Option β)} (c : α → Bool) (f : α → β) : ∀ {xs : List α}, (∀ x ∈ xs, body x = some (if c x then some (f x) else none)) → pComp body xs = some ((xs.filter c).map f)
  | [], _ => rfl
  | x :: xs, h => by
    unfold pComp
    rw [h x List.mem_cons_self, comp_pick c f fun y hy => h y (List.mem_cons_of_mem _ hy)]
    by_cases hc : c x = true
    · rw [List.filter_cons_of_pos hc]; simp [hc]
    · rw [List.filter_cons_of_neg hc]; simp [hc]
theorem comp_map {body : α → Option (Option β)} (f : α → β) {xs : List α} (h : ∀ x ∈ xs, body x = some (some (f x))) : pComp body xs = some (xs.map f) := by
  rw [comp_pick (fun _ => true) f fun x hx => by simp [h x hx]]
  rw [List.filter_eq_self.mpr fun _ _ => rfl]
theorem wp_comp {body : α → Option (Option β)} (P : β → Prop) : ∀ {xs : List α}, (∀ x ∈ xs, Wp (body x) fun o => ∀ b, o = some b → P b) → Wp (pComp body xs) fun r => r.length ≤ xs.length ∧ ∀ b ∈ r, P b
  | [], _ => ⟨[], rfl, Nat.le_refl _, fun b h => (nomatch h)⟩
  | x :: xs, h => by
    unfold pComp
    refine wp_then (h x List.mem_cons_self) fun o ho => ?_
    refine wp_then (wp_comp P fun y hy => h y (List.mem_cons_of_mem _ hy)) fun r hr => ?_
    refine wp_some ⟨?_, fun b hb => ?_⟩
    · cases o <;> simp <;> omega
    · rcases List.mem_append.mp hb with q | q
      · cases o with
        | none => simp at q
        | some v => exact ho b (by rw [show b = v by simpa using q])
      · exact hr.2 b q
theorem wp_compS {body : σ → α → Option (Option β × σ)} (I : σ → Prop) (P : β → Prop) : ∀ {xs : List α} {s : σ}, I s → (∀ x ∈ xs, ∀ s, I s → Wp (body s x) fun o => I o.2 ∧ ∀ b, o.1 = some b → P b) → Wp (pCompS body xs s) fun r => I r.2 ∧ r.1.length ≤ xs.length ∧ ∀ b ∈ r.1, P b
  | [], s, h, _ => ⟨([], s), rfl, h, Nat.le_refl _, fun b h => (nomatch h)⟩
  | x :: xs, s, h, k => by
    unfold pCompS
    refine wp_then (k x List.mem_cons_self s h) fun o ho => ?_
    refine wp_then (wp_compS I P ho.1 fun y hy => k y (List.mem_cons_of_mem _ hy)) fun r hr => ?_
    refine wp_some ⟨hr.1, ?_, fun b hb => ?_⟩
    · have := hr.2.1
      cases o.1 <;> simp <;> omega
    · rcases List.mem_append.mp hb with q | q
      · cases e : o.1 with
        | none => rw [e] at q; simp at q
        | some v => rw [e] at q; exact ho.2 b (by rw [e, show b = v by simpa using q])
      · exact hr.2.2 b q
/-- .. that takes an item a turn -/
theorem wp_compSA {body : σ → α → Option (Option β × σ)} (I : σ → Prop) (P : β → Prop) : ∀ {xs : List α} {s : σ}, I s → (∀ x ∈ xs, ∀ s, I s → Wp (body s x) fun o => I o.2 ∧ ∃ b, o.1 = some b ∧ P b) → Wp (pCompS body xs s) fun r => I r.2 ∧ r.1.length = xs.length ∧ ∀ b ∈ r.1, P b
  | [], s, h, _ => ⟨([], s), rfl, h, rfl, fun b h => (nomatch h)⟩
  | x :: xs, s, h, k => by
    unfold pCompS
    refine wp_then (k x List.mem_cons_self s h) fun o ho => ?_
    refine wp_then (wp_compSA I P ho.1 fun y hy => k y (List.mem_cons_of_mem _ hy)) fun r hr => ?_
    obtain ⟨h1, b0, h2, h3⟩ := ho
    refine wp_some ⟨hr.1, ?_, fun b hb => ?_⟩
    · rw [h2]; simp [hr.2.1]
    · rw [h2] at hb
      rcases List.mem_append.mp hb with q | q
      · rw [show b = b0 by simpa using q]; exact h3
      · exact hr.2.2 b q
/-! ### readings -/
theorem atI_nat {xs : List α} {i : Nat} (h : i < xs.length) : atI xs (i : Int) = some xs[i] := by
  unfold atI ixN
  rw [if_pos (by omega), if_pos (by omega)]
  simp [h]
theorem atI_int {xs : List α} {i : Int} (h0 : 0 ≤ i) (h : i < xs.length) : ∃ x, atI xs i = some x ∧ x ∈ xs ∧ ∃ hh : i.toNat < xs.length, x = xs[i.toNat] := by
  have hh : i.toNat < xs.length := by omega
  refine ⟨xs[i.toNat], ?_, List.getElem_mem hh, hh, rfl⟩
  unfold atI ixN
  rw [if_pos h0, if_pos h]
  simp [hh]
theorem wp_atI {xs : List α} {i : Int} {Q : α → Prop} (h0 : 0 ≤ i) (h : i < xs.length) (k : ∀ x, x ∈ xs → atI xs i = some x → Q x) : Wp (atI xs i) Q := by
  obtain ⟨x, h1, h2, _⟩ := atI_int h0 h
  exact ⟨x, h1, k x h2 h1⟩
theorem rng_mem : ∀ {n : Nat} {lo x : Int}, x ∈ rng lo n ↔ lo ≤ x ∧ x < lo + n
  | 0, lo, x => by
    constructor
    · intro h; cases h
    · intro h; omega
  | n + 1, lo, x => by
    unfold rng
    rw [List.mem_cons, rng_mem]
    omega
theorem rng_len : ∀ {n : Nat} {lo : Int}, (rng lo n).length = n
  | 0, _ => rfl
  | n + 1, lo => by unfold rng; rw [List.length_cons, rng_len]
theorem pRange_ok {n : Int} (h : n ≤ 1000) (h0 : -1000 ≤ n) : pRange n = some (rng 0 n.toNat) := by
  unfold pRange
  rw [if_pos (by omega)]
theorem rng_snoc : ∀ {n : Nat} {lo : Int}, rng lo (n + 1) = rng lo n ++ [lo + n]
  | 0, lo => by simp [rng]
  | n + 1, lo => by
    have := rng_snoc (n := n) (lo := lo + 1)
    rw [show rng lo (n + 1 + 1) = lo :: rng (lo + 1) (n + 1) from rfl, this]
    show lo :: (rng (lo + 1) n ++ [lo + 1 + n]) = (lo :: rng (lo + 1) n) ++ [lo + ((n + 1 : Nat) : Int)]
    simp; omega
theorem pApp_ok {xs : List α} {x : α} (h : xs.length < 16777216) : pApp xs x = some (xs ++ [x]) := by unfold pApp; rw [if_pos h]
theorem pAddL_ok {xs ys : List α} (h : xs.length + ys.length ≤ 16777216) : pAddL xs ys = some (xs ++ ys) := by unfold pAddL; rw [if_pos h]
theorem pAddS_ok {x y : Str} (h : x.length + y.length ≤ 16777216) : pAddS x y = some (x ++ y) := by unfold pAddS; rw [if_pos h]
theorem pLenS_ok {x : Str} (h : x.length ≤ 16777216) : pLenS x = some (x.length : Int) := by unfold pLenS; rw [if_pos h]
theorem pSort_ok {xs : List Str} (h : xs.length < 64) : pSort xs = some (sortS xs) := by unfold pSort; rw [if_pos h]
theorem len_app (a b : Str) : (a ++ b).length = a.length + b.length := by
  show (a.cps ++ b.cps).size = a.cps.size + b.cps.size
  rw [Array.size_append]
theorem pPopAt_ok {xs : List α} {i : Int} (h0 : 0 ≤ i) (h : i < xs.length) (hl : xs.length ≤ 1000) : ∃ hh : i.toNat < xs.length, pPopAt xs i = some (xs[i.toNat], xs.eraseIdx i.toNat) := by
  have hh : i.toNat < xs.length := by omega
  refine ⟨hh, ?_⟩
  have hs : seqIndex? i xs.length = some i.toNat := seqIndex_of h0 h
  unfold pPopAt
  rw [if_pos ⟨by omega, by omega⟩, hs]
  simp [hh]
end
/-! ### the dice -/
structure Die.ok (d : Die) : Prop where
  i : 0 ≤ d.i
theorem dice_wp (ns : List Int) : Wp (p__law_dice ns) Die.ok := ⟨_, rfl, ⟨Int.le_refl 0⟩⟩
theorem next_wp {d : Die} {n : Int} (hd : d.ok) (h0 : 0 < n) (h1 : n ≤ 1000) : Wp (p__law_next d n) fun r => 0 ≤ r.1 ∧ r.1 < n ∧ r.2.ok := by
  obtain ⟨ns, i, m, h⟩ := d
  have hi : 0 ≤ i := hd.i
  have hm : ∀ x : Int, 0 ≤ x % n ∧ x % n < n := fun x => ⟨Int.emod_nonneg _ (by omega), Int.emod_lt_of_pos _ h0⟩
  unfold p__law_next
  simp only
  rw [if_pos ⟨hi, h0, by omega⟩]
  split
  · exact wp_some ⟨(hm _).1, (hm _).2, ⟨hi⟩⟩
  · split
    · rename_i q
      split
      · exact wp_some ⟨(hm _).1, (hm _).2, ⟨by show 0 ≤ i + 1; omega⟩⟩
      · exact wp_some ⟨(hm _).1, (hm _).2, ⟨by show 0 ≤ i + 1; omega⟩⟩
    · rename_i q
      rw [if_neg (by omega)]
      exact wp_some ⟨(hm _).1, (hm _).2, ⟨by show 0 ≤ i + 1; omega⟩⟩
/-- a draw, and what follows -/
theorem wp_next {β : Type} {d : Die} {n : Int} {f : Int × Die → Option β} {Q : β → Prop} (hd : d.ok) (h0 : 0 < n) (h1 : n ≤ 1000) (k : ∀ r d', 0 ≤ r → r < n → d'.ok → Wp (f (r, d')) Q) : Wp ((p__law_next d n).bind f) Q :=
  wp_then (next_wp hd h0 h1) fun r hr => k r.1 r.2 hr.1 hr.2.1 hr.2.2

end RG

set_option maxRecDepth 100000
set_option maxHeartbeats 4000000
namespace RG
open PySem PySem.Spec PyProof.Rows L2
/-! ### what may be compared -/
section
variable {α β γ : Type} {e : α → D} {e2 : β → D} {e3 : γ → D}
structure Sh (n : Nat) (d : D) : Prop where
  p : d.pure = true
  c : d.py.canLay0 = true
  d : d.py.depth ≤ n
theorem Sh.mono {n m : Nat} {d : D} (h : Sh n d) (k : n ≤ m) : Sh m d := ⟨h.p, h.c, Nat.le_trans h.d k⟩
theorem sh_int (i : Int) : Sh 0 (.int i) := ⟨rfl, rfl, Nat.le_refl 0⟩
theorem sh_bl (b : Bool) : Sh 0 (.bl b) := ⟨rfl, rfl, Nat.le_refl 0⟩
theorem sh_non : Sh 0 .non := ⟨rfl, rfl, Nat.le_refl 0⟩
theorem sh_str {x : Str} (h : PyData.strOk x = true) : Sh 0 (.str x) := ⟨rfl, by simpa [D.py, PyData.canLay0] using h, Nat.le_refl 0⟩
theorem sh_all {n : Nat} : ∀ {ds : List D}, (∀ d ∈ ds, Sh n d) → D.pures ds = true ∧ PyData.canLayAll0 (D.pys ds) = true ∧ PyData.depthAll (D.pys ds) ≤ n
  | [], _ => ⟨rfl, rfl, Nat.zero_le _⟩
  | d :: ds, h => by
    obtain ⟨h1, h2, h3⟩ := sh_all (ds := ds) fun x hx => h x (List.mem_cons_of_mem _ hx)
    obtain ⟨k1, k2, k3⟩ := h d List.mem_cons_self
    refine ⟨by simp [D.pures, h1, k1], by simp [D.pys, PyData.canLayAll0, h2, k2], ?_⟩
    simp only [D.pys, PyData.depthAll]
    exact Nat.max_le.mpr ⟨k3, h3⟩
theorem sh_lst {n : Nat} {ds : List D} (h : ∀ d ∈ ds, Sh n d) : Sh (n + 1) (.lst ds) := by
  obtain ⟨h1, h2, h3⟩ := sh_all h
  exact ⟨h1, by simpa [D.py, PyData.canLay0] using h2, by simpa [D.py, PyData.depth] using h3⟩
theorem sh_tup {n : Nat} {ds : List D} (h : ∀ d ∈ ds, Sh n d) : Sh (n + 1) (.tup ds) := by
  obtain ⟨h1, h2, h3⟩ := sh_all h
  exact ⟨h1, by simpa [D.py, PyData.canLay0] using h2, by simpa [D.py, PyData.depth] using h3⟩
theorem sh_eL {n : Nat} {xs : List α} (h : ∀ x ∈ xs, Sh n (e x)) : Sh (n + 1) (eL e xs) := sh_lst fun d hd => by
  obtain ⟨x, hx, rfl⟩ := List.mem_map.mp hd
  exact h x hx
theorem sh_eT {n : Nat} {xs : List α} (h : ∀ x ∈ xs, Sh n (e x)) : Sh (n + 1) (eT e xs) := sh_tup fun d hd => by
  obtain ⟨x, hx, rfl⟩ := List.mem_map.mp hd
  exact h x hx
theorem sh_eP2 {n : Nat} {p : α × β} (h : Sh n (e p.1)) (h2 : Sh n (e2 p.2)) : Sh (n + 1) (eP2 e e2 p) := sh_tup fun d hd => by
  simp only [List.mem_cons, List.not_mem_nil, or_false] at hd
  rcases hd with rfl | rfl <;> assumption
theorem sh_eP3 {n : Nat} {p : α × β × γ} (h : Sh n (e p.1)) (h2 : Sh n (e2 p.2.1)) (h3 : Sh n (e3 p.2.2)) : Sh (n + 1) (eP3 e e2 e3 p) := sh_tup fun d hd => by
  simp only [List.mem_cons, List.not_mem_nil, or_false] at hd
  rcases hd with rfl | rfl | rfl <;> assumption
theorem Sh.ok {n : Nat} {d : D} (h : Sh n d) (k : n ≤ 64) : shOk d = true := by
  unfold shOk SeqAt.shaped
  rw [h.p, h.c, decide_eq_true (Nat.le_trans h.d k)]; rfl
theorem pEq_ok [DecidableEq α] {n m : Nat} {a b : α} (h : Sh n (e a)) (k : Sh m (e b)) (hn : n ≤ 64) (hm : m ≤ 64) : pEq e a b = some (decide (a = b)) := by
  unfold pEq; rw [h.ok hn, k.ok hm]; rfl
theorem pIn_ok [DecidableEq α] {n m : Nat} {a : α} {xs : List α} (h : Sh n (e a)) (k : Sh m (eL e xs)) (hn : n ≤ 64) (hm : m ≤ 64) : pIn e a xs = some (decide (a ∈ xs)) := by
  unfold pIn; rw [h.ok hn, k.ok hm]; rfl
theorem sh_pl (p : Int × Int) : Sh 1 (eP2 D.int D.int p) := sh_eP2 (sh_int _) (sh_int _)
theorem sh_pls (xs : List (Int × Int)) : Sh 2 (eL (eP2 D.int D.int) xs) := sh_eL fun x _ => sh_pl x
theorem pIn_pl (p : Int × Int) (xs : List (Int × Int)) : pIn (eP2 D.int D.int) p xs = some (decide (p ∈ xs)) := (pIn_ok (sh_pl p) (sh_pls xs) (by decide) (by decide)).trans (by congr)
theorem pEq_pl (xs ys : List (Int × Int)) : pEq (eL (eP2 D.int D.int)) xs ys = some (decide (xs = ys)) := (pEq_ok (sh_pls xs) (sh_pls ys) (by decide) (by decide)).trans (by congr)
theorem sh_strs {xs : List Str} (h : ∀ x ∈ xs, PyData.strOk x = true) : Sh 1 (eL D.str xs) := sh_eL fun x hx => sh_str (h x hx)
theorem sh_tstr {xs : List Str} (h : ∀ x ∈ xs, PyData.strOk x = true) : Sh 1 (eT D.str xs) := sh_eT fun x hx => sh_str (h x hx)
end

end RG

set_option maxRecDepth 100000
set_option maxHeartbeats 4000000
namespace RG
open PySem PySem.Spec PyProof.Rows L2
/-! ### the eight ways -/
inductive Way where
  | ap | me | ov | sa | ir | ic | hr | hc
  deriving DecidableEq
namespace Way
def s : Way → Str
  | ap => "apart" | me => "meets" | ov => "over" | sa => "same" | ir => "inrim" | ic => "incore" | hr => "hasrim" | hc => "hascore"
def all : List Way := [ap, me, ov, sa, ir, ic, hr, hc]
theorem mem_all (w : Way) : w ∈ all := by cases w <;> decide
def turn : Way → Way
  | ir => hr | hr => ir | ic => hc | hc => ic | w => w
theorem turn_turn (w : Way) : w.turn.turn = w := by cases w <;> rfl
def led : Way → Way → List Way
  | ap, ap => [ap, me, ov, sa, ir, ic, hr, hc] | ap, me => [ap, me, ov, ir, ic] | ap, ov => [ap, me, ov, ir, ic] | ap, sa => [ap] | ap, ir => [ap, me, ov, ir, ic] | ap, ic => [ap, me, ov, ir, ic] | ap, hr => [ap] | ap, hc => [ap]
  | me, ap => [ap, me, ov, hr, hc] | me, me => [ap, me, ov, sa, ir, hr] | me, ov => [ap, me, ov, ir, ic] | me, sa => [me] | me, ir => [me, ov, ir, ic] | me, ic => [ov, ir, ic] | me, hr => [ap, me] | me, hc => [ap]
  | ov, ap => [ap, me, ov, hr, hc] | ov, me => [ap, me, ov, hr, hc] | ov, ov => [ap, me, ov, sa, ir, ic, hr, hc] | ov, sa => [ov] | ov, ir => [ov, ir, ic] | ov, ic => [ov, ir, ic] | ov, hr => [ap, me, ov, hr, hc] | ov, hc => [ap, me, ov, hr, hc]
  | sa, w => [w]
  | ir, ap => [ap] | ir, me => [ap, me] | ir, ov => [ap, me, ov, ir, ic] | ir, sa => [ir] | ir, ir => [ir, ic] | ir, ic => [ic] | ir, hr => [ap, me, ov, sa, ir, hr] | ir, hc => [ap, me, ov, hr, hc]
  | ic, ap => [ap] | ic, me => [ap] | ic, ov => [ap, me, ov, ir, ic] | ic, sa => [ic] | ic, ir => [ic] | ic, ic => [ic] | ic, hr => [ap, me, ov, ir, ic] | ic, hc => [ap, me, ov, sa, ir, ic, hr, hc]
  | hr, ap => [ap, me, ov, hr, hc] | hr, me => [me, ov, hr, hc] | hr, ov => [ov, hr, hc] | hr, sa => [hr] | hr, ir => [ov, sa, ir, hr] | hr, ic => [ov, ir, ic] | hr, hr => [hr, hc] | hr, hc => [hc]
  | hc, ap => [ap, me, ov, hr, hc] | hc, me => [ov, hr, hc] | hc, ov => [ov, hr, hc] | hc, sa => [hc] | hc, ir => [ov, hr, hc] | hc, ic => [ov, sa, ir, ic, hr, hc] | hc, hr => [hc] | hc, hc => [hc]
def bP : Way → Bool
  | sa => true | ir => true | ic => true | _ => false
def bN : Way → Bool
  | ic => true | _ => false
def bO : Way → Bool
  | ap => false | me => false | _ => true
def bC : Way → Bool
  | ap => false | _ => true
def rul (xy yz xz : Way) : Bool :=
  (!(xy.bP && yz.bP) || xz.bP) && (!(xy.bP && xz.bO) || yz.bO) && (!(xy.bP && xz.bC) || yz.bC) && (!(xy.bN && xz.bC) || yz.bO) && (!(xy.bN && yz.bP) || xz.bN) && (!(xy.bP && yz.bN) || xz.bN)
def ok3 (a b c : Way) : Bool := rul a b c && rul a.turn c b && rul c b.turn a && rul c.turn a b.turn && rul b c.turn a.turn && rul b.turn a.turn c.turn
theorem ok_led (a b c : Way) (ha : a ≠ sa) (hb : b ≠ sa) (hc : c ≠ sa) (h : ok3 a b c = true) : c ∈ led a b := by
  revert a b c
  have : ∀ a ∈ all, ∀ b ∈ all, ∀ c ∈ all, a ≠ sa → b ≠ sa → c ≠ sa → ok3 a b c = true → c ∈ led a b := by decide +kernel
  exact fun a b c => this a (mem_all a) b (mem_all b) c (mem_all c)
theorem sa_led (a : Way) : sa ∈ led a a.turn := by cases a <;> decide
theorem led_sa (a : Way) : led a sa = [a] := by cases a <;> rfl
theorem led_turn (a b : Way) (c : Way) : c ∈ led a b ↔ c.turn ∈ led b.turn a.turn := by
  have : ∀ a ∈ all, ∀ b ∈ all, ∀ c ∈ all, (c ∈ led a b ↔ c.turn ∈ led b.turn a.turn) := by decide +kernel
  exact this a (mem_all a) b (mem_all b) c (mem_all c)
end Way
/-! ### how two sets of points lie -/
section
variable {P : Type} (Nb : P → P → Prop)
def Sub (A B : P → Prop) : Prop := ∀ p, A p → B p
def Out (A B : P → Prop) : Prop := ∃ p q, A p ∧ Nb p q ∧ ¬ B q
def Com (A B : P → Prop) : Prop := ∃ p, A p ∧ B p
def Tch (A B : P → Prop) : Prop := ∃ p q, A p ∧ B q ∧ Nb p q
open Classical in
noncomputable def wayP (A B : P → Prop) : Way :=
  if Sub A B ∧ Sub B A then .sa else if Sub A B then (if Out Nb A B then .ir else .ic) else if Sub B A then (if Out Nb B A then .hr else .hc) else if Com A B then .ov else if Tch Nb A B then .me else .ap
variable {Nb} {A B C : P → Prop}
structure Lie (Nb : P → P → Prop) (A B : P → Prop) (w : Way) : Prop where
  p : w.bP = true ↔ Sub A B
  p' : w.turn.bP = true ↔ Sub B A
  n : w ≠ .sa → (w.bN = true ↔ Sub A B ∧ ¬ Out Nb A B)
  n' : w ≠ .sa → (w.turn.bN = true ↔ Sub B A ∧ ¬ Out Nb B A)
  o : w.bO = true ↔ Com A B
  c : w.bC = true ↔ Com A B ∨ Tch Nb A B
theorem Com.sym (h : Com A B) : Com B A := let ⟨p, a, b⟩ := h; ⟨p, b, a⟩
theorem com_of_sub (hA : ∃ p, A p) (h : Sub A B) : Com A B := let ⟨p, a⟩ := hA; ⟨p, a, h p a⟩
theorem lie_way (hA : ∃ p, A p) (hB : ∃ p, B p) : Lie Nb A B (wayP Nb A B) := by
  unfold wayP
  by_cases h1 : Sub A B <;> by_cases h2 : Sub B A
  · rw [if_pos ⟨h1, h2⟩]
    have hc := com_of_sub hA h1
    exact ⟨by simp [Way.bP, h1], by simp [Way.turn, Way.bP, h2], fun z => absurd rfl z, fun z => absurd rfl z, by simp [Way.bO, hc], by simp [Way.bC, hc]⟩
  · rw [if_neg (fun z => h2 z.2), if_pos h1]
    have hc := com_of_sub hA h1
    by_cases h3 : Out Nb A B
    · rw [if_pos h3]
      exact ⟨by simp [Way.bP, h1], by simp [Way.turn, Way.bP, h2], fun _ => by simp [Way.bN, h3], fun _ => by simp [Way.turn, Way.bN, h2], by simp [Way.bO, hc], by simp [Way.bC, hc]⟩
    · rw [if_neg h3]
      exact ⟨by simp [Way.bP, h1], by simp [Way.turn, Way.bP, h2], fun _ => by simp [Way.bN, h3, h1], fun _ => by simp [Way.turn, Way.bN, h2], by simp [Way.bO, hc], by simp [Way.bC, hc]⟩
  · rw [if_neg (fun z => h1 z.1), if_neg h1, if_pos h2]
    have hc := (com_of_sub hB h2).sym
    by_cases h3 : Out Nb B A
    · rw [if_pos h3]
      exact ⟨by simp [Way.bP, h1], by simp [Way.turn, Way.bP, h2], fun _ => by simp [Way.bN, h1], fun _ => by simp [Way.turn, Way.bN, h3], by simp [Way.bO, hc], by simp [Way.bC, hc]⟩
    · rw [if_neg h3]
      exact ⟨by simp [Way.bP, h1], by simp [Way.turn, Way.bP, h2], fun _ => by simp [Way.bN, h1], fun _ => by simp [Way.turn, Way.bN, h2, h3], by simp [Way.bO, hc], by simp [Way.bC, hc]⟩
  · rw [if_neg (fun z => h1 z.1), if_neg h1, if_neg h2]
    by_cases h3 : Com A B
    · rw [if_pos h3]
      exact ⟨by simp [Way.bP, h1], by simp [Way.turn, Way.bP, h2], fun _ => by simp [Way.bN, h1], fun _ => by simp [Way.turn, Way.bN, h2], by simp [Way.bO, h3], by simp [Way.bC, h3]⟩
    · rw [if_neg h3]
      by_cases h4 : Tch Nb A B
      · rw [if_pos h4]
        exact ⟨by simp [Way.bP, h1], by simp [Way.turn, Way.bP, h2], fun _ => by simp [Way.bN, h1], fun _ => by simp [Way.turn, Way.bN, h2], by simp [Way.bO, h3], by simp [Way.bC, h4]⟩
      · rw [if_neg h4]
        exact ⟨by simp [Way.bP, h1], by simp [Way.turn, Way.bP, h2], fun _ => by simp [Way.bN, h1], fun _ => by simp [Way.turn, Way.bN, h2], by simp [Way.bO, h3], by simp [Way.bC, h3, h4]⟩
theorem lie_uniq {v w : Way} (h : Lie Nb A B v) (k : Lie Nb A B w) : v = w := by
  have e1 : v.bP = w.bP := Bool.eq_iff_iff.mpr (h.p.trans k.p.symm)
  have e2 : v.turn.bP = w.turn.bP := Bool.eq_iff_iff.mpr (h.p'.trans k.p'.symm)
  have e3 : v.bO = w.bO := Bool.eq_iff_iff.mpr (h.o.trans k.o.symm)
  have e4 : v.bC = w.bC := Bool.eq_iff_iff.mpr (h.c.trans k.c.symm)
  have e5 : v ≠ .sa → w ≠ .sa → v.bN = w.bN := fun z y => Bool.eq_iff_iff.mpr ((h.n z).trans (k.n y).symm)
  have e6 : v ≠ .sa → w ≠ .sa → v.turn.bN = w.turn.bN := fun z y => Bool.eq_iff_iff.mpr ((h.n' z).trans (k.n' y).symm)
  revert v w
  have : ∀ v ∈ Way.all, ∀ w ∈ Way.all, v.bP = w.bP → v.turn.bP = w.turn.bP → v.bO = w.bO → v.bC = w.bC → (v ≠ .sa → w ≠ .sa → v.bN = w.bN) → (v ≠ .sa → w ≠ .sa → v.turn.bN = w.turn.bN) → v = w := by decide +kernel
  exact fun {v w} _ _ => this v v.mem_all w w.mem_all
theorem Tch.sym (hs : ∀ p q, Nb p q → Nb q p) (h : Tch Nb A B) : Tch Nb B A := let ⟨p, q, a, b, n⟩ := h; ⟨q, p, b, a, hs p q n⟩
theorem Lie.turn (hs : ∀ p q, Nb p q → Nb q p) {w : Way} (h : Lie Nb A B w) : Lie Nb B A w.turn := by
  have ho : w.turn.bO = w.bO := by cases w <;> rfl
  have hc : w.turn.bC = w.bC := by cases w <;> rfl
  have hsa : w.turn ≠ .sa → w ≠ .sa := by cases w <;> simp [Way.turn]
  refine ⟨h.p', by rw [Way.turn_turn]; exact h.p, fun z => h.n' (hsa z), fun z => by rw [Way.turn_turn]; exact h.n (hsa z), ?_, ?_⟩
  · rw [ho, h.o]; exact ⟨Com.sym, Com.sym⟩
  · rw [hc, h.c]
    exact ⟨fun z => z.elim (fun q => .inl q.sym) fun q => .inr (Tch.sym hs q), fun z => z.elim (fun q => .inl q.sym) fun q => .inr (Tch.sym hs q)⟩
theorem way_turn (hs : ∀ p q, Nb p q → Nb q p) (hA : ∃ p, A p) (hB : ∃ p, B p) : wayP Nb B A = (wayP Nb A B).turn := lie_uniq (lie_way hB hA) ((lie_way hA hB).turn hs)
theorem way_sa : wayP Nb A B = .sa ↔ ∀ p, A p ↔ B p := by
  unfold wayP
  constructor
  · intro h
    split at h
    · rename_i q; exact fun p => ⟨q.1 p, q.2 p⟩
    · split at h
      · split at h <;> cases h
      · split at h
        · split at h <;> cases h
        · split at h
          · cases h
          · split at h <;> cases h
  · intro h
    rw [if_pos ⟨fun p => (h p).mp, fun p => (h p).mpr⟩]
theorem rul_ok (hA : ∃ p, A p) {x y z : Way} (hx : x ≠ .sa) (hy : y ≠ .sa) (hz : z ≠ .sa) (h1 : Lie Nb A B x) (h2 : Lie Nb B C y) (h3 : Lie Nb A C z) : Way.rul x y z = true := by
  have r1 : x.bP = true → y.bP = true → z.bP = true := fun a b => h3.p.mpr fun p q => h2.p.mp b p (h1.p.mp a p q)
  have r2 : x.bP = true → z.bO = true → y.bO = true := fun a b => h2.o.mpr (let ⟨p, q, r⟩ := h3.o.mp b; ⟨p, h1.p.mp a p q, r⟩)
  have r3 : x.bP = true → z.bC = true → y.bC = true := fun a b => h2.c.mpr ((h3.c.mp b).elim (fun ⟨p, q, r⟩ => .inl ⟨p, h1.p.mp a p q, r⟩) fun ⟨p, q, r, s, t⟩ => .inr ⟨p, q, h1.p.mp a p r, s, t⟩)
  have r4 : x.bN = true → z.bC = true → y.bO = true := fun a b => h2.o.mpr (by
    obtain ⟨n1, n2⟩ := (h1.n hx).mp a
    rcases h3.c.mp b with ⟨p, q, r⟩ | ⟨p, q, r, s, t⟩
    · exact ⟨p, n1 p q, r⟩
    · exact ⟨q, Classical.byContradiction fun z => n2 ⟨p, q, r, t, z⟩, s⟩)
  have r5 : x.bN = true → y.bP = true → z.bN = true := fun a b => (h3.n hz).mpr (by
    obtain ⟨n1, n2⟩ := (h1.n hx).mp a
    have hb := h2.p.mp b
    exact ⟨fun p q => hb p (n1 p q), fun ⟨p, q, r, s, t⟩ => n2 ⟨p, q, r, s, fun z => t (hb q z)⟩⟩)
  have r6 : x.bP = true → y.bN = true → z.bN = true := fun a b => (h3.n hz).mpr (by
    obtain ⟨n1, n2⟩ := (h2.n hy).mp b
    have ha := h1.p.mp a
    exact ⟨fun p q => n1 p (ha p q), fun ⟨p, q, r, s, t⟩ => n2 ⟨p, q, ha p r, s, t⟩⟩)
  unfold Way.rul
  revert r1 r2 r3 r4 r5 r6
  generalize x.bP = x1; generalize y.bP = y1; generalize z.bP = z1; generalize x.bN = x2; generalize y.bN = y2; generalize z.bN = z2
  generalize y.bO = y3; generalize z.bO = z3; generalize y.bC = y4; generalize z.bC = z4
  cases x1 <;> cases y1 <;> cases z1 <;> cases x2 <;> cases y2 <;> cases z2 <;> cases y3 <;> cases z3 <;> cases y4 <;> cases z4 <;> simp
/-- what two ways lead to -/
theorem way_led (hs : ∀ p q, Nb p q → Nb q p) (hA : ∃ p, A p) (hB : ∃ p, B p) (hC : ∃ p, C p) : wayP Nb A C ∈ Way.led (wayP Nb A B) (wayP Nb B C) := by
  by_cases e1 : wayP Nb A B = .sa
  · have : A = B := funext fun p => propext (way_sa.mp e1 p)
    subst this
    rw [e1]
    exact List.mem_singleton.mpr rfl
  by_cases e2 : wayP Nb B C = .sa
  · have : B = C := funext fun p => propext (way_sa.mp e2 p)
    subst this
    rw [e2, Way.led_sa]
    exact List.mem_singleton.mpr rfl
  by_cases e3 : wayP Nb A C = .sa
  · have : A = C := funext fun p => propext (way_sa.mp e3 p)
    subst this
    rw [e3, way_turn hs hA hB]
    exact Way.sa_led _
  have a1 := lie_way (Nb := Nb) hA hB
  have a2 := lie_way (Nb := Nb) hB hC
  have a3 := lie_way (Nb := Nb) hA hC
  have ts : ∀ {w : Way}, w ≠ .sa → w.turn ≠ .sa := fun {w} h => by revert h; cases w <;> decide
  refine Way.ok_led _ _ _ e1 e2 e3 ?_
  unfold Way.ok3
  rw [rul_ok hA e1 e2 e3 a1 a2 a3, rul_ok hB (ts e1) e3 e2 (a1.turn hs) a3 a2, rul_ok hA e3 (ts e2) e1 a3 (a2.turn hs) a1, rul_ok hC (ts e3) e1 (ts e2) (a3.turn hs) a1 (a2.turn hs), rul_ok hB e2 (ts e3) (ts e1) a2 (a3.turn hs) (a1.turn hs), rul_ok hC (ts e2) (ts e1) (ts e3) (a2.turn hs) (a1.turn hs) (a3.turn hs)]
  rfl
end

end RG

set_option maxRecDepth 100000
set_option maxHeartbeats 4000000
namespace RG
open PySem PySem.Spec PyProof.Rows L2
/-! ### drawings -/
abbrev Drw := List (List (List Str))
def rowD (dr : Drw) (r : Int) : List (List Str) := (dr[r.toNat]?).getD []
def cellD (dr : Drw) (r a : Int) : List Str := ((rowD dr r)[a.toNat]?).getD []
def isPl (dr : Drw) (p : Int × Int) : Prop := 0 ≤ p.1 ∧ p.1 < dr.length ∧ 0 ≤ p.2 ∧ p.2 < (rowD dr p.1).length
def InD (dr : Drw) (x : Str) (p : Int × Int) : Prop := isPl dr p ∧ x ∈ cellD dr p.1 p.2
def NbD (dr : Drw) (p q : Int × Int) : Prop := isPl dr p ∧ isPl dr q ∧ p.1 = q.1 ∧ (q.2 = p.2 + 1 ∨ p.2 = q.2 + 1)
theorem nb_sym {dr : Drw} (p q : Int × Int) (h : NbD dr p q) : NbD dr q p := ⟨h.2.1, h.1, h.2.2.1.symm, h.2.2.2.symm⟩
structure Small (dr : Drw) : Prop where
  l : dr.length ≤ 100
  s : ∀ s ∈ dr, s.length ≤ 100
def plc (dr : Drw) (x : Str) : List (Int × Int) := (rng 0 dr.length).flatMap fun r => (rng 0 (rowD dr r).length).flatMap fun a => if x ∈ cellD dr r a then [(r, a)] else []
theorem rowD_mem {dr : Drw} {r : Int} (h0 : 0 ≤ r) (h : r < dr.length) : rowD dr r ∈ dr ∧ atI dr r = some (rowD dr r) := by
  obtain ⟨x, h1, h2, hh, h3⟩ := atI_int h0 h
  have : rowD dr r = x := by unfold rowD; rw [h3]; simp [hh]
  rw [this]; exact ⟨h2, h1⟩
theorem cellD_at {dr : Drw} {r a : Int} (h0 : 0 ≤ a) (h : a < (rowD dr r).length) : cellD dr r a ∈ rowD dr r ∧ atI (rowD dr r) a = some (cellD dr r a) := by
  obtain ⟨x, h1, h2, hh, h3⟩ := atI_int h0 h
  have : cellD dr r a = x := by unfold cellD; rw [h3]; simp [hh]
  rw [this]; exact ⟨h2, h1⟩
theorem mem_plc {dr : Drw} {x : Str} {p : Int × Int} : p ∈ plc dr x ↔ InD dr x p := by
  unfold plc InD isPl
  constructor
  · intro h
    obtain ⟨r, hr, h⟩ := List.mem_flatMap.mp h
    obtain ⟨a, ha, h⟩ := List.mem_flatMap.mp h
    have hr := rng_mem.mp hr
    have ha := rng_mem.mp ha
    split at h
    · rename_i q
      rw [List.mem_singleton.mp h]
      exact ⟨⟨hr.1, by simpa using hr.2, ha.1, by simpa using ha.2⟩, q⟩
    · cases h
  · rintro ⟨⟨h1, h2, h3, h4⟩, h5⟩
    refine List.mem_flatMap.mpr ⟨p.1, rng_mem.mpr ⟨h1, by simpa using h2⟩, List.mem_flatMap.mpr ⟨p.2, rng_mem.mpr ⟨h3, by simpa using h4⟩, ?_⟩⟩
    rw [if_pos h5]
    exact List.mem_singleton.mpr rfl
theorem rng_nodup : ∀ {n : Nat} {lo : Int}, (rng lo n).Nodup
  | 0, _ => List.nodup_nil
  | n + 1, lo => by
    unfold rng
    refine List.nodup_cons.mpr ⟨fun h => ?_, rng_nodup⟩
    have := rng_mem.mp h
    omega
theorem nodup_flatMap {α β : Type} {f : α → List β} : ∀ {l : List α}, l.Nodup → (∀ a ∈ l, (f a).Nodup) → (∀ a ∈ l, ∀ b ∈ l, a ≠ b → ∀ x ∈ f a, x ∉ f b) → (l.flatMap f).Nodup
  | [], _, _, _ => List.nodup_nil
  | a :: l, h, h1, h2 => by
    rw [List.flatMap_cons]
    have hc := List.nodup_cons.mp h
    refine List.nodup_append.mpr ⟨h1 a List.mem_cons_self, nodup_flatMap hc.2 (fun b hb => h1 b (List.mem_cons_of_mem _ hb)) (fun b hb c hd => h2 b (List.mem_cons_of_mem _ hb) c (List.mem_cons_of_mem _ hd)), ?_⟩
    intro x hx y hy e
    subst e
    obtain ⟨b, hb, hy⟩ := List.mem_flatMap.mp hy
    exact h2 a List.mem_cons_self b (List.mem_cons_of_mem _ hb) (fun z => hc.1 (z ▸ hb)) x hx hy
theorem plc_nodup (dr : Drw) (x : Str) : (plc dr x).Nodup := by
  unfold plc
  refine nodup_flatMap rng_nodup (fun r _ => nodup_flatMap rng_nodup (fun a _ => ?_) fun a _ b _ hab p hp hq => ?_) fun r _ q _ hrq p hp hq => ?_
  · split
    · simp
    · exact List.nodup_nil
  · split at hp <;> split at hq <;> simp at hp hq
    exact hab (by rw [hp] at hq; exact (Prod.mk.inj hq).2)
  · obtain ⟨a, _, ha⟩ := List.mem_flatMap.mp hp
    obtain ⟨b, _, hb⟩ := List.mem_flatMap.mp hq
    split at ha <;> split at hb <;> simp at ha hb
    exact hrq (by rw [ha] at hb; exact (Prod.mk.inj hb).1)
/-- a walk that puts more behind a list -/
theorem for_app {α β : Type} {body : List β → α → Option (List β)} (f : α → List β) (k N : Nat) : ∀ {xs : List α} {s : List β}, (∀ x ∈ xs, (f x).length ≤ k) → (∀ x ∈ xs, ∀ s : List β, s.length + k ≤ N → body s x = some (s ++ f x)) → s.length + k * xs.length ≤ N → pFor body xs s = some (s ++ xs.flatMap f)
  | [], s, _, _, _ => by simp [pFor]
  | x :: xs, s, h1, h2, hN => by
    unfold pFor
    rw [List.length_cons, Nat.mul_add] at hN
    rw [h2 x List.mem_cons_self s (by omega)]
    have hx := h1 x List.mem_cons_self
    rw [show (some (s ++ f x)).bind (pFor body xs) = pFor body xs (s ++ f x) from rfl, for_app f k N (fun y hy => h1 y (List.mem_cons_of_mem _ hy)) (fun y hy => h2 y (List.mem_cons_of_mem _ hy)) (by rw [List.length_append]; omega)]
    simp
theorem flatMap_len {α β : Type} {f : α → List β} {k : Nat} : ∀ {xs : List α}, (∀ x ∈ xs, (f x).length ≤ k) → (xs.flatMap f).length ≤ k * xs.length
  | [], _ => by simp
  | x :: xs, h => by
    have := flatMap_len fun y hy => h y (List.mem_cons_of_mem _ hy)
    have := h x List.mem_cons_self
    rw [List.flatMap_cons, List.length_append, List.length_cons, Nat.mul_add]
    omega
theorem plc_inner {dr : Drw} (hs : Small dr) {r : Int} (h0 : 0 ≤ r) (h : r < dr.length) (x : Str) : ((rng 0 (rowD dr r).length).flatMap fun a => if x ∈ cellD dr r a then [(r, a)] else []).length ≤ 100 := by
  have hl := hs.s _ (rowD_mem h0 h).1
  have := flatMap_len (xs := rng 0 (rowD dr r).length) (f := fun a => if x ∈ cellD dr r a then [(r, a)] else []) (k := 1) (fun a _ => by split <;> simp)
  rw [rng_len] at this
  omega

end RG

set_option maxRecDepth 100000
set_option maxHeartbeats 4000000
namespace RG
open PySem PySem.Spec PyProof.Rows L2
theorem places1_eq {dr : Drw} {r a : Int} {x : Str} {s : List (Int × Int)} (h0 : 0 ≤ r) (h : r < dr.length) (ha0 : 0 ≤ a) (ha : a < (rowD dr r).length) (hl : s.length + 1 ≤ 16000000) : pl__law_places_1 dr x r s a = some (s ++ if x ∈ cellD dr r a then [(r, a)] else []) := by
  unfold pl__law_places_1
  simp only [(rowD_mem h0 h).2, Option.bind_some, (cellD_at ha0 ha).2, pApp_ok (xs := s) (x := (r, a)) (by omega)]
  by_cases hx : x ∈ cellD dr r a <;> simp [hx]
theorem places2_eq {dr : Drw} (hs : Small dr) {r : Int} {x : Str} {s : List (Int × Int)} (h0 : 0 ≤ r) (h : r < dr.length) (hl : s.length + 100 ≤ 16000000) : pl__law_places_2 dr x s r = some (s ++ (rng 0 (rowD dr r).length).flatMap fun a => if x ∈ cellD dr r a then [(r, a)] else []) := by
  have hr := hs.s _ (rowD_mem h0 h).1
  unfold pl__law_places_2
  simp only [(rowD_mem h0 h).2, Option.bind_some, pRange_ok (n := (rowD dr r).length) (by omega) (by omega)]
  rw [for_app (fun a => if x ∈ cellD dr r a then [(r, a)] else []) 1 16000000 (fun a _ => by split <;> simp) (fun a ha s hl => by
    have := rng_mem.mp ha
    exact places1_eq h0 h this.1 (by simpa using this.2) hl) (by rw [rng_len]; simp; omega)]
  simp
theorem places_eq {dr : Drw} (hs : Small dr) (x : Str) : p__law_places dr x = some (plc dr x) := by
  have hd := hs.l
  unfold p__law_places plc
  simp only [pRange_ok (n := dr.length) (by omega) (by omega), Option.bind_some]
  rw [for_app _ 100 16000000 (fun r hr => by
    have := rng_mem.mp hr
    exact plc_inner hs this.1 (by simpa using this.2) x) (fun r hr s hl => by
    have := rng_mem.mp hr
    exact places2_eq hs this.1 (by simpa using this.2) hl) (by rw [rng_len]; simp; omega)]
  simp
theorem plots_eq {dr : Drw} (hs : Small dr) (x : Str) (hx : ∃ p, InD dr x p) : p_plots_of dr x = some (plc dr x) := by
  have h1 : p_plots_of dr x = (p__law_places dr x).bind fun l => (pEq (eL (eP2 D.int D.int)) l ([] : (List (Int × Int)))).bind fun b => if b then none else some l := by
    unfold p_plots_of p__law_places
    simp only [Option.bind_assoc]
    rfl
  rw [h1, places_eq hs x]
  simp only [Option.bind_some, pEq_pl]
  obtain ⟨p, hp⟩ := hx
  have : plc dr x ≠ [] := fun z => by have := mem_plc.mpr hp; rw [z] at this; cases this
  simp [this]
/-! how two lands are seen -/
noncomputable def wayD (dr : Drw) (x y : Str) : Way := wayP (NbD dr) (InD dr x) (InD dr y)
def inter (l m : List (Int × Int)) : List (Int × Int) := l.filter fun p => decide (p ∈ m)
theorem inter_len {l m : List (Int × Int)} : (inter l m).length = l.length ↔ ∀ p ∈ l, p ∈ m := by
  unfold inter
  rw [List.length_filter_eq_length_iff]
  simp
theorem inter_self {l m : List (Int × Int)} : inter l m = l ↔ ∀ p ∈ l, p ∈ m := by
  unfold inter
  rw [List.filter_eq_self]
  simp
theorem inter_len' {l m : List (Int × Int)} (hl : l.Nodup) (hm : m.Nodup) : (inter l m).length = m.length ↔ ∀ p ∈ m, p ∈ l := by
  have hp : (inter l m).Perm (inter m l) := (List.perm_ext_iff_of_nodup (hl.filter _) (hm.filter _)).mpr fun p => by
    simp only [inter, List.mem_filter, decide_eq_true_eq]; exact and_comm
  rw [hp.length_eq]
  exact inter_len
theorem comp_inter {body : (Int × Int) → Option (Option (Int × Int))} {m : List (Int × Int)} (h : ∀ p, body p = (pIn (eP2 D.int D.int) p m).bind fun b => if b then some (some p) else some none) (l : List (Int × Int)) : pComp body l = some (inter l m) := by
  rw [comp_pick (fun p => decide (p ∈ m)) (fun p => p) fun p _ => by
    rw [h, pIn_pl]
    by_cases q : p ∈ m <;> simp [q]]
  rw [List.map_id']; rfl
theorem nb_iff {dr : Drw} {p q : Int × Int} (hp : isPl dr p) : NbD dr p q ↔ isPl dr q ∧ q.1 = p.1 ∧ (q.2 = p.2 - 1 ∨ q.2 = p.2 + 1) := by
  unfold NbD
  constructor
  · rintro ⟨_, h1, h2, h3⟩; exact ⟨h1, h2.symm, by omega⟩
  · rintro ⟨h1, h2, h3⟩; exact ⟨hp, h1, h2.symm, by omega⟩
theorem isPl_row {dr : Drw} {p : Int × Int} (hp : isPl dr p) (n : Int) : isPl dr (p.1, n) ↔ 0 ≤ n ∧ n < (rowD dr p.1).length := by
  unfold isPl
  exact ⟨fun h => ⟨h.2.2.1, h.2.2.2⟩, fun h => ⟨hp.1, hp.2.1, h.1, h.2⟩⟩
theorem reach1_eq {dr : Drw} {m : List (Int × Int)} {p : Int × Int} (hp : isPl dr p) (n : Int) : Wp (pl_reaches_out_1 m dr p () n) fun c => (c = .rt true ∧ isPl dr (p.1, n) ∧ (p.1, n) ∉ m) ∨ (c = .nx () ∧ (isPl dr (p.1, n) → (p.1, n) ∈ m)) := by
  have hr := (rowD_mem hp.1 hp.2.1).2
  have hi := isPl_row hp n
  unfold pl_reaches_out_1
  simp only [hr, Option.bind_some, pIn_pl]
  by_cases h : 0 ≤ n ∧ n < (rowD dr p.1).length
  · by_cases hm : (p.1, n) ∈ m
    · exact ⟨.nx (), by simp [h, hm], .inr ⟨rfl, fun _ => hm⟩⟩
    · exact ⟨.rt true, by simp [h, hm], .inl ⟨rfl, hi.mpr h, hm⟩⟩
  · refine ⟨.nx (), ?_, .inr ⟨rfl, fun z => absurd (hi.mp z) h⟩⟩
    have h' : (decide (0 ≤ n) && decide (n < ((rowD dr p.1).length : Int))) = false := by
      rw [Bool.and_eq_false_iff, decide_eq_false_iff_not, decide_eq_false_iff_not]
      exact Classical.not_and_iff_not_or_not.mp h
    simp [h']
/-- whether a plot has a neighbour that isn't there -/
theorem reach_wp {dr : Drw} {l m : List (Int × Int)} (hl : ∀ p ∈ l, isPl dr p) : Wp (p_reaches_out l m dr) fun b => (b = true ↔ ∃ p ∈ l, ∃ q, NbD dr p q ∧ q ∉ m) := by
  unfold p_reaches_out
  refine wp_then (wp_forRR (fun pre _ => ∀ p ∈ pre, ∀ q, NbD dr p q → q ∈ m) (fun r => r = true ∧ ∃ p ∈ l, ∃ q, NbD dr p q ∧ q ∉ m) (xs := l) (pre := []) (s := ()) (by simp) fun pre p hp s hI => ?_) fun c hc => ?_
  · have hpl := hl p hp
    unfold pl_reaches_out_2
    refine wp_then (wp_forRR (fun pr _ => ∀ n ∈ pr, isPl dr (p.1, n) → (p.1, n) ∈ m) (fun r => r = true ∧ ∃ n, (n = p.2 - 1 ∨ n = p.2 + 1) ∧ isPl dr (p.1, n) ∧ (p.1, n) ∉ m) (xs := [p.2 - 1, p.2 + 1]) (pre := []) (s := ()) (by simp) fun pr n hn s hJ => ?_) fun c hc => ?_
    · refine wp_mono (reach1_eq hpl n) fun c hc => ?_
      rcases hc with ⟨rfl, h1, h2⟩ | ⟨rfl, h1⟩
      · exact ⟨rfl, n, by simpa using hn, h1, h2⟩
      · intro k hk
        rcases List.mem_append.mp hk with q | q
        · exact hJ k q
        · rw [List.mem_singleton.mp q]; exact h1
    · cases c with
      | rt r =>
        obtain ⟨h1, n, h2, h3, h4⟩ := hc
        exact wp_some ⟨h1, p, hp, (p.1, n), (nb_iff hpl).mpr ⟨h3, rfl, h2⟩, h4⟩
      | nx _ =>
        refine wp_some ?_
        intro q hq r hr
        rcases List.mem_append.mp hq with z | z
        · exact hI q z r hr
        · rw [List.mem_singleton.mp z] at hr
          obtain ⟨h1, h2, h3⟩ := (nb_iff hpl).mp hr
          have e : r = (p.1, r.2) := Prod.ext h2 rfl
          rw [e] at h1 ⊢
          exact hc r.2 (by simpa using h3) h1
  · cases c with
    | rt r => exact wp_some ⟨fun _ => hc.2, fun _ => hc.1⟩
    | nx _ =>
      refine wp_some ⟨fun z => (nomatch z), fun ⟨p, hp, q, h1, h2⟩ => absurd (hc p (by simpa using hp) q h1) h2⟩
theorem near_wp {dr : Drw} {l m : List (Int × Int)} (hl : ∀ p ∈ l, isPl dr p) (hm : ∀ p ∈ m, isPl dr p) : Wp (p_are_near l m) fun b => (b = true ↔ ∃ p ∈ l, ∃ q ∈ m, NbD dr p q) := by
  unfold p_are_near
  refine wp_then (wp_forRR (fun pre _ => ∀ p ∈ pre, ∀ q ∈ m, ¬ NbD dr p q) (fun r => r = true ∧ ∃ p ∈ l, ∃ q ∈ m, NbD dr p q) (xs := l) (pre := []) (s := ()) (by simp) fun pre p hp s hI => ?_) fun c hc => ?_
  · have hpl := hl p hp
    have key : (∃ q ∈ m, NbD dr p q) ↔ (p.1, p.2 - 1) ∈ m ∨ (p.1, p.2 + 1) ∈ m := by
      constructor
      · rintro ⟨q, hq, h⟩
        obtain ⟨_, h2, h3⟩ := (nb_iff hpl).mp h
        have e : q = (p.1, q.2) := Prod.ext h2 rfl
        rcases h3 with z | z
        · exact .inl (by rw [← z, ← e]; exact hq)
        · exact .inr (by rw [← z, ← e]; exact hq)
      · rintro (h | h)
        · exact ⟨_, h, (nb_iff hpl).mpr ⟨hm _ h, rfl, .inl rfl⟩⟩
        · exact ⟨_, h, (nb_iff hpl).mpr ⟨hm _ h, rfl, .inr rfl⟩⟩
    unfold pl_are_near_1
    simp only [pIn_pl, Option.bind_some]
    by_cases h1 : (p.1, p.2 - 1) ∈ m
    · exact ⟨.rt true, by simp [h1], rfl, p, hp, key.mpr (.inl h1)⟩
    · by_cases h2 : (p.1, p.2 + 1) ∈ m
      · exact ⟨.rt true, by simp [h1, h2], rfl, p, hp, key.mpr (.inr h2)⟩
      · refine ⟨.nx (), by simp [h1, h2], ?_⟩
        intro q hq r hr hn
        rcases List.mem_append.mp hq with z | z
        · exact hI q z r hr hn
        · rw [List.mem_singleton.mp z] at hn
          rcases key.mp ⟨r, hr, hn⟩ with y | y
          · exact h1 y
          · exact h2 y
  · cases c with
    | rt r => exact wp_some ⟨fun _ => hc.2, fun _ => hc.1⟩
    | nx _ => exact wp_some ⟨fun z => (nomatch z), fun ⟨p, hp, q, h1, h2⟩ => absurd h2 (hc p (by simpa using hp) q h1)⟩
theorem plc_pl {dr : Drw} {x : Str} : ∀ p ∈ plc dr x, isPl dr p := fun p h => (mem_plc.mp h).1
/-- the program's own look -/
theorem seen_eq {dr : Drw} (hs : Small dr) {x y : Str} (hx : ∃ p, InD dr x p) (hy : ∃ p, InD dr y p) : p_seen dr x y = some (wayD dr x y).s := by
  have hl : ∀ {a b : Str}, (inter (plc dr a) (plc dr b)).length = (plc dr a).length ↔ Sub (InD dr a) (InD dr b) := fun {a b} => by
    rw [inter_len]
    exact ⟨fun h p hp => mem_plc.mp (h p (mem_plc.mpr hp)), fun h p hp => mem_plc.mpr (h p (mem_plc.mp hp))⟩
  have hl' : (inter (plc dr x) (plc dr y)).length = (plc dr y).length ↔ Sub (InD dr y) (InD dr x) := by
    rw [inter_len' (plc_nodup dr x) (plc_nodup dr y)]
    exact ⟨fun h p hp => mem_plc.mp (h p (mem_plc.mpr hp)), fun h p hp => mem_plc.mpr (h p (mem_plc.mp hp))⟩
  have hout : ∀ {a b : Str}, (∃ p ∈ plc dr a, ∃ q, NbD dr p q ∧ q ∉ plc dr b) ↔ Out (NbD dr) (InD dr a) (InD dr b) := fun {a b} =>
    ⟨fun ⟨p, h1, q, h2, h3⟩ => ⟨p, q, mem_plc.mp h1, h2, fun z => h3 (mem_plc.mpr z)⟩, fun ⟨p, q, h1, h2, h3⟩ => ⟨p, mem_plc.mpr h1, q, h2, fun z => h3 (mem_plc.mp z)⟩⟩
  have hcom : inter (plc dr x) (plc dr y) ≠ [] ↔ Com (InD dr x) (InD dr y) := by
    constructor
    · intro h
      obtain ⟨p, hp⟩ := List.exists_mem_of_ne_nil _ h
      have := List.mem_filter.mp hp
      exact ⟨p, mem_plc.mp this.1, mem_plc.mp (by simpa using this.2)⟩
    · rintro ⟨p, h1, h2⟩ z
      have : p ∈ inter (plc dr x) (plc dr y) := List.mem_filter.mpr ⟨mem_plc.mpr h1, by simpa using mem_plc.mpr h2⟩
      rw [z] at this; cases this
  have htch : (∃ p ∈ plc dr x, ∃ q ∈ plc dr y, NbD dr p q) ↔ Tch (NbD dr) (InD dr x) (InD dr y) :=
    ⟨fun ⟨p, h1, q, h2, h3⟩ => ⟨p, q, mem_plc.mp h1, mem_plc.mp h2, h3⟩, fun ⟨p, q, h1, h2, h3⟩ => ⟨p, mem_plc.mpr h1, q, mem_plc.mpr h2, h3⟩⟩
  unfold p_seen wayD wayP
  simp only [plots_eq hs x hx, plots_eq hs y hy, Option.bind_some, comp_inter (body := pc_seen_1 (plc dr y)) (m := plc dr y) (fun p => rfl), pEq_pl]
  have d1 : decide (((inter (plc dr x) (plc dr y)).length : Int) = ((plc dr x).length : Int)) = true ↔ Sub (InD dr x) (InD dr y) := by rw [decide_eq_true_eq, Int.ofNat_inj]; exact hl
  have d2 : decide (((inter (plc dr x) (plc dr y)).length : Int) = ((plc dr y).length : Int)) = true ↔ Sub (InD dr y) (InD dr x) := by rw [decide_eq_true_eq, Int.ofNat_inj]; exact hl'
  have d3 : decide (inter (plc dr x) (plc dr y) = []) = false ↔ Com (InD dr x) (InD dr y) := by rw [decide_eq_false_iff_not]; exact hcom
  generalize decide (((inter (plc dr x) (plc dr y)).length : Int) = ((plc dr x).length : Int)) = b1 at d1 ⊢
  generalize decide (((inter (plc dr x) (plc dr y)).length : Int) = ((plc dr y).length : Int)) = b2 at d2 ⊢
  generalize decide (inter (plc dr x) (plc dr y) = []) = b3 at d3 ⊢
  have tf : ∀ b : Bool, b = true ∨ b = false := fun b => by cases b <;> simp
  obtain rfl | rfl := tf b1 <;> obtain rfl | rfl := tf b2 <;> simp only [Bool.false_eq_true, false_iff, true_iff] at d1 d2
  · simp [d1, d2, Way.s]
  · obtain ⟨b, e, hb⟩ := reach_wp (m := plc dr y) (plc_pl (dr := dr) (x := x))
    rw [hout] at hb
    by_cases h3 : Out (NbD dr) (InD dr x) (InD dr y)
    · have : b = true := hb.mpr h3
      subst this; simp [d1, d2, h3, e, Way.s]
    · have : b = false := by cases b; rfl; exact absurd (hb.mp rfl) h3
      subst this; simp [d1, d2, h3, e, Way.s]
  · obtain ⟨b, e, hb⟩ := reach_wp (m := plc dr x) (plc_pl (dr := dr) (x := y))
    rw [hout] at hb
    by_cases h3 : Out (NbD dr) (InD dr y) (InD dr x)
    · have : b = true := hb.mpr h3
      subst this; simp [d1, d2, h3, e, Way.s]
    · have : b = false := by cases b; rfl; exact absurd (hb.mp rfl) h3
      subst this; simp [d1, d2, h3, e, Way.s]
  · by_cases h3 : Com (InD dr x) (InD dr y)
    · have := d3.mpr h3
      subst this
      simp [d1, d2, h3, Way.s]
    · have h3' : b3 = true := by cases b3; exact absurd (d3.mp rfl) h3; rfl
      subst h3'
      obtain ⟨b, e, hb⟩ := near_wp (plc_pl (dr := dr) (x := x)) (plc_pl (dr := dr) (x := y))
      rw [htch] at hb
      by_cases h4 : Tch (NbD dr) (InD dr x) (InD dr y)
      · have : b = true := hb.mpr h4
        subst this; simp [d1, d2, h3, h4, e, Way.s]
      · have : b = false := by cases b; rfl; exact absurd (hb.mp rfl) h4
        subst this; simp [d1, d2, h3, h4, e, Way.s]

end RG

set_option maxRecDepth 100000
set_option maxHeartbeats 4000000
namespace RG
open PySem PySem.Spec PyProof.Rows L2
/-! the law's look -/
def allPl (dr : Drw) : List (Int × Int) := (rng 0 dr.length).flatMap fun r => (rng 0 (rowD dr r).length).map fun a => (r, a)
theorem flat_if {α β : Type} (c : α → Bool) (f : α → β) : ∀ l : List α, (l.flatMap fun a => if c a = true then [f a] else []) = (l.filter c).map f
  | [] => rfl
  | a :: l => by
    rw [List.flatMap_cons, flat_if c f l]
    by_cases h : c a = true
    · rw [List.filter_cons_of_pos h]; simp [h]
    · rw [List.filter_cons_of_neg h]; simp [h]
theorem plc_filter (dr : Drw) (x : Str) : plc dr x = (allPl dr).filter fun p => decide (x ∈ cellD dr p.1 p.2) := by
  unfold plc allPl
  rw [List.filter_flatMap]
  congr 1
  funext r
  rw [List.filter_map]
  have := flat_if (fun a => decide (x ∈ cellD dr r a)) (fun a => (r, a)) (rng 0 (rowD dr r).length)
  simp only [decide_eq_true_eq] at this
  rw [this]; rfl
theorem plc_ext {dr : Drw} {x y : Str} : plc dr x = plc dr y ↔ Sub (InD dr x) (InD dr y) ∧ Sub (InD dr y) (InD dr x) := by
  constructor
  · intro h
    exact ⟨fun p hp => mem_plc.mp (h ▸ mem_plc.mpr hp), fun p hp => mem_plc.mp (h ▸ mem_plc.mpr hp)⟩
  · rintro ⟨h1, h2⟩
    rw [plc_filter, plc_filter]
    refine List.filter_congr fun p hp => ?_
    have hpl : isPl dr p := by
      obtain ⟨r, hr, h⟩ := List.mem_flatMap.mp hp
      obtain ⟨a, ha, rfl⟩ := List.mem_map.mp h
      have hr := rng_mem.mp hr
      have ha := rng_mem.mp ha
      exact ⟨hr.1, by simpa using hr.2, ha.1, by simpa using ha.2⟩
    have e : x ∈ cellD dr p.1 p.2 ↔ y ∈ cellD dr p.1 p.2 := ⟨fun z => (h1 p ⟨hpl, z⟩).2, fun z => (h2 p ⟨hpl, z⟩).2⟩
    exact decide_eq_decide.mpr e
theorem inter_comm (dr : Drw) (x y : Str) : inter (plc dr x) (plc dr y) = inter (plc dr y) (plc dr x) := by
  have h : ∀ a b : Str, inter (plc dr a) (plc dr b) = (allPl dr).filter fun p => decide (a ∈ cellD dr p.1 p.2) && decide (p ∈ plc dr b) := fun a b => by
    unfold inter
    rw [plc_filter dr a, List.filter_filter]
    refine List.filter_congr fun p _ => ?_
    rw [Bool.and_comm]
  rw [h, h]
  refine List.filter_congr fun p hp => ?_
  have k : ∀ b : Str, p ∈ plc dr b ↔ b ∈ cellD dr p.1 p.2 := fun b => by rw [plc_filter]; simp [hp]
  by_cases h1 : x ∈ cellD dr p.1 p.2 <;> by_cases h2 : y ∈ cellD dr p.1 p.2 <;> simp [h1, h2, k]
theorem inter_subL {dr : Drw} {x y : Str} : inter (plc dr x) (plc dr y) = plc dr x ↔ Sub (InD dr x) (InD dr y) := by
  rw [inter_self]
  exact ⟨fun h p hp => mem_plc.mp (h p (mem_plc.mpr hp)), fun h p hp => mem_plc.mpr (h p (mem_plc.mp hp))⟩
theorem inter_subR {dr : Drw} {x y : Str} : inter (plc dr x) (plc dr y) = plc dr y ↔ Sub (InD dr y) (InD dr x) := by
  rw [inter_comm]; exact inter_subL
theorem inter_com {dr : Drw} {x y : Str} : inter (plc dr x) (plc dr y) ≠ [] ↔ Com (InD dr x) (InD dr y) := by
  constructor
  · intro h
    obtain ⟨p, hp⟩ := List.exists_mem_of_ne_nil _ h
    have := List.mem_filter.mp hp
    exact ⟨p, mem_plc.mp this.1, mem_plc.mp (by simpa using this.2)⟩
  · rintro ⟨p, h1, h2⟩ z
    have : p ∈ inter (plc dr x) (plc dr y) := List.mem_filter.mpr ⟨mem_plc.mpr h1, by simpa using mem_plc.mpr h2⟩
    rw [z] at this; cases this
theorem lnear_wp {dr : Drw} {l : List (Int × Int)} (hl : ∀ p ∈ l, isPl dr p) (hn : l.length ≤ 1000000) : Wp (p__law_near dr l) fun m => ∀ q, q ∈ m ↔ ∃ p ∈ l, NbD dr p q := by
  have h1 : ∀ p ∈ l, ∀ s : List (Int × Int), s.length + 2 ≤ 16000000 → pl__law_near_1 dr s p = some (s ++ ((if 0 < p.2 then [(p.1, p.2 - 1)] else []) ++ if p.2 + 1 < (rowD dr p.1).length then [(p.1, p.2 + 1)] else [])) := by
    intro p hp s hs
    have hr := (rowD_mem (hl p hp).1 (hl p hp).2.1).2
    unfold pl__law_near_1
    by_cases c1 : 0 < p.2 <;> by_cases c2 : p.2 + 1 < ((rowD dr p.1).length : Int)
    · simp [c1, c2, hr, pApp_ok (xs := s) (x := (p.1, p.2 - 1)) (by omega), pApp_ok (xs := s ++ [(p.1, p.2 - 1)]) (x := (p.1, p.2 + 1)) (by simp; omega)]
    · simp [c1, c2, hr, pApp_ok (xs := s) (x := (p.1, p.2 - 1)) (by omega)]
    · simp [c1, c2, hr, pApp_ok (xs := s) (x := (p.1, p.2 + 1)) (by omega)]
    · simp [c1, c2, hr]
  unfold p__law_near
  rw [for_app (fun p : Int × Int => (if 0 < p.2 then [(p.1, p.2 - 1)] else []) ++ if p.2 + 1 < ((rowD dr p.1).length : Int) then [(p.1, p.2 + 1)] else []) 2 16000000 (fun p _ => by
    simp only [List.length_append]
    split <;> split <;> simp) h1 (by simp; omega)]
  refine wp_some fun q => ?_
  simp only [List.nil_append, List.mem_flatMap]
  constructor
  · rintro ⟨p, hp, h⟩
    have hpl := hl p hp
    have hb := hpl
    unfold isPl at hb
    refine ⟨p, hp, (nb_iff hpl).mpr ?_⟩
    rcases List.mem_append.mp h with h | h
    · split at h
      · rename_i c; rw [List.mem_singleton.mp h]; exact ⟨(isPl_row hpl _).mpr ⟨by omega, by omega⟩, rfl, .inl rfl⟩
      · cases h
    · split at h
      · rename_i c; rw [List.mem_singleton.mp h]; exact ⟨(isPl_row hpl _).mpr ⟨by omega, c⟩, rfl, .inr rfl⟩
      · cases h
  · rintro ⟨p, hp, h⟩
    have hpl := hl p hp
    obtain ⟨h1, h2, h3⟩ := (nb_iff hpl).mp h
    have e : q = (p.1, q.2) := Prod.ext h2 rfl
    have hq := h1
    rw [e] at hq
    have hq := (isPl_row hpl _).mp hq
    refine ⟨p, hp, List.mem_append.mpr ?_⟩
    rcases h3 with z | z
    · left; rw [if_pos (by omega), List.mem_singleton, e, z]
    · right; rw [if_pos (by omega), List.mem_singleton, e, z]
theorem comp_inter2 {body : (Int × Int) → Option (Option (Int × Int))} {m : List (Int × Int)} (h : ∀ p, body p = (pIn (eP2 D.int D.int) p m).bind fun b => if !b then some (some p) else some none) (l : List (Int × Int)) : pComp body l = some (l.filter fun p => !decide (p ∈ m)) := by
  rw [comp_pick (fun p => !decide (p ∈ m)) (fun p => p) fun p _ => by
    rw [h, pIn_pl]
    by_cases q : p ∈ m <;> simp [q]]
  rw [List.map_id']
theorem plc_len {dr : Drw} (hs : Small dr) (x : Str) : (plc dr x).length ≤ 10000 := by
  have := flatMap_len (xs := rng 0 dr.length) (f := fun r => (rng 0 (rowD dr r).length).flatMap fun a => if x ∈ cellD dr r a then [(r, a)] else []) (k := 100) (fun r hr => by
    have := rng_mem.mp hr
    exact plc_inner hs this.1 (by simpa using this.2) x)
  rw [rng_len] at this
  have := hs.l
  show ((rng 0 dr.length).flatMap _).length ≤ _
  omega
theorem law_seen_eq {dr : Drw} (hs : Small dr) (x y : Str) : p__law_seen dr x y = some (wayD dr x y).s := by
  have tf : ∀ b : Bool, b = true ∨ b = false := fun b => by cases b <;> simp
  have hout : ∀ {a b : Str} {m : List (Int × Int)}, (∀ q, q ∈ m ↔ ∃ p ∈ plc dr a, NbD dr p q) → ((m.filter fun p => !decide (p ∈ plc dr b)) ≠ [] ↔ Out (NbD dr) (InD dr a) (InD dr b)) := fun {a b m} h => by
    constructor
    · intro z
      obtain ⟨q, hq⟩ := List.exists_mem_of_ne_nil _ z
      have hq := List.mem_filter.mp hq
      obtain ⟨p, hp, hn⟩ := (h q).mp hq.1
      have hq2 : q ∉ plc dr b := by simpa using hq.2
      exact ⟨p, q, mem_plc.mp hp, hn, fun w => hq2 (mem_plc.mpr w)⟩
    · rintro ⟨p, q, h1, h2, h3⟩ z
      have : q ∈ m.filter fun p => !decide (p ∈ plc dr b) := List.mem_filter.mpr ⟨(h q).mpr ⟨p, mem_plc.mpr h1, h2⟩, by simpa using fun w => h3 (mem_plc.mp w)⟩
      rw [z] at this; cases this
  have htch : ∀ {m : List (Int × Int)}, (∀ q, q ∈ m ↔ ∃ p ∈ plc dr x, NbD dr p q) → (inter m (plc dr y) ≠ [] ↔ Tch (NbD dr) (InD dr x) (InD dr y)) := fun {m} h => by
    constructor
    · intro z
      obtain ⟨q, hq⟩ := List.exists_mem_of_ne_nil _ z
      have hq := List.mem_filter.mp hq
      obtain ⟨p, hp, hn⟩ := (h q).mp hq.1
      exact ⟨p, q, mem_plc.mp hp, mem_plc.mp (by simpa using hq.2), hn⟩
    · rintro ⟨p, q, h1, h2, h3⟩ z
      have : q ∈ inter m (plc dr y) := List.mem_filter.mpr ⟨(h q).mpr ⟨p, mem_plc.mpr h1, h3⟩, by simpa using mem_plc.mpr h2⟩
      rw [z] at this; cases this
  unfold p__law_seen wayD wayP
  simp only [places_eq hs, Option.bind_some, comp_inter (body := pc__law_seen_1 (plc dr y)) (m := plc dr y) (fun p => rfl), pEq_pl]
  have d0 : decide (plc dr x = plc dr y) = true ↔ Sub (InD dr x) (InD dr y) ∧ Sub (InD dr y) (InD dr x) := by rw [decide_eq_true_eq]; exact plc_ext
  have d1 : decide (inter (plc dr x) (plc dr y) = plc dr x) = true ↔ Sub (InD dr x) (InD dr y) := by rw [decide_eq_true_eq]; exact inter_subL
  have d2 : decide (inter (plc dr x) (plc dr y) = plc dr y) = true ↔ Sub (InD dr y) (InD dr x) := by rw [decide_eq_true_eq]; exact inter_subR
  have d3 : decide (inter (plc dr x) (plc dr y) = []) = false ↔ Com (InD dr x) (InD dr y) := by rw [decide_eq_false_iff_not]; exact inter_com
  generalize decide (plc dr x = plc dr y) = b0 at d0 ⊢
  generalize decide (inter (plc dr x) (plc dr y) = plc dr x) = b1 at d1 ⊢
  generalize decide (inter (plc dr x) (plc dr y) = plc dr y) = b2 at d2 ⊢
  generalize decide (inter (plc dr x) (plc dr y) = []) = b3 at d3 ⊢
  rw [← d1, ← d2, ← Bool.and_eq_true, ← Bool.eq_iff_iff] at d0
  subst d0
  obtain rfl | rfl := tf b1 <;> obtain rfl | rfl := tf b2 <;> simp only [Bool.false_eq_true, false_iff, true_iff] at d1 d2
  · simp [d1, d2, Way.s]
  · obtain ⟨m, e, hm⟩ := lnear_wp (dr := dr) plc_pl (Nat.le_trans (plc_len hs x) (by omega))
    have h3 := hout (b := y) hm
    by_cases h4 : Out (NbD dr) (InD dr x) (InD dr y)
    · have h5 := h3.mpr h4
      simp only [e, Option.bind_some, comp_inter2 (body := pc__law_seen_2 (plc dr y)) (m := plc dr y) (fun p => rfl), pEq_pl, decide_eq_false h5, d1, d2, h4]
      rfl
    · have h5 : (m.filter fun p => !decide (p ∈ plc dr y)) = [] := Classical.byContradiction fun z => h4 (h3.mp z)
      simp only [e, Option.bind_some, comp_inter2 (body := pc__law_seen_2 (plc dr y)) (m := plc dr y) (fun p => rfl), pEq_pl, decide_eq_true h5, d1, d2, h4]
      rfl
  · obtain ⟨m, e, hm⟩ := lnear_wp (dr := dr) plc_pl (Nat.le_trans (plc_len hs y) (by omega))
    have h3 := hout (b := x) hm
    by_cases h4 : Out (NbD dr) (InD dr y) (InD dr x)
    · have h5 := h3.mpr h4
      simp only [e, Option.bind_some, comp_inter2 (body := pc__law_seen_3 (plc dr x)) (m := plc dr x) (fun p => rfl), pEq_pl, decide_eq_false h5, d1, d2, h4]
      rfl
    · have h5 : (m.filter fun p => !decide (p ∈ plc dr x)) = [] := Classical.byContradiction fun z => h4 (h3.mp z)
      simp only [e, Option.bind_some, comp_inter2 (body := pc__law_seen_3 (plc dr x)) (m := plc dr x) (fun p => rfl), pEq_pl, decide_eq_true h5, d1, d2, h4]
      rfl
  · by_cases h3 : Com (InD dr x) (InD dr y)
    · have := d3.mpr h3
      subst this
      simp [d1, d2, h3, Way.s]
    · have h3' : b3 = true := by cases b3; exact absurd (d3.mp rfl) h3; rfl
      subst h3'
      obtain ⟨m, e, hm⟩ := lnear_wp (dr := dr) plc_pl (Nat.le_trans (plc_len hs x) (by omega))
      have h6 := htch hm
      by_cases h4 : Tch (NbD dr) (InD dr x) (InD dr y)
      · have h5 := h6.mpr h4
        simp only [e, Option.bind_some, comp_inter (body := pc__law_seen_4 (plc dr y)) (m := plc dr y) (fun p => rfl), pEq_pl, decide_eq_false h5, d1, d2, h3, h4]
        rfl
      · have h5 : inter m (plc dr y) = [] := Classical.byContradiction fun z => h4 (h6.mp z)
        simp only [e, Option.bind_some, comp_inter (body := pc__law_seen_4 (plc dr y)) (m := plc dr y) (fun p => rfl), pEq_pl, decide_eq_true h5, d1, d2, h3, h4]
        rfl

end RG

set_option maxRecDepth 100000
set_option maxHeartbeats 4000000
namespace RG
open PySem PySem.Spec PyProof.Rows L2
/-! ### names -/
def _root_.PySem.Str.l (x : Str) : List Nat := x.cps.toList
theorem str_ext {x y : Str} (h : x.l = y.l) : x = y := by
  obtain ⟨a⟩ := x; obtain ⟨b⟩ := y
  have : a = b := Array.toList_inj.mp h
  rw [this]
theorem app_l (x y : Str) : (x ++ y).l = x.l ++ y.l := by
  show (x.cps ++ y.cps).toList = _
  rw [Array.toList_append]; rfl
theorem len_l (x : Str) : x.length = x.l.length := by show x.cps.size = _; exact Array.length_toList.symm
structure NameOk (x : Str) : Prop where
  ne : x.l ≠ []
  le : x.l.length ≤ 8
  az : ∀ c ∈ x.l, 97 ≤ c ∧ c ≤ 122
theorem NameOk.str {x : Str} (h : NameOk x) : PyData.strOk x = true := by
  unfold PyData.strOk
  rw [← Array.all_toList, List.all_eq_true]
  intro c hc
  have := h.az c hc
  exact decide_eq_true (by omega)
def menu8 : List Str := [("a" : Str), ("b" : Str), ("ab" : Str), ("or" : Str), ("ba" : Str), ("never" : Str), ("same" : Str), ("samewise" : Str)]
def menuL : List (List Nat) := [[97], [98], [97, 98], [111, 114], [98, 97], [110, 101, 118, 101, 114], [115, 97, 109, 101], [115, 97, 109, 101, 119, 105, 115, 101]]
theorem menu_l : menu8.map PySem.Str.l = menuL := by decide +kernel
def abL : List Nat := [97, 98, 99, 100, 101, 102, 103, 104, 105, 106, 107, 108, 109, 110, 111, 112, 113, 114, 115, 116, 117, 118, 119, 120, 121, 122]
theorem abc_l : ("abcdefghijklmnopqrstuvwxyz" : Str).l = abL := by decide +kernel
/-- names made of a word of the menu (by signs) -/
def FamL (m f : List Nat) : Prop := f = m ∨ ∃ c ∈ abL, f = c :: m ∧ m.length < 7
def FamZ (m f : List Nat) : Prop := FamL m f ∨ (f = [97, 98, 122] ∧ (m = [97, 98] ∨ m = [98])) ∨ (f = [98, 97, 122] ∧ (m = [98, 97] ∨ m = [97]))
theorem fam_two : ∀ m ∈ menuL, ∀ m' ∈ menuL, m ≠ m' → ∀ f, FamL m f → FamZ m' f → (f = [97, 98] ∧ ((m = [97, 98] ∧ m' = [98]) ∨ (m = [98] ∧ m' = [97, 98]))) ∨ (f = [98, 97] ∧ ((m = [98, 97] ∧ m' = [97]) ∨ (m = [97] ∧ m' = [98, 97]))) := by
  have tl : ∀ m ∈ menuL, ∀ m' ∈ menuL, m.tail = m' → (m = [97, 98] ∧ m' = [98]) ∨ (m = [98, 97] ∧ m' = [97]) := by decide +kernel
  have z1 : ∀ m ∈ menuL, m ≠ [97, 98, 122] ∧ m ≠ [98, 97, 122] ∧ m ≠ [98, 122] ∧ m ≠ [97, 122] := by decide +kernel
  intro m hm m' hm' hne f h1 h2
  rcases h1 with rfl | ⟨c, _, rfl, _⟩
  · rcases h2 with (rfl | ⟨c', _, e, _⟩) | ⟨e, _⟩ | ⟨e, _⟩
    · exact absurd rfl hne
    · have := tl f hm m' hm' (by rw [e]; rfl)
      rcases this with ⟨a, b⟩ | ⟨a, b⟩
      · exact .inl ⟨a, .inl ⟨a, b⟩⟩
      · exact .inr ⟨a, .inl ⟨a, b⟩⟩
    · exact absurd e (z1 f hm).1
    · exact absurd e (z1 f hm).2.1
  · rcases h2 with (e | ⟨c', _, e, _⟩) | ⟨e, _⟩ | ⟨e, _⟩
    · have := tl m' hm' m hm (by rw [← e]; rfl)
      rcases this with ⟨a, b⟩ | ⟨a, b⟩
      · exact .inl ⟨by rw [e, a], .inr ⟨b, a⟩⟩
      · exact .inr ⟨by rw [e, a], .inr ⟨b, a⟩⟩
    · exact absurd (List.cons.inj e).2 hne
    · exact absurd (List.cons.inj e).2 (z1 m hm).2.2.1
    · exact absurd (List.cons.inj e).2 (z1 m hm).2.2.2
theorem famZ_z : ∀ m ∈ menuL, (FamZ m [97, 98, 122] → m = [97, 98] ∨ m = [98]) ∧ (FamZ m [98, 97, 122] → m = [98, 97] ∨ m = [97]) := by
  have z1 : ∀ m ∈ menuL, m ≠ [97, 98, 122] ∧ m ≠ [98, 97, 122] ∧ m ≠ [98, 122] ∧ m ≠ [97, 122] := by decide +kernel
  intro m hm
  obtain ⟨a, b, c, d⟩ := z1 m hm
  constructor
  · rintro ((e | ⟨_, _, e, _⟩) | ⟨_, h⟩ | ⟨e, _⟩)
    · exact absurd e.symm a
    · exact absurd (List.cons.inj e).2.symm c
    · exact h
    · exact absurd e (by decide)
  · rintro ((e | ⟨_, _, e, _⟩) | ⟨e, _⟩ | ⟨_, h⟩)
    · exact absurd e.symm b
    · exact absurd (List.cons.inj e).2.symm d
    · exact absurd e (by decide)
    · exact h
theorem menuL_nodup : menuL.Nodup := by decide +kernel
theorem menuL_ok : ∀ m ∈ menuL, m ≠ [] ∧ m.length ≤ 8 ∧ ∀ c ∈ m, 97 ≤ c ∧ c ≤ 122 := by decide +kernel
theorem abL_ok : ∀ c ∈ abL, 97 ≤ c ∧ c ≤ 122 := by decide +kernel
theorem famZ_ok {m f : List Nat} (hm : m ∈ menuL) (h : FamZ m f) : f ≠ [] ∧ f.length ≤ 8 ∧ ∀ c ∈ f, 97 ≤ c ∧ c ≤ 122 := by
  obtain ⟨h1, h2, h3⟩ := menuL_ok m hm
  rcases h with (rfl | ⟨c, hc, rfl, hl⟩) | ⟨rfl, _⟩ | ⟨rfl, _⟩
  · exact ⟨h1, h2, h3⟩
  · exact ⟨by simp, by simp; omega, fun x hx => by
      rcases List.mem_cons.mp hx with rfl | hx
      · exact abL_ok _ hc
      · exact h3 x hx⟩
  · decide
  · decide
inductive F2 {α β : Type} (R : α → β → Prop) : List α → List β → Prop
  | nil : F2 R [] []
  | cons {a : α} {b : β} {l : List α} {m : List β} : R a b → F2 R l m → F2 R (a :: l) (b :: m)
/-- what is used, what is left of the menu, what was found -/
structure NInv (used menu found : List (List Nat)) : Prop where
  perm : (used ++ menu).Perm menuL
  fam : F2 FamZ used found
  nd : found.Nodup
theorem f2_mem {α β : Type} {R : α → β → Prop} : ∀ {l : List α} {m : List β}, F2 R l m → ∀ y ∈ m, ∃ x ∈ l, R x y
  | _, _, .nil, y, h => nomatch h
  | _, _, .cons r f, y, h => by
    rcases List.mem_cons.mp h with rfl | h
    · exact ⟨_, List.mem_cons_self, r⟩
    · obtain ⟨x, hx, q⟩ := f2_mem f y h
      exact ⟨x, List.mem_cons_of_mem _ hx, q⟩
theorem f2_uniq {α β : Type} {R : α → β → Prop} : ∀ {l : List α} {m : List β}, F2 R l m → l.Nodup → m.Nodup → ∀ (P : α → Prop) (y z : β), (∀ x ∈ l, ∀ x' ∈ l, P x → P x' → x = x') → y ∈ m → z ∈ m → (∀ x ∈ l, R x y → P x) → (∀ x ∈ l, R x z → P x) → y = z
  | _, _, .nil, _, _, _, _, _, _, h, _, _, _ => nomatch h
  | x :: l, y0 :: m, .cons r f, nl, nm, P, y, z, hu, hy, hz, py, pz => by
    have nl' := List.nodup_cons.mp nl
    have nm' := List.nodup_cons.mp nm
    rcases List.mem_cons.mp hy with ey | my <;> rcases List.mem_cons.mp hz with ez | mz
    · rw [ey, ez]
    · subst ey
      obtain ⟨x', hx', q⟩ := f2_mem f z mz
      have := hu x List.mem_cons_self x' (List.mem_cons_of_mem _ hx') (py x List.mem_cons_self r) (pz x' (List.mem_cons_of_mem _ hx') q)
      exact absurd (this ▸ hx') nl'.1
    · subst ez
      obtain ⟨x', hx', q⟩ := f2_mem f y my
      have := hu x List.mem_cons_self x' (List.mem_cons_of_mem _ hx') (pz x List.mem_cons_self r) (py x' (List.mem_cons_of_mem _ hx') q)
      exact absurd (this ▸ hx') nl'.1
    · exact f2_uniq f nl'.2 nm'.2 P y z (fun a ha b hb => hu a (List.mem_cons_of_mem _ ha) b (List.mem_cons_of_mem _ hb)) my mz (fun a ha => py a (List.mem_cons_of_mem _ ha)) (fun a ha => pz a (List.mem_cons_of_mem _ ha))
theorem f2_snoc {α β : Type} {R : α → β → Prop} : ∀ {l : List α} {m : List β} {x : α} {y : β}, F2 R l m → R x y → F2 R (l ++ [x]) (m ++ [y])
  | _, _, _, _, .nil, h => .cons h .nil
  | _, _, _, _, .cons r f, h => .cons r (f2_snoc f h)
theorem nodup_snoc {α : Type} {l : List α} {x : α} (h : l.Nodup) (n : x ∉ l) : (l ++ [x]).Nodup := List.nodup_append.mpr ⟨h, by simp, fun a ha b hb e => by
  rw [List.mem_singleton.mp hb] at e; exact n (e ▸ ha)⟩
theorem ninv_step {used menu found : List (List Nat)} {m f : List Nat} (h : NInv used menu found) (hm : m ∈ menu) (hf : FamL m f) :
    ∃ g, g = (if f ∈ found then f ++ [122] else f) ∧ NInv (used ++ [m]) (menu.erase m) (found ++ [g]) := by
  have hp : (used ++ [m] ++ menu.erase m).Perm menuL := by
    refine (List.Perm.trans ?_ h.perm)
    rw [List.append_assoc]
    exact (List.perm_cons_erase hm).symm.append_left used
  have nd : (used ++ menu).Nodup := h.perm.nodup_iff.mpr menuL_nodup
  have nu : used.Nodup := (List.nodup_append.mp nd).1
  have hmL : m ∈ menuL := h.perm.mem_iff.mp (List.mem_append_right _ hm)
  have huL : ∀ u ∈ used, u ∈ menuL := fun u hu => h.perm.mem_iff.mp (List.mem_append_left _ hu)
  have hmu : ∀ u ∈ used, m ≠ u := fun u hu e => (List.nodup_append.mp nd).2.2 u hu m hm e.symm
  refine ⟨_, rfl, hp, ?_, ?_⟩
  · refine f2_snoc h.fam ?_
    split
    · rename_i hin
      obtain ⟨u, hu, q⟩ := f2_mem h.fam f hin
      rcases fam_two m hmL u (huL u hu) (hmu u hu) f hf q with ⟨rfl, z⟩ | ⟨rfl, z⟩
      · exact .inr (.inl ⟨rfl, z.elim (fun w => .inl w.1) fun w => .inr w.1⟩)
      · exact .inr (.inr ⟨rfl, z.elim (fun w => .inl w.1) fun w => .inr w.1⟩)
    · exact .inl hf
  · refine nodup_snoc h.nd ?_
    split
    · rename_i hin
      obtain ⟨u, hu, q⟩ := f2_mem h.fam f hin
      intro hz
      rcases fam_two m hmL u (huL u hu) (hmu u hu) f hf q with ⟨rfl, z⟩ | ⟨rfl, z⟩
      · have := f2_uniq h.fam nu h.nd (fun x => x = u) [97, 98] [97, 98, 122] (fun _ _ _ _ a b => a.trans b.symm) hin hz (fun x hx r => by
          rcases fam_two m hmL x (huL x hx) (hmu x hx) _ hf r with ⟨_, y⟩ | ⟨y, _⟩
          · rcases z with ⟨z1, z2⟩ | ⟨z1, z2⟩ <;> rcases y with ⟨y1, y2⟩ | ⟨y1, y2⟩
            · rw [y2, z2]
            · rw [z1] at y1; exact absurd y1 (by decide)
            · rw [z1] at y1; exact absurd y1 (by decide)
            · rw [y2, z2]
          · exact absurd y (by decide)) (fun x hx r => by
          have := (famZ_z x (huL x hx)).1 r
          have hx' := hmu x hx
          rcases z with ⟨z1, z2⟩ | ⟨z1, z2⟩ <;> rcases this with w | w
          · rw [z1, w] at hx'; exact absurd rfl hx'
          · rw [w, z2]
          · rw [w, z2]
          · rw [z1, w] at hx'; exact absurd rfl hx')
        exact absurd this (by decide)
      · have := f2_uniq h.fam nu h.nd (fun x => x = u) [98, 97] [98, 97, 122] (fun _ _ _ _ a b => a.trans b.symm) hin hz (fun x hx r => by
          rcases fam_two m hmL x (huL x hx) (hmu x hx) _ hf r with ⟨y, _⟩ | ⟨_, y⟩
          · exact absurd y (by decide)
          · rcases z with ⟨z1, z2⟩ | ⟨z1, z2⟩ <;> rcases y with ⟨y1, y2⟩ | ⟨y1, y2⟩
            · rw [y2, z2]
            · rw [z1] at y1; exact absurd y1 (by decide)
            · rw [z1] at y1; exact absurd y1 (by decide)
            · rw [y2, z2]) (fun x hx r => by
          have := (famZ_z x (huL x hx)).2 r
          have hx' := hmu x hx
          rcases z with ⟨z1, z2⟩ | ⟨z1, z2⟩ <;> rcases this with w | w
          · rw [z1, w] at hx'; exact absurd rfl hx'
          · rw [w, z2]
          · rw [w, z2]
          · rw [z1, w] at hx'; exact absurd rfl hx')
        exact absurd this (by decide)
    · assumption
theorem z_l : ("z" : Str).l = [122] := by decide +kernel
theorem l_inj {x y : Str} : x.l = y.l ↔ x = y := ⟨str_ext, fun h => by rw [h]⟩
theorem map_l_mem {x : Str} {l : List Str} : x.l ∈ l.map PySem.Str.l ↔ x ∈ l := by
  rw [List.mem_map]
  exact ⟨fun ⟨y, hy, e⟩ => by rw [← str_ext e]; exact hy, fun h => ⟨x, h, rfl⟩⟩
theorem map_erase_l : ∀ (l : List Str) (i : Nat) (h : i < l.length), (l.map PySem.Str.l).Nodup → (l.eraseIdx i).map PySem.Str.l = (l.map PySem.Str.l).erase (l[i]).l
  | x :: l, 0, _, _ => by simp
  | x :: l, i + 1, h, nd => by
    have nd' := List.nodup_cons.mp (show (x.l :: l.map PySem.Str.l).Nodup from nd)
    have hi : i < l.length := by simpa using h
    have hne : ¬ (x.l == (l[i]).l) = true := by
      intro z
      have z : x.l = (l[i]).l := by simpa using z
      exact nd'.1 (z ▸ List.mem_map.mpr ⟨_, List.getElem_mem hi, rfl⟩)
    rw [List.eraseIdx_cons_succ, List.map_cons, map_erase_l l i hi nd'.2, List.map_cons, List.erase_cons]
    simp only [List.getElem_cons_succ]
    rw [if_neg hne]
/-- a name's turn -/
theorem name_step {d : Die} {menu found : List Str} {used : List (List Nat)} (k : Int) (hd : d.ok) (h : NInv used (menu.map PySem.Str.l) (found.map PySem.Str.l)) (h0 : menu ≠ []) (hl : menu.length ≤ 8) (hf : found.length ≤ 8) :
    Wp (pl__law_names_1 (d, menu, found) k) fun r => r.1.ok ∧ ∃ x used', r.2.2 = found ++ [x] ∧ r.2.1.length + 1 = menu.length ∧ NInv used' (r.2.1.map PySem.Str.l) (r.2.2.map PySem.Str.l) := by
  have hml : 0 < menu.length := List.length_pos_iff.mpr h0
  have nm : (menu.map PySem.Str.l).Nodup := (List.nodup_append.mp (h.perm.nodup_iff.mpr menuL_nodup)).2.1
  unfold pl__law_names_1
  refine wp_next hd (by omega) (by omega) fun i d1 i0 i1 hd1 => ?_
  obtain ⟨hi, ep⟩ := pPopAt_ok i0 i1 (by omega)
  simp only [ep, Option.bind_some]
  have hmem : menu[i.toNat] ∈ menu := List.getElem_mem hi
  have hmemL : (menu[i.toNat]).l ∈ menu.map PySem.Str.l := map_l_mem.mpr hmem
  have hmL : (menu[i.toNat]).l ∈ menuL := h.perm.mem_iff.mp (List.mem_append_right _ hmemL)
  have hlen := (menuL_ok _ hmL).2.1
  have fin : ∀ (y : Str) (d2 : Die), d2.ok → FamL (menu[i.toNat]).l y.l → y.l.length ≤ 8 → Wp ((if decide (y ∈ found) = true then (pAddS y ("z" : Str)).bind fun s34 => some s34 else some y).bind fun v36 => (pApp found v36).bind fun l40 => some (d2, menu.eraseIdx i.toNat, l40)) fun r => r.1.ok ∧ ∃ x used', r.2.2 = found ++ [x] ∧ r.2.1.length + 1 = menu.length ∧ NInv used' (r.2.1.map PySem.Str.l) (r.2.2.map PySem.Str.l) := by
    intro y d2 hd2 hy hyl
    obtain ⟨g, hg, hI⟩ := ninv_step h hmemL hy
    have hle : (menu.eraseIdx i.toNat).length + 1 = menu.length := by rw [List.length_eraseIdx, if_pos hi]; omega
    have he := map_erase_l menu i.toNat hi nm
    by_cases hin : y ∈ found
    · have hz := pAddS_ok (x := y) (y := "z") (by rw [len_l, len_l, z_l]; simp; omega)
      simp only [hin, decide_true, if_true, hz, Option.bind_some, pApp_ok (xs := found) (x := y ++ "z") (by omega)]
      refine wp_some ⟨hd2, y ++ "z", used ++ [(menu[i.toNat]).l], rfl, hle, ?_⟩
      rw [if_pos (map_l_mem.mpr hin)] at hg
      show NInv _ ((menu.eraseIdx i.toNat).map PySem.Str.l) ((found ++ [y ++ ("z" : Str)]).map PySem.Str.l)
      rw [he, List.map_append, List.map_singleton, app_l, z_l, ← hg]
      exact hI
    · simp only [hin, decide_false, Bool.false_eq_true, if_false, Option.bind_some, pApp_ok (xs := found) (x := y) (by omega)]
      refine wp_some ⟨hd2, y, used ++ [(menu[i.toNat]).l], rfl, hle, ?_⟩
      rw [if_neg (fun z => hin (map_l_mem.mp z))] at hg
      show NInv _ ((menu.eraseIdx i.toNat).map PySem.Str.l) ((found ++ [y]).map PySem.Str.l)
      rw [he, List.map_append, List.map_singleton, ← hg]
      exact hI
  refine wp_next hd1 (by omega) (by omega) fun r d2 r0 r3 hd2 => ?_
  have hls := pLenS_ok (x := menu[i.toNat]) (by rw [len_l]; omega)
  by_cases hr : r = 2
  · by_cases h7 : ((menu[i.toNat]).length : Int) < 7
    · simp only [hr, decide_true, if_true, hls, h7, Option.bind_some, Option.bind_assoc]
      refine wp_next hd2 (by omega) (by omega) fun c d3 c0 c26 hd3 => ?_
      have hc : ∃ s : Str, pIxS ("abcdefghijklmnopqrstuvwxyz" : Str) c = some s ∧ ∃ n ∈ abL, s.l = [n] := by
        have hb : c.toNat < abL.length := by show c.toNat < 26; omega
        have e1 : atI (("abcdefghijklmnopqrstuvwxyz" : Str).cps.toList) c = some abL[c.toNat] := by
          rw [show ("abcdefghijklmnopqrstuvwxyz" : Str).cps.toList = abL from abc_l]
          unfold atI ixN
          rw [if_pos c0, if_pos (by show c < 26; omega)]
          simp [hb]
        refine ⟨⟨#[abL[c.toNat]]⟩, ?_, _, List.getElem_mem hb, rfl⟩
        unfold pIxS
        rw [if_pos (by rw [len_l, abc_l]; decide), e1]; rfl
      obtain ⟨s, hs, n, hn, hsl⟩ := hc
      have h7' : (menu[i.toNat]).l.length < 7 := by rw [len_l] at h7; omega
      simp only [hs, Option.bind_some, pAddS_ok (x := s) (y := menu[i.toNat]) (by rw [len_l, len_l, hsl]; simp; omega)]
      refine fin (s ++ menu[i.toNat]) d3 hd3 (.inr ⟨n, hn, by rw [app_l, hsl]; rfl, h7'⟩) ?_
      rw [app_l, hsl]; simp; omega
    · simp only [hr, decide_true, if_true, hls, h7, Option.bind_some, decide_false, Bool.false_eq_true, if_false]
      exact fin _ d2 hd2 (.inl rfl) hlen
  · simp only [hr, decide_false, Bool.false_eq_true, if_false, Option.bind_some]
    exact fin _ d2 hd2 (.inl rfl) hlen
structure NamesOk (ns : List Str) : Prop where
  ok : ∀ x ∈ ns, NameOk x
  nd : ns.Nodup
theorem names_loop : ∀ (xs : List Int) (d : Die) (menu found : List Str) (used : List (List Nat)), d.ok → NInv used (menu.map PySem.Str.l) (found.map PySem.Str.l) → menu.length + found.length = 8 → xs.length ≤ menu.length →
    Wp (pFor pl__law_names_1 xs (d, menu, found)) fun s => s.1.ok ∧ (∃ used, NInv used (s.2.1.map PySem.Str.l) (s.2.2.map PySem.Str.l)) ∧ s.2.2.length = found.length + xs.length
  | [], d, menu, found, used, hd, h, _, _ => ⟨_, rfl, hd, ⟨used, h⟩, rfl⟩
  | x :: xs, d, menu, found, used, hd, h, h8, hl => by
    rw [List.length_cons] at hl
    unfold pFor
    refine wp_then (name_step x hd h (fun z => by rw [z] at hl; simp at hl) (by omega) (by omega)) fun r hr => ?_
    obtain ⟨d1, menu1, found1⟩ := r
    obtain ⟨k1, y, used', k2, k3, k4⟩ := hr
    simp only at k1 k2 k3 k4
    have hfl : found1.length = found.length + 1 := by rw [k2]; simp
    refine wp_mono (names_loop xs d1 menu1 found1 used' k1 k4 (by omega) (by omega)) fun s hs => ⟨hs.1, hs.2.1, ?_⟩
    rw [hs.2.2, hfl, List.length_cons]; omega
theorem names_wp {d : Die} {n : Int} (hd : d.ok) (h0 : 0 ≤ n) (h8 : n ≤ 8) : Wp (p__law_names d n) fun r => NamesOk r.1 ∧ (r.1.length : Int) = n ∧ r.2.ok := by
  unfold p__law_names
  rw [pRange_ok (by omega) (by omega), Option.bind_some]
  refine wp_then (names_loop (rng 0 n.toNat) d menu8 [] [] hd ⟨by show (menu8.map PySem.Str.l).Perm menuL; rw [menu_l], .nil, List.nodup_nil⟩ rfl (by rw [rng_len]; show n.toNat ≤ 8; omega)) fun s hs => ?_
  obtain ⟨d1, menu1, found1⟩ := s
  obtain ⟨k1, ⟨used, k2⟩, k3⟩ := hs
  simp only at k1 k2 k3
  refine wp_some ⟨⟨fun x hx => ?_, ?_⟩, ?_, k1⟩
  · obtain ⟨u, hu, q⟩ := f2_mem k2.fam x.l (List.mem_map.mpr ⟨x, hx, rfl⟩)
    obtain ⟨q1, q2, q3⟩ := famZ_ok (k2.perm.mem_iff.mp (List.mem_append_left _ hu)) q
    exact ⟨q1, q2, q3⟩
  · exact (List.pairwise_map.mp k2.nd).imp fun h e => h (by rw [e])
  · simp only [k3, rng_len, List.length_nil]; omega

/-! ### strips, drawings -/
structure StripOk (names : List Str) (s : List (List Str)) : Prop where
  l : s.length ≤ 8
  ne : s ≠ []
  p : ∀ p ∈ s, p.length ≤ 8 ∧ ∀ x ∈ p, x ∈ names
theorem strip1_wp {names plot : List Str} {d : Die} {r1 r4 r19 j : Int} (hd : d.ok) (j0 : 0 ≤ j) (j1 : j < names.length) (hp : plot.length ≤ 1000) (hn : ∀ x ∈ plot, x ∈ names) :
    Wp (pl__law_strip_1 names r1 r4 r19 (d, plot) j) fun s => s.1.ok ∧ s.2.length ≤ plot.length + 1 ∧ ∀ x ∈ s.2, x ∈ names := by
  obtain ⟨x, h1, h2, _⟩ := atI_int j0 j1
  have put : ∀ d' : Die, d'.ok → Wp ((atI names j).bind fun x49 => (pApp plot x49).bind fun l51 => some (d', l51)) fun s => s.1.ok ∧ s.2.length ≤ plot.length + 1 ∧ ∀ x ∈ s.2, x ∈ names := fun d' hd' => by
    simp only [h1, Option.bind_some, pApp_ok (xs := plot) (x := x) (by omega)]
    refine wp_some ⟨hd', by simp, fun y hy => ?_⟩
    rcases List.mem_append.mp hy with q | q
    · exact hn y q
    · rw [List.mem_singleton.mp q]; exact h2
  have fin : ∀ (b : Bool) (d' : Die), d'.ok → Wp (if b = true then (atI names j).bind fun x49 => (pApp plot x49).bind fun l51 => some (d', l51) else some (d', plot)) fun s => s.1.ok ∧ s.2.length ≤ plot.length + 1 ∧ ∀ x ∈ s.2, x ∈ names := fun b d' hd' => by
    refine wp_if (fun _ => put d' hd') fun _ => wp_some ⟨hd', by simp, hn⟩
  unfold pl__law_strip_1
  refine wp_then (P := fun r : Bool × Die => r.2.ok) ?_ fun r hr => ?_
  · by_cases h0 : r1 = 0
    · simp only [h0, decide_true, if_true]
      exact wp_next hd (by omega) (by omega) fun r d' _ _ hd' => wp_some hd'
    · simp only [h0, decide_false, Bool.false_eq_true, if_false]; exact wp_some hd
  · obtain ⟨b, d1⟩ := r
    simp only at hr ⊢
    refine wp_then (P := fun r : Bool × Die => r.2.ok) ?_ fun r hr => fin r.1 r.2 hr
    refine wp_if (fun _ => wp_some hr) fun _ => ?_
    refine wp_then (P := fun r : Bool × Die => r.2.ok) ?_ fun r hr => wp_some hr
    refine wp_if (fun _ => ?_) fun _ => wp_some hr
    refine wp_then (P := fun r : Bool × Die => r.2.ok) ?_ fun r hr => wp_some hr
    refine wp_if (fun _ => ?_) fun _ => wp_some hr
    refine wp_then (P := fun r : Bool × Die => r.2.ok) ?_ fun r hr => wp_some hr
    refine wp_if (fun _ => wp_some hr) fun _ => ?_
    exact wp_next hr (by omega) (by omega) fun r d' _ _ hd' => wp_some hd'
theorem sortS_mem {xs : List Str} {x : Str} : x ∈ sortS xs ↔ x ∈ xs := (sortS_perm xs).mem_iff
theorem strip2_wp {names : List Str} {found : List (List Str)} {d : Die} {r1 r4 k : Int} (hd : d.ok) (hn : names.length ≤ 8) (hf : found.length ≤ 1000) (hp : ∀ p ∈ found, p.length ≤ 8 ∧ ∀ x ∈ p, x ∈ names) :
    Wp (pl__law_strip_2 names r1 r4 (d, found) k) fun s => s.1.ok ∧ s.2.length = found.length + 1 ∧ ∀ p ∈ s.2, p.length ≤ 8 ∧ ∀ x ∈ p, x ∈ names := by
  unfold pl__law_strip_2
  refine wp_next hd (by omega) (by omega) fun r d1 _ _ hd1 => ?_
  simp only [pRange_ok (n := (names.length : Int)) (by omega) (by omega), Option.bind_some]
  refine wp_then (wp_forN (fun j s => s.1.ok ∧ s.2.length ≤ j ∧ ∀ x ∈ s.2, x ∈ names) (xs := rng 0 (names.length : Int).toNat) (s := (d1, [])) ⟨hd1, Nat.le_refl 0, by simp⟩ fun j i hj hi s hI => ?_) fun s hI => ?_
  · obtain ⟨d2, plot⟩ := s
    have := rng_mem.mp hi
    rw [rng_len] at hj
    simp only at hI
    refine wp_mono (strip1_wp hI.1 this.1 (by omega) (by omega) hI.2.2) fun s hs => ⟨hs.1, by omega, hs.2.2⟩
  · obtain ⟨d2, plot⟩ := s
    simp only [rng_len] at hI
    have hl : plot.length ≤ 8 := by omega
    simp only [pSort_ok (xs := plot) (by omega), Option.bind_some, pApp_ok (xs := found) (x := sortS plot) (by omega)]
    refine wp_some ⟨hI.1, by simp, fun p hpm => ?_⟩
    rcases List.mem_append.mp hpm with q | q
    · exact hp p q
    · rw [List.mem_singleton.mp q]
      exact ⟨by rw [(sortS_perm plot).length_eq]; exact hl, fun x hx => hI.2.2 x (sortS_mem.mp hx)⟩
theorem strip_wp {names : List Str} {d : Die} {most : Int} (hd : d.ok) (hn : names.length ≤ 8) (h0 : 0 < most) (h8 : most ≤ 8) : Wp (p__law_strip d names most) fun r => StripOk names r.1 ∧ r.2.ok := by
  unfold p__law_strip
  refine wp_next hd (by omega) (by omega) fun r1 d1 _ _ hd1 => ?_
  refine wp_next hd1 (by omega) (by omega) fun r2 d2 _ _ hd2 => ?_
  refine wp_next hd2 (by omega) (by omega) fun r3 d3 r0 r8 hd3 => ?_
  simp only [pRange_ok (n := 1 + r3) (by omega) (by omega), Option.bind_some]
  refine wp_then (wp_forN (fun j s => s.1.ok ∧ s.2.length = j ∧ ∀ p ∈ s.2, p.length ≤ 8 ∧ ∀ x ∈ p, x ∈ names) (xs := rng 0 (1 + r3).toNat) (s := (d3, [])) ⟨hd3, rfl, by simp⟩ fun j i hj hi s hI => ?_) fun s hI => ?_
  · obtain ⟨d4, found⟩ := s
    rw [rng_len] at hj
    simp only at hI
    refine wp_mono (strip2_wp hI.1 hn (by omega) hI.2.2) fun s hs => ⟨hs.1, by omega, hs.2.2⟩
  · obtain ⟨d4, found⟩ := s
    simp only [rng_len] at hI
    exact wp_some ⟨⟨by simp only; omega, fun z => by simp only at z; rw [z] at hI; simp at hI; omega, hI.2.2⟩, hI.1⟩
/-- what the law's drawings are like: lands of these names alone, each has a plot -/
structure DrwOk (names : List Str) (dr : Drw) : Prop where
  l : dr.length ≤ 20
  s : ∀ s ∈ dr, StripOk names s
  a : ∀ x ∈ names, ∃ s ∈ dr, ∃ p ∈ s, x ∈ p
theorem there_eq (dr : List (List (List Str))) (hs : ∀ s ∈ dr, s.length ≤ 8 ∧ ∀ p ∈ s, p.length ≤ 8) (hl : dr.length ≤ 20) : pFor pl__law_drawing_3 dr ([] : List Str) = some (dr.flatMap fun s => s.flatMap fun p => p) := by
  rw [for_app (fun s : List (List Str) => s.flatMap fun p => p) 64 16000000 (fun s h => by
    have := flatMap_len (f := fun p : List Str => p) (k := 8) (hs s h).2
    have := (hs s h).1
    omega) (fun s h acc ha => by
    unfold pl__law_drawing_3
    rw [for_app (body := pl__law_drawing_2) (fun p : List Str => p) 8 16000000 (hs s h).2 (fun p hp acc ha => by
      unfold pl__law_drawing_2
      have := (hs s h).2 p hp
      simp only [pAddL_ok (xs := acc) (ys := p) (by omega), Option.bind_some]) (by have := (hs s h).1; omega)]
    rfl) (by simp; omega)]
  simp
theorem drawing_wp {names : List Str} {d : Die} {most : Int} (hd : d.ok) (hn : names.length ≤ 8) (h0 : 0 ≤ most) (h10 : most ≤ 10) : Wp (p__law_drawing d names most) fun r => DrwOk names r.1 ∧ r.2.ok := by
  unfold p__law_drawing
  refine wp_next hd (by omega) (by omega) fun r1 d1 r0 r10 hd1 => ?_
  simp only [pRange_ok (n := r1) (by omega) (by omega), Option.bind_some]
  refine wp_then (wp_compSA (Die.ok) (StripOk names) (xs := rng 0 r1.toNat) (s := d1) hd1 fun i hi d2 hd2 => ?_) fun r hr => ?_
  · unfold pc__law_drawing_1
    refine wp_next hd2 (by omega) (by omega) fun k d3 k0 k4 hd3 => ?_
    have hk : ∃ m : Int, atI [(3 : Int), 3, 3, 8] k = some m ∧ 0 < m ∧ m ≤ 8 := by
      have : k = 0 ∨ k = 1 ∨ k = 2 ∨ k = 3 := by omega
      rcases this with rfl | rfl | rfl | rfl
      · exact ⟨3, rfl, by omega, by omega⟩
      · exact ⟨3, rfl, by omega, by omega⟩
      · exact ⟨3, rfl, by omega, by omega⟩
      · exact ⟨8, rfl, by omega, by omega⟩
    obtain ⟨m, hm, m0, m8⟩ := hk
    simp only [hm, Option.bind_some]
    exact wp_then (strip_wp hd3 hn m0 m8) fun r hr => wp_some ⟨hr.2, r.1, rfl, hr.1⟩
  · obtain ⟨dr, d2⟩ := r
    obtain ⟨h1, h2, h3⟩ := hr
    simp only [rng_len] at h1 h2 h3 ⊢
    have hdl : dr.length ≤ 10 := by omega
    rw [there_eq dr (fun s hs => ⟨(h3 s hs).l, fun p hp => ((h3 s hs).p p hp).1⟩) (by omega)]
    simp only [Option.bind_some]
    have hth : ∀ x, x ∈ (dr.flatMap fun s => s.flatMap fun p => p) → ∃ s ∈ dr, ∃ p ∈ s, x ∈ p := fun x hx => by
      obtain ⟨s, hs, hx⟩ := List.mem_flatMap.mp hx
      obtain ⟨p, hp, hx⟩ := List.mem_flatMap.mp hx
      exact ⟨s, hs, p, hp, hx⟩
    generalize (dr.flatMap fun s => s.flatMap fun p => p) = there at hth ⊢
    refine wp_then (wp_forP (fun pre s => (∀ t ∈ dr, t ∈ s) ∧ s.length ≤ dr.length + pre.length ∧ (∀ t ∈ s, StripOk names t) ∧ ∀ x ∈ pre, ∃ t ∈ s, ∃ p ∈ t, x ∈ p) (xs := names) (s := dr) ⟨fun t h => h, by simp, h3, by simp⟩ fun pre x post e s hI => ?_) fun s hI => ?_
    · obtain ⟨i1, i2, i3, i4⟩ := hI
      have hl := congrArg List.length e
      simp only [List.length_append, List.length_cons] at hl
      have hx : x ∈ names := by rw [e]; simp
      unfold pl__law_drawing_4
      refine wp_if (fun _ => ?_) fun hc => wp_some ⟨i1, by simp; omega, i3, fun y hy => ?_⟩
      · simp only [pApp_ok (xs := s) (x := [[x]]) (by omega), Option.bind_some]
        refine wp_some ⟨fun t ht => List.mem_append_left _ (i1 t ht), by simp; omega, fun t ht => ?_, fun y hy => ?_⟩
        · rcases List.mem_append.mp ht with q | q
          · exact i3 t q
          · rw [List.mem_singleton.mp q]
            exact ⟨by simp, by simp, fun p hp => by rw [List.mem_singleton.mp hp]; exact ⟨by simp, fun y hy => by rw [List.mem_singleton.mp hy]; exact hx⟩⟩
        · rcases List.mem_append.mp hy with q | q
          · obtain ⟨t, ht, q⟩ := i4 y q
            exact ⟨t, List.mem_append_left _ ht, q⟩
          · rw [List.mem_singleton.mp q]
            exact ⟨[[x]], List.mem_append_right _ (List.mem_singleton.mpr rfl), [x], by simp, by simp⟩
      · rcases List.mem_append.mp hy with q | q
        · exact i4 y q
        · rw [List.mem_singleton.mp q]
          obtain ⟨t, ht, q⟩ := hth x (by simpa using hc)
          exact ⟨t, i1 t ht, q⟩
    · exact wp_some ⟨⟨by show s.length ≤ 20; omega, hI.2.2.1, hI.2.2.2⟩, h1⟩
theorem DrwOk.small {names : List Str} {dr : Drw} (h : DrwOk names dr) : Small dr := ⟨by have := h.l; omega, fun s hs => by have := (h.s s hs).l; omega⟩
theorem DrwOk.inD {names : List Str} {dr : Drw} (h : DrwOk names dr) {x : Str} (hx : x ∈ names) : ∃ p, InD dr x p := by
  obtain ⟨s, hs, p, hp, hxp⟩ := h.a x hx
  obtain ⟨i, hi, e1⟩ := List.getElem_of_mem hs
  obtain ⟨j, hj, e2⟩ := List.getElem_of_mem hp
  have hr : rowD dr (i : Int) = s := by unfold rowD; simp [hi, e1]
  have hc : cellD dr (i : Int) (j : Int) = p := by unfold cellD; rw [hr]; simp [hj, e2]
  exact ⟨(i, j), ⟨by simp, by simpa using hi, by simp, by simp only [hr]; simpa using hj⟩, by simp only [hc]; exact hxp⟩

end RG

set_option maxRecDepth 100000
set_option maxHeartbeats 4000000
namespace RG
open PySem PySem.Spec PyProof.Rows L2
/-! ### what is found alike; dicts; ways as texts -/
theorem like_str {x : Str} (h : PyData.strOk x = true) : p__law_like (D.str x) (D.str x) = some true := by
  unfold p__law_like
  rw [if_pos]
  exact ⟨rfl, h⟩
theorem like_tstr {l : List Str} (h : ∀ x ∈ l, PyData.strOk x = true) (hl : l.length ≤ 1000) : p__law_like (eT D.str l) (eT D.str l) = some true := by
  unfold p__law_like
  rw [if_pos]
  refine ⟨rfl, by rw [List.length_map]; omega, fun i d e h1 h2 => ?_⟩
  rw [h1] at h2
  cases h2
  obtain ⟨x, hx, rfl⟩ := List.mem_map.mp (List.mem_of_getElem? h1)
  exact ⟨rfl, rfl, rfl, h x hx⟩
section
variable {κ α : Type} [DecidableEq κ]
theorem pGet_nil {k : κ} : pGet ([] : List (κ × α)) k = none := rfl
theorem pGet_cons {kv : κ × α} {kvs : List (κ × α)} {k : κ} : pGet (kv :: kvs) k = if kv.1 = k then some kv.2 else pGet kvs k := by
  unfold pGet
  rw [List.find?_cons]
  by_cases h : kv.1 = k <;> simp [h]
theorem pGet_append {l m : List (κ × α)} {k : κ} : pGet (l ++ m) k = (pGet l k).or (pGet m k) := by
  induction l with
  | nil => rfl
  | cons kv l ih =>
    rw [List.cons_append, pGet_cons, pGet_cons, ih]
    by_cases h : kv.1 = k <;> simp [h]
theorem pGet_none {l : List (κ × α)} {k : κ} : pGet l k = none ↔ ∀ kv ∈ l, kv.1 ≠ k := by
  unfold pGet
  rw [Option.map_eq_none_iff, List.find?_eq_none]
  simp
theorem pGet_put {kvs : List (κ × α)} {k k' : κ} {v : α} : pGet (putA kvs k v) k' = if k = k' then some v else pGet kvs k' := by
  unfold putA
  by_cases hany : (kvs.any fun kv => decide (kv.1 = k)) = true
  · rw [if_pos hany]
    obtain ⟨kv0, hm, h0⟩ := List.any_eq_true.mp hany
    have h0 : kv0.1 = k := by simpa using h0
    by_cases e : k = k'
    · subst e
      rw [if_pos rfl]
      have : ∀ l : List (κ × α), (∃ kv ∈ l, kv.1 = k) → pGet (l.map fun kv => if kv.1 = k then (kv.1, v) else kv) k = some v := by
        intro l
        induction l with
        | nil => rintro ⟨_, h, _⟩; cases h
        | cons a l ih =>
          rintro ⟨b, hb, e⟩
          rw [List.map_cons, pGet_cons]
          by_cases ha : a.1 = k
          · simp [ha]
          · rw [if_neg (by simp [ha])]
            rcases List.mem_cons.mp hb with rfl | hb
            · exact absurd e ha
            · exact ih ⟨b, hb, e⟩
      exact this kvs ⟨kv0, hm, h0⟩
    · rw [if_neg e]
      clear hany hm
      induction kvs with
      | nil => rfl
      | cons a l ih =>
        rw [List.map_cons, pGet_cons, pGet_cons, ih]
        by_cases ha : a.1 = k
        · rw [if_pos ha]; simp only
          rw [if_neg (by rw [ha]; exact e), if_neg (by rw [ha]; exact e)]
        · rw [if_neg ha]
  · rw [if_neg hany, pGet_append, pGet_cons, pGet_nil]
    by_cases e : k = k'
    · subst e
      have : pGet kvs k = none := pGet_none.mpr fun kv hkv z => hany (List.any_eq_true.mpr ⟨kv, hkv, by simpa using z⟩)
      rw [this]; simp
    · rw [if_neg e, if_neg e]; simp
theorem put_len {kvs : List (κ × α)} {k : κ} {v : α} : (putA kvs k v).length ≤ kvs.length + 1 := by
  unfold putA
  split
  · simp
  · simp
theorem pPut_ok {kvs : List (κ × α)} {k : κ} {v : α} (h : kvs.length < 16777215) : pPut kvs k v = some (putA kvs k v) := by unfold pPut; rw [if_pos h]
end
def wsS (l : List Way) : List Str := l.map Way.s
theorem way_ok (w : Way) : PyData.strOk w.s = true := by cases w <;> decide +kernel
theorem wsS_ok {l : List Way} : ∀ x ∈ wsS l, PyData.strOk x = true := fun x hx => by
  obtain ⟨w, _, rfl⟩ := List.mem_map.mp hx
  exact way_ok w
theorem s_inj {v w : Way} (h : v.s = w.s) : v = w := by
  have : ∀ v ∈ Way.all, ∀ w ∈ Way.all, v.s = w.s → v = w := by decide +kernel
  exact this v v.mem_all w w.mem_all h
theorem mem_wsS {l : List Way} {w : Way} : w.s ∈ wsS l ↔ w ∈ l := by
  unfold wsS
  rw [List.mem_map]
  exact ⟨fun ⟨v, hv, e⟩ => by rw [← s_inj e]; exact hv, fun h => ⟨w, h, rfl⟩⟩

end RG

set_option maxRecDepth 100000
set_option maxHeartbeats 4000000
namespace RG
open PySem PySem.Spec PyProof.Rows L2
/-! ### strips whose plots are in order -/
def Srt (p : List Str) : Prop := p.Pairwise ltS
theorem lt_of_le {x y : Str} (h : leS x y) (n : x ≠ y) : ltS x y := by
  rcases Std.Trichotomous.rel_or_eq_or_rel_swap (r := fun (a b : List Nat) => a < b) (a := x.cps.toList) (b := y.cps.toList) with q | q | q
  · exact q
  · exact absurd (str_ext q) n
  · exact absurd q (by simpa [leS] using h)
theorem srt_sort {p : List Str} (h : p.Nodup) : Srt (sortS p) := by
  have h1 := sortS_pw p
  have h2 : (sortS p).Nodup := (sortS_perm p).nodup_iff.mpr h
  exact List.Pairwise.imp (fun ⟨a, b⟩ => lt_of_le a b) (List.Pairwise.and h1 h2)
def PlotOk (names : List Str) (p : List Str) : Prop := p.length ≤ 8 ∧ (∀ x ∈ p, x ∈ names) ∧ Srt p
structure StripS (names : List Str) (s : List (List Str)) : Prop where
  l : s.length ≤ 8
  ne : s ≠ []
  p : ∀ p ∈ s, PlotOk names p
theorem strip1_wpS {names plot : List Str} {d : Die} {r1 r4 r19 j : Int} {x : Str} (hd : d.ok) (h1 : atI names j = some x) (hp : plot.length ≤ 1000) :
    Wp (pl__law_strip_1 names r1 r4 r19 (d, plot) j) fun s => s.1.ok ∧ (s.2 = plot ∨ s.2 = plot ++ [x]) := by
  have put : ∀ d' : Die, d'.ok → Wp ((atI names j).bind fun x49 => (pApp plot x49).bind fun l51 => some (d', l51)) fun s => s.1.ok ∧ (s.2 = plot ∨ s.2 = plot ++ [x]) := fun d' hd' => by
    simp only [h1, Option.bind_some, pApp_ok (xs := plot) (x := x) (by omega)]
    exact wp_some ⟨hd', .inr rfl⟩
  have fin : ∀ (b : Bool) (d' : Die), d'.ok → Wp (if b = true then (atI names j).bind fun x49 => (pApp plot x49).bind fun l51 => some (d', l51) else some (d', plot)) fun s => s.1.ok ∧ (s.2 = plot ∨ s.2 = plot ++ [x]) := fun b d' hd' => by
    refine wp_if (fun _ => put d' hd') fun _ => wp_some ⟨hd', .inl rfl⟩
  unfold pl__law_strip_1
  refine wp_then (P := fun r : Bool × Die => r.2.ok) ?_ fun r hr => ?_
  · by_cases h0 : r1 = 0
    · simp only [h0, decide_true, if_true]
      exact wp_next hd (by omega) (by omega) fun r d' _ _ hd' => wp_some hd'
    · simp only [h0, decide_false, Bool.false_eq_true, if_false]; exact wp_some hd
  · obtain ⟨b, d1⟩ := r
    simp only at hr ⊢
    refine wp_then (P := fun r : Bool × Die => r.2.ok) ?_ fun r hr => fin r.1 r.2 hr
    refine wp_if (fun _ => wp_some hr) fun _ => ?_
    refine wp_then (P := fun r : Bool × Die => r.2.ok) ?_ fun r hr => wp_some hr
    refine wp_if (fun _ => ?_) fun _ => wp_some hr
    refine wp_then (P := fun r : Bool × Die => r.2.ok) ?_ fun r hr => wp_some hr
    refine wp_if (fun _ => ?_) fun _ => wp_some hr
    refine wp_then (P := fun r : Bool × Die => r.2.ok) ?_ fun r hr => wp_some hr
    refine wp_if (fun _ => wp_some hr) fun _ => ?_
    exact wp_next hr (by omega) (by omega) fun r d' _ _ hd' => wp_some hd'
theorem rng_at' : ∀ {n : Nat} {lo : Int} {pre : List Int} {i : Int} {post : List Int}, rng lo n = pre ++ i :: post → i = lo + (pre.length : Int)
  | 0, _, pre, _, _, h => by cases pre <;> cases h
  | n + 1, lo, [], i, post, h => by cases h; simp
  | n + 1, lo, p :: pre, i, post, h => by
    have := rng_at' (n := n) (lo := lo + 1) (pre := pre) (i := i) (post := post) (List.cons.inj h).2
    rw [this, List.length_cons]; omega
theorem rng_at {n : Nat} {pre : List Int} {i : Int} {post : List Int} (h : rng 0 n = pre ++ i :: post) : i = (pre.length : Int) := by
  have := rng_at' h; omega
theorem strip2_wpS {names : List Str} {found : List (List Str)} {d : Die} {r1 r4 k : Int} (hd : d.ok) (hnd : names.Nodup) (hn : names.length ≤ 8) (hf : found.length ≤ 1000) (hp : ∀ p ∈ found, PlotOk names p) :
    Wp (pl__law_strip_2 names r1 r4 (d, found) k) fun s => s.1.ok ∧ s.2.length = found.length + 1 ∧ ∀ p ∈ s.2, PlotOk names p := by
  unfold pl__law_strip_2
  refine wp_next hd (by omega) (by omega) fun r d1 _ _ hd1 => ?_
  simp only [pRange_ok (n := (names.length : Int)) (by omega) (by omega), Option.bind_some]
  refine wp_then (wp_forP (fun pre s => s.1.ok ∧ s.2.Sublist (names.take pre.length)) (xs := rng 0 (names.length : Int).toNat) (s := (d1, [])) ⟨hd1, by simp⟩ fun pre i post e s hI => ?_) fun s hI => ?_
  · obtain ⟨d2, plot⟩ := s
    have hi : i = (pre.length : Int) := rng_at e
    have hl : pre.length < names.length := by
      have := congrArg List.length e
      rw [rng_len] at this
      simp at this; omega
    subst hi
    simp only at hI
    have hpl : plot.length ≤ 8 := Nat.le_trans hI.2.length_le (by simp; omega)
    refine wp_mono (strip1_wpS hI.1 (atI_nat hl) (by omega)) fun s hs => ⟨hs.1, ?_⟩
    have et : names.take (pre ++ [(pre.length : Int)]).length = names.take pre.length ++ [names[pre.length]] := by
      rw [List.length_append, List.length_singleton, List.take_succ, List.getElem?_eq_getElem hl]; rfl
    rw [et]
    rcases hs.2 with q | q
    · rw [q]; exact hI.2.trans (List.sublist_append_left _ _)
    · rw [q]; exact List.Sublist.append hI.2 (List.Sublist.refl _)
  · obtain ⟨d2, plot⟩ := s
    simp only [rng_len] at hI
    have hsub : plot.Sublist names := hI.2.trans (List.take_sublist _ _)
    have hl : plot.length ≤ 8 := Nat.le_trans hsub.length_le hn
    simp only [pSort_ok (xs := plot) (by omega), Option.bind_some, pApp_ok (xs := found) (x := sortS plot) (by omega)]
    refine wp_some ⟨hI.1, by simp, fun p hpm => ?_⟩
    rcases List.mem_append.mp hpm with q | q
    · exact hp p q
    · rw [List.mem_singleton.mp q]
      exact ⟨by rw [(sortS_perm plot).length_eq]; exact hl, fun x hx => hsub.subset (sortS_mem.mp hx), srt_sort (hnd.sublist hsub)⟩
theorem strip_wpS {names : List Str} {d : Die} {most : Int} (hd : d.ok) (hnd : names.Nodup) (hn : names.length ≤ 8) (h0 : 0 < most) (h8 : most ≤ 8) : Wp (p__law_strip d names most) fun r => StripS names r.1 ∧ r.2.ok := by
  unfold p__law_strip
  refine wp_next hd (by omega) (by omega) fun r1 d1 _ _ hd1 => ?_
  refine wp_next hd1 (by omega) (by omega) fun r2 d2 _ _ hd2 => ?_
  refine wp_next hd2 (by omega) (by omega) fun r3 d3 r0 r8 hd3 => ?_
  simp only [pRange_ok (n := 1 + r3) (by omega) (by omega), Option.bind_some]
  refine wp_then (wp_forN (fun j s => s.1.ok ∧ s.2.length = j ∧ ∀ p ∈ s.2, PlotOk names p) (xs := rng 0 (1 + r3).toNat) (s := (d3, [])) ⟨hd3, rfl, by simp⟩ fun j i hj hi s hI => ?_) fun s hI => ?_
  · obtain ⟨d4, found⟩ := s
    rw [rng_len] at hj
    simp only at hI
    refine wp_mono (strip2_wpS hI.1 hnd hn (by omega) hI.2.2) fun s hs => ⟨hs.1, by omega, hs.2.2⟩
  · obtain ⟨d4, found⟩ := s
    simp only [rng_len] at hI
    exact wp_some ⟨⟨by simp only; omega, fun z => by simp only at z; rw [z] at hI; simp at hI; omega, hI.2.2⟩, hI.1⟩
structure DrwS (names : List Str) (dr : Drw) : Prop where
  l : dr.length ≤ 20
  s : ∀ s ∈ dr, StripS names s
  a : ∀ x ∈ names, ∃ s ∈ dr, ∃ p ∈ s, x ∈ p
theorem drawing_wpS {names : List Str} {d : Die} {most : Int} (hd : d.ok) (hnd : names.Nodup) (hn : names.length ≤ 8) (h0 : 0 ≤ most) (h10 : most ≤ 10) : Wp (p__law_drawing d names most) fun r => DrwS names r.1 ∧ r.2.ok := by
  unfold p__law_drawing
  refine wp_next hd (by omega) (by omega) fun r1 d1 r0 r10 hd1 => ?_
  simp only [pRange_ok (n := r1) (by omega) (by omega), Option.bind_some]
  refine wp_then (wp_compSA (Die.ok) (StripS names) (xs := rng 0 r1.toNat) (s := d1) hd1 fun i hi d2 hd2 => ?_) fun r hr => ?_
  · unfold pc__law_drawing_1
    refine wp_next hd2 (by omega) (by omega) fun k d3 k0 k4 hd3 => ?_
    have hk : ∃ m : Int, atI [(3 : Int), 3, 3, 8] k = some m ∧ 0 < m ∧ m ≤ 8 := by
      have : k = 0 ∨ k = 1 ∨ k = 2 ∨ k = 3 := by omega
      rcases this with rfl | rfl | rfl | rfl
      · exact ⟨3, rfl, by omega, by omega⟩
      · exact ⟨3, rfl, by omega, by omega⟩
      · exact ⟨3, rfl, by omega, by omega⟩
      · exact ⟨8, rfl, by omega, by omega⟩
    obtain ⟨m, hm, m0, m8⟩ := hk
    simp only [hm, Option.bind_some]
    exact wp_then (strip_wpS hd3 hnd hn m0 m8) fun r hr => wp_some ⟨hr.2, r.1, rfl, hr.1⟩
  · obtain ⟨dr, d2⟩ := r
    obtain ⟨h1, h2, h3⟩ := hr
    simp only [rng_len] at h1 h2 h3 ⊢
    have hdl : dr.length ≤ 10 := by omega
    rw [there_eq dr (fun s hs => ⟨(h3 s hs).l, fun p hp => ((h3 s hs).p p hp).1⟩) (by omega)]
    simp only [Option.bind_some]
    have hth : ∀ x, x ∈ (dr.flatMap fun s => s.flatMap fun p => p) → ∃ s ∈ dr, ∃ p ∈ s, x ∈ p := fun x hx => by
      obtain ⟨s, hs, hx⟩ := List.mem_flatMap.mp hx
      obtain ⟨p, hp, hx⟩ := List.mem_flatMap.mp hx
      exact ⟨s, hs, p, hp, hx⟩
    generalize (dr.flatMap fun s => s.flatMap fun p => p) = there at hth ⊢
    refine wp_then (wp_forP (fun pre s => (∀ t ∈ dr, t ∈ s) ∧ s.length ≤ dr.length + pre.length ∧ (∀ t ∈ s, StripS names t) ∧ ∀ x ∈ pre, ∃ t ∈ s, ∃ p ∈ t, x ∈ p) (xs := names) (s := dr) ⟨fun t h => h, by simp, h3, by simp⟩ fun pre x post e s hI => ?_) fun s hI => ?_
    · obtain ⟨i1, i2, i3, i4⟩ := hI
      have hl := congrArg List.length e
      simp only [List.length_append, List.length_cons] at hl
      have hx : x ∈ names := by rw [e]; simp
      unfold pl__law_drawing_4
      refine wp_if (fun _ => ?_) fun hc => wp_some ⟨i1, by simp; omega, i3, fun y hy => ?_⟩
      · simp only [pApp_ok (xs := s) (x := [[x]]) (by omega), Option.bind_some]
        refine wp_some ⟨fun t ht => List.mem_append_left _ (i1 t ht), by simp; omega, fun t ht => ?_, fun y hy => ?_⟩
        · rcases List.mem_append.mp ht with q | q
          · exact i3 t q
          · rw [List.mem_singleton.mp q]
            exact ⟨by simp, by simp, fun p hp => by rw [List.mem_singleton.mp hp]; exact ⟨by simp, fun y hy => by rw [List.mem_singleton.mp hy]; exact hx, List.pairwise_singleton _ _⟩⟩
        · rcases List.mem_append.mp hy with q | q
          · obtain ⟨t, ht, q⟩ := i4 y q
            exact ⟨t, List.mem_append_left _ ht, q⟩
          · rw [List.mem_singleton.mp q]
            exact ⟨[[x]], List.mem_append_right _ (List.mem_singleton.mpr rfl), [x], by simp, by simp⟩
      · rcases List.mem_append.mp hy with q | q
        · exact i4 y q
        · rw [List.mem_singleton.mp q]
          obtain ⟨t, ht, q⟩ := hth x (by simpa using hc)
          exact ⟨t, i1 t ht, q⟩
    · exact wp_some ⟨⟨by show s.length ≤ 20; omega, hI.2.2.1, hI.2.2.2⟩, h1⟩

end RG

set_option maxRecDepth 100000
set_option maxHeartbeats 4000000
namespace RG
open PySem PySem.Spec PyProof.Rows L2
/-! ### how two lands lie, by the strips alone -/
def adjS (s : List (List Str)) (p q : List Str) : Prop := ∃ i : Nat, (s[i]? = some p ∧ s[i + 1]? = some q) ∨ (s[i]? = some q ∧ s[i + 1]? = some p)
def HasS (dr : Drw) (x : Str) : Prop := ∃ s ∈ dr, ∃ p ∈ s, x ∈ p
def SubS (dr : Drw) (x y : Str) : Prop := ∀ s ∈ dr, ∀ p ∈ s, x ∈ p → y ∈ p
def OutS (dr : Drw) (x y : Str) : Prop := ∃ s ∈ dr, ∃ p q, adjS s p q ∧ x ∈ p ∧ y ∉ q
def ComS (dr : Drw) (x y : Str) : Prop := ∃ s ∈ dr, ∃ p ∈ s, x ∈ p ∧ y ∈ p
def TchS (dr : Drw) (x y : Str) : Prop := ∃ s ∈ dr, ∃ p q, adjS s p q ∧ x ∈ p ∧ y ∈ q
section
variable {dr : Drw} {x y : Str}
theorem lt_get {α : Type} {l : List α} {i : Nat} {a : α} (h : l[i]? = some a) : i < l.length := (List.getElem?_eq_some_iff.mp h).1
theorem at_pl {i j : Nat} {s : List (List Str)} {p : List Str} (h1 : dr[i]? = some s) (h2 : s[j]? = some p) : isPl dr ((i : Int), (j : Int)) ∧ rowD dr (i : Int) = s ∧ cellD dr (i : Int) (j : Int) = p := by
  have hr : rowD dr (i : Int) = s := by unfold rowD; rw [Int.toNat_natCast, h1]; rfl
  have hc : cellD dr (i : Int) (j : Int) = p := by unfold cellD; rw [hr, Int.toNat_natCast, h2]; rfl
  have l1 := lt_get h1
  have l2 := lt_get h2
  refine ⟨⟨Int.natCast_nonneg _, ?_, Int.natCast_nonneg _, ?_⟩, hr, hc⟩
  · show (i : Int) < _; omega
  · show (j : Int) < ((rowD dr (i : Int)).length : Int); rw [hr]; omega
theorem of_pl {u : Int × Int} (h : isPl dr u) : ∃ (i j : Nat) (s : List (List Str)) (p : List Str), u = ((i : Int), (j : Int)) ∧ dr[i]? = some s ∧ s[j]? = some p := by
  obtain ⟨h1, h2, h3, h4⟩ := h
  obtain ⟨a, b⟩ := u
  obtain ⟨i, rfl⟩ := Int.eq_ofNat_of_zero_le h1
  obtain ⟨j, rfl⟩ := Int.eq_ofNat_of_zero_le h3
  have hi : i < dr.length := by simp only at h2; omega
  have e1 : dr[i]? = some dr[i] := List.getElem?_eq_getElem hi
  have hr : rowD dr (i : Int) = dr[i] := by unfold rowD; rw [Int.toNat_natCast, e1]; rfl
  have hj : j < dr[i].length := by simp only at h4; rw [hr] at h4; omega
  exact ⟨i, j, _, _, rfl, e1, List.getElem?_eq_getElem hj⟩
theorem in_iff {i j : Nat} {s : List (List Str)} {p : List Str} (h1 : dr[i]? = some s) (h2 : s[j]? = some p) : InD dr x ((i : Int), (j : Int)) ↔ x ∈ p := by
  obtain ⟨q1, q2, q3⟩ := at_pl h1 h2
  unfold InD
  simp only [q3]
  exact ⟨fun h => h.2, fun h => ⟨q1, h⟩⟩
theorem has_iff : (∃ u, InD dr x u) ↔ HasS dr x := by
  constructor
  · rintro ⟨u, hu⟩
    obtain ⟨i, j, s, p, rfl, h1, h2⟩ := of_pl hu.1
    exact ⟨s, List.mem_of_getElem? h1, p, List.mem_of_getElem? h2, (in_iff h1 h2).mp hu⟩
  · rintro ⟨s, hs, p, hp, hx⟩
    obtain ⟨i, h1⟩ := List.getElem?_of_mem hs
    obtain ⟨j, h2⟩ := List.getElem?_of_mem hp
    exact ⟨_, (in_iff h1 h2).mpr hx⟩
theorem sub_iff : Sub (InD dr x) (InD dr y) ↔ SubS dr x y := by
  constructor
  · intro h s hs p hp hx
    obtain ⟨i, h1⟩ := List.getElem?_of_mem hs
    obtain ⟨j, h2⟩ := List.getElem?_of_mem hp
    exact (in_iff h1 h2).mp (h _ ((in_iff h1 h2).mpr hx))
  · intro h u hu
    obtain ⟨i, j, s, p, rfl, h1, h2⟩ := of_pl hu.1
    exact (in_iff h1 h2).mpr (h s (List.mem_of_getElem? h1) p (List.mem_of_getElem? h2) ((in_iff h1 h2).mp hu))
theorem com_iff : Com (InD dr x) (InD dr y) ↔ ComS dr x y := by
  constructor
  · rintro ⟨u, h1, h2⟩
    obtain ⟨i, j, s, p, rfl, e1, e2⟩ := of_pl h1.1
    exact ⟨s, List.mem_of_getElem? e1, p, List.mem_of_getElem? e2, (in_iff e1 e2).mp h1, (in_iff e1 e2).mp h2⟩
  · rintro ⟨s, hs, p, hp, h1, h2⟩
    obtain ⟨i, e1⟩ := List.getElem?_of_mem hs
    obtain ⟨j, e2⟩ := List.getElem?_of_mem hp
    exact ⟨_, (in_iff e1 e2).mpr h1, (in_iff e1 e2).mpr h2⟩
theorem nb_of {u v : Int × Int} (h : NbD dr u v) : ∃ (i j k : Nat) (s : List (List Str)) (p q : List Str), u = ((i : Int), (j : Int)) ∧ v = ((i : Int), (k : Int)) ∧ dr[i]? = some s ∧ s[j]? = some p ∧ s[k]? = some q ∧ adjS s p q := by
  obtain ⟨h1, h2, h3, h4⟩ := h
  obtain ⟨i, j, s, p, rfl, e1, e2⟩ := of_pl h1
  obtain ⟨i', k, s', q, rfl, e3, e4⟩ := of_pl h2
  have hi : i = i' := by simp only at h3; omega
  subst hi
  rw [e1] at e3; cases e3
  refine ⟨i, j, k, s, p, q, rfl, rfl, e1, e2, e4, ?_⟩
  simp only at h4
  rcases h4 with z | z
  · have : k = j + 1 := by omega
    subst this
    exact ⟨j, .inl ⟨e2, e4⟩⟩
  · have : j = k + 1 := by omega
    subst this
    exact ⟨k, .inr ⟨e4, e2⟩⟩
theorem of_nb {i : Nat} {s : List (List Str)} {p q : List Str} (h1 : dr[i]? = some s) (h : adjS s p q) : ∃ j k : Nat, s[j]? = some p ∧ s[k]? = some q ∧ NbD dr ((i : Int), (j : Int)) ((i : Int), (k : Int)) := by
  obtain ⟨j, ⟨a, b⟩ | ⟨a, b⟩⟩ := h
  · exact ⟨j, j + 1, a, b, (at_pl h1 a).1, (at_pl h1 b).1, rfl, .inl (by simp)⟩
  · exact ⟨j + 1, j, b, a, (at_pl h1 b).1, (at_pl h1 a).1, rfl, .inr (by simp)⟩
theorem out_iff : Out (NbD dr) (InD dr x) (InD dr y) ↔ OutS dr x y := by
  constructor
  · rintro ⟨u, v, h1, h2, h3⟩
    obtain ⟨i, j, k, s, p, q, rfl, rfl, e1, e2, e3, ha⟩ := nb_of h2
    exact ⟨s, List.mem_of_getElem? e1, p, q, ha, (in_iff e1 e2).mp h1, fun z => h3 ((in_iff e1 e3).mpr z)⟩
  · rintro ⟨s, hs, p, q, ha, h1, h2⟩
    obtain ⟨i, e1⟩ := List.getElem?_of_mem hs
    obtain ⟨j, k, e2, e3, hn⟩ := of_nb e1 ha
    exact ⟨_, _, (in_iff e1 e2).mpr h1, hn, fun z => h2 ((in_iff e1 e3).mp z)⟩
theorem tch_iff : Tch (NbD dr) (InD dr x) (InD dr y) ↔ TchS dr x y := by
  constructor
  · rintro ⟨u, v, h1, h2, h3⟩
    obtain ⟨i, j, k, s, p, q, rfl, rfl, e1, e2, e3, ha⟩ := nb_of h3
    exact ⟨s, List.mem_of_getElem? e1, p, q, ha, (in_iff e1 e2).mp h1, (in_iff e1 e3).mp h2⟩
  · rintro ⟨s, hs, p, q, ha, h1, h2⟩
    obtain ⟨i, e1⟩ := List.getElem?_of_mem hs
    obtain ⟨j, k, e2, e3, hn⟩ := of_nb e1 ha
    exact ⟨_, _, (in_iff e1 e2).mpr h1, (in_iff e1 e3).mpr h2, hn⟩
def wayB (a b c d e f : Bool) : Way := if a && b then .sa else if a then (if c then .ir else .ic) else if b then (if d then .hr else .hc) else if e then .ov else if f then .me else .ap
open Classical in
theorem wayD_B (dr : Drw) (x y : Str) : wayD dr x y = wayB (decide (SubS dr x y)) (decide (SubS dr y x)) (decide (OutS dr x y)) (decide (OutS dr y x)) (decide (ComS dr x y)) (decide (TchS dr x y)) := by
  unfold wayD wayP wayB
  simp only [sub_iff, out_iff, com_iff, tch_iff, Bool.and_eq_true, decide_eq_true_eq]
theorem mid_B {a1 b1 c1 d1 e1 f1 a2 b2 c2 d2 e2 f2 a3 b3 c3 d3 e3 f3 : Bool} (ha : a3 = true → a2 = true) (ha' : a2 = true → a1 = true) (hb : b3 = true → b2 = true) (hb' : b2 = true → b1 = true)
    (hc : c1 = true → c2 = true) (hc' : c2 = true → c3 = true) (hd : d1 = true → d2 = true) (hd' : d2 = true → d3 = true) (he : e1 = true → e2 = true) (he' : e2 = true → e3 = true) (hf : f1 = true → f2 = true) (hf' : f2 = true → f3 = true)
    (h : wayB a1 b1 c1 d1 e1 f1 = wayB a3 b3 c3 d3 e3 f3) : wayB a2 b2 c2 d2 e2 f2 = wayB a1 b1 c1 d1 e1 f1 := by
  have pa : ∀ a b c d e f : Bool, (wayB a b c d e f).bP = a := by decide
  have pb : ∀ a b c d e f : Bool, (wayB a b c d e f).turn.bP = b := by decide
  have h1 : a1 = a3 := by rw [← pa a1 b1 c1 d1 e1 f1, h, pa]
  have h2 : b1 = b3 := by rw [← pb a1 b1 c1 d1 e1 f1, h, pb]
  subst h1 h2
  have h3 : a2 = a1 := Bool.eq_iff_iff.mpr ⟨ha', ha⟩
  have h4 : b2 = b1 := Bool.eq_iff_iff.mpr ⟨hb', hb⟩
  subst h3 h4
  clear ha ha' hb hb' pa pb
  cases a2 <;> cases b2
  · have pe : ∀ c d e f : Bool, (wayB false false c d e f).bO = e := by decide
    have h5 : e1 = e3 := by rw [← pe c1 d1 e1 f1, h, pe]
    subst h5
    have h6 : e2 = e1 := Bool.eq_iff_iff.mpr ⟨he', he⟩
    subst h6
    cases e2
    · have pf : ∀ c d f : Bool, (wayB false false c d false f).bC = f := by decide
      have h7 : f1 = f3 := by rw [← pf c1 d1 f1, h, pf]
      subst h7
      have h8 : f2 = f1 := Bool.eq_iff_iff.mpr ⟨hf', hf⟩
      subst h8; rfl
    · rfl
  · have pd : ∀ c d e f : Bool, (wayB false true c d e f).turn.bN = !d := by decide
    have h5 : d1 = d3 := by have := pd c1 d1 e1 f1; rw [h, pd] at this; simpa using this.symm
    subst h5
    have h6 : d2 = d1 := Bool.eq_iff_iff.mpr ⟨hd', hd⟩
    subst h6; rfl
  · have pc : ∀ c d e f : Bool, (wayB true false c d e f).bN = !c := by decide
    have h5 : c1 = c3 := by have := pc c1 d1 e1 f1; rw [h, pc] at this; simpa using this.symm
    subst h5
    have h6 : c2 = c1 := Bool.eq_iff_iff.mpr ⟨hc', hc⟩
    subst h6; rfl
  · rfl
theorem HasS.mono {d1 d2 : Drw} (h : ∀ s ∈ d1, s ∈ d2) (k : HasS d1 x) : HasS d2 x := let ⟨s, a, b⟩ := k; ⟨s, h s a, b⟩
theorem SubS.mono {d1 d2 : Drw} (h : ∀ s ∈ d1, s ∈ d2) (k : SubS d2 x y) : SubS d1 x y := fun s hs => k s (h s hs)
theorem OutS.mono {d1 d2 : Drw} (h : ∀ s ∈ d1, s ∈ d2) (k : OutS d1 x y) : OutS d2 x y := let ⟨s, a, b⟩ := k; ⟨s, h s a, b⟩
theorem ComS.mono {d1 d2 : Drw} (h : ∀ s ∈ d1, s ∈ d2) (k : ComS d1 x y) : ComS d2 x y := let ⟨s, a, b⟩ := k; ⟨s, h s a, b⟩
theorem TchS.mono {d1 d2 : Drw} (h : ∀ s ∈ d1, s ∈ d2) (k : TchS d1 x y) : TchS d2 x y := let ⟨s, a, b⟩ := k; ⟨s, h s a, b⟩
/-- between two drawings that are seen alike -/
theorem mid_way {d1 d2 d3 : Drw} (h12 : ∀ s ∈ d1, s ∈ d2) (h23 : ∀ s ∈ d2, s ∈ d3) (h : wayD d1 x y = wayD d3 x y) : wayD d2 x y = wayD d1 x y := by
  rw [wayD_B d1, wayD_B d3] at h
  rw [wayD_B d1, wayD_B d2]
  refine mid_B ?_ ?_ ?_ ?_ ?_ ?_ ?_ ?_ ?_ ?_ ?_ ?_ h <;> (simp only [decide_eq_true_eq]; intro q)
  · exact q.mono h23
  · exact q.mono h12
  · exact q.mono h23
  · exact q.mono h12
  · exact q.mono h12
  · exact q.mono h23
  · exact q.mono h12
  · exact q.mono h23
  · exact q.mono h12
  · exact q.mono h23
  · exact q.mono h12
  · exact q.mono h23
end
/-! ### seen alike; what is left -/
/-- all these lands are there, and each two lie as in the other drawing -/
def Alike (names : List Str) (dr less : Drw) : Prop := (∀ x ∈ names, HasS less x) ∧ ∀ x ∈ names, ∀ y ∈ names, wayD less x y = wayD dr x y
theorem alike_refl {names : List Str} {dr : Drw} (h : ∀ x ∈ names, HasS dr x) : Alike names dr dr := ⟨h, fun _ _ _ _ => rfl⟩
theorem Alike.mid {names : List Str} {dr d1 d2 d3 : Drw} (h12 : ∀ s ∈ d1, s ∈ d2) (h23 : ∀ s ∈ d2, s ∈ d3) (h1 : Alike names dr d1) (h3 : Alike names dr d3) : Alike names dr d2 :=
  ⟨fun x hx => (h1.1 x hx).mono h12, fun x hx y hy => by rw [mid_way h12 h23 ((h1.2 x hx y hy).trans (h3.2 x hx y hy).symm)]; exact h1.2 x hx y hy⟩
theorem Alike.of {names : List Str} {dr d1 d2 : Drw} (h : Alike names dr d1) : Alike names d1 d2 ↔ Alike names dr d2 :=
  ⟨fun k => ⟨k.1, fun x hx y hy => (k.2 x hx y hy).trans (h.2 x hx y hy)⟩, fun k => ⟨k.1, fun x hx y hy => (k.2 x hx y hy).trans (h.2 x hx y hy).symm⟩⟩
open Classical in
/-- strip by strip -/
noncomputable def goT (names : List Str) (dr : Drw) : Drw → Drw → Drw
  | kept, [] => kept
  | kept, s :: rest => if Alike names dr (kept ++ rest) then goT names dr kept rest else goT names dr (kept ++ [s]) rest
def Tight (names : List Str) (dr kept rest : Drw) : Prop := ∀ a s b, kept = a ++ s :: b → ¬ Alike names dr (a ++ b ++ rest)
theorem goT_ok {names : List Str} {dr : Drw} : ∀ {rest kept : Drw}, Alike names dr (kept ++ rest) → Tight names dr kept rest → Alike names dr (goT names dr kept rest) ∧ Tight names dr (goT names dr kept rest) [] ∧ (∀ s ∈ goT names dr kept rest, s ∈ kept ++ rest) ∧ (goT names dr kept rest).length ≤ kept.length + rest.length
  | [], kept, h, t => by
    unfold goT
    exact ⟨by simpa using h, t, by simp, by simp⟩
  | s :: rest, kept, h, t => by
    unfold goT
    split
    · rename_i hc
      have := goT_ok (rest := rest) (kept := kept) hc fun a s' b e k => t a s' b e (Alike.mid (d1 := a ++ b ++ rest) (d3 := kept ++ s :: rest) (fun u hu => by
        simp only [List.mem_append, List.mem_cons] at hu ⊢
        rcases hu with (hu | hu) | hu <;> simp [hu]) (fun u hu => by
        rw [e]
        simp only [List.mem_append, List.mem_cons] at hu ⊢
        rcases hu with (hu | hu) | hu | hu <;> simp [hu]) k h)
      refine ⟨this.1, this.2.1, fun u hu => ?_, by have := this.2.2.2; simp; omega⟩
      have := this.2.2.1 u hu
      simp only [List.mem_append, List.mem_cons] at this ⊢
      rcases this with z | z <;> simp [z]
    · rename_i hc
      have := goT_ok (rest := rest) (kept := kept ++ [s]) (by simpa using h) fun a s' b e k => ?_
      · refine ⟨this.1, this.2.1, fun u hu => ?_, by have := this.2.2.2; simp at this ⊢; omega⟩
        have := this.2.2.1 u hu
        simpa using this
      · rcases List.eq_nil_or_concat b with rfl | ⟨b', z, rfl⟩
        · have e' : kept ++ [s] = a ++ [s'] := e
          obtain ⟨rfl, e2⟩ := List.append_inj' e' rfl
          exact hc (by simpa using k)
        · have e' : kept ++ [s] = (a ++ s' :: b') ++ [z] := by rw [e]; simp
          obtain ⟨e1, e2⟩ := List.append_inj' e' rfl
          have e2 : s = z := (List.cons.inj e2).1
          subst e2
          exact t a s' b' e1 (by simpa using k)
theorem goT_tight {names : List Str} {dr : Drw} : ∀ {rest kept : Drw}, (∀ a s b, kept ++ rest = a ++ s :: b → ¬ Alike names dr (a ++ b)) → goT names dr kept rest = kept ++ rest
  | [], kept, _ => by unfold goT; simp
  | s :: rest, kept, h => by
    unfold goT
    rw [if_neg (h kept s rest rfl), goT_tight (by simpa using h)]
    simp
theorem goT_congr {names : List Str} {dr d1 : Drw} (h : Alike names dr d1) : ∀ {rest kept : Drw}, goT names d1 kept rest = goT names dr kept rest
  | [], kept => by unfold goT; rfl
  | s :: rest, kept => by
    unfold goT
    rw [goT_congr h, goT_congr h]
    by_cases q : Alike names dr (kept ++ rest)
    · rw [if_pos q, if_pos (h.of.mpr q)]
    · rw [if_neg q, if_neg fun z => q (h.of.mp z)]
/-- what is left of what is left -/
theorem goT_idem {names : List Str} {dr : Drw} (h : ∀ x ∈ names, HasS dr x) : goT names (goT names dr [] dr) [] (goT names dr [] dr) = goT names dr [] dr := by
  obtain ⟨h1, h2, _, _⟩ := goT_ok (names := names) (dr := dr) (rest := dr) (kept := []) (by simpa using alike_refl h) (fun a s b e => by simp at e)
  rw [goT_congr h1, goT_tight (kept := []) fun a s b e => by
    have := h2 a s b (by simpa using e)
    simpa using this]
  rfl

end RG

set_option maxRecDepth 100000
set_option maxHeartbeats 4000000
namespace RG
open PySem PySem.Spec PyProof.Rows L2
/-! ### the program's lands and sight -/
def keysP {κ β : Type} (l : List (κ × β)) : List κ := l.map (·.1)
section
variable {κ β : Type} [DecidableEq κ]
theorem any_key {kvs : List (κ × β)} {k : κ} : (kvs.any fun kv => decide (kv.1 = k)) = true ↔ k ∈ keysP kvs := by
  unfold keysP
  rw [List.any_eq_true, List.mem_map]
  simp
theorem keys_put {kvs : List (κ × β)} {k : κ} {v : β} : keysP (putA kvs k v) = if k ∈ keysP kvs then keysP kvs else keysP kvs ++ [k] := by
  unfold putA
  by_cases h : (kvs.any fun kv => decide (kv.1 = k)) = true
  · rw [if_pos h, if_pos (any_key.mp h)]
    unfold keysP
    rw [List.map_map]
    refine List.map_congr_left fun kv _ => ?_
    by_cases q : kv.1 = k <;> simp [q]
  · rw [if_neg h, if_neg fun z => h (any_key.mpr z)]
    unfold keysP
    simp
theorem put_new {kvs : List (κ × β)} {k : κ} {v : β} (h : k ∉ keysP kvs) : putA kvs k v = kvs ++ [(k, v)] := by
  unfold putA
  rw [if_neg fun z => h (any_key.mp z)]
structure KeyI (s0 : List κ) (c : κ → Prop) (n : Nat) (s : List (κ × β)) : Prop where
  nd : (keysP s).Nodup
  mem : ∀ x, x ∈ keysP s ↔ x ∈ s0 ∨ c x
  len : s.length ≤ n
theorem KeyI.put {s0 : List κ} {c : κ → Prop} {n : Nat} {s : List (κ × β)} (h : KeyI s0 c n s) (k : κ) (v : β) : KeyI s0 (fun x => c x ∨ x = k) (n + 1) (putA s k v) := by
  refine ⟨?_, fun x => ?_, Nat.le_trans put_len (Nat.add_le_add_right h.len 1)⟩
  · rw [keys_put]
    split
    · exact h.nd
    · rename_i q; exact nodup_snoc h.nd q
  · rw [keys_put]
    split
    · rename_i q
      rw [h.mem]
      constructor
      · rintro (z | z)
        · exact .inl z
        · exact .inr (.inl z)
      · rintro (z | z | rfl)
        · exact .inl z
        · exact .inr z
        · exact (h.mem _).mp q
    · rw [List.mem_append, h.mem, List.mem_singleton, or_assoc]
theorem KeyI.iff {s0 : List κ} {c d : κ → Prop} {n : Nat} {s : List (κ × β)} (h : KeyI s0 c n s) (e : ∀ x, c x ↔ d x) : KeyI s0 d n s := ⟨h.nd, fun x => by rw [h.mem, e], h.len⟩
theorem KeyI.le {s0 : List κ} {c : κ → Prop} {n m : Nat} {s : List (κ × β)} (h : KeyI s0 c n s) (e : n ≤ m) : KeyI s0 c m s := ⟨h.nd, h.mem, Nat.le_trans h.len e⟩
end
theorem lands1 : ∀ {p : List Str} {s : List (Str × Bool)} {c : Str → Prop} {n : Nat}, KeyI [] c n s → n + p.length ≤ 16000000 → Wp (pFor pl_lands_1 p s) fun r => KeyI [] (fun x => c x ∨ x ∈ p) (n + p.length) r
  | [], s, c, n, h, _ => wp_some (h.iff fun x => by simp)
  | x :: p, s, c, n, h, hn => by
    unfold pFor
    have hl := h.len
    rw [List.length_cons] at hn
    have e : pl_lands_1 s x = some (putA s x true) := by unfold pl_lands_1; rw [pPut_ok (by omega)]; rfl
    rw [e]
    exact wp_mono (lands1 (h.put x true) (by omega)) fun r hr => (hr.iff fun y => by rw [List.mem_cons, or_assoc]).le (by rw [List.length_cons]; omega)
theorem lands2 {N : Nat} : ∀ {t : List (List Str)} {s : List (Str × Bool)} {c : Str → Prop} {n : Nat}, KeyI [] c n s → (∀ p ∈ t, p.length ≤ N) → n + N * t.length ≤ 16000000 → Wp (pFor pl_lands_2 t s) fun r => KeyI [] (fun x => c x ∨ ∃ p ∈ t, x ∈ p) (n + N * t.length) r
  | [], s, c, n, h, _, _ => wp_some ((h.iff fun x => by simp).le (by simp))
  | p :: t, s, c, n, h, hp, hn => by
    unfold pFor
    rw [List.length_cons, Nat.mul_add] at hn
    have hpl := hp p List.mem_cons_self
    refine wp_then (P := fun r => KeyI [] (fun x => c x ∨ x ∈ p) (n + N) r) ?_ fun r hr => ?_
    · unfold pl_lands_2
      exact wp_then (lands1 h (by omega)) fun r hr => wp_some (hr.le (by omega))
    · refine wp_mono (lands2 hr (fun q hq => hp q (List.mem_cons_of_mem _ hq)) (by omega)) fun r hr => (hr.iff fun y => by simp only [List.mem_cons, exists_eq_or_imp, or_assoc]).le (by rw [List.length_cons, Nat.mul_add]; omega)
theorem lands3 {N M : Nat} : ∀ {t : Drw} {s : List (Str × Bool)} {c : Str → Prop} {n : Nat}, KeyI [] c n s → (∀ u ∈ t, u.length ≤ M ∧ ∀ p ∈ u, p.length ≤ N) → n + N * M * t.length ≤ 16000000 → Wp (pFor pl_lands_3 t s) fun r => KeyI [] (fun x => c x ∨ HasS t x) (n + N * M * t.length) r
  | [], s, c, n, h, _, _ => wp_some ((h.iff fun x => by simp [HasS]).le (by simp))
  | u :: t, s, c, n, h, hp, hn => by
    unfold pFor
    rw [List.length_cons, Nat.mul_add] at hn
    obtain ⟨hu, hpl⟩ := hp u List.mem_cons_self
    have hm : N * u.length ≤ N * M := Nat.mul_le_mul_left N hu
    refine wp_then (P := fun r => KeyI [] (fun x => c x ∨ ∃ p ∈ u, x ∈ p) (n + N * M) r) ?_ fun r hr => ?_
    · unfold pl_lands_3
      exact wp_then (lands2 h hpl (by omega)) fun r hr => wp_some (hr.le (by omega))
    · refine wp_mono (lands3 hr (fun q hq => hp q (List.mem_cons_of_mem _ hq)) (by omega)) fun r hr => (hr.iff fun y => by unfold HasS; simp only [List.mem_cons, exists_eq_or_imp, or_assoc]).le (by rw [List.length_cons, Nat.mul_add]; omega)
/-- drawings of these lands, not all of them there -/
structure Part (names : List Str) (dr : Drw) : Prop where
  l : dr.length ≤ 50
  s : ∀ s ∈ dr, s.length ≤ 8 ∧ ∀ p ∈ s, p.length ≤ 8 ∧ ∀ x ∈ p, x ∈ names
theorem Part.small {names : List Str} {dr : Drw} (h : Part names dr) : Small dr := ⟨by have := h.l; omega, fun s hs => by have := (h.s s hs).1; omega⟩
theorem Part.sub {names : List Str} {dr d1 : Drw} (h : Part names dr) (l : d1.length ≤ 50) (k : ∀ s ∈ d1, s ∈ dr) : Part names d1 := ⟨l, fun s hs => h.s s (k s hs)⟩
theorem Part.mem {names : List Str} {dr : Drw} (h : Part names dr) {x : Str} (k : HasS dr x) : x ∈ names := let ⟨s, a, p, b, c⟩ := k; ((h.s s a).2 p b).2 x c
/-- the lands there are, in order -/
noncomputable def landsL (names : List Str) (dr : Drw) : List Str := by
  classical exact sortS (names.filter fun x => decide (HasS dr x))
theorem sort_same {a b : List Str} (ha : a.Nodup) (hb : b.Nodup) (h : ∀ x, x ∈ a ↔ x ∈ b) : sortS a = sortS b := by
  have p : a.Perm b := (List.perm_ext_iff_of_nodup ha hb).mpr h
  exact List.Perm.eq_of_pairwise (le := leS) (fun x y _ _ h1 h2 => leS_anti h1 h2) (sortS_pw a) (sortS_pw b) (((sortS_perm a).trans p).trans (sortS_perm b).symm)
theorem mem_landsL {names : List Str} {dr : Drw} {x : Str} : x ∈ landsL names dr ↔ x ∈ names ∧ HasS dr x := by
  classical
  unfold landsL
  rw [sortS_mem]
  simp
theorem landsL_nodup {names : List Str} {dr : Drw} (hn : names.Nodup) : (landsL names dr).Nodup := by
  classical
  unfold landsL
  exact (sortS_perm _).nodup_iff.mpr (hn.filter _)
theorem landsL_all {names : List Str} {dr d1 : Drw} (hn : names.Nodup) (h : ∀ x ∈ names, HasS dr x) : landsL names d1 = landsL names dr ↔ ∀ x ∈ names, HasS d1 x := by
  constructor
  · intro e x hx
    have := (mem_landsL (names := names) (dr := dr) (x := x)).mpr ⟨hx, h x hx⟩
    rw [← e] at this
    exact (mem_landsL.mp this).2
  · intro h1
    classical
    unfold landsL
    refine sort_same (hn.filter _) (hn.filter _) fun x => ?_
    simp only [List.mem_filter, decide_eq_true_eq]
    exact ⟨fun q => ⟨q.1, h x q.1⟩, fun q => ⟨q.1, h1 x q.1⟩⟩
theorem lands_eq {names : List Str} {dr : Drw} (hn : names.Nodup) (h8 : names.length ≤ 8) (h : Part names dr) : p_lands dr = some (landsL names dr) := by
  have hl := h.l
  have key := lands3 (N := 8) (M := 8) (t := dr) (s := []) (c := fun _ => False) (n := 0) ⟨List.nodup_nil, by simp [keysP], by simp⟩ (fun u hu => ⟨(h.s u hu).1, fun p hp => ((h.s u hu).2 p hp).1⟩) (by omega)
  obtain ⟨r, e, hr⟩ := key
  have hm : ∀ x, x ∈ keysP r ↔ HasS dr x := fun x => by rw [hr.mem]; simp
  have hlen : (keysP r).length ≤ names.length := List.Nodup.length_le_of_subset hr.nd fun x hx => h.mem ((hm x).mp hx)
  unfold p_lands
  rw [e]
  show (pSort (keysP r)).bind _ = _
  rw [pSort_ok (by omega)]
  show some _ = some _
  congr 1
  classical
  unfold landsL
  refine sort_same hr.nd (hn.filter _) fun x => ?_
  rw [hm, List.mem_filter, decide_eq_true_eq]
  exact ⟨fun q => ⟨h.mem q, q⟩, fun q => q.2⟩
/-! the sight -/
def pairsL (r : List Str) : List (Str × Str) := r.flatMap fun x => (r.filter fun y => decide (ltS x y)).map fun y => (x, y)
noncomputable def sightL (r : List Str) (dr : Drw) : List ((Str × Str) × Str) := (pairsL r).map fun k => (k, (wayD dr k.1 k.2).s)
theorem sight1 {dr : Drw} (hs : Small dr) {x : Str} (hx : HasS dr x) : ∀ {ys : List Str} {s : List ((Str × Str) × Str)}, ys.Nodup → (∀ y ∈ ys, HasS dr y ∧ (x, y) ∉ keysP s) → s.length + ys.length ≤ 16000000 →
    pFor (pl_sight_1 dr x) ys s = some (s ++ ((ys.filter fun y => decide (ltS x y)).map fun y => ((x, y), (wayD dr x y).s)))
  | [], s, _, _, _ => by simp [pFor]
  | y :: ys, s, nd, hy, hl => by
    unfold pFor
    rw [List.length_cons] at hl
    obtain ⟨h1, h2⟩ := hy y List.mem_cons_self
    have nd' := List.nodup_cons.mp nd
    by_cases c : ltS x y
    · have e : pl_sight_1 dr x s y = some (s ++ [((x, y), (wayD dr x y).s)]) := by
        unfold pl_sight_1
        rw [decide_eq_true c, if_pos rfl, seen_eq hs (has_iff.mpr hx) (has_iff.mpr h1)]
        simp only [Option.bind_some]
        rw [pPut_ok (by omega), put_new h2]
        rfl
      rw [e]
      show pFor (pl_sight_1 dr x) ys _ = _
      rw [sight1 hs hx nd'.2 (fun z hz => ⟨(hy z (List.mem_cons_of_mem _ hz)).1, fun q => ?_⟩) (by simp; omega)]
      · rw [List.filter_cons_of_pos (by simpa using c)]; simp
      · unfold keysP at q
        rw [List.map_append, List.mem_append] at q
        rcases q with q | q
        · exact (hy z (List.mem_cons_of_mem _ hz)).2 q
        · simp only [List.map_cons, List.map_nil, List.mem_singleton] at q
          have := (Prod.mk.inj q).2
          subst this
          exact nd'.1 hz
    · have e : pl_sight_1 dr x s y = some s := by
        unfold pl_sight_1
        rw [decide_eq_false c]; rfl
      rw [e]
      show pFor (pl_sight_1 dr x) ys _ = _
      rw [sight1 hs hx nd'.2 (fun z hz => hy z (List.mem_cons_of_mem _ hz)) (by omega), List.filter_cons_of_neg (by simpa using c)]
theorem sight2 {dr : Drw} (hs : Small dr) {r : List Str} (nr : r.Nodup) (hr : ∀ x ∈ r, HasS dr x) (h8 : r.length ≤ 8) : ∀ {xs : List Str} {s : List ((Str × Str) × Str)}, xs.Nodup → (∀ x ∈ xs, HasS dr x ∧ ∀ k ∈ keysP s, k.1 ≠ x) → s.length + 8 * xs.length ≤ 16000000 →
    pFor (pl_sight_2 dr r) xs s = some (s ++ ((xs.flatMap fun x => (r.filter fun y => decide (ltS x y)).map fun y => (x, y)).map fun k => (k, (wayD dr k.1 k.2).s)))
  | [], s, _, _, _ => by simp [pFor]
  | x :: xs, s, nd, hx, hl => by
    unfold pFor
    rw [List.length_cons, Nat.mul_add] at hl
    obtain ⟨h1, h2⟩ := hx x List.mem_cons_self
    have nd' := List.nodup_cons.mp nd
    have e : pl_sight_2 dr r s x = some (s ++ ((r.filter fun y => decide (ltS x y)).map fun y => ((x, y), (wayD dr x y).s))) := by
      unfold pl_sight_2
      rw [sight1 hs h1 nr (fun y hy => ⟨hr y hy, fun q => h2 _ q rfl⟩) (by omega)]
      rfl
    rw [e]
    show pFor (pl_sight_2 dr r) xs _ = _
    have hfl : (r.filter fun y => decide (ltS x y)).length ≤ 8 := Nat.le_trans (List.length_filter_le _ _) h8
    rw [sight2 hs nr hr h8 nd'.2 (fun z hz => ⟨(hx z (List.mem_cons_of_mem _ hz)).1, fun k q e => ?_⟩) (by rw [List.length_append, List.length_map]; omega)]
    · simp [List.map_map, Function.comp_def]
    · unfold keysP at q
      rw [List.map_append, List.mem_append] at q
      rcases q with q | q
      · exact (hx z (List.mem_cons_of_mem _ hz)).2 k q e
      · rw [List.map_map] at q
        obtain ⟨y, _, rfl⟩ := List.mem_map.mp q
        have e : x = z := e
        subst e
        exact nd'.1 hz
theorem sight_eq {names : List Str} {dr : Drw} (hn : names.Nodup) (h8 : names.length ≤ 8) (h : Part names dr) : p_sight dr = some (sightL (landsL names dr) dr) := by
  have hl : (landsL names dr).length ≤ 8 := Nat.le_trans (List.Nodup.length_le_of_subset (landsL_nodup hn) fun x hx => (mem_landsL.mp hx).1) h8
  unfold p_sight
  rw [lands_eq hn h8 h]
  simp only [Option.bind_some]
  rw [sight2 h.small (landsL_nodup hn) (fun x hx => (mem_landsL.mp hx).2) hl (landsL_nodup hn) (fun x hx => ⟨(mem_landsL.mp hx).2, fun k hk => by cases hk⟩) (by simp; omega)]
  rfl
theorem pGet_map {κ β : Type} [DecidableEq κ] {f : κ → β} : ∀ {ks : List κ} {k : κ}, k ∈ ks → pGet (ks.map fun k => (k, f k)) k = some (f k)
  | a :: ks, k, h => by
    rw [List.map_cons, pGet_cons]
    by_cases e : a = k
    · subst e; rw [if_pos rfl]
    · rw [if_neg e]
      exact pGet_map ((List.mem_cons.mp h).resolve_left (Ne.symm e))
theorem eq_sight {r : List Str} {d1 d2 : Drw} : pEqT (sightL r d1) (sightL r d2) = true ↔ ∀ x ∈ r, ∀ y ∈ r, ltS x y → wayD d1 x y = wayD d2 x y := by
  unfold pEqT
  have hl : (sightL r d1).length = (sightL r d2).length := by unfold sightL; rw [List.length_map, List.length_map]
  rw [hl, beq_self_eq_true, Bool.true_and, List.all_eq_true]
  have hp : ∀ {k : Str × Str}, k ∈ pairsL r ↔ k.1 ∈ r ∧ k.2 ∈ r ∧ ltS k.1 k.2 := fun {k} => by
    unfold pairsL
    rw [List.mem_flatMap]
    constructor
    · rintro ⟨x, hx, q⟩
      obtain ⟨y, hy, rfl⟩ := List.mem_map.mp q
      rw [List.mem_filter, decide_eq_true_eq] at hy
      exact ⟨hx, hy.1, hy.2⟩
    · rintro ⟨h1, h2, h3⟩
      exact ⟨k.1, h1, List.mem_map.mpr ⟨k.2, List.mem_filter.mpr ⟨h2, by simpa using h3⟩, rfl⟩⟩
  constructor
  · intro h x hx y hy hlt
    have m : (x, y) ∈ pairsL r := hp.mpr ⟨hx, hy, hlt⟩
    have := h ((x, y), (wayD d1 x y).s) (List.mem_map.mpr ⟨(x, y), m, rfl⟩)
    rw [decide_eq_true_eq] at this
    unfold sightL at this
    rw [pGet_map (f := fun k : Str × Str => (wayD d2 k.1 k.2).s) m] at this
    exact (s_inj (Option.some.inj this)).symm
  · intro h p hpm
    obtain ⟨k, m, rfl⟩ := List.mem_map.mp hpm
    obtain ⟨q1, q2, q3⟩ := hp.mp m
    rw [decide_eq_true_eq]
    unfold sightL
    rw [pGet_map (f := fun k : Str × Str => (wayD d2 k.1 k.2).s) m]
    show some (wayD d2 k.1 k.2).s = some (wayD d1 k.1 k.2).s
    rw [h _ q1 _ q2 q3]
theorem lt_or {x y : Str} (h : x ≠ y) : ltS x y ∨ ltS y x := by
  rcases Std.Trichotomous.rel_or_eq_or_rel_swap (r := fun (a b : List Nat) => a < b) (a := x.cps.toList) (b := y.cps.toList) with q | q | q
  · exact .inl q
  · exact absurd (str_ext q) h
  · exact .inr q
theorem wayD_self (dr : Drw) (x : Str) : wayD dr x x = .sa := by
  unfold wayD wayP
  rw [if_pos ⟨fun _ h => h, fun _ h => h⟩]
theorem wayD_turn {dr : Drw} {x y : Str} (hx : HasS dr x) (hy : HasS dr y) : wayD dr y x = (wayD dr x y).turn := way_turn nb_sym (has_iff.mpr hx) (has_iff.mpr hy)
/-- lands and sight alike: all is seen alike -/
theorem alike_iff {names : List Str} {dr less : Drw} (hn : names.Nodup) (h : ∀ x ∈ names, HasS dr x) : (landsL names less = landsL names dr ∧ pEqT (sightL (landsL names less) less) (sightL (landsL names dr) dr) = true) ↔ Alike names dr less := by
  constructor
  · rintro ⟨e, q⟩
    rw [e, eq_sight] at q
    have hL := (landsL_all hn h).mp e
    have m : ∀ x ∈ names, x ∈ landsL names dr := fun x hx => mem_landsL.mpr ⟨hx, h x hx⟩
    refine ⟨hL, fun x hx y hy => ?_⟩
    by_cases exy : x = y
    · subst exy; rw [wayD_self, wayD_self]
    · rcases lt_or exy with z | z
      · exact q x (m x hx) y (m y hy) z
      · rw [wayD_turn (hL y hy) (hL x hx), wayD_turn (h y hy) (h x hx), q y (m y hy) x (m x hx) z]
  · rintro ⟨h1, h2⟩
    have e := (landsL_all hn h).mpr h1
    refine ⟨e, ?_⟩
    rw [e, eq_sight]
    exact fun x hx y hy _ => h2 x (mem_landsL.mp hx).1 y (mem_landsL.mp hy).1

end RG

set_option maxRecDepth 100000
set_option maxHeartbeats 4000000
namespace RG
open PySem PySem.Spec PyProof.Rows L2
/-! ### alike -/
theorem lk_str {x : Str} {n : Nat} (h : PyData.strOk x = true) : LikeL (n + 1) (.str x) (.str x) := ⟨rfl, h⟩
theorem lk_lst {ds : List D} {n : Nat} (hl : ds.length ≤ 16777216) (h : ∀ d ∈ ds, LikeL n d d) : LikeL (n + 1) (.lst ds) (.lst ds) :=
  ⟨rfl, hl, fun i d e h1 h2 => by rw [h1] at h2; cases h2; exact h d (List.mem_of_getElem? h1)⟩
theorem lk_tup {ds : List D} {n : Nat} (hl : ds.length ≤ 16777216) (h : ∀ d ∈ ds, d.flat = true ∧ LikeL n d d) : LikeL (n + 1) (.tup ds) (.tup ds) :=
  ⟨rfl, hl, fun i d e h1 h2 => by rw [h1] at h2; cases h2; obtain ⟨q1, q2⟩ := h d (List.mem_of_getElem? h1); exact ⟨q1, q1, q2⟩⟩
section
variable {names : List Str} {dr : Drw}
theorem like_drwP (hn : NamesOk names) (h : Part names dr) : p__law_like (eL (eL (eT D.str)) dr) (eL (eL (eT D.str)) dr) = some true := by
  have hl := h.l
  unfold p__law_like
  rw [if_pos]
  refine lk_lst (by rw [List.length_map]; omega) fun d hd => ?_
  obtain ⟨s, hs, rfl⟩ := List.mem_map.mp hd
  obtain ⟨h1, h2⟩ := h.s s hs
  refine lk_lst (by rw [List.length_map]; omega) fun d hd => ?_
  obtain ⟨p, hp, rfl⟩ := List.mem_map.mp hd
  obtain ⟨h3, h4⟩ := h2 p hp
  refine lk_tup (by rw [List.length_map]; omega) fun d hd => ?_
  obtain ⟨x, hx, rfl⟩ := List.mem_map.mp hd
  exact ⟨rfl, lk_str (hn.ok x (h4 x hx)).str⟩
theorem sh_drwP (hn : NamesOk names) (h : Part names dr) : Sh 3 (eL (eL (eT D.str)) dr) := sh_eL fun s hs => sh_eL fun p hp => sh_tstr fun x hx => (hn.ok x (((h.s s hs).2 p hp).2 x hx)).str
/-! ### the law's own sight -/
noncomputable def lawL (names : List Str) (dr : Drw) : List Str := names.flatMap fun x => names.map fun y => (wayD dr x y).s
theorem lsight1 (hs : Small dr) (x : Str) {ys s : List Str} (hl : s.length + ys.length ≤ 16000000) : pFor (pl__law_sight_1 dr x) ys s = some (s ++ ys.map fun y => (wayD dr x y).s) := by
  rw [for_app (fun y => [(wayD dr x y).s]) 1 16000000 (fun _ _ => by simp) (fun y _ s hl => by
    unfold pl__law_sight_1
    rw [law_seen_eq hs]
    simp only [Option.bind_some]
    rw [pApp_ok (by omega)]; rfl) (by omega)]
  congr 2
  induction ys with
  | nil => rfl
  | cons y ys ih => rw [List.flatMap_cons, List.map_cons, ih (by simp at hl ⊢; omega)]; rfl
open Classical in
theorem lsight2 (hs : Small dr) (h8 : names.length ≤ 8) : ∀ {xs s : List Str}, s.length + 8 * xs.length ≤ 16000000 →
    pForR (pl__law_sight_2 dr names) xs s = some (if ∀ x ∈ xs, HasS dr x then .nx (s ++ xs.flatMap fun x => names.map fun y => (wayD dr x y).s) else .rt none)
  | [], s, _ => by simp [pForR]
  | x :: xs, s, hl => by
    rw [List.length_cons, Nat.mul_add] at hl
    unfold pForR
    have hp : plc dr x = [] ↔ ¬ HasS dr x := by
      rw [← has_iff]
      constructor
      · rintro e ⟨u, hu⟩
        have := mem_plc.mpr hu
        rw [e] at this; cases this
      · intro e
        rcases List.eq_nil_or_concat (plc dr x) with z | ⟨l, u, z⟩
        · exact z
        · exact absurd ⟨u, mem_plc.mp (by rw [z]; simp)⟩ e
    by_cases h : HasS dr x
    · have e : pl__law_sight_2 dr names s x = some (.nx (s ++ names.map fun y => (wayD dr x y).s)) := by
        unfold pl__law_sight_2
        rw [places_eq hs]
        simp only [Option.bind_some, pEq_pl]
        rw [decide_eq_false fun z => (hp.mp z) h]
        simp only [Bool.false_eq_true, if_false]
        rw [lsight1 hs x (by omega)]; rfl
      rw [e]
      show pForR (pl__law_sight_2 dr names) xs _ = _
      rw [lsight2 hs h8 (by rw [List.length_append, List.length_map]; omega)]
      by_cases q : ∀ y ∈ xs, HasS dr y
      · rw [if_pos q, if_pos (by simpa using ⟨h, q⟩)]; simp
      · rw [if_neg q, if_neg fun z => q fun y hy => z y (List.mem_cons_of_mem _ hy)]
    · have e : pl__law_sight_2 dr names s x = some (.rt none) := by
        unfold pl__law_sight_2
        rw [places_eq hs]
        simp only [Option.bind_some, pEq_pl]
        rw [decide_eq_true (hp.mpr h)]; rfl
      rw [e, if_neg fun z => h (z x List.mem_cons_self)]; rfl
open Classical in
theorem lsight_eq (hs : Small dr) (h8 : names.length ≤ 8) : p__law_sight dr names = some (if ∀ x ∈ names, HasS dr x then some (lawL names dr) else none) := by
  unfold p__law_sight
  rw [lsight2 hs h8 (by simp; omega)]
  by_cases q : ∀ y ∈ names, HasS dr y
  · rw [if_pos q, if_pos q]; simp [lawL]
  · rw [if_neg q, if_neg q]; rfl
theorem flat_eq {α β : Type} {f g : α → List β} (hl : ∀ x, (f x).length = (g x).length) : ∀ {xs : List α}, xs.flatMap f = xs.flatMap g ↔ ∀ x ∈ xs, f x = g x
  | [] => by simp
  | x :: xs => by
    rw [List.flatMap_cons, List.flatMap_cons]
    constructor
    · intro e
      obtain ⟨h1, h2⟩ := List.append_inj e (hl x)
      have := (flat_eq hl).mp h2
      intro y hy
      rcases List.mem_cons.mp hy with rfl | hy
      · exact h1
      · exact this y hy
    · intro h
      rw [h x List.mem_cons_self, (flat_eq hl).mpr fun y hy => h y (List.mem_cons_of_mem _ hy)]
theorem lawL_eq {d1 : Drw} : lawL names d1 = lawL names dr ↔ ∀ x ∈ names, ∀ y ∈ names, wayD d1 x y = wayD dr x y := by
  unfold lawL
  rw [flat_eq fun x => by rw [List.length_map, List.length_map]]
  constructor
  · intro h x hx y hy
    exact s_inj (List.map_inj_left.mp (h x hx) y hy)
  · intro h x hx
    exact List.map_inj_left.mpr fun y hy => by rw [h x hx y hy]
theorem sh_lawL {d1 : Drw} : ∀ x ∈ lawL names d1, PyData.strOk x = true := fun x hx => by
  obtain ⟨a, _, h⟩ := List.mem_flatMap.mp hx
  obtain ⟨b, _, rfl⟩ := List.mem_map.mp h
  exact way_ok _
open Classical in
theorem due_cmp {less : Drw} (h : ∀ x ∈ names, HasS dr x) : pEq (eO (eL D.str)) (if ∀ x ∈ names, HasS less x then some (lawL names less) else none) (some (lawL names dr)) = some (decide (Alike names dr less)) := by
  have s1 : Sh 1 (eO (eL D.str) (some (lawL names dr))) := sh_strs sh_lawL
  by_cases q : ∀ x ∈ names, HasS less x
  · rw [if_pos q]
    have s2 : Sh 1 (eO (eL D.str) (some (lawL names less))) := sh_strs sh_lawL
    refine (pEq_ok s2 s1 (by decide) (by decide)).trans (congrArg some (decide_eq_decide.mpr ?_))
    rw [Option.some.injEq, lawL_eq]
    exact ⟨fun z => ⟨q, z⟩, fun z => z.2⟩
  · rw [if_neg q]
    have s2 : Sh 1 (eO (eL D.str) (none : Option (List Str))) := sh_non.mono (by decide)
    refine (pEq_ok s2 s1 (by decide) (by decide)).trans (congrArg some (decide_eq_decide.mpr ?_))
    exact ⟨fun z => (nomatch z), fun z => absurd z.1 q⟩
/-! ### strip by strip -/
theorem drop_at {kept rest : Drw} {s : List (List Str)} : pDrop (kept ++ s :: rest) (kept.length : Int) = some (kept ++ rest) := by
  unfold pDrop
  rw [if_pos ⟨by omega, by rw [List.length_append, List.length_cons]; omega⟩, Int.toNat_natCast, List.eraseIdx_append_of_length_le (Nat.le_refl _), Nat.sub_self]
  rfl
open Classical in
theorem due1 (h8 : names.length ≤ 8) (hp : Part names dr) (h : ∀ x ∈ names, HasS dr x) {kept rest : Drw} {s : List (List Str)} (k : Int) (hl : (kept ++ s :: rest).length ≤ 50) (hm : ∀ u ∈ kept ++ s :: rest, u ∈ dr) :
    pl__law_due_1 names (some (lawL names dr)) (kept ++ s :: rest, (kept.length : Int)) k = some (if Alike names dr (kept ++ rest) then (kept ++ rest, (kept.length : Int)) else (kept ++ s :: rest, (kept.length : Int) + 1)) := by
  have pl : Part names (kept ++ rest) := hp.sub (by simp at hl ⊢; omega) fun u hu => hm u (by
    simp only [List.mem_append, List.mem_cons] at hu ⊢
    rcases hu with z | z <;> simp [z])
  unfold pl__law_due_1
  simp only [drop_at, Option.bind_some, lsight_eq pl.small h8, due_cmp h]
  by_cases q : Alike names dr (kept ++ rest)
  · rw [decide_eq_true q, if_pos rfl, if_pos q]
  · rw [decide_eq_false q, if_neg Bool.false_ne_true, if_neg q]
theorem due_loop (h8 : names.length ≤ 8) (hp : Part names dr) (h : ∀ x ∈ names, HasS dr x) : ∀ {rest kept : Drw} {xs : List Int}, xs.length = rest.length → (kept ++ rest).length ≤ 50 → (∀ u ∈ kept ++ rest, u ∈ dr) →
    ∃ n : Int, pFor (pl__law_due_1 names (some (lawL names dr))) xs (kept ++ rest, (kept.length : Int)) = some (goT names dr kept rest, n)
  | [], kept, xs, hx, _, _ => by
    have : xs = [] := List.length_eq_zero_iff.mp hx
    subst this
    unfold goT
    exact ⟨(kept.length : Int), by simp [pFor]⟩
  | s :: rest, kept, [], hx, _, _ => by simp at hx
  | s :: rest, kept, k :: xs, hx, hl, hm => by
    classical
    unfold pFor
    rw [due1 h8 hp h k hl hm]
    unfold goT
    by_cases q : Alike names dr (kept ++ rest)
    · rw [if_pos q, if_pos q]
      exact due_loop h8 hp h (by simpa using hx) (by simp at hl ⊢; omega) fun u hu => hm u (by
        simp only [List.mem_append, List.mem_cons] at hu ⊢
        rcases hu with z | z <;> simp [z])
    · rw [if_neg q, if_neg q]
      have := due_loop h8 hp h (rest := rest) (kept := kept ++ [s]) (xs := xs) (by simpa using hx) (by simpa using hl) (by simpa using hm)
      simpa using this
theorem due_eq (h8 : names.length ≤ 8) (hp : Part names dr) (h : ∀ x ∈ names, HasS dr x) : p__law_due dr names = some (goT names dr [] dr) := by
  have hl := hp.l
  unfold p__law_due
  rw [lsight_eq hp.small h8, if_pos h]
  simp only [Option.bind_some, pRange_ok (n := dr.length) (by omega) (by omega)]
  obtain ⟨n, e⟩ := due_loop h8 hp h (rest := dr) (kept := []) (xs := rng 0 (dr.length : Int).toNat) (by rw [rng_len]; simp) (by simpa using hl) (by simp)
  have e : pFor (pl__law_due_1 names (some (lawL names dr))) (rng 0 (dr.length : Int).toNat) (dr, 0) = some (goT names dr [] dr, n) := e
  rw [e]; rfl
open Classical in
theorem trim1 (hn : NamesOk names) (h8 : names.length ≤ 8) (hp : Part names dr) (h : ∀ x ∈ names, HasS dr x) {kept rest : Drw} {s : List (List Str)} (hl : (kept ++ s :: rest).length ≤ 50) (hm : ∀ u ∈ kept ++ s :: rest, u ∈ dr) :
    pl_trimmed_2 (sightL (landsL names dr) dr) (landsL names dr) (kept ++ s :: rest, (kept.length : Int)) = some (if Alike names dr (kept ++ rest) then (kept ++ rest, (kept.length : Int)) else (kept ++ s :: rest, (kept.length : Int) + 1)) := by
  have pl : Part names (kept ++ rest) := hp.sub (by simp at hl ⊢; omega) fun u hu => hm u (by
    simp only [List.mem_append, List.mem_cons] at hu ⊢
    rcases hu with z | z <;> simp [z])
  have ss : ∀ d : Drw, Sh 1 (eL D.str (landsL names d)) := fun d => sh_strs fun x hx => (hn.ok x (mem_landsL.mp hx).1).str
  have e1 : pEq (eL D.str) (landsL names (kept ++ rest)) (landsL names dr) = some (decide (landsL names (kept ++ rest) = landsL names dr)) := (pEq_ok (ss _) (ss _) (by decide) (by decide)).trans (by congr)
  have ha := alike_iff (less := kept ++ rest) hn.nd h
  unfold pl_trimmed_2
  simp only [drop_at, Option.bind_some, lands_eq hn.nd h8 pl, sight_eq hn.nd h8 pl, e1]
  by_cases q : landsL names (kept ++ rest) = landsL names dr
  · rw [decide_eq_true q]
    simp only [if_true, Option.bind_some]
    by_cases z : pEqT (sightL (landsL names (kept ++ rest)) (kept ++ rest)) (sightL (landsL names dr) dr) = true
    · rw [z, if_pos rfl, if_pos (ha.mp ⟨q, z⟩)]
    · have z' : pEqT (sightL (landsL names (kept ++ rest)) (kept ++ rest)) (sightL (landsL names dr) dr) = false := by simpa using z
      rw [z', if_neg Bool.false_ne_true, if_neg fun y => z (ha.mpr y).2]
  · rw [decide_eq_false q]
    simp only [Bool.false_eq_true, if_false, Option.bind_some]
    rw [if_neg fun y => q (ha.mpr y).1]
theorem trim_loop (hn : NamesOk names) (h8 : names.length ≤ 8) (hp : Part names dr) (h : ∀ x ∈ names, HasS dr x) : ∀ {n : Nat} {rest kept : Drw}, rest.length < n → (kept ++ rest).length ≤ 50 → (∀ u ∈ kept ++ rest, u ∈ dr) →
    ∃ m : Int, pWhile pt_trimmed_1 (pl_trimmed_2 (sightL (landsL names dr) dr) (landsL names dr)) n (kept ++ rest, (kept.length : Int)) = some (goT names dr kept rest, m)
  | 0, rest, kept, hx, _, _ => absurd hx (Nat.not_lt_zero _)
  | n + 1, [], kept, hx, _, _ => by
    unfold pWhile pt_trimmed_1 goT
    exact ⟨(kept.length : Int), by simp⟩
  | n + 1, s :: rest, kept, hx, hl, hm => by
    classical
    unfold pWhile
    have e : pt_trimmed_1 (kept ++ s :: rest, (kept.length : Int)) = some true := by
      unfold pt_trimmed_1
      simp only [List.length_append, List.length_cons]
      congr 1
      exact decide_eq_true (by omega)
    rw [e]
    simp only [Option.bind_some, if_true]
    rw [trim1 hn h8 hp h hl hm]
    unfold goT
    by_cases q : Alike names dr (kept ++ rest)
    · rw [if_pos q, if_pos q]
      exact trim_loop hn h8 hp h (by simp at hx; omega) (by simp at hl ⊢; omega) fun u hu => hm u (by
        simp only [List.mem_append, List.mem_cons] at hu ⊢
        rcases hu with z | z <;> simp [z])
    · rw [if_neg q, if_neg q]
      have := trim_loop hn h8 hp h (n := n) (rest := rest) (kept := kept ++ [s]) (by simp at hx; omega) (by simpa using hl) (by simpa using hm)
      simpa using this
theorem trim_eq (hn : NamesOk names) (h8 : names.length ≤ 8) (hp : Part names dr) (h : ∀ x ∈ names, HasS dr x) : p_trimmed dr = some (goT names dr [] dr) := by
  have hl := hp.l
  unfold p_trimmed p_copied
  rw [sight_eq hn.nd h8 hp, lands_eq hn.nd h8 hp]
  simp only [Option.bind_some]
  obtain ⟨n, e⟩ := trim_loop hn h8 hp h (n := 100) (rest := dr) (kept := []) (by omega) (by simpa using hl) (by simp)
  have e : pWhile pt_trimmed_1 (pl_trimmed_2 (sightL (landsL names dr) dr) (landsL names dr)) 100 (dr, 0) = some (goT names dr [] dr, n) := e
  rw [e]; rfl
end
/-! ### the law -/
structure LI (names : List Str) (n : Nat) (d : Die) (dr : Drw) : Prop where
  d : d.ok
  l : dr.length ≤ n
  s : ∀ s ∈ dr, s.length ≤ 8 ∧ ∀ p ∈ s, p.length ≤ 8 ∧ ∀ x ∈ p, x ∈ names
  a : ∀ x ∈ names, HasS dr x
theorem LI.ne {names : List Str} {n : Nat} {d : Die} {dr : Drw} (h : LI names n d dr) (h0 : 0 < names.length) : 0 < dr.length := by
  obtain ⟨s, hs, _⟩ := h.a names[0] (List.getElem_mem h0)
  exact List.length_pos_of_mem hs
theorem more_wp {names : List Str} {n : Nat} {d : Die} {dr : Drw} (h0 : 0 < names.length) (hn : n ≤ 40) (h : LI names n d dr) (k : Int) : Wp (pl_law_1 (d, dr) k) fun r => LI names (n + 1) r.1 r.2 := by
  have hl := h.l
  have hp := h.ne h0
  unfold pl_law_1
  refine wp_next h.d (by omega) (by omega) fun r1 d1 a0 a1 hd1 => ?_
  obtain ⟨s, e1, hs, _⟩ := atI_int a0 a1
  simp only [e1, Option.bind_some]
  refine wp_next hd1 (by omega) (by omega) fun r2 d2 b0 b1 hd2 => ?_
  have hm : ∃ t, atI [[([] : List Str)], [([] : List Str), ([] : List Str)], s] r2 = some t ∧ t.length ≤ 8 ∧ ∀ p ∈ t, p.length ≤ 8 ∧ ∀ x ∈ p, x ∈ names := by
    have : r2 = 0 ∨ r2 = 1 ∨ r2 = 2 := by omega
    rcases this with rfl | rfl | rfl
    · exact ⟨[[]], rfl, by simp, by simp⟩
    · exact ⟨[[], []], rfl, by simp, by simp⟩
    · exact ⟨s, rfl, h.s s hs⟩
  obtain ⟨t, e2, ht⟩ := hm
  simp only [e2, Option.bind_some]
  refine wp_next hd2 (by omega) (by omega) fun r3 d3 c0 c1 hd3 => ?_
  have e3 : pIns dr r3 t = some (dr.take r3.toNat ++ [t] ++ dr.drop r3.toNat) := by
    unfold pIns
    rw [if_pos ⟨by omega, c0, by omega⟩]
  rw [e3]
  have mem : ∀ u, u ∈ dr.take r3.toNat ++ [t] ++ dr.drop r3.toNat → u ∈ dr ∨ u = t := fun u hu => by
    simp only [List.mem_append, List.mem_singleton] at hu
    rcases hu with (q | q) | q
    · exact .inl (List.mem_of_mem_take q)
    · exact .inr q
    · exact .inl (List.mem_of_mem_drop q)
  have mem2 : ∀ u ∈ dr, u ∈ dr.take r3.toNat ++ [t] ++ dr.drop r3.toNat := fun u hu => by
    rw [← List.take_append_drop r3.toNat dr] at hu
    simp only [List.mem_append, List.mem_singleton] at hu ⊢
    rcases hu with q | q <;> simp [q]
  refine wp_some ⟨hd3, ?_, fun u hu => ?_, fun x hx => (h.a x hx).mono mem2⟩
  · simp only [List.length_append, List.length_take, List.length_drop, List.length_cons, List.length_nil]; omega
  · rcases mem u hu with q | q
    · exact h.s u q
    · subst q; exact ht
theorem p_law_true (ns : List Int) : p_law ns = some true := by
  have key : Wp (p_law ns) fun b => b = true := by
    unfold p_law
    refine wp_then (dice_wp ns) fun d hd => ?_
    refine wp_next hd (by omega) (by omega) fun r3 d4 r0 r1 hd4 => ?_
    refine wp_then (names_wp hd4 (by omega) (by omega)) fun r hr => ?_
    obtain ⟨names, d7⟩ := r
    obtain ⟨hno, hnl, hd7⟩ := hr
    simp only at hno hnl hd7 ⊢
    have h8 : names.length ≤ 8 := by omega
    have h0 : 0 < names.length := by omega
    refine wp_then (drawing_wp hd7 (names := names) (by omega) (by omega) (by omega)) fun r hr => ?_
    obtain ⟨dr, d10⟩ := r
    obtain ⟨hdr, hd10⟩ := hr
    simp only at hdr hd10 ⊢
    refine wp_next hd10 (by omega) (by omega) fun r12 d13 q0 q1 hd13 => ?_
    simp only [pRange_ok (n := r12) (by omega) (by omega), Option.bind_some]
    refine wp_then (wp_forN (fun (j : Nat) (s : Die × Drw) => LI names (20 + j) s.1 s.2) (xs := rng 0 r12.toNat) (s := (d13, dr)) ⟨hd13, by simpa using hdr.l, fun s hs => ⟨(hdr.s s hs).l, (hdr.s s hs).p⟩, show ∀ x ∈ names, HasS dr x from hdr.a⟩ fun j x hj hx s hI => more_wp h0 (by rw [rng_len] at hj; omega) hI x) fun s hI => ?_
    obtain ⟨d40, d41⟩ := s
    simp only at hI ⊢
    have hl := hI.l
    rw [rng_len] at hl
    have hP : Part names d41 := ⟨by omega, hI.s⟩
    have hA := hI.a
    have hT : Part names (goT names d41 [] d41) ∧ ∀ x ∈ names, HasS (goT names d41 [] d41) x := by
      obtain ⟨h1, h2, h3, h4⟩ := goT_ok (names := names) (dr := d41) (rest := d41) (kept := []) (by simpa using alike_refl hA) (fun a s b e => by simp at e)
      exact ⟨hP.sub (by have := hP.l; simp at h4; omega) (by simpa using h3), h1.1⟩
    simp only [due_eq h8 hP hA, Option.bind_some]
    have hc : p__law_copied d41 = some d41 := rfl
    simp only [hc, Option.bind_some, pRange_ok (n := 2) (by omega) (by omega)]
    have eqs : ∀ d : Drw, Part names d → pEq (eL (eL (eT D.str))) d d = some true := fun d hd => by
      refine (pEq_ok (sh_drwP hno hd) (sh_drwP hno hd) (by decide) (by decide)).trans ?_
      simp
    refine wp_then (wp_forR (fun _ => True) (xs := rng 0 (2 : Int).toNat) (s := ()) trivial fun x _ _ _ => ?_) fun c hc => ?_
    · have hp0 : 0 < (goT names d41 [] d41).length := by
        obtain ⟨s, hs, _⟩ := hT.2 names[0] (List.getElem_mem h0)
        exact List.length_pos_of_mem hs
      obtain ⟨y, hy⟩ : ∃ y, (goT names d41 [] d41)[0]? = some y := ⟨_, List.getElem?_eq_getElem hp0⟩
      have hyl := (hT.1.s y (List.mem_of_getElem? hy)).1
      have hTl := hT.1.l
      unfold pl_law_2
      simp only [trim_eq hno h8 hP hA, Option.bind_some, like_drwP hno hT.1, Bool.not_true, Bool.false_eq_true, if_false, eqs d41 hP, hy, pApp_ok (xs := y) (by omega)]
      rw [pApp_ok (by rw [List.length_set]; omega)]
      exact wp_some ⟨_, rfl, trivial⟩
    · obtain ⟨_, rfl, _⟩ := hc
      have e2 : p_trimmed (goT names d41 [] d41) = some (goT names d41 [] d41) := by
        rw [trim_eq hno h8 hT.1 hT.2, goT_idem hA]
      simp only [e2, Option.bind_some, eqs _ hT.1]
      exact wp_some rfl
  obtain ⟨b, h, rfl⟩ := key
  exact h
theorem law_true : ∀ ns : List Int, ns.length ≤ 63 → ∃ L1, fn_law [.t .old (.scr ns)] = some (.bl true, L1) := fun ns _ => ⟨_, t_law (p_law_true ns)⟩

end RG

set_option maxRecDepth 100000
set_option maxHeartbeats 4000000
namespace RG
open PySem PySem.Spec PyProof.Rows L2
theorem all_mk {l : PySem.W.OpenLaw} {w : World} {K : PySem.W.Frag} {h : Heap} {mg : Str → Option Value} {fa : Addr} (X : K.In h) (G : h.Ns mainGlobals mg) (hfa : mg "law" = some (.ref fa))
    {f0 : Addr} {oc0 : Value} {od0 an0 : Option Addr} {sl0 : Array (Option Value)} {kV0 dc0 pm0 cd0 ct0 : Value}
    (a0 : PySem.W.nsIn K mainGlobals "_law_dice" = some (some (.ref f0))) (l0 : K.lookup f0 = some ⟨oc0, od0, .func (PySem.W.fnOf "_law_dice" "_law_dice" (defArgs s__law_dice) (defBody s__law_dice) (defScope s__law_dice) .none kV0 dc0 pm0 an0 cd0 ct0), sl0⟩) (c0 : PySem.W.codeIn K cd0 "_law_dice" = true) (k0 : PySem.W.keepIn K (.ref f0) = true)
    {f1 : Addr} {oc1 : Value} {od1 an1 : Option Addr} {sl1 : Array (Option Value)} {kV1 dc1 pm1 cd1 ct1 : Value}
    (a1 : PySem.W.nsIn K mainGlobals "_law_next" = some (some (.ref f1))) (l1 : K.lookup f1 = some ⟨oc1, od1, .func (PySem.W.fnOf "_law_next" "_law_next" (defArgs s__law_next) (defBody s__law_next) (defScope s__law_next) .none kV1 dc1 pm1 an1 cd1 ct1), sl1⟩) (c1 : PySem.W.codeIn K cd1 "_law_next" = true) (k1 : PySem.W.keepIn K (.ref f1) = true)
    {f2 : Addr} {oc2 : Value} {od2 an2 : Option Addr} {sl2 : Array (Option Value)} {kV2 dc2 pm2 cd2 ct2 : Value}
    (a2 : PySem.W.nsIn K mainGlobals "_law_names" = some (some (.ref f2))) (l2 : K.lookup f2 = some ⟨oc2, od2, .func (PySem.W.fnOf "_law_names" "_law_names" (defArgs s__law_names) (defBody s__law_names) (defScope s__law_names) .none kV2 dc2 pm2 an2 cd2 ct2), sl2⟩) (c2 : PySem.W.codeIn K cd2 "_law_names" = true) (k2 : PySem.W.keepIn K (.ref f2) = true)
    {f3 : Addr} {oc3 : Value} {od3 an3 : Option Addr} {sl3 : Array (Option Value)} {kV3 dc3 pm3 cd3 ct3 : Value}
    (a3 : PySem.W.nsIn K mainGlobals "_law_strip" = some (some (.ref f3))) (l3 : K.lookup f3 = some ⟨oc3, od3, .func (PySem.W.fnOf "_law_strip" "_law_strip" (defArgs s__law_strip) (defBody s__law_strip) (defScope s__law_strip) .none kV3 dc3 pm3 an3 cd3 ct3), sl3⟩) (c3 : PySem.W.codeIn K cd3 "_law_strip" = true) (k3 : PySem.W.keepIn K (.ref f3) = true)
    {f4 : Addr} {oc4 : Value} {od4 an4 : Option Addr} {sl4 : Array (Option Value)} {kV4 dc4 pm4 cd4 ct4 : Value}
    (a4 : PySem.W.nsIn K mainGlobals "_law_drawing" = some (some (.ref f4))) (l4 : K.lookup f4 = some ⟨oc4, od4, .func (PySem.W.fnOf "_law_drawing" "_law_drawing" (defArgs s__law_drawing) (defBody s__law_drawing) (defScope s__law_drawing) .none kV4 dc4 pm4 an4 cd4 ct4), sl4⟩) (c4 : PySem.W.codeIn K cd4 "_law_drawing" = true) (k4 : PySem.W.keepIn K (.ref f4) = true)
    {f5 : Addr} {oc5 : Value} {od5 an5 : Option Addr} {sl5 : Array (Option Value)} {kV5 dc5 pm5 cd5 ct5 : Value}
    (a5 : PySem.W.nsIn K mainGlobals "_law_places" = some (some (.ref f5))) (l5 : K.lookup f5 = some ⟨oc5, od5, .func (PySem.W.fnOf "_law_places" "_law_places" (defArgs s__law_places) (defBody s__law_places) (defScope s__law_places) .none kV5 dc5 pm5 an5 cd5 ct5), sl5⟩) (c5 : PySem.W.codeIn K cd5 "_law_places" = true) (k5 : PySem.W.keepIn K (.ref f5) = true)
    {f6 : Addr} {oc6 : Value} {od6 an6 : Option Addr} {sl6 : Array (Option Value)} {kV6 dc6 pm6 cd6 ct6 : Value}
    (a6 : PySem.W.nsIn K mainGlobals "_law_near" = some (some (.ref f6))) (l6 : K.lookup f6 = some ⟨oc6, od6, .func (PySem.W.fnOf "_law_near" "_law_near" (defArgs s__law_near) (defBody s__law_near) (defScope s__law_near) .none kV6 dc6 pm6 an6 cd6 ct6), sl6⟩) (c6 : PySem.W.codeIn K cd6 "_law_near" = true) (k6 : PySem.W.keepIn K (.ref f6) = true)
    {f7 : Addr} {oc7 : Value} {od7 an7 : Option Addr} {sl7 : Array (Option Value)} {kV7 dc7 pm7 cd7 ct7 : Value}
    (a7 : PySem.W.nsIn K mainGlobals "_law_seen" = some (some (.ref f7))) (l7 : K.lookup f7 = some ⟨oc7, od7, .func (PySem.W.fnOf "_law_seen" "_law_seen" (defArgs s__law_seen) (defBody s__law_seen) (defScope s__law_seen) .none kV7 dc7 pm7 an7 cd7 ct7), sl7⟩) (c7 : PySem.W.codeIn K cd7 "_law_seen" = true) (k7 : PySem.W.keepIn K (.ref f7) = true)
    {f8 : Addr} {oc8 : Value} {od8 an8 : Option Addr} {sl8 : Array (Option Value)} {kV8 dc8 pm8 cd8 ct8 : Value}
    (a8 : PySem.W.nsIn K mainGlobals "_law_sight" = some (some (.ref f8))) (l8 : K.lookup f8 = some ⟨oc8, od8, .func (PySem.W.fnOf "_law_sight" "_law_sight" (defArgs s__law_sight) (defBody s__law_sight) (defScope s__law_sight) .none kV8 dc8 pm8 an8 cd8 ct8), sl8⟩) (c8 : PySem.W.codeIn K cd8 "_law_sight" = true) (k8 : PySem.W.keepIn K (.ref f8) = true)
    {f9 : Addr} {oc9 : Value} {od9 an9 : Option Addr} {sl9 : Array (Option Value)} {kV9 dc9 pm9 cd9 ct9 : Value}
    (a9 : PySem.W.nsIn K mainGlobals "_law_due" = some (some (.ref f9))) (l9 : K.lookup f9 = some ⟨oc9, od9, .func (PySem.W.fnOf "_law_due" "_law_due" (defArgs s__law_due) (defBody s__law_due) (defScope s__law_due) .none kV9 dc9 pm9 an9 cd9 ct9), sl9⟩) (c9 : PySem.W.codeIn K cd9 "_law_due" = true) (k9 : PySem.W.keepIn K (.ref f9) = true)
    {f10 : Addr} {oc10 : Value} {od10 an10 : Option Addr} {sl10 : Array (Option Value)} {kV10 dc10 pm10 cd10 ct10 : Value}
    (a10 : PySem.W.nsIn K mainGlobals "_law_copied" = some (some (.ref f10))) (l10 : K.lookup f10 = some ⟨oc10, od10, .func (PySem.W.fnOf "_law_copied" "_law_copied" (defArgs s__law_copied) (defBody s__law_copied) (defScope s__law_copied) .none kV10 dc10 pm10 an10 cd10 ct10), sl10⟩) (c10 : PySem.W.codeIn K cd10 "_law_copied" = true) (k10 : PySem.W.keepIn K (.ref f10) = true)
    {f11 : Addr} {oc11 : Value} {od11 an11 : Option Addr} {sl11 : Array (Option Value)} {kV11 dc11 pm11 cd11 ct11 : Value}
    (a11 : PySem.W.nsIn K mainGlobals "lands" = some (some (.ref f11))) (l11 : K.lookup f11 = some ⟨oc11, od11, .func (PySem.W.fnOf "lands" "lands" (defArgs s_lands) (defBody s_lands) (defScope s_lands) .none kV11 dc11 pm11 an11 cd11 ct11), sl11⟩) (c11 : PySem.W.codeIn K cd11 "lands" = true) (k11 : PySem.W.keepIn K (.ref f11) = true)
    {f12 : Addr} {oc12 : Value} {od12 an12 : Option Addr} {sl12 : Array (Option Value)} {kV12 dc12 pm12 cd12 ct12 : Value}
    (a12 : PySem.W.nsIn K mainGlobals "plots_of" = some (some (.ref f12))) (l12 : K.lookup f12 = some ⟨oc12, od12, .func (PySem.W.fnOf "plots_of" "plots_of" (defArgs s_plots_of) (defBody s_plots_of) (defScope s_plots_of) .none kV12 dc12 pm12 an12 cd12 ct12), sl12⟩) (c12 : PySem.W.codeIn K cd12 "plots_of" = true) (k12 : PySem.W.keepIn K (.ref f12) = true)
    {f13 : Addr} {oc13 : Value} {od13 an13 : Option Addr} {sl13 : Array (Option Value)} {kV13 dc13 pm13 cd13 ct13 : Value}
    (a13 : PySem.W.nsIn K mainGlobals "are_near" = some (some (.ref f13))) (l13 : K.lookup f13 = some ⟨oc13, od13, .func (PySem.W.fnOf "are_near" "are_near" (defArgs s_are_near) (defBody s_are_near) (defScope s_are_near) .none kV13 dc13 pm13 an13 cd13 ct13), sl13⟩) (c13 : PySem.W.codeIn K cd13 "are_near" = true) (k13 : PySem.W.keepIn K (.ref f13) = true)
    {f14 : Addr} {oc14 : Value} {od14 an14 : Option Addr} {sl14 : Array (Option Value)} {kV14 dc14 pm14 cd14 ct14 : Value}
    (a14 : PySem.W.nsIn K mainGlobals "reaches_out" = some (some (.ref f14))) (l14 : K.lookup f14 = some ⟨oc14, od14, .func (PySem.W.fnOf "reaches_out" "reaches_out" (defArgs s_reaches_out) (defBody s_reaches_out) (defScope s_reaches_out) .none kV14 dc14 pm14 an14 cd14 ct14), sl14⟩) (c14 : PySem.W.codeIn K cd14 "reaches_out" = true) (k14 : PySem.W.keepIn K (.ref f14) = true)
    {f15 : Addr} {oc15 : Value} {od15 an15 : Option Addr} {sl15 : Array (Option Value)} {kV15 dc15 pm15 cd15 ct15 : Value}
    (a15 : PySem.W.nsIn K mainGlobals "seen" = some (some (.ref f15))) (l15 : K.lookup f15 = some ⟨oc15, od15, .func (PySem.W.fnOf "seen" "seen" (defArgs s_seen) (defBody s_seen) (defScope s_seen) .none kV15 dc15 pm15 an15 cd15 ct15), sl15⟩) (c15 : PySem.W.codeIn K cd15 "seen" = true) (k15 : PySem.W.keepIn K (.ref f15) = true)
    {f16 : Addr} {oc16 : Value} {od16 an16 : Option Addr} {sl16 : Array (Option Value)} {kV16 dc16 pm16 cd16 ct16 : Value}
    (a16 : PySem.W.nsIn K mainGlobals "sight" = some (some (.ref f16))) (l16 : K.lookup f16 = some ⟨oc16, od16, .func (PySem.W.fnOf "sight" "sight" (defArgs s_sight) (defBody s_sight) (defScope s_sight) .none kV16 dc16 pm16 an16 cd16 ct16), sl16⟩) (c16 : PySem.W.codeIn K cd16 "sight" = true) (k16 : PySem.W.keepIn K (.ref f16) = true)
    {f17 : Addr} {oc17 : Value} {od17 an17 : Option Addr} {sl17 : Array (Option Value)} {kV17 dc17 pm17 cd17 ct17 : Value}
    (a17 : PySem.W.nsIn K mainGlobals "copied" = some (some (.ref f17))) (l17 : K.lookup f17 = some ⟨oc17, od17, .func (PySem.W.fnOf "copied" "copied" (defArgs s_copied) (defBody s_copied) (defScope s_copied) .none kV17 dc17 pm17 an17 cd17 ct17), sl17⟩) (c17 : PySem.W.codeIn K cd17 "copied" = true) (k17 : PySem.W.keepIn K (.ref f17) = true)
    {f18 : Addr} {oc18 : Value} {od18 an18 : Option Addr} {sl18 : Array (Option Value)} {kV18 dc18 pm18 cd18 ct18 : Value}
    (a18 : PySem.W.nsIn K mainGlobals "trimmed" = some (some (.ref f18))) (l18 : K.lookup f18 = some ⟨oc18, od18, .func (PySem.W.fnOf "trimmed" "trimmed" (defArgs s_trimmed) (defBody s_trimmed) (defScope s_trimmed) .none kV18 dc18 pm18 an18 cd18 ct18), sl18⟩) (c18 : PySem.W.codeIn K cd18 "trimmed" = true) (k18 : PySem.W.keepIn K (.ref f18) = true)
    {f19 : Addr} {oc19 : Value} {od19 an19 : Option Addr} {sl19 : Array (Option Value)} {kV19 dc19 pm19 cd19 ct19 : Value}
    (a19 : PySem.W.nsIn K mainGlobals "_law_like" = some (some (.ref f19))) (l19 : K.lookup f19 = some ⟨oc19, od19, .func (PySem.W.fnOf "_law_like" "_law_like" (defArgs s__law_like) (defBody s__law_like) (defScope s__law_like) .none kV19 dc19 pm19 an19 cd19 ct19), sl19⟩) (c19 : PySem.W.codeIn K cd19 "_law_like" = true) (k19 : PySem.W.keepIn K (.ref f19) = true)
    {f20 : Addr} {oc20 : Value} {od20 an20 : Option Addr} {sl20 : Array (Option Value)} {kV20 dc20 pm20 cd20 ct20 : Value}
    (a20 : PySem.W.nsIn K mainGlobals "law" = some (some (.ref f20))) (l20 : K.lookup f20 = some ⟨oc20, od20, .func (PySem.W.fnOf "law" "law" (defArgs s_law) (defBody s_law) (defScope s_law) .none kV20 dc20 pm20 an20 cd20 ct20), sl20⟩) (c20 : PySem.W.codeIn K cd20 "law" = true) (k20 : PySem.W.keepIn K (.ref f20) = true)
    (z_bool : PySem.W.nsIn K mainGlobals "bool" = some none)
    (z_dict : PySem.W.nsIn K mainGlobals "dict" = some none)
    (z_int : PySem.W.nsIn K mainGlobals "int" = some none)
    (z_isinstance : PySem.W.nsIn K mainGlobals "isinstance" = some none)
    (z_len : PySem.W.nsIn K mainGlobals "len" = some none)
    (z_list : PySem.W.nsIn K mainGlobals "list" = some none)
    (z_range : PySem.W.nsIn K mainGlobals "range" = some none)
    (z_sorted : PySem.W.nsIn K mainGlobals "sorted" = some none)
    (z_str : PySem.W.nsIn K mainGlobals "str" = some none)
    (z_tuple : PySem.W.nsIn K mainGlobals "tuple" = some none) :
    ∃ fd : FuncData, (∀ (s : Shared) (v : Value), BindsTo s fd ⟨[v], []⟩ [("_law_script", v)]) ∧ ∀ base : Heap, K.In base → base.Ns mainGlobals mg → FnOk l.prog w K mg base CX0 6 fa fd ["_law_script"] (spOf K 1 fn_law) := by
  have e := hfa.symm.trans (PySem.W.mg_of X G a20)
  cases e
  have M : Mod K w mg := ⟨PySem.W.mg_none_of X G z_bool, PySem.W.mg_none_of X G z_dict, PySem.W.mg_none_of X G z_int, PySem.W.mg_none_of X G z_isinstance, PySem.W.mg_none_of X G z_len, PySem.W.mg_none_of X G z_list, PySem.W.mg_none_of X G z_range, PySem.W.mg_none_of X G z_sorted, PySem.W.mg_none_of X G z_str, PySem.W.mg_none_of X G z_tuple⟩
  have F0 := fun_mk (st := s__law_dice) l0 c0 k0
  have b0 := F0.binds (ps := ["_law_script"]) fun _ _ _ _ _ _ us hl => match us, hl with | [_], _ => rfl
  have F1 := fun_mk (st := s__law_next) l1 c1 k1
  have b1 := F1.binds (ps := ["_law_dice_here", "_law_many"]) fun _ _ _ _ _ _ us hl => match us, hl with | [_, _], _ => rfl
  have F2 := fun_mk (st := s__law_names) l2 c2 k2
  have b2 := F2.binds (ps := ["_law_d", "_law_many"]) fun _ _ _ _ _ _ us hl => match us, hl with | [_, _], _ => rfl
  have F3 := fun_mk (st := s__law_strip) l3 c3 k3
  have b3 := F3.binds (ps := ["_law_d", "_law_names_here", "_law_most"]) fun _ _ _ _ _ _ us hl => match us, hl with | [_, _, _], _ => rfl
  have F4 := fun_mk (st := s__law_drawing) l4 c4 k4
  have b4 := F4.binds (ps := ["_law_d", "_law_names_here", "_law_most"]) fun _ _ _ _ _ _ us hl => match us, hl with | [_, _, _], _ => rfl
  have F5 := fun_mk (st := s__law_places) l5 c5 k5
  have b5 := F5.binds (ps := ["_law_drawing_here", "_law_name"]) fun _ _ _ _ _ _ us hl => match us, hl with | [_, _], _ => rfl
  have F6 := fun_mk (st := s__law_near) l6 c6 k6
  have b6 := F6.binds (ps := ["_law_drawing_here", "_law_places_here"]) fun _ _ _ _ _ _ us hl => match us, hl with | [_, _], _ => rfl
  have F7 := fun_mk (st := s__law_seen) l7 c7 k7
  have b7 := F7.binds (ps := ["_law_drawing_here", "_law_one", "_law_other"]) fun _ _ _ _ _ _ us hl => match us, hl with | [_, _, _], _ => rfl
  have F8 := fun_mk (st := s__law_sight) l8 c8 k8
  have b8 := F8.binds (ps := ["_law_drawing_here", "_law_names_here"]) fun _ _ _ _ _ _ us hl => match us, hl with | [_, _], _ => rfl
  have F9 := fun_mk (st := s__law_due) l9 c9 k9
  have b9 := F9.binds (ps := ["_law_drawing_here", "_law_names_here"]) fun _ _ _ _ _ _ us hl => match us, hl with | [_, _], _ => rfl
  have F10 := fun_mk (st := s__law_copied) l10 c10 k10
  have b10 := F10.binds (ps := ["_law_found"]) fun _ _ _ _ _ _ us hl => match us, hl with | [_], _ => rfl
  have F11 := fun_mk (st := s_lands) l11 c11 k11
  have b11 := F11.binds (ps := ["drawing"]) fun _ _ _ _ _ _ us hl => match us, hl with | [_], _ => rfl
  have F12 := fun_mk (st := s_plots_of) l12 c12 k12
  have b12 := F12.binds (ps := ["drawing", "name"]) fun _ _ _ _ _ _ us hl => match us, hl with | [_, _], _ => rfl
  have F13 := fun_mk (st := s_are_near) l13 c13 k13
  have b13 := F13.binds (ps := ["mine", "theirs"]) fun _ _ _ _ _ _ us hl => match us, hl with | [_, _], _ => rfl
  have F14 := fun_mk (st := s_reaches_out) l14 c14 k14
  have b14 := F14.binds (ps := ["mine", "theirs", "drawing"]) fun _ _ _ _ _ _ us hl => match us, hl with | [_, _, _], _ => rfl
  have F15 := fun_mk (st := s_seen) l15 c15 k15
  have b15 := F15.binds (ps := ["drawing", "one", "other"]) fun _ _ _ _ _ _ us hl => match us, hl with | [_, _, _], _ => rfl
  have F16 := fun_mk (st := s_sight) l16 c16 k16
  have b16 := F16.binds (ps := ["drawing"]) fun _ _ _ _ _ _ us hl => match us, hl with | [_], _ => rfl
  have F17 := fun_mk (st := s_copied) l17 c17 k17
  have b17 := F17.binds (ps := ["drawing"]) fun _ _ _ _ _ _ us hl => match us, hl with | [_], _ => rfl
  have F18 := fun_mk (st := s_trimmed) l18 c18 k18
  have b18 := F18.binds (ps := ["drawing"]) fun _ _ _ _ _ _ us hl => match us, hl with | [_], _ => rfl
  have F19 := fun_mk (st := s__law_like) l19 c19 k19
  have b19 := F19.binds (ps := ["_law_found", "_law_due_here"]) fun _ _ _ _ _ _ us hl => match us, hl with | [_, _], _ => rfl
  have F20 := fun_mk (st := s_law) l20 c20 k20
  refine ⟨PySem.W.fnOf "law" "law" (defArgs s_law) (defBody s_law) (defScope s_law) .none kV20 dc20 pm20 an20 cd20 ct20, fun s v => .of_eq rfl, fun base _ _ => ?_⟩
  have G__law_dice : GFn l.prog w K mg base "_law_dice" 1 1 fn__law_dice := gfnD F0 (PySem.W.mg_of X G a0) b0 sc__law_dice rfl rfl (by decide) (by decide) (b__law_dice (P := l.prog) (w := w) (K := K) (mg := mg) (base := base) (f := f0) M)
  have G__law_next : GFn l.prog w K mg base "_law_next" 1 2 fn__law_next := gfnD F1 (PySem.W.mg_of X G a1) b1 sc__law_next rfl rfl (by decide) (by decide) (b__law_next (P := l.prog) (w := w) (K := K) (mg := mg) (base := base) (f := f1) M)
  have G__law_names : GFn l.prog w K mg base "_law_names" 2 2 fn__law_names := gfnD F2 (PySem.W.mg_of X G a2) b2 sc__law_names rfl rfl (by decide) (by decide) (b__law_names (P := l.prog) (w := w) (K := K) (mg := mg) (base := base) (f := f2) G__law_next M)
  have G__law_strip : GFn l.prog w K mg base "_law_strip" 2 3 fn__law_strip := gfnD F3 (PySem.W.mg_of X G a3) b3 sc__law_strip rfl rfl (by decide) (by decide) (b__law_strip (P := l.prog) (w := w) (K := K) (mg := mg) (base := base) (f := f3) G__law_next M)
  have G__law_drawing : GFn l.prog w K mg base "_law_drawing" 3 3 fn__law_drawing := gfnD F4 (PySem.W.mg_of X G a4) b4 sc__law_drawing rfl rfl (by decide) (by decide) (b__law_drawing (P := l.prog) (w := w) (K := K) (mg := mg) (base := base) (f := f4) G__law_next G__law_strip M)
  have G__law_places : GFn l.prog w K mg base "_law_places" 1 2 fn__law_places := gfnD F5 (PySem.W.mg_of X G a5) b5 sc__law_places rfl rfl (by decide) (by decide) (b__law_places (P := l.prog) (w := w) (K := K) (mg := mg) (base := base) (f := f5) M)
  have G__law_near : GFn l.prog w K mg base "_law_near" 1 2 fn__law_near := gfnD F6 (PySem.W.mg_of X G a6) b6 sc__law_near rfl rfl (by decide) (by decide) (b__law_near (P := l.prog) (w := w) (K := K) (mg := mg) (base := base) (f := f6) M)
  have G__law_seen : GFn l.prog w K mg base "_law_seen" 2 3 fn__law_seen := gfnD F7 (PySem.W.mg_of X G a7) b7 sc__law_seen rfl rfl (by decide) (by decide) (b__law_seen (P := l.prog) (w := w) (K := K) (mg := mg) (base := base) (f := f7) G__law_near G__law_places M)
  have G__law_sight : GFn l.prog w K mg base "_law_sight" 3 2 fn__law_sight := gfnD F8 (PySem.W.mg_of X G a8) b8 sc__law_sight rfl rfl (by decide) (by decide) (b__law_sight (P := l.prog) (w := w) (K := K) (mg := mg) (base := base) (f := f8) G__law_places G__law_seen M)
  have G__law_due : GFnV l.prog w K mg base "_law_due" 4 2 fnv__law_due := gfnV F9 (PySem.W.mg_of X G a9) b9 sc__law_due rfl rfl (by decide) (by decide) (b__law_due (P := l.prog) (w := w) (K := K) (mg := mg) (base := base) (f := f9) G__law_sight M)
  have G__law_copied : GFn l.prog w K mg base "_law_copied" 5 1 fn__law_copied := gfnR (fb := fb__law_copied) F10 (PySem.W.mg_of X G a10) b10 sc__law_copied rfl rfl (by decide) (by decide) (fun k r g => b__law_copied (P := l.prog) (w := w) (K := K) (mg := mg) (base := base) (f := f10) g M) 5
  have G_lands : GFn l.prog w K mg base "lands" 1 1 fn_lands := gfnD F11 (PySem.W.mg_of X G a11) b11 sc_lands rfl rfl (by decide) (by decide) (b_lands (P := l.prog) (w := w) (K := K) (mg := mg) (base := base) (f := f11) M)
  have G_plots_of : GFn l.prog w K mg base "plots_of" 1 2 fn_plots_of := gfnD F12 (PySem.W.mg_of X G a12) b12 sc_plots_of rfl rfl (by decide) (by decide) (b_plots_of (P := l.prog) (w := w) (K := K) (mg := mg) (base := base) (f := f12) M)
  have G_are_near : GFn l.prog w K mg base "are_near" 1 2 fn_are_near := gfnD F13 (PySem.W.mg_of X G a13) b13 sc_are_near rfl rfl (by decide) (by decide) (b_are_near (P := l.prog) (w := w) (K := K) (mg := mg) (base := base) (f := f13) M)
  have G_reaches_out : GFn l.prog w K mg base "reaches_out" 1 3 fn_reaches_out := gfnD F14 (PySem.W.mg_of X G a14) b14 sc_reaches_out rfl rfl (by decide) (by decide) (b_reaches_out (P := l.prog) (w := w) (K := K) (mg := mg) (base := base) (f := f14) M)
  have G_seen : GFn l.prog w K mg base "seen" 2 3 fn_seen := gfnD F15 (PySem.W.mg_of X G a15) b15 sc_seen rfl rfl (by decide) (by decide) (b_seen (P := l.prog) (w := w) (K := K) (mg := mg) (base := base) (f := f15) G_are_near G_plots_of G_reaches_out M)
  have G_sight : GFn l.prog w K mg base "sight" 3 1 fn_sight := gfnD F16 (PySem.W.mg_of X G a16) b16 sc_sight rfl rfl (by decide) (by decide) (b_sight (P := l.prog) (w := w) (K := K) (mg := mg) (base := base) (f := f16) G_lands G_seen M)
  have G_copied : GFn l.prog w K mg base "copied" 1 1 fn_copied := gfnD F17 (PySem.W.mg_of X G a17) b17 sc_copied rfl rfl (by decide) (by decide) (b_copied (P := l.prog) (w := w) (K := K) (mg := mg) (base := base) (f := f17) M)
  have G_trimmed : GFn l.prog w K mg base "trimmed" 4 1 fn_trimmed := gfnD F18 (PySem.W.mg_of X G a18) b18 sc_trimmed rfl rfl (by decide) (by decide) (b_trimmed (P := l.prog) (w := w) (K := K) (mg := mg) (base := base) (f := f18) G_copied G_lands G_sight M)
  have G__law_like : GFn l.prog w K mg base "_law_like" 5 2 fn__law_like := gfnR (fb := fb__law_like) F19 (PySem.W.mg_of X G a19) b19 sc__law_like rfl rfl (by decide) (by decide) (fun k r g => b__law_like (P := l.prog) (w := w) (K := K) (mg := mg) (base := base) (f := f19) g M) 5
  obtain ⟨A, Z, hb⟩ := b_law (P := l.prog) (w := w) (K := K) (mg := mg) (base := base) (f := fa) G__law_copied G__law_dice G__law_drawing G__law_due G__law_like G__law_names G__law_next G_trimmed M
  exact fn_okB F20 sc_law rfl rfl (by decide) (by decide) hb
theorem walkL {l : PySem.W.OpenLaw} {q : Program} {loose : List Str} {XP : (Str → Option Value) → Heap → Prop} {YP : World → Heap → Prop} {d : DefRec} {K : Params → PySem.W.Frag} (hn : l.most = some 63) (hdf : d.params.defaults = []) (hY : ∀ (w : World) (h : Heap), YP w h → (K w.params).In h)
    (F : ∀ (w : World) (mg : Str → Option Value) (fa : Addr) (h : Heap), (K w.params).In h → h.Ns mainGlobals mg → mg d.name = some (.ref fa) →
      ∃ fd : FuncData, (∀ (s : Shared) (u : Value), BindsTo s fd ⟨[u], []⟩ [("_law_script", u)]) ∧ ∀ base : Heap, (K w.params).In base → base.Ns mainGlobals mg → FnOk l.prog w (K w.params) mg base CX0 6 fa fd ["_law_script"] (spOf (K w.params) 1 fn_law)) :
    PySem.W.WalkO q loose XP YP l.row.toRowW d [] (fun f vs => PySem.call f vs) :=
  L2.walk_of (n := 63) (k := 6) (x := "_law_script") (CX := fun _ => CX0) (sp := fun w => spOf (K w.params) 1 fn_law) hn (by decide) hdf ⟨rfl, by decide, by decide⟩ hY F (fun _ _ a ns hl hO hS => sp_law (law_true ns hl) hl hO hS) fun _ _ _ _ _ z => z
end RG
open PySem PySem.W PyProof.Rows in
set_option maxRecDepth 100000 in
set_option maxHeartbeats 0 in
theorem PySem.Challenge.cw_regionsay_k17_idle_strips_holds : PySem.Challenge.rw_regionsay_k17_idle_strips.Holds := by
  w_on; o_law; k_head; (case hw => w_witness2)
  k_fill
  refine RG.walkL (l := PySem.Challenge.rw_regionsay_k17_idle_strips) rfl rfl (fun w h Y => PySem.W.kIn_of Y) ?F
  case F =>
    intro w mg fa h KX G hmg
    refine' RG.all_mk KX G hmg ?a0 ?l0 ?c0 ?k0 ?a1 ?l1 ?c1 ?k1 ?a2 ?l2 ?c2 ?k2 ?a3 ?l3 ?c3 ?k3 ?a4 ?l4 ?c4 ?k4 ?a5 ?l5 ?c5 ?k5 ?a6 ?l6 ?c6 ?k6 ?a7 ?l7 ?c7 ?k7 ?a8 ?l8 ?c8 ?k8 ?a9 ?l9 ?c9 ?k9 ?a10 ?l10 ?c10 ?k10 ?a11 ?l11 ?c11 ?k11 ?a12 ?l12 ?c12 ?k12 ?a13 ?l13 ?c13 ?k13 ?a14 ?l14 ?c14 ?k14 ?a15 ?l15 ?c15 ?k15 ?a16 ?l16 ?c16 ?k16 ?a17 ?l17 ?c17 ?k17 ?a18 ?l18 ?c18 ?k18 ?a19 ?l19 ?c19 ?k19 ?a20 ?l20 ?c20 ?k20 ?z_bool ?z_dict ?z_int ?z_isinstance ?z_len ?z_list ?z_range ?z_sorted ?z_str ?z_tuple
    (case a0 => k_is)
    (case l0 => k_is)
    (case c0 => k_is)
    (case k0 => k_is)
    (case a1 => k_is)
    (case l1 => k_is)
    (case c1 => k_is)
    (case k1 => k_is)
    (case a2 => k_is)
    (case l2 => k_is)
    (case c2 => k_is)
    (case k2 => k_is)
    (case a3 => k_is)
    (case l3 => k_is)
    (case c3 => k_is)
    (case k3 => k_is)
    (case a4 => k_is)
    (case l4 => k_is)
    (case c4 => k_is)
    (case k4 => k_is)
    (case a5 => k_is)
    (case l5 => k_is)
    (case c5 => k_is)
    (case k5 => k_is)
    (case a6 => k_is)
    (case l6 => k_is)
    (case c6 => k_is)
    (case k6 => k_is)
    (case a7 => k_is)
    (case l7 => k_is)
    (case c7 => k_is)
    (case k7 => k_is)
    (case a8 => k_is)
    (case l8 => k_is)
    (case c8 => k_is)
    (case k8 => k_is)
    (case a9 => k_is)
    (case l9 => k_is)
    (case c9 => k_is)
    (case k9 => k_is)
    (case a10 => k_is)
    (case l10 => k_is)
    (case c10 => k_is)
    (case k10 => k_is)
    (case a11 => k_is)
    (case l11 => k_is)
    (case c11 => k_is)
    (case k11 => k_is)
    (case a12 => k_is)
    (case l12 => k_is)
    (case c12 => k_is)
    (case k12 => k_is)
    (case a13 => k_is)
    (case l13 => k_is)
    (case c13 => k_is)
    (case k13 => k_is)
    (case a14 => k_is)
    (case l14 => k_is)
    (case c14 => k_is)
    (case k14 => k_is)
    (case a15 => k_is)
    (case l15 => k_is)
    (case c15 => k_is)
    (case k15 => k_is)
    (case a16 => k_is)
    (case l16 => k_is)
    (case c16 => k_is)
    (case k16 => k_is)
    (case a17 => k_is)
    (case l17 => k_is)
    (case c17 => k_is)
    (case k17 => k_is)
    (case a18 => k_is)
    (case l18 => k_is)
    (case c18 => k_is)
    (case k18 => k_is)
    (case a19 => k_is)
    (case l19 => k_is)
    (case c19 => k_is)
    (case k19 => k_is)
    (case a20 => k_is)
    (case l20 => k_is)
    (case c20 => k_is)
    (case k20 => k_is)
    (case z_bool => k_is)
    (case z_dict => k_is)
    (case z_int => k_is)
    (case z_isinstance => k_is)
    (case z_len => k_is)
    (case z_list => k_is)
    (case z_range => k_is)
    (case z_sorted => k_is)
    (case z_str => k_is)
    (case z_tuple => k_is)
#print axioms PySem.Challenge.cw_regionsay_k17_idle_strips_holds
