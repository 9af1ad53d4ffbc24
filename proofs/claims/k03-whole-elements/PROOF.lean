import PyProof.Rows.All
import Wide.All
import OpenK.AllK
import Wide.FinOn
import HandS.ForMost
import HandS.ForExc
import HandS.Lambda
import HandS.Flow
import HandS.Star
import HandS.IsInst
import HandS.Deep
import HandS.TupAny
import HandS.Codes
import HandS.Conv
import HandS.More
import HandS.SortInts
import HandS.DictComp
import HandS.Zip
import HandS.NoneIn
import Open.SpecLaws
import KE.OsGo
import HandS.ForSpec
import HandS.Style
import HandS.Exc
import HandS.ListItems
import KE.DataFind
import HandS.Head0
import HandS.Head1
import HandS.Head2
import HandS.HeadHook1
import HandS.HeadHook2
import HandS.HeadHook3
import HandS.HeadHook4
import HandS.HeadWalk
import HandS.NestedK
import PySem.Challenge.RW_mixedways_k03_whole_elements
set_option Elab.async false
set_option linter.all false
set_option maxRecDepth 100000
namespace Mw
open PySem L2
/-! ### plain data -/
inductive D where
  | non | bl (b : Bool) | int (i : Int) | str (s : Str)
  | lst (xs : List D) | tup (xs : List D) | dct (kvs : List (Key × D))
/-- data of which some roots are the state's own: fresh, held in one place -/
inductive O where
  | val (d : D)
  | lst (os : List O) | tup (os : List O) | dct (kvs : List (Key × O))
instance : Inhabited D := ⟨.non⟩
instance : Inhabited O := ⟨.val .non⟩
mutual
def Rep (G : Hp) : D → V → Prop
  | .non, v => v = .non
  | .bl b, v => v = .bl b
  | .int i, v => v = .int i
  | .str s, v => v = .str s
  | .lst ds, v => ∃ a xs, v = .ref a ∧ G a = some (.lst xs) ∧ Reps G ds xs
  | .tup ds, v => ∃ a xs, v = .ref a ∧ G a = some (.tup xs) ∧ Reps G ds xs
  | .dct kvs, v => ∃ a ys, v = .ref a ∧ G a = some (.dK ys) ∧ RepKs G kvs ys
def Reps (G : Hp) : List D → List V → Prop
  | [], vs => vs = []
  | d :: ds, vs => ∃ v r, vs = v :: r ∧ Rep G d v ∧ Reps G ds r
def RepKs (G : Hp) : List (Key × D) → List (Key × V) → Prop
  | [], ys => ys = []
  | (k, d) :: r, ys => ∃ v s, ys = (k, v) :: s ∧ Rep G d v ∧ RepKs G r s
end
mutual
def ORep (G H : Hp) : O → V → List Addr → Prop
  | .val d, v, f => f = [] ∧ Rep G d v
  | .lst os, v, f => ∃ a xs g, v = .ref a ∧ f = a :: g ∧ H a = some (.lst xs) ∧ OReps G H os xs g
  | .tup os, v, f => ∃ a xs g, v = .ref a ∧ f = a :: g ∧ H a = some (.tup xs) ∧ OReps G H os xs g
  | .dct kvs, v, f => ∃ a ys g, v = .ref a ∧ f = a :: g ∧ H a = some (.dK ys) ∧ OKs G H kvs ys g
def OReps (G H : Hp) : List O → List V → List Addr → Prop
  | [], vs, f => vs = [] ∧ f = []
  | o :: os, vs, f => ∃ v r f1 f2, vs = v :: r ∧ f = f1 ++ f2 ∧ ORep G H o v f1 ∧ OReps G H os r f2
def OKs (G H : Hp) : List (Key × O) → List (Key × V) → List Addr → Prop
  | [], ys, f => ys = [] ∧ f = []
  | (k, o) :: os, ys, f => ∃ v s f1 f2, ys = (k, v) :: s ∧ f = f1 ++ f2 ∧ ORep G H o v f1 ∧ OKs G H os s f2
end
mutual
def O.toD : O → D
  | .val d => d
  | .lst os => .lst (O.toDs os)
  | .tup os => .tup (O.toDs os)
  | .dct kvs => .dct (O.toDk kvs)
def O.toDs : List O → List D
  | [] => []
  | o :: os => o.toD :: O.toDs os
def O.toDk : List (Key × O) → List (Key × D)
  | [] => []
  | (k, o) :: r => (k, o.toD) :: O.toDk r
end
mutual
theorem Rep.mono {G G' : Hp} (s : Same G G') : ∀ {d : D} {v : V}, Rep G d v → Rep G' d v
  | .non, _, h => h
  | .bl _, _, h => h
  | .int _, _, h => h
  | .str _, _, h => h
  | .lst _, _, ⟨a, xs, e, h, r⟩ => ⟨a, xs, e, s _ _ h, Reps.mono s r⟩
  | .tup _, _, ⟨a, xs, e, h, r⟩ => ⟨a, xs, e, s _ _ h, Reps.mono s r⟩
  | .dct _, _, ⟨a, xs, e, h, r⟩ => ⟨a, xs, e, s _ _ h, RepKs.mono s r⟩
theorem Reps.mono {G G' : Hp} (s : Same G G') : ∀ {ds : List D} {vs : List V}, Reps G ds vs → Reps G' ds vs
  | [], _, h => h
  | _ :: _, _, ⟨v, r, e, h, t⟩ => ⟨v, r, e, Rep.mono s h, Reps.mono s t⟩
theorem RepKs.mono {G G' : Hp} (s : Same G G') : ∀ {ds : List (Key × D)} {vs : List (Key × V)}, RepKs G ds vs → RepKs G' ds vs
  | [], _, h => h
  | (_, _) :: _, _, ⟨v, r, e, h, t⟩ => ⟨v, r, e, Rep.mono s h, RepKs.mono s t⟩
end
/-- the tracked objects at f are as they were -/
def On (f : List Addr) (H H' : Hp) : Prop := ∀ a ∈ f, ∀ o, H a = some o → H' a = some o
theorem On.of_same {f : List Addr} {H H' : Hp} (s : Same H H') : On f H H' := fun a _ o h => s a o h
theorem On.sub {f g : List Addr} {H H' : Hp} (h : On f H H') (s : ∀ a ∈ g, a ∈ f) : On g H H' := fun a m o e => h a (s a m) o e
theorem On.l {f g : List Addr} {H H' : Hp} (h : On (f ++ g) H H') : On f H H' := h.sub fun _ m => List.mem_append_left _ m
theorem On.r {f g : List Addr} {H H' : Hp} (h : On (f ++ g) H H') : On g H H' := h.sub fun _ m => List.mem_append_right _ m
mutual
theorem ORep.mono {G G' H H' : Hp} (s : Same G G') : ∀ {o : O} {v : V} {f : List Addr}, On f H H' → ORep G H o v f → ORep G' H' o v f
  | .val _, _, _, _, ⟨e, h⟩ => ⟨e, Rep.mono s h⟩
  | .lst _, _, _, k, ⟨a, xs, g, e, ef, h, r⟩ => ⟨a, xs, g, e, ef, k a (by rw [ef]; exact List.mem_cons_self) _ h, OReps.mono s (k.sub fun b m => by rw [ef]; exact List.mem_cons_of_mem _ m) r⟩
  | .tup _, _, _, k, ⟨a, xs, g, e, ef, h, r⟩ => ⟨a, xs, g, e, ef, k a (by rw [ef]; exact List.mem_cons_self) _ h, OReps.mono s (k.sub fun b m => by rw [ef]; exact List.mem_cons_of_mem _ m) r⟩
  | .dct _, _, _, k, ⟨a, xs, g, e, ef, h, r⟩ => ⟨a, xs, g, e, ef, k a (by rw [ef]; exact List.mem_cons_self) _ h, OKs.mono s (k.sub fun b m => by rw [ef]; exact List.mem_cons_of_mem _ m) r⟩
theorem OReps.mono {G G' H H' : Hp} (s : Same G G') : ∀ {os : List O} {vs : List V} {f : List Addr}, On f H H' → OReps G H os vs f → OReps G' H' os vs f
  | [], _, _, _, h => h
  | _ :: _, _, _, k, ⟨v, r, f1, f2, e, ef, h, t⟩ => ⟨v, r, f1, f2, e, ef, ORep.mono s (k.sub fun b m => by rw [ef]; exact List.mem_append_left _ m) h, OReps.mono s (k.sub fun b m => by rw [ef]; exact List.mem_append_right _ m) t⟩
theorem OKs.mono {G G' H H' : Hp} (s : Same G G') : ∀ {os : List (Key × O)} {vs : List (Key × V)} {f : List Addr}, On f H H' → OKs G H os vs f → OKs G' H' os vs f
  | [], _, _, _, h => h
  | (_, _) :: _, _, _, k, ⟨v, r, f1, f2, e, ef, h, t⟩ => ⟨v, r, f1, f2, e, ef, ORep.mono s (k.sub fun b m => by rw [ef]; exact List.mem_append_left _ m) h, OKs.mono s (k.sub fun b m => by rw [ef]; exact List.mem_append_right _ m) t⟩
end
mutual
theorem ORep.rep {G G' H : Hp} (s : Same G G') : ∀ {o : O} {v : V} {f : List Addr}, On f H G' → ORep G H o v f → Rep G' o.toD v
  | .val _, _, _, _, ⟨e, h⟩ => Rep.mono s h
  | .lst _, _, _, k, ⟨a, xs, g, e, ef, h, r⟩ => ⟨a, xs, e, k a (by rw [ef]; exact List.mem_cons_self) _ h, OReps.reps s (k.sub fun b m => by rw [ef]; exact List.mem_cons_of_mem _ m) r⟩
  | .tup _, _, _, k, ⟨a, xs, g, e, ef, h, r⟩ => ⟨a, xs, e, k a (by rw [ef]; exact List.mem_cons_self) _ h, OReps.reps s (k.sub fun b m => by rw [ef]; exact List.mem_cons_of_mem _ m) r⟩
  | .dct _, _, _, k, ⟨a, xs, g, e, ef, h, r⟩ => ⟨a, xs, e, k a (by rw [ef]; exact List.mem_cons_self) _ h, OKs.reps s (k.sub fun b m => by rw [ef]; exact List.mem_cons_of_mem _ m) r⟩
theorem OReps.reps {G G' H : Hp} (s : Same G G') : ∀ {os : List O} {vs : List V} {f : List Addr}, On f H G' → OReps G H os vs f → Reps G' (O.toDs os) vs
  | [], _, _, _, h => h.1
  | _ :: _, _, _, k, ⟨v, r, f1, f2, e, ef, h, t⟩ => ⟨v, r, e, ORep.rep s (k.sub fun b m => by rw [ef]; exact List.mem_append_left _ m) h, OReps.reps s (k.sub fun b m => by rw [ef]; exact List.mem_append_right _ m) t⟩
theorem OKs.reps {G G' H : Hp} (s : Same G G') : ∀ {os : List (Key × O)} {vs : List (Key × V)} {f : List Addr}, On f H G' → OKs G H os vs f → RepKs G' (O.toDk os) vs
  | [], _, _, _, h => h.1
  | (_, _) :: _, _, _, k, ⟨v, r, f1, f2, e, ef, h, t⟩ => ⟨v, r, e, ORep.rep s (k.sub fun b m => by rw [ef]; exact List.mem_append_left _ m) h, OKs.reps s (k.sub fun b m => by rw [ef]; exact List.mem_append_right _ m) t⟩
end
/-- a list, a tuple, a dict -/
def Own (o : HO) : Prop := (∃ xs, o = .lst xs) ∨ (∃ xs, o = .tup xs) ∨ ∃ kvs, o = .dK kvs
/-- no table -/
def NT (o : HO) : Prop := ∀ ps, o ≠ .tbl ps
theorem Own.nt {o : HO} (h : Own o) : NT o := fun ps e => by
  subst e
  rcases h with ⟨_, e⟩ | ⟨_, e⟩ | ⟨_, e⟩ <;> cases e
/-- all of f is tracked -/
def Trk (f : List Addr) (H : Hp) : Prop := ∀ a ∈ f, ∃ o, H a = some o ∧ Own o
theorem Trk.ne {f : List Addr} {H : Hp} (t : Trk f H) : ∀ a ∈ f, H a ≠ none := fun a m => by
  obtain ⟨o, e, _⟩ := t a m
  rw [e]; exact fun z => nomatch z
/-- nothing is there, or a table -/
def Fre (H : Hp) (a : Addr) : Prop := ∀ o, H a = some o → ¬ NT o
theorem fre_none {H : Hp} {a : Addr} (h : H a = none) : Fre H a := fun o e => by rw [h] at e; cases e
theorem Trk.fre {f : List Addr} {H : Hp} (t : Trk f H) : ∀ a ∈ f, ¬ Fre H a := fun a m h => by
  obtain ⟨o, e, w⟩ := t a m
  exact h o e w.nt
theorem Trk.app {f g : List Addr} {H : Hp} (a : Trk f H) (b : Trk g H) : Trk (f ++ g) H := fun x m => (List.mem_append.mp m).elim (a x) (b x)
/-- what is no table is the same in both -/
def SameT (H H' : Hp) : Prop := ∀ a o, H a = some o → NT o → H' a = some o
theorem On.of_sameT {f : List Addr} {H H' : Hp} (t : Trk f H) (s : SameT H H') : On f H H' := fun a m o e => by
  obtain ⟨o', e', w⟩ := t a m
  rw [e] at e'
  have := Option.some.inj e'
  subst this
  exact s a o e w.nt
mutual
theorem ORep.trk {G H : Hp} : ∀ {o : O} {v : V} {f : List Addr}, ORep G H o v f → Trk f H
  | .val _, _, _, ⟨e, _⟩, a, m => by rw [e] at m; cases m
  | .lst _, _, _, ⟨a, xs, g, e, ef, h, r⟩, b, m => by
    rw [ef] at m
    rcases List.mem_cons.mp m with q | q
    · rw [q]; exact ⟨_, h, .inl ⟨_, rfl⟩⟩
    · exact OReps.trk r b q
  | .tup _, _, _, ⟨a, xs, g, e, ef, h, r⟩, b, m => by
    rw [ef] at m
    rcases List.mem_cons.mp m with q | q
    · rw [q]; exact ⟨_, h, .inr (.inl ⟨_, rfl⟩)⟩
    · exact OReps.trk r b q
  | .dct _, _, _, ⟨a, xs, g, e, ef, h, r⟩, b, m => by
    rw [ef] at m
    rcases List.mem_cons.mp m with q | q
    · rw [q]; exact ⟨_, h, .inr (.inr ⟨_, rfl⟩)⟩
    · exact OKs.trk r b q
theorem OReps.trk {G H : Hp} : ∀ {os : List O} {vs : List V} {f : List Addr}, OReps G H os vs f → Trk f H
  | [], _, _, ⟨_, e⟩, a, m => by rw [e] at m; cases m
  | _ :: _, _, _, ⟨v, r, f1, f2, e, ef, h, t⟩, b, m => by
    rw [ef] at m
    exact (List.mem_append.mp m).elim (fun q => ORep.trk h b q) (fun q => OReps.trk t b q)
theorem OKs.trk {G H : Hp} : ∀ {os : List (Key × O)} {vs : List (Key × V)} {f : List Addr}, OKs G H os vs f → Trk f H
  | [], _, _, ⟨_, e⟩, a, m => by rw [e] at m; cases m
  | (_, _) :: _, _, _, ⟨v, r, f1, f2, e, ef, h, t⟩, b, m => by
    rw [ef] at m
    exact (List.mem_append.mp m).elim (fun q => ORep.trk h b q) (fun q => OKs.trk t b q)
end
/-! ### lists of them -/
theorem Reps.length {G : Hp} : ∀ {ds : List D} {vs : List V}, Reps G ds vs → ds.length = vs.length
  | [], _, h => by rw [show _ = _ from h]; rfl
  | _ :: _, _, ⟨v, r, e, h, t⟩ => by rw [e]; simp [Reps.length t]
theorem Reps.get {G : Hp} : ∀ {ds : List D} {vs : List V}, Reps G ds vs → ∀ {i : Nat} {d : D}, ds[i]? = some d → ∃ v, vs[i]? = some v ∧ Rep G d v
  | [], _, h, i, d, e => by simp at e
  | _ :: _, _, ⟨v, r, e, h, t⟩, 0, d, q => by simp at q; subst q; exact ⟨v, by rw [e]; rfl, h⟩
  | _ :: _, _, ⟨v, r, e, h, t⟩, i + 1, d, q => by
    obtain ⟨u, a, b⟩ := Reps.get t (i := i) (d := d) (by simpa using q)
    exact ⟨u, by rw [e]; simpa using a, b⟩
theorem Reps.append {G : Hp} : ∀ {a b : List D} {x y : List V}, Reps G a x → Reps G b y → Reps G (a ++ b) (x ++ y)
  | [], _, _, _, h, k => by rw [show _ = _ from h]; exact k
  | _ :: _, _, _, _, ⟨v, r, e, h, t⟩, k => ⟨v, r ++ _, by rw [e]; rfl, h, Reps.append t k⟩
theorem Reps.ints {G : Hp} : ∀ (xs : List Int), Reps G (xs.map D.int) (xs.map V.int)
  | [] => rfl
  | x :: xs => ⟨_, _, rfl, rfl, Reps.ints xs⟩
theorem OReps.length {G H : Hp} : ∀ {os : List O} {vs : List V} {f : List Addr}, OReps G H os vs f → os.length = vs.length
  | [], _, _, ⟨e, _⟩ => by rw [e]; rfl
  | _ :: _, _, _, ⟨v, r, f1, f2, e, ef, h, t⟩ => by rw [e]; simp [OReps.length t]
theorem OKs.length {G H : Hp} : ∀ {os : List (Key × O)} {vs : List (Key × V)} {f : List Addr}, OKs G H os vs f → os.length = vs.length
  | [], _, _, ⟨e, _⟩ => by rw [e]; rfl
  | (_, _) :: _, _, _, ⟨v, r, f1, f2, e, ef, h, t⟩ => by rw [e]; simp [OKs.length t]
theorem OReps.append {G H : Hp} : ∀ {a b : List O} {x y : List V} {f g : List Addr}, OReps G H a x f → OReps G H b y g → OReps G H (a ++ b) (x ++ y) (f ++ g)
  | [], _, _, _, _, _, ⟨e, e'⟩, k => by rw [e, e']; exact k
  | _ :: _, _, _, _, _, _, ⟨v, r, f1, f2, e, ef, h, t⟩, k => ⟨v, r ++ _, f1, f2 ++ _, by rw [e]; rfl, by rw [ef, List.append_assoc], h, OReps.append t k⟩
theorem OReps.split {G H : Hp} : ∀ {a b : List O} {z : List V} {f : List Addr}, OReps G H (a ++ b) z f → ∃ x y f1 f2, z = x ++ y ∧ f = f1 ++ f2 ∧ OReps G H a x f1 ∧ OReps G H b y f2
  | [], _, z, f, h => ⟨[], z, [], f, rfl, rfl, ⟨rfl, rfl⟩, h⟩
  | _ :: _, _, _, _, ⟨v, r, f1, f2, e, ef, h, t⟩ => by
    obtain ⟨x, y, g1, g2, e1, e2, h1, h2⟩ := OReps.split t
    exact ⟨v :: x, y, f1 ++ g1, g2, by rw [e, e1]; rfl, by rw [ef, e2, List.append_assoc], ⟨v, x, f1, g1, rfl, rfl, h, h1⟩, h2⟩
/-- plain items -/
theorem OReps.vals {G H : Hp} : ∀ {ds : List D} {vs : List V}, Reps G ds vs → OReps G H (ds.map O.val) vs []
  | [], _, h => ⟨h, rfl⟩
  | _ :: _, _, ⟨v, r, e, h, t⟩ => ⟨v, r, [], [], e, rfl, ⟨rfl, h⟩, OReps.vals t⟩
theorem OKs.vals {G H : Hp} : ∀ {ds : List (Key × D)} {vs : List (Key × V)}, RepKs G ds vs → OKs G H (ds.map fun p => (p.1, O.val p.2)) vs []
  | [], _, h => ⟨h, rfl⟩
  | (_, _) :: _, _, ⟨v, r, e, h, t⟩ => ⟨v, r, [], [], e, rfl, ⟨rfl, h⟩, OKs.vals t⟩
theorem toDs_map : ∀ (os : List O), O.toDs os = os.map O.toD
  | [] => rfl
  | o :: os => by rw [O.toDs, toDs_map os]; rfl
theorem toDk_map : ∀ (os : List (Key × O)), O.toDk os = os.map fun p => (p.1, p.2.toD)
  | [] => rfl
  | (k, o) :: os => by rw [O.toDk, toDk_map os]; rfl
theorem toDs_vals (ds : List D) : O.toDs (ds.map O.val) = ds := by rw [toDs_map, List.map_map]; exact List.map_id' ds
end Mw
namespace Mw
open PySem L2
/-! ### the state: slots and what an expression has laid by -/
structure Strm where
  cells : List Int
  left : Int
  cnt : Int
  mix : Int
/-- a slot: nothing known; data (plain, or the state's own); the j-th argument as it was passed; a spring of draws -/
inductive Sl where
  | no | o (o : O) | p (j : Nat) (d : D) | st (j : Option Nat) (s : Strm)
/-- a value laid by: data, or what the i-th slot holds -/
inductive T where
  | o (o : O) | al (i : Nat)
instance : Inhabited Sl := ⟨.no⟩
def ZRep (H : Hp) (s : Strm) (v : V) (z : List Addr) : Prop :=
  ∃ a b, z = [a, b] ∧ v = .ref a ∧ H a = some (.lst [.ref b, .int s.left, .int s.cnt, .int s.mix]) ∧ H b = some (.lst (s.cells.map V.int))
def SRep (args : List V) (G H : Hp) : Sl → Option V → List Addr → List Addr → Prop
  | .no, _, f, z => f = [] ∧ z = []
  | .o o, v, f, z => z = [] ∧ ∃ u, v = some u ∧ ORep G H o u f
  | .p j d, v, f, z => f = [] ∧ z = [] ∧ ∃ u, v = some u ∧ args[j]? = some u ∧ Rep G d u
  | .st j s, v, f, z => f = [] ∧ ∃ u, v = some u ∧ (∀ i, j = some i → args[i]? = some u) ∧ ZRep H s u z
def SReps (args : List V) (G H : Hp) : List Sl → L2.St → List Addr → List Addr → Prop
  | [], σ, f, z => σ = [] ∧ f = [] ∧ z = []
  | s :: r, σ, f, z => ∃ w σ' f1 f2 z1 z2, σ = w :: σ' ∧ f = f1 ++ f2 ∧ z = z1 ++ z2 ∧ SRep args G H s w f1 z1 ∧ SReps args G H r σ' f2 z2
def TRep (G H : Hp) (σ : L2.St) : T → V → List Addr → Prop
  | .o o, v, f => ORep G H o v f
  | .al i, v, f => f = [] ∧ σ[i]? = some (some v)
def TReps (G H : Hp) (σ : L2.St) : List T → List V → List Addr → Prop
  | [], vs, f => vs = [] ∧ f = []
  | t :: r, vs, f => ∃ v vr f1 f2, vs = v :: vr ∧ f = f1 ++ f2 ∧ TRep G H σ t v f1 ∧ TReps G H σ r vr f2
theorem ZRep.mono {H H' : Hp} {s : Strm} {v : V} {z : List Addr} (h : ZRep H s v z) (k : On z H H') : ZRep H' s v z := by
  obtain ⟨a, b, e, ev, h1, h2⟩ := h
  subst e
  exact ⟨a, b, rfl, ev, k a (by simp) _ h1, k b (by simp) _ h2⟩
theorem ZRep.trk {H : Hp} {s : Strm} {v : V} {z : List Addr} (h : ZRep H s v z) : Trk z H := by
  obtain ⟨a, b, e, ev, h1, h2⟩ := h
  subst e
  intro x m
  rcases List.mem_cons.mp m with q | m
  · rw [q]; exact ⟨_, h1, .inl ⟨_, rfl⟩⟩
  · rw [List.mem_singleton.mp m]; exact ⟨_, h2, .inl ⟨_, rfl⟩⟩
theorem SRep.mono {args : List V} {G G' H H' : Hp} (s : Same G G') : ∀ {l : Sl} {w : Option V} {f z : List Addr}, SRep args G H l w f z → On f H H' → On z H H' → SRep args G' H' l w f z
  | .no, _, _, _, h, _, _ => h
  | .o _, _, _, _, ⟨e, u, ev, h⟩, k, _ => ⟨e, u, ev, h.mono s k⟩
  | .p _ _, _, _, _, ⟨e, e', u, ev, ea, h⟩, _, _ => ⟨e, e', u, ev, ea, h.mono s⟩
  | .st _ _, _, _, _, ⟨e, u, ev, ea, h⟩, _, k => ⟨e, u, ev, ea, h.mono k⟩
theorem SRep.trkF {args : List V} {G H : Hp} : ∀ {l : Sl} {w : Option V} {f z : List Addr}, SRep args G H l w f z → Trk f H
  | .no, _, _, _, h => by rw [h.1]; exact fun _ m => nomatch m
  | .o _, _, _, _, ⟨e, u, ev, h⟩ => h.trk
  | .p _ _, _, _, _, h => by rw [h.1]; exact fun _ m => nomatch m
  | .st _ _, _, _, _, h => by rw [h.1]; exact fun _ m => nomatch m
theorem SRep.trkZ {args : List V} {G H : Hp} : ∀ {l : Sl} {w : Option V} {f z : List Addr}, SRep args G H l w f z → Trk z H
  | .no, _, _, _, h => by rw [h.2]; exact fun _ m => nomatch m
  | .o _, _, _, _, h => by rw [h.1]; exact fun _ m => nomatch m
  | .p _ _, _, _, _, h => by rw [h.2.1]; exact fun _ m => nomatch m
  | .st _ _, _, _, _, ⟨e, u, ev, ea, h⟩ => h.trk
theorem SReps.mono {args : List V} {G G' H H' : Hp} (s : Same G G') : ∀ {l : List Sl} {σ : L2.St} {f z : List Addr}, SReps args G H l σ f z → On f H H' → On z H H' → SReps args G' H' l σ f z
  | [], _, _, _, h, _, _ => h
  | _ :: _, _, _, _, ⟨w, σ', f1, f2, z1, z2, e, ef, ez, h, t⟩, k, kz => ⟨w, σ', f1, f2, z1, z2, e, ef, ez, h.mono s (by rw [ef] at k; exact k.l) (by rw [ez] at kz; exact kz.l), t.mono s (by rw [ef] at k; exact k.r) (by rw [ez] at kz; exact kz.r)⟩
theorem SReps.trkF {args : List V} {G H : Hp} : ∀ {l : List Sl} {σ : L2.St} {f z : List Addr}, SReps args G H l σ f z → Trk f H
  | [], _, _, _, h => by rw [h.2.1]; exact fun _ m => nomatch m
  | _ :: _, _, _, _, ⟨w, σ', f1, f2, z1, z2, e, ef, ez, h, t⟩ => by rw [ef]; exact h.trkF.app t.trkF
theorem SReps.trkZ {args : List V} {G H : Hp} : ∀ {l : List Sl} {σ : L2.St} {f z : List Addr}, SReps args G H l σ f z → Trk z H
  | [], _, _, _, h => by rw [h.2.2]; exact fun _ m => nomatch m
  | _ :: _, _, _, _, ⟨w, σ', f1, f2, z1, z2, e, ef, ez, h, t⟩ => by rw [ez]; exact h.trkZ.app t.trkZ
theorem SReps.len {args : List V} {G H : Hp} : ∀ {l : List Sl} {σ : L2.St} {f z : List Addr}, SReps args G H l σ f z → l.length = σ.length
  | [], _, _, _, h => by rw [h.1]; rfl
  | _ :: _, _, _, _, ⟨w, σ', f1, f2, z1, z2, e, ef, ez, h, t⟩ => by rw [e]; simp [t.len]
/-- one slot, and what may be put in its place -/
theorem SReps.at {args : List V} {G H : Hp} : ∀ {l : List Sl} {σ : L2.St} {f z : List Addr} {i : Nat} {s : Sl}, SReps args G H l σ f z → l[i]? = some s →
    ∃ w fi zi fr zr, σ[i]? = some w ∧ SRep args G H s w fi zi ∧ (∀ a, f.count a = fi.count a + fr.count a) ∧ (∀ a, z.count a = zi.count a + zr.count a) ∧
      ∀ G' H' s' w' fi' zi', Same G G' → On fr H H' → On zr H H' → SRep args G' H' s' w' fi' zi' → ∃ f' z', SReps args G' H' (l.set i s') (σ.set i w') f' z' ∧ (∀ a, f'.count a = fi'.count a + fr.count a) ∧ (∀ a, z'.count a = zi'.count a + zr.count a)
  | [], _, _, _, i, s, _, e => by simp at e
  | x :: l, _, _, _, 0, s, ⟨w, σ', f1, f2, z1, z2, e, ef, ez, h, t⟩, q => by
    have q' : x = s := by simpa using q
    subst q' e ef ez
    refine ⟨w, f1, z1, f2, z2, rfl, h, fun a => List.count_append, fun a => List.count_append, fun G' H' s' w' fi' zi' sm k1 k2 h' => ?_⟩
    exact ⟨fi' ++ f2, zi' ++ z2, ⟨w', σ', fi', f2, zi', z2, rfl, rfl, rfl, h', t.mono sm k1 k2⟩, fun a => List.count_append, fun a => List.count_append⟩
  | x :: l, _, _, _, i + 1, s, ⟨w, σ', f1, f2, z1, z2, e, ef, ez, h, t⟩, q => by
    subst e ef ez
    obtain ⟨w0, fi, zi, fr, zr, h1, h2, h3, h4, h5⟩ := SReps.at t (i := i) (s := s) (by simpa using q)
    refine ⟨w0, fi, zi, f1 ++ fr, z1 ++ zr, by simpa using h1, h2, fun a => ?_, fun a => ?_, fun G' H' s' w' fi' zi' sm k1 k2 h' => ?_⟩
    · rw [List.count_append, List.count_append, h3]; omega
    · rw [List.count_append, List.count_append, h4]; omega
    · obtain ⟨f', z', g1, g2, g3⟩ := h5 G' H' s' w' fi' zi' sm k1.r k2.r h'
      refine ⟨f1 ++ f', z1 ++ z', ⟨w, σ'.set i w', f1, f', z1, z', rfl, rfl, rfl, h.mono sm k1.l k2.l, g1⟩, fun a => ?_, fun a => ?_⟩
      · rw [List.count_append, List.count_append, g2]; omega
      · rw [List.count_append, List.count_append, g3]; omega
theorem TRep.mono {G G' H H' : Hp} {σ : L2.St} (s : Same G G') : ∀ {t : T} {v : V} {f : List Addr}, TRep G H σ t v f → On f H H' → TRep G' H' σ t v f
  | .o _, _, _, h, k => ORep.mono s k h
  | .al _, _, _, h, _ => h
theorem TReps.mono {G G' H H' : Hp} {σ : L2.St} (s : Same G G') : ∀ {t : List T} {vs : List V} {f : List Addr}, TReps G H σ t vs f → On f H H' → TReps G' H' σ t vs f
  | [], _, _, h, _ => h
  | _ :: _, _, _, ⟨v, r, f1, f2, e, ef, h, t⟩, k => ⟨v, r, f1, f2, e, ef, h.mono s (by rw [ef] at k; exact k.l), t.mono s (by rw [ef] at k; exact k.r)⟩
theorem TRep.trk {G H : Hp} {σ : L2.St} : ∀ {t : T} {v : V} {f : List Addr}, TRep G H σ t v f → Trk f H
  | .o _, _, _, h => ORep.trk h
  | .al _, _, _, h => by rw [h.1]; exact fun _ m => nomatch m
theorem TReps.trk {G H : Hp} {σ : L2.St} : ∀ {t : List T} {vs : List V} {f : List Addr}, TReps G H σ t vs f → Trk f H
  | [], _, _, h => by rw [h.2]; exact fun _ m => nomatch m
  | _ :: _, _, _, ⟨v, r, f1, f2, e, ef, h, t⟩ => by rw [ef]; exact h.trk.app t.trk
theorem TReps.split {G H : Hp} {σ : L2.St} : ∀ {a b : List T} {z : List V} {f : List Addr}, TReps G H σ (a ++ b) z f → ∃ x y f1 f2, z = x ++ y ∧ f = f1 ++ f2 ∧ TReps G H σ a x f1 ∧ TReps G H σ b y f2
  | [], _, z, f, h => ⟨[], z, [], f, rfl, rfl, ⟨rfl, rfl⟩, h⟩
  | _ :: _, _, _, _, ⟨v, r, f1, f2, e, ef, h, t⟩ => by
    obtain ⟨x, y, g1, g2, e1, e2, h1, h2⟩ := TReps.split t
    exact ⟨v :: x, y, f1 ++ g1, g2, by rw [e, e1]; rfl, by rw [ef, e2, List.append_assoc], ⟨v, x, f1, g1, rfl, rfl, h, h1⟩, h2⟩
theorem TReps.append {G H : Hp} {σ : L2.St} : ∀ {a b : List T} {x y : List V} {f g : List Addr}, TReps G H σ a x f → TReps G H σ b y g → TReps G H σ (a ++ b) (x ++ y) (f ++ g)
  | [], _, _, _, _, _, ⟨e, e'⟩, k => by rw [e, e']; exact k
  | _ :: _, _, _, _, _, _, ⟨v, r, f1, f2, e, ef, h, t⟩, k => ⟨v, r ++ _, f1, f2 ++ _, by rw [e]; rfl, by rw [ef, List.append_assoc], h, t.append k⟩
theorem TReps.len {G H : Hp} {σ : L2.St} : ∀ {t : List T} {vs : List V} {f : List Addr}, TReps G H σ t vs f → t.length = vs.length
  | [], _, _, h => by rw [h.1]; rfl
  | _ :: _, _, _, ⟨v, r, f1, f2, e, ef, h, t⟩ => by rw [e]; simp [t.len]
/-! ### heaps -/
/-- how G tells of a function's table of code objects -/
def tmk (q : Str) : HO := .tbl #[.str q 0]
/-- what the plain heap G holds may be read in H -/
def Le (tl : List (Addr × Str)) (G H : Hp) : Prop := ∀ a o, G a = some o → (H a = some o ∧ NT o) ∨ (∃ ob kvs, o = .dK kvs ∧ H a = some (.frz ob (.dK kvs))) ∨ ∃ q, (a, q) ∈ tl ∧ o = tmk q ∧ LamX.TabS H a q
theorem TabS.write {H H' : Hp} {a P : Addr} {q : Str} (hH : ∀ b, b ≠ a → H' b = H b) (h1 : ∀ c q, H a ≠ some (LamX.CodeO c q)) (h2 : ∀ ps, H a ≠ some (.tbl ps)) (t : LamX.TabS H P q) : LamX.TabS H' P q := by
  obtain ⟨ps, e1, e2, e3⟩ := t
  refine ⟨ps, by rw [hH P fun e => h2 ps (e ▸ e1)]; exact e1, e2, fun pos cv hc => ?_⟩
  obtain ⟨c, k1, k2⟩ := e3 pos cv hc
  exact ⟨c, k1, by rw [hH c fun e => h1 c q (e ▸ k2)]; exact k2⟩
theorem own_code {o : HO} (h : Own o) {H : Hp} {a : Addr} (e : H a = some o) : (∀ c q, H a ≠ some (LamX.CodeO c q)) ∧ ∀ ps, H a ≠ some (.tbl ps) := by
  refine ⟨fun c q z => ?_, fun ps z => ?_⟩
  · rw [e] at z
    have z := Option.some.inj z
    subst z
    rcases h with ⟨_, e⟩ | ⟨_, e⟩ | ⟨_, e⟩ <;> cases e
  · rw [e] at z
    exact h.nt ps (Option.some.inj z)
theorem Rd.same {H H' : Hp} {a : Addr} {u : HO} (s : ∀ o, H a = some o → H' a = some o) (r : Rd H a u) : Rd H' a u := by
  rcases r with r | ⟨o, r⟩
  · exact .inl (s _ r)
  · exact .inr ⟨o, s _ r⟩
theorem Rd.ne {H : Hp} {a : Addr} {u : HO} (r : Rd H a u) : H a ≠ none := by
  rcases r with r | ⟨o, r⟩ <;> (rw [r]; exact fun z => nomatch z)
theorem Le.rd {tl : List (Addr × Str)} {G H : Hp} (l : Le tl G H) {a : Addr} {o : HO} (e : G a = some o) (nt : NT o) : Rd H a o := by
  rcases l a o e with ⟨h, _⟩ | ⟨ob, kvs, e1, h⟩ | ⟨q, _, e1, _⟩
  · exact .inl h
  · subst e1; exact .inr ⟨ob, h⟩
  · exact absurd e1 (nt _)
theorem Le.rdD {tl : List (Addr × Str)} {G H : Hp} (l : Le tl G H) {a : Addr} {ys : List (Key × V)} (e : G a = some (.dK ys)) : Rd H a (.dK ys) := l.rd e fun _ z => nomatch z
theorem Le.lst {tl : List (Addr × Str)} {G H : Hp} (l : Le tl G H) {a : Addr} {xs : List V} (e : G a = some (.lst xs)) : H a = some (.lst xs) := by
  rcases l a _ e with ⟨h, _⟩ | ⟨ob, kvs, e1, h⟩ | ⟨q, _, e1, _⟩
  · exact h
  · cases e1
  · cases e1
theorem Le.tup {tl : List (Addr × Str)} {G H : Hp} (l : Le tl G H) {a : Addr} {xs : List V} (e : G a = some (.tup xs)) : H a = some (.tup xs) := by
  rcases l a _ e with ⟨h, _⟩ | ⟨ob, kvs, e1, h⟩ | ⟨q, _, e1, _⟩
  · exact h
  · cases e1
  · cases e1
theorem Le.dK {tl : List (Addr × Str)} {G H : Hp} (l : Le tl G H) {a : Addr} {ys : List (Key × V)} (e : G a = some (.dK ys)) : H a = some (.dK ys) ∨ ∃ ob, H a = some (.frz ob (.dK ys)) := by
  rcases l a _ e with ⟨h, _⟩ | ⟨ob, kvs, e1, h⟩ | ⟨q, _, e1, _⟩
  · exact .inl h
  · injection e1 with e1; subst e1; exact .inr ⟨ob, h⟩
  · cases e1
/-- a thing of our own, of which G does not tell, is changed -/
theorem Le.write {tl : List (Addr × Str)} {G H H' : Hp} {p : Addr} (l : Le tl G H) (hH : ∀ b, b ≠ p → H' b = H b) (ow : ∃ o, H p = some o ∧ Own o) (g : G p = none) : Le tl G H' := fun a o e => by
  have ne : a ≠ p := fun z => by rw [z, g] at e; cases e
  obtain ⟨ho, e2, w⟩ := ow
  rcases l a o e with ⟨h, nt⟩ | ⟨ob, kvs, e1, h⟩ | ⟨q, m, e1, h⟩
  · exact .inl ⟨by rw [hH a ne]; exact h, nt⟩
  · exact .inr (.inl ⟨ob, kvs, e1, by rw [hH a ne]; exact h⟩)
  · exact .inr (.inr ⟨q, m, e1, TabS.write hH (own_code w e2).1 (own_code w e2).2 h⟩)
theorem Le.same {tl : List (Addr × Str)} {G H H' : Hp} (l : Le tl G H) (s : Same H H') : Le tl G H' := fun a o e => by
  rcases l a o e with ⟨h, nt⟩ | ⟨ob, kvs, e1, h⟩ | ⟨q, m, e1, h⟩
  · exact .inl ⟨s _ _ h, nt⟩
  · exact .inr (.inl ⟨ob, kvs, e1, s _ _ h⟩)
  · exact .inr (.inr ⟨q, m, e1, h.ext s⟩)
theorem Le.add {tl : List (Addr × Str)} {G G' H : Hp} (l : Le tl G H) (n : ∀ a o, G' a = some o → G a = some o ∨ (H a = some o ∧ NT o)) : Le tl G' H := fun a o e => (n a o e).elim (l a o) .inl
theorem Le.none {tl : List (Addr × Str)} {G H : Hp} (l : Le tl G H) {a : Addr} (h : H a = none) : G a = none := by
  cases e : G a with
  | none => rfl
  | some o =>
    rcases l a o e with ⟨h', _⟩ | ⟨ob, kvs, e1, h'⟩ | ⟨q, _, e1, ps, h', _⟩ <;> rw [h] at h' <;> cases h'
/-! ### the whole -/
/-- what the code began with: G0 plain, H0 all, fz the springs it may turn, fo what else it may change -/
structure Gr where
  G0 : Hp
  H0 : Hp
  fz : List Addr
  fo : List Addr
  args : List V
  tabs : List (Addr × Str)
  tb : ∀ p ∈ tabs, G0 p.1 = some (tmk p.2)
structure Core (Γ : Gr) (G H : Hp) (env : List Sl) (σ : L2.St) (ts : List T) (vs : List V) (fO fZ fT : List Addr) : Prop where
  sl : SReps Γ.args G H env σ fO fZ
  tm : TReps G H σ ts vs fT
  one : ∀ a, fO.count a + fT.count a + fZ.count a ≤ 1
  nwO : ∀ a, a ∈ fO ∨ a ∈ fT → Fre Γ.H0 a ∨ a ∈ Γ.fo
  nwZ : ∀ a, a ∈ fZ → Fre Γ.H0 a ∨ a ∈ Γ.fz
  off : ∀ a, a ∈ fO ∨ a ∈ fT ∨ a ∈ fZ → G a = none
  le : Le Γ.tabs G H
  g0 : Same Γ.G0 G
  fr : ∀ a o, Γ.H0 a = some o → NT o → a ∉ Γ.fz → a ∉ Γ.fo → H a = some o
  nw : ∀ a, G a ≠ none → Γ.G0 a ≠ none ∨ Fre Γ.H0 a ∨ a ∈ Γ.fo
  keep : ∀ a o, Γ.H0 a = some o → NT o → ∃ o', H a = some o' ∧ NT o'
theorem keep_fre {H0 H : Hp} (k : ∀ a o, H0 a = some o → NT o → ∃ o', H a = some o' ∧ NT o') {a : Addr} (h : Fre H a) : Fre H0 a := fun o e nt => by
  obtain ⟨o', e', nt'⟩ := k a o e nt
  exact h o' e' nt'
theorem Core.fre {Γ : Gr} {G H : Hp} {env : List Sl} {σ : L2.St} {ts : List T} {vs : List V} {fO fZ fT : List Addr} (q : Core Γ G H env σ ts vs fO fZ fT) {a : Addr} (h : Fre H a) : Fre Γ.H0 a := keep_fre q.keep h
def Stt (Γ : Gr) (G H : Hp) (env : List Sl) (σ : L2.St) (ts : List T) (vs : List V) : Prop :=
  ∃ fO fZ fT, Core Γ G H env σ ts vs fO fZ fT
theorem mem_count {l : List Addr} {a : Addr} : a ∈ l ↔ 0 < l.count a := List.count_pos_iff.symm
theorem not_mem_count {l : List Addr} {a : Addr} : l.count a = 0 ↔ a ∉ l := List.count_eq_zero
/-- new things beside: the heap grows, a new value is laid by -/
theorem Core.push {Γ G H env σ ts vs fO fZ fT} (c : Core Γ G H env σ ts vs fO fZ fT) {G' H' : Hp} {o : O} {v : V} {f : List Addr} (sG : Same G G') (sH : SameT H H')
    (r : ORep G' H' o v f) (fr : ∀ a ∈ f, Fre H a) (f1 : ∀ a, f.count a ≤ 1) (fG : ∀ a ∈ f, G' a = none) (nw : ∀ a, G' a ≠ none → G a ≠ none ∨ Fre H a) (le : Le Γ.tabs G' H') :
    Core Γ G' H' env σ (.o o :: ts) (v :: vs) fO fZ (f ++ fT) where
  sl := c.sl.mono sG (.of_sameT c.sl.trkF sH) (.of_sameT c.sl.trkZ sH)
  tm := ⟨v, vs, f, fT, rfl, rfl, r, c.tm.mono sG (.of_sameT c.tm.trk sH)⟩
  one := fun a => by
    rw [List.count_append]
    have q := c.one a
    by_cases h : a ∈ f
    · have hn := fr a h
      have z1 : fO.count a = 0 := not_mem_count.mpr fun m => c.sl.trkF.fre a m hn
      have z2 : fT.count a = 0 := not_mem_count.mpr fun m => c.tm.trk.fre a m hn
      have z3 : fZ.count a = 0 := not_mem_count.mpr fun m => c.sl.trkZ.fre a m hn
      have := f1 a
      omega
    · have := not_mem_count.mpr h
      omega
  nwO := fun a m => by
    rcases m with m | m
    · exact c.nwO a (.inl m)
    · rcases List.mem_append.mp m with m | m
      · exact .inl (c.fre (fr a m))
      · exact c.nwO a (.inr m)
  nwZ := c.nwZ
  off := fun a m => by
    have old : ¬ Fre H a → G a = none → G' a = none := fun h1 h2 => by
      cases e : G' a with
      | none => rfl
      | some o =>
        rcases nw a (by rw [e]; exact fun z => nomatch z) with q | q
        · exact absurd h2 q
        · exact absurd q h1
    rcases m with m | m | m
    · exact old (c.sl.trkF.fre a m) (c.off a (.inl m))
    · rcases List.mem_append.mp m with m | m
      · exact fG a m
      · exact old (c.tm.trk.fre a m) (c.off a (.inr (.inl m)))
    · exact old (c.sl.trkZ.fre a m) (c.off a (.inr (.inr m)))
  le := le
  g0 := c.g0.trans sG
  fr := fun a o h nt h1 h2 => sH a o (c.fr a o h nt h1 h2) nt
  nw := fun a h => by
    rcases nw a h with q | q
    · exact c.nw a q
    · exact .inr (.inl (c.fre q))
  keep := fun a o h nt => by
    obtain ⟨o', e, nt'⟩ := c.keep a o h nt
    exact ⟨o', sH a o' e nt', nt'⟩
theorem same_t {H H' : Hp} (s : Same H H') : SameT H H' := fun a o e _ => s a o e
/-- the heap grows -/
theorem Core.grow {Γ G H env σ ts vs fO fZ fT} (c : Core Γ G H env σ ts vs fO fZ fT) {G' H' : Hp} (sG : Same G G') (sH : Same H H') (nw : ∀ a, G' a ≠ none → G a ≠ none ∨ H a = none) (le : Le Γ.tabs G' H') :
    Core Γ G' H' env σ ts vs fO fZ fT := by
  have q := c.push (o := .val .non) (v := .non) (f := []) sG (same_t sH) ⟨rfl, rfl⟩ (fun _ m => nomatch m) (fun _ => Nat.zero_le _) (fun _ m => nomatch m) (fun a h => (nw a h).imp id fre_none) le
  obtain ⟨v, vr, f1, f2, e1, e2, h1, h2⟩ := q.tm
  exact { q with tm := c.tm.mono sG (.of_same sH) }
theorem Stt.push {Γ G H env σ ts vs} (c : Stt Γ G H env σ ts vs) {G' H' : Hp} {o : O} {v : V} {f : List Addr} (sG : Same G G') (sH : Same H H')
    (r : ORep G' H' o v f) (fr : ∀ a ∈ f, H a = none) (f1 : ∀ a, f.count a ≤ 1) (fG : ∀ a ∈ f, G' a = none) (nw : ∀ a, G' a ≠ none → G a ≠ none ∨ H a = none) (le : Le Γ.tabs G' H') :
    Stt Γ G' H' env σ (.o o :: ts) (v :: vs) :=
  let ⟨_, _, _, q⟩ := c
  ⟨_, _, _, q.push sG (same_t sH) r (fun a m => fre_none (fr a m)) f1 fG (fun a h => (nw a h).imp id fre_none) le⟩
/-- plain data is laid by -/
theorem Stt.val {Γ G H env σ ts vs} (c : Stt Γ G H env σ ts vs) {d : D} {v : V} (r : Rep G d v) : Stt Γ G H env σ (.o (.val d) :: ts) (v :: vs) :=
  let ⟨_, _, _, q⟩ := c
  ⟨_, _, _, q.push (f := []) (Same.refl _) (same_t (Same.refl _)) ⟨rfl, r⟩ (fun _ m => nomatch m) (fun _ => Nat.zero_le _) (fun _ m => nomatch m) (fun _ h => .inl h) q.le⟩
theorem Stt.same {Γ G H env σ ts vs} (c : Stt Γ G H env σ ts vs) {H' : Hp} (s : Same H H') : Stt Γ G H' env σ ts vs :=
  let ⟨_, _, _, q⟩ := c
  ⟨_, _, _, q.grow (Same.refl _) s (fun _ h => .inl h) (q.le.same s)⟩
/-- values laid by are dropped, or put together: what is new holds no more than what goes -/
theorem Core.turn {Γ G H env σ ts vs fO fZ fT} (c : Core Γ G H env σ ts vs fO fZ fT) {ts' : List T} {vs' : List V} {fT' : List Addr} (r : TReps G H σ ts' vs' fT') (n : ∀ a, fT'.count a ≤ fT.count a) :
    Core Γ G H env σ ts' vs' fO fZ fT' :=
  { c with
    tm := r
    one := fun a => Nat.le_trans (by have := n a; omega) (c.one a)
    nwO := fun a m => c.nwO a (m.imp id fun m => mem_count.mpr (Nat.lt_of_lt_of_le (mem_count.mp m) (n a)))
    off := fun a m => c.off a (m.imp id fun m => m.imp (fun m => mem_count.mpr (Nat.lt_of_lt_of_le (mem_count.mp m) (n a))) id) }
theorem Stt.pop {Γ G H env σ t ts v vs} (c : Stt Γ G H env σ (t :: ts) (v :: vs)) : Stt Γ G H env σ ts vs := by
  obtain ⟨_, _, _, q⟩ := c
  obtain ⟨v', vr, f1, f2, e1, e2, h1, h2⟩ := q.tm
  injection e1 with e3 e4
  subst e4
  exact ⟨_, _, _, q.turn h2 fun a => by rw [e2, List.count_append]; omega⟩
/-- the last of some goes to the front -/
theorem Stt.rot {Γ G H env σ t ts v vs} {A : List T} {vA : List V} (c : Stt Γ G H env σ (A ++ t :: ts) (vA ++ v :: vs)) (hl : A.length = vA.length) : Stt Γ G H env σ (t :: (A ++ ts)) (v :: (vA ++ vs)) := by
  obtain ⟨_, _, _, q⟩ := c
  obtain ⟨x, y, f1, f2, e1, e2, h1, h2⟩ := q.tm.split
  have hx : x.length = vA.length := by rw [← h1.len, hl]
  obtain ⟨e3, e4⟩ := List.append_inj e1 hx.symm
  subst e3 e4
  obtain ⟨v', vr, g1, g2, e5, e6, h3, h4⟩ := h2
  injection e5 with e7 e8
  subst e7 e8
  exact ⟨_, _, _, q.turn (fT' := g1 ++ (f1 ++ g2)) ⟨_, _, g1, f1 ++ g2, rfl, rfl, h3, h1.append h4⟩ fun a => by rw [e2, e6]; simp only [List.count_append]; omega⟩
/-- a value laid by becomes plain -/
theorem Stt.freeze {Γ G H env σ o ts v vs} (c : Stt Γ G H env σ (.o o :: ts) (v :: vs)) : ∃ G', Same G G' ∧ Stt Γ G' H env σ (.o (.val o.toD) :: ts) (v :: vs) := by
  obtain ⟨fO, fZ, fT, q⟩ := c
  obtain ⟨v', vr, f1, f2, e1, e2, h1, h2⟩ := q.tm
  injection e1 with e3 e4
  subst e3 e4 e2
  have h1 : ORep G H o v f1 := h1
  have z : ∀ a, a ∈ f1 → fO.count a = 0 ∧ f2.count a = 0 ∧ fZ.count a = 0 := fun a m => by
    have := q.one a
    rw [List.count_append] at this
    have := mem_count.mp m
    omega
  have gn : ∀ a, a ∈ f1 → G a = none := fun a m => q.off a (.inr (.inl (List.mem_append_left _ m)))
  let G' : Hp := fun a => if a ∈ f1 then H a else G a
  have sG : Same G G' := fun a o h => by
    show (if a ∈ f1 then H a else G a) = some o
    by_cases m : a ∈ f1
    · rw [gn a m] at h; cases h
    · rw [if_neg m]; exact h
  have on : On f1 H G' := fun a m o h => by
    show (if a ∈ f1 then H a else G a) = some o
    rw [if_pos m]; exact h
  have offG : ∀ a, a ∉ f1 → G a = none → G' a = none := fun a m h => by
    show (if a ∈ f1 then H a else G a) = none
    rw [if_neg m]; exact h
  refine ⟨G', sG, fO, fZ, f2, q.sl.mono sG (.of_same (Same.refl _)) (.of_same (Same.refl _)), ⟨v, vs, [], f2, rfl, rfl, ⟨rfl, ORep.rep sG on h1⟩, h2.mono sG (.of_same (Same.refl _))⟩, fun a => ?_, fun a m => ?_, q.nwZ, fun a m => ?_, ?_, q.g0.trans sG, q.fr, fun a h => ?_, q.keep⟩
  · have := q.one a
    rw [List.count_append] at this
    omega
  · exact q.nwO a (m.imp id fun m => List.mem_append_right _ m)
  · refine offG a (fun m1 => ?_) (q.off a (m.imp id fun m => m.imp (fun m => List.mem_append_right _ m) id))
    obtain ⟨z1, z2, z3⟩ := z a m1
    rcases m with m | m | m
    · exact absurd (mem_count.mp m) (by omega)
    · exact absurd (mem_count.mp m) (by omega)
    · exact absurd (mem_count.mp m) (by omega)
  · refine q.le.add fun a o h => ?_
    have h : (if a ∈ f1 then H a else G a) = some o := h
    by_cases m : a ∈ f1
    · rw [if_pos m] at h
      obtain ⟨o', e', w⟩ := h1.trk a m
      rw [h] at e'
      have := Option.some.inj e'
      subst this
      exact .inr ⟨h, w.nt⟩
    · rw [if_neg m] at h; exact .inl h
  · have h : (if a ∈ f1 then H a else G a) ≠ none := h
    by_cases m : a ∈ f1
    · exact .inr (q.nwO a (.inr (List.mem_append_left _ m)))
    · rw [if_neg m] at h; exact q.nw a h
end Mw
namespace Mw
open PySem L2
theorem set_same {α : Type} : ∀ {l : List α} {i : Nat} {x : α}, l[i]? = some x → l.set i x = l
  | [], _, _, h => by simp at h
  | a :: r, 0, x, h => by simp at h; simp [h]
  | a :: r, i + 1, x, h => by simp at h ⊢; exact set_same h
theorem TReps.hold {G H : Hp} {σ σ' : L2.St} : ∀ {ts : List T} {vs : List V} {f : List Addr}, TReps G H σ ts vs f → (∀ i, T.al i ∈ ts → σ'[i]? = σ[i]?) → TReps G H σ' ts vs f
  | [], _, _, h, _ => h
  | .o _ :: _, _, _, ⟨v, r, f1, f2, e, ef, h, t⟩, k => ⟨v, r, f1, f2, e, ef, h, t.hold fun i m => k i (List.mem_cons_of_mem _ m)⟩
  | .al i :: _, _, _, ⟨v, r, f1, f2, e, ef, h, t⟩, k => ⟨v, r, f1, f2, e, ef, ⟨h.1, (k i List.mem_cons_self).trans h.2⟩, t.hold fun i m => k i (List.mem_cons_of_mem _ m)⟩
/-- a slot and the values laid by are turned, the heap as it stands -/
theorem Core.reslot {Γ G H env σ ts vs fO fZ fT} {i : Nat} {s : Sl} (c : Core Γ G H env σ ts vs fO fZ fT) (hi : env[i]? = some s) :
    ∃ w fi zi, σ[i]? = some w ∧ SRep Γ.args G H s w fi zi ∧ (∀ a, fi.count a + fT.count a + zi.count a ≤ 1) ∧
      ∀ s' w' fi' zi' ts' vs' fT', SRep Γ.args G H s' w' fi' zi' → TReps G H (σ.set i w') ts' vs' fT' → (∀ a, fi'.count a + fT'.count a ≤ fi.count a + fT.count a) → (∀ a, zi'.count a ≤ zi.count a) →
        Stt Γ G H (env.set i s') (σ.set i w') ts' vs' := by
  obtain ⟨w, fi, zi, fr, zr, h1, h2, h3, h4, h5⟩ := c.sl.at hi
  refine ⟨w, fi, zi, h1, h2, fun a => by have := c.one a; rw [h3, h4] at this; omega, fun s' w' fi' zi' ts' vs' fT' r1 r2 n1 n2 => ?_⟩
  obtain ⟨f', z', g1, g2, g3⟩ := h5 G H s' w' fi' zi' (Same.refl _) (.of_same (Same.refl _)) (.of_same (Same.refl _)) r1
  have up : ∀ a, a ∈ f' ∨ a ∈ fT' → a ∈ fO ∨ a ∈ fT := fun a m => by
    have q1 := n1 a
    have q2 := g2 a
    have q3 := h3 a
    have q : 0 < fO.count a ∨ 0 < fT.count a := by
      rcases m with m | m
      · have := mem_count.mp m; omega
      · have := mem_count.mp m; omega
    exact q.imp mem_count.mpr mem_count.mpr
  have upz : ∀ a, a ∈ z' → a ∈ fZ := fun a m => by
    have := mem_count.mp m
    have := n2 a
    have := g3 a
    have := h4 a
    exact mem_count.mpr (by omega)
  exact ⟨f', z', fT', g1, r2, fun a => by have := c.one a; have := n1 a; have := n2 a; have := g2 a; have := g3 a; have := h3 a; have := h4 a; omega, fun a m => c.nwO a (up a m), fun a m => c.nwZ a (upz a m),
    fun a m => by
      rcases m with m | m | m
      · rcases up a (.inl m) with q | q
        · exact c.off a (.inl q)
        · exact c.off a (.inr (.inl q))
      · rcases up a (.inr m) with q | q
        · exact c.off a (.inl q)
        · exact c.off a (.inr (.inl q))
      · exact c.off a (.inr (.inr (upz a m))), c.le, c.g0, c.fr, c.nw, c.keep⟩
theorem Stt.slotV {Γ G H env σ ts vs} {i : Nat} {s : Sl} (c : Stt Γ G H env σ ts vs) (hi : env[i]? = some s) : ∃ w, σ[i]? = some w := by
  obtain ⟨_, _, _, q⟩ := c
  obtain ⟨w, _, _, h, _⟩ := q.reslot hi
  exact ⟨w, h⟩
theorem Stt.len {Γ G H env σ ts vs} (c : Stt Γ G H env σ ts vs) : env.length = σ.length := by
  obtain ⟨_, _, _, q⟩ := c
  exact q.sl.len
/-- forget a slot -/
theorem Stt.drop {Γ G H env σ ts vs} {i : Nat} (c : Stt Γ G H env σ ts vs) : Stt Γ G H (env.set i .no) σ ts vs := by
  by_cases hi : i < env.length
  · obtain ⟨_, _, _, q⟩ := c
    obtain ⟨w, fi, zi, h1, h2, h3, h4⟩ := q.reslot (i := i) (s := env[i]) (by simp [hi])
    have := h4 .no w [] [] ts vs _ ⟨rfl, rfl⟩ (q.tm.hold fun j _ => by rw [set_same h1]) (fun a => by simp) (fun a => by simp)
    rwa [set_same h1] at this
  · rw [List.set_eq_of_length_le (by omega)]
    exact c
theorem Stt.dropW {Γ G H env σ ts vs} {i : Nat} (c : Stt Γ G H env σ ts vs) (w : Option V) (na : T.al i ∉ ts) : Stt Γ G H (env.set i .no) (σ.set i w) ts vs := by
  by_cases hi : i < env.length
  · obtain ⟨_, _, _, q⟩ := c
    obtain ⟨w0, fi, zi, h1, h2, h3, h4⟩ := q.reslot (i := i) (s := env[i]) (by simp [hi])
    exact h4 .no w [] [] ts vs _ ⟨rfl, rfl⟩ (q.tm.hold fun j m => by
      have : i ≠ j := fun e => na (e ▸ m)
      rw [List.getElem?_set_ne this]) (fun a => by simp) (fun a => by simp)
  · have l := c.len
    rw [List.set_eq_of_length_le (by omega), List.set_eq_of_length_le (by omega)]
    exact c
/-- a value laid by goes into a slot -/
theorem Stt.assign {Γ G H env σ o ts v vs i} (c : Stt Γ G H env σ (.o o :: ts) (v :: vs)) (hi : i < env.length) (na : T.al i ∉ ts) : Stt Γ G H (env.set i (.o o)) (σ.set i (some v)) ts vs := by
  obtain ⟨_, _, _, q⟩ := c
  obtain ⟨v', vr, f1, f2, e1, e2, h1, h2⟩ := q.tm
  injection e1 with e3 e4
  subst e3 e4 e2
  have h1 : ORep G H o v f1 := h1
  obtain ⟨w0, fi, zi, g1, g2, g3, g4⟩ := q.reslot (i := i) (s := env[i]) (by simp [hi])
  exact g4 (.o o) (some v) f1 [] ts vs f2 ⟨rfl, v, rfl, h1⟩ (h2.hold fun j m => by
      have : i ≠ j := fun e => na (e ▸ m)
      rw [List.getElem?_set_ne this]) (fun a => by rw [List.count_append]; omega) (fun a => by simp)
/-- what a slot holds is taken out -/
theorem Stt.out {Γ G H env σ ts vs} {i : Nat} {o : O} (c : Stt Γ G H env σ ts vs) (hi : env[i]? = some (.o o)) : ∃ v, σ[i]? = some (some v) ∧ Stt Γ G H (env.set i .no) σ (.o o :: ts) (v :: vs) := by
  obtain ⟨_, _, _, q⟩ := c
  obtain ⟨w, fi, zi, h1, ⟨e, u, ev, h2⟩, h3, h4⟩ := q.reslot hi
  subst e ev
  have := h4 .no (some u) [] [] (.o o :: ts) (u :: vs) _ ⟨rfl, rfl⟩ ⟨u, vs, fi, _, rfl, rfl, h2, q.tm.hold fun j _ => by rw [set_same h1]⟩ (fun a => by rw [List.count_append]; simp) (fun a => by simp)
  rw [set_same h1] at this
  exact ⟨u, h1, this⟩
/-- .. and put back -/
theorem Stt.back {Γ G H env σ o ts v vs i} (c : Stt Γ G H env σ (.o o :: ts) (v :: vs)) (hi : i < env.length) (hv : σ[i]? = some (some v)) : Stt Γ G H (env.set i (.o o)) σ ts vs := by
  obtain ⟨_, _, _, q⟩ := c
  obtain ⟨v', vr, f1, f2, e1, e2, h1, h2⟩ := q.tm
  injection e1 with e3 e4
  subst e3 e4 e2
  have h1 : ORep G H o v f1 := h1
  obtain ⟨w0, fi, zi, g1, g2, g3, g4⟩ := q.reslot (i := i) (s := env[i]) (by simp [hi])
  have := g4 (.o o) (some v) f1 [] ts vs f2 ⟨rfl, v, rfl, h1⟩ (h2.hold fun j m => by rw [set_same hv]) (fun a => by rw [List.count_append]; omega) (fun a => by simp)
  rwa [set_same hv] at this
/-- a slot becomes plain -/
theorem Stt.freezeS {Γ G H env σ ts vs} {i : Nat} {o : O} (c : Stt Γ G H env σ ts vs) (hi : env[i]? = some (.o o)) : ∃ G', Same G G' ∧ Stt Γ G' H (env.set i (.o (.val o.toD))) σ ts vs := by
  obtain ⟨v, hv, c1⟩ := c.out hi
  obtain ⟨G', s, c2⟩ := c1.freeze
  have hl : i < (env.set i Sl.no).length := by rw [List.length_set]; exact (List.getElem?_eq_some_iff.mp hi).1
  have := c2.back hl hv
  rw [List.set_set] at this
  exact ⟨G', s, this⟩
/-- a plain value is read out of a slot -/
theorem Stt.read {Γ G H env σ ts vs} {i : Nat} {s : Sl} {d : D} (c : Stt Γ G H env σ ts vs) (hi : env[i]? = some s) (hs : s = .o (.val d) ∨ ∃ j, s = .p j d) : ∃ v, σ[i]? = some (some v) ∧ Rep G d v := by
  obtain ⟨_, _, _, q⟩ := c
  obtain ⟨w, fi, zi, h1, h2, h3, h4⟩ := q.reslot hi
  rcases hs with e | ⟨j, e⟩
  · subst e
    obtain ⟨e, u, ev, h⟩ := h2
    exact ⟨u, by rw [h1, ev], h.2⟩
  · subst e
    obtain ⟨e, e', u, ev, ea, h⟩ := h2
    exact ⟨u, by rw [h1, ev], h⟩
/-- .. and who the j-th argument is -/
theorem Stt.arg {Γ G H env σ ts vs} {i j : Nat} {d : D} (c : Stt Γ G H env σ ts vs) (hi : env[i]? = some (.p j d)) : ∃ v, σ[i]? = some (some v) ∧ Γ.args[j]? = some v ∧ Rep G d v := by
  obtain ⟨_, _, _, q⟩ := c
  obtain ⟨w, fi, zi, h1, h2, h3, h4⟩ := q.reslot hi
  obtain ⟨e, e', u, ev, ea, h⟩ := h2
  exact ⟨u, by rw [h1, ev], ea, h⟩
/-- what a slot of the state's own holds -/
theorem Stt.ownS {Γ G H env σ ts vs} {i : Nat} {o : O} (c : Stt Γ G H env σ ts vs) (hi : env[i]? = some (.o o)) : ∃ v f, σ[i]? = some (some v) ∧ ORep G H o v f := by
  obtain ⟨_, _, _, q⟩ := c
  obtain ⟨w, fi, zi, h1, ⟨e, u, ev, h⟩, h3, h4⟩ := q.reslot hi
  exact ⟨u, fi, by rw [h1, ev], h⟩
theorem Stt.top {Γ G H env σ ts vs o v} (c : Stt Γ G H env σ (.o o :: ts) (v :: vs)) : ∃ f, ORep G H o v f := by
  obtain ⟨_, _, _, q⟩ := c
  obtain ⟨v', vr, f1, f2, e1, e2, h1, h2⟩ := q.tm
  injection e1 with e3 e4
  subst e3
  exact ⟨f1, h1⟩
theorem Stt.topA {Γ G H env σ ts vs i v} (c : Stt Γ G H env σ (.al i :: ts) (v :: vs)) : σ[i]? = some (some v) := by
  obtain ⟨_, _, _, q⟩ := c
  obtain ⟨v', vr, f1, f2, e1, e2, h1, h2⟩ := q.tm
  injection e1 with e3 e4
  subst e3
  exact h1.2
/-- a slot's object is changed at a -/
theorem Stt.wslot {Γ G H env σ ts vs i o o' a u H'} {tp : List T} {vp : List V} (c : Stt Γ G H env σ (tp ++ ts) (vp ++ vs)) (hl : tp.length = vp.length) (hi : env[i]? = some (.o o)) (hu : σ[i]? = some (some u))
    (hH : ∀ b, b ≠ a → H' b = H b) (hn : ∃ o, H' a = some o ∧ NT o)
    (hr : ∀ fi fp, ORep G H o u fi → TReps G H σ tp vp fp → (∀ b, fi.count b + fp.count b ≤ 1) → a ∈ fi ∧ ∃ fi', ORep G H' o' u fi' ∧ ∀ b, fi'.count b ≤ fi.count b + fp.count b) :
    Stt Γ G H' (env.set i (.o o')) σ ts vs := by
  obtain ⟨fO, fZ, fT, q⟩ := c
  obtain ⟨x, y, fp, ft, e1, e2, h1, h2⟩ := q.tm.split
  obtain ⟨e3, e4⟩ := List.append_inj e1 (by rw [← hl, h1.len])
  subst e3 e4 e2
  obtain ⟨w, fi, zi, fr, zr, g1, g2, g3, g4, g5⟩ := q.sl.at hi
  obtain ⟨e, u', ev, g2⟩ := g2
  have : u' = u := by rw [g1, ev] at hu; injection hu with hu; injection hu
  subst this e ev
  obtain ⟨ha, fi', r', n'⟩ := hr fi fp g2 h1 fun b => by have := q.one b; rw [List.count_append, g3] at this; omega
  have am : 0 < fi.count a := mem_count.mp ha
  have out : ∀ {f : List Addr}, f.count a = 0 → On f H H' := fun z b m o h => by
    rw [hH b fun e => by subst e; exact absurd (mem_count.mp m) (by omega)]
    exact h
  have oa := q.one a
  rw [List.count_append, g3, g4] at oa
  obtain ⟨f', z', k1, k2, k3⟩ := g5 G H' (.o o') (some u') fi' [] (Same.refl _) (out (by omega)) (out (by omega)) ⟨rfl, u', rfl, r'⟩
  rw [set_same g1] at k1
  have ga : G a = none := q.off a (.inl (mem_count.mpr (by rw [g3]; omega)))
  refine ⟨f', z', ft, k1, h2.mono (Same.refl _) (out (by omega)), fun b => ?_, fun b m => ?_, fun b m => ?_, fun b m => ?_, ?_, q.g0, fun b o h nt n1 n2 => ?_, q.nw, fun b o h nt => ?_⟩
  · have := q.one b; have := n' b; have := k2 b; have := k3 b; have := g3 b; have := g4 b
    rw [List.count_append] at *
    simp only [List.count_nil] at *
    omega
  · refine q.nwO b ?_
    have := n' b; have := k2 b; have := g3 b
    have q : 0 < fO.count b ∨ 0 < (fp ++ ft).count b := by
      rw [List.count_append]
      rcases m with m | m
      · have := mem_count.mp m; omega
      · have := mem_count.mp m; omega
    exact q.imp mem_count.mpr mem_count.mpr
  · refine q.nwZ b (mem_count.mpr ?_)
    have := mem_count.mp m; have := k3 b; have := g4 b
    simp only [List.count_nil] at *
    omega
  · refine q.off b ?_
    have := n' b; have := k2 b; have := g3 b; have := k3 b; have := g4 b
    have q : 0 < fO.count b ∨ 0 < (fp ++ ft).count b ∨ 0 < fZ.count b := by
      rw [List.count_append]
      simp only [List.count_nil] at *
      rcases m with m | m | m
      · have := mem_count.mp m; omega
      · have := mem_count.mp m; omega
      · have := mem_count.mp m; omega
    exact q.imp mem_count.mpr fun z => z.imp mem_count.mpr mem_count.mpr
  · exact q.le.write hH (g2.trk a ha) ga
  · have z := q.fr b o h nt n1 n2
    have ne : b ≠ a := fun e => by
      subst e
      rcases q.nwO b (.inl (mem_count.mpr (by rw [g3]; omega))) with k | k
      · exact absurd nt (k _ h)
      · exact n2 k
    rw [hH b ne]
    exact z
  · by_cases e : b = a
    · subst e; exact hn
    · rw [hH b e]; exact q.keep b o h nt
/-- a value laid by is changed at a -/
theorem Stt.wtemp {Γ G H env σ ts vs o' a v' H'} {tp : List T} {vp : List V} (c : Stt Γ G H env σ (tp ++ ts) (vp ++ vs)) (hl : tp.length = vp.length)
    (hH : ∀ b, b ≠ a → H' b = H b) (hn : ∃ o, H' a = some o ∧ NT o)
    (hr : ∀ fp, TReps G H σ tp vp fp → (∀ b, fp.count b ≤ 1) → a ∈ fp ∧ ∃ f', ORep G H' o' v' f' ∧ ∀ b, f'.count b ≤ fp.count b) :
    Stt Γ G H' env σ (.o o' :: ts) (v' :: vs) := by
  obtain ⟨fO, fZ, fT, q⟩ := c
  obtain ⟨x, y, fp, ft, e1, e2, h1, h2⟩ := q.tm.split
  obtain ⟨e3, e4⟩ := List.append_inj e1 (by rw [← hl, h1.len])
  subst e3 e4 e2
  obtain ⟨ha, f', r', n'⟩ := hr fp h1 fun b => by have := q.one b; rw [List.count_append] at this; omega
  have am : 0 < fp.count a := mem_count.mp ha
  have oa := q.one a
  rw [List.count_append] at oa
  have out : ∀ {f : List Addr}, f.count a = 0 → On f H H' := fun z b m o h => by
    rw [hH b fun e => by subst e; exact absurd (mem_count.mp m) (by omega)]
    exact h
  have ga : G a = none := q.off a (.inr (.inl (List.mem_append_left _ ha)))
  refine ⟨fO, fZ, f' ++ ft, q.sl.mono (Same.refl _) (out (by omega)) (out (by omega)), ⟨v', vs, f', ft, rfl, rfl, r', h2.mono (Same.refl _) (out (by omega))⟩, fun b => ?_, fun b m => ?_, q.nwZ, fun b m => ?_, ?_, q.g0, fun b o h nt n1 n2 => ?_, q.nw, fun b o h nt => ?_⟩
  · have := q.one b; have := n' b
    rw [List.count_append] at *
    omega
  · refine q.nwO b (m.imp id fun m => ?_)
    have := n' b
    have := mem_count.mp m
    rw [List.count_append] at this
    exact mem_count.mpr (by rw [List.count_append]; omega)
  · refine q.off b (m.imp id fun m => m.imp (fun m => ?_) id)
    have := n' b
    have := mem_count.mp m
    rw [List.count_append] at this
    exact mem_count.mpr (by rw [List.count_append]; omega)
  · exact q.le.write hH (h1.trk a ha) ga
  · have z := q.fr b o h nt n1 n2
    have ne : b ≠ a := fun e => by
      subst e
      rcases q.nwO b (.inr (List.mem_append_left _ ha)) with k | k
      · exact absurd nt (k _ h)
      · exact n2 k
    rw [hH b ne]
    exact z
  · by_cases e : b = a
    · subst e; exact hn
    · rw [hH b e]; exact q.keep b o h nt
theorem Same.upd {H : Hp} {p : Addr} {u : HO} (h : H p = none) : Same H (upd H p u) := fun b o e => by
  rw [upd_ne (ne_of_none e h)]; exact e
/-- a new list, tuple .. over values laid by -/
theorem Stt.node {Γ G H env σ ts vs p u o'} {tp : List T} {vp : List V} (c : Stt Γ G H env σ (tp ++ ts) (vp ++ vs)) (hl : tp.length = vp.length) (hp : H p = none)
    (hr : ∀ fp, TReps G H σ tp vp fp → ∃ f', ORep G (upd H p u) o' (.ref p) (p :: f') ∧ ∀ b, f'.count b ≤ fp.count b) : Stt Γ G (upd H p u) env σ (.o o' :: ts) (.ref p :: vs) := by
  obtain ⟨fO, fZ, fT, q⟩ := c
  obtain ⟨x, y, fp, ft, e1, e2, h1, h2⟩ := q.tm.split
  obtain ⟨e3, e4⟩ := List.append_inj e1 (by rw [← hl, h1.len])
  subst e3 e4 e2
  obtain ⟨f', r', n'⟩ := hr fp h1
  have sH : Same H (upd H p u) := Same.upd hp
  have c0 := q.turn (ts' := ts) (vs' := vs) (fT' := ft) h2 fun b => by rw [List.count_append]; omega
  have tr := q.tm.trk
  have pn : ∀ {f : List Addr}, Trk f H → f.count p = 0 := fun t => not_mem_count.mpr fun m => t.ne p m hp
  have gp : G p = none := q.le.none hp
  have h0 : Fre Γ.H0 p := q.fre (fre_none hp)
  have c1 := c0.grow (G' := G) (H' := upd H p u) (Same.refl _) sH (fun _ h => .inl h) (c0.le.same sH)
  have z1 := pn q.sl.trkF
  have z2 := pn q.sl.trkZ
  have z3 := pn tr
  rw [List.count_append] at z3
  have z4 : f'.count p = 0 := by have := n' p; omega
  refine ⟨fO, fZ, (p :: f') ++ ft, c1.sl, ⟨.ref p, vs, p :: f', ft, rfl, rfl, r', c1.tm⟩, fun b => ?_, fun b m => ?_, c1.nwZ, fun b m => ?_, c1.le, c1.g0, c1.fr, c1.nw, c1.keep⟩
  · have := q.one b; have := n' b
    rw [List.count_append, List.count_cons] at *
    by_cases e : p = b
    · subst e
      simp only [beq_self_eq_true, if_true]
      omega
    · have : (p == b) = false := by simpa using e
      simp only [this, Bool.false_eq_true, if_false]
      omega
  · rcases m with m | m
    · exact q.nwO b (.inl m)
    · rcases List.mem_append.mp m with m | m
      · rcases List.mem_cons.mp m with m | m
        · exact .inl (m ▸ h0)
        · exact q.nwO b (.inr (List.mem_append_left _ (mem_count.mpr (Nat.lt_of_lt_of_le (mem_count.mp m) (n' b)))))
      · exact q.nwO b (.inr (List.mem_append_right _ m))
  · rcases m with m | m | m
    · exact q.off b (.inl m)
    · rcases List.mem_append.mp m with m | m
      · rcases List.mem_cons.mp m with m | m
        · rw [m]; exact gp
        · exact q.off b (.inr (.inl (List.mem_append_left _ (mem_count.mpr (Nat.lt_of_lt_of_le (mem_count.mp m) (n' b))))))
      · exact q.off b (.inr (.inl (List.mem_append_right _ m)))
    · exact q.off b (.inr (.inr m))
end Mw
namespace Mw
open PySem L2
/-! ### what code does, over the state -/
inductive R (α : Type) where
  | ok (a : α) | err (c : Str) (fs : List (Str × Option Nat × D)) | stuck
abbrev EnvS := List Sl
abbrev M (α : Type) := EnvS → R (α × EnvS)
def M.pure {α : Type} (a : α) : M α := fun e => .ok (a, e)
def M.bind {α β : Type} (f : M α) (g : α → M β) : M β := fun e => match f e with
  | .ok (a, e') => g a e'
  | .err c fs => .err c fs
  | .stuck => .stuck
def M.opt {α : Type} (x : Option α) : M α := fun e => match x with
  | some a => .ok (a, e)
  | none => .stuck
def FRep (args : List V) (G : Hp) : List (Str × Option Nat × D) → List (Str × V) → Prop
  | [], ys => ys = []
  | (x, j, d) :: r, ys => ∃ v s, ys = (x, v) :: s ∧ Rep G d v ∧ (∀ i, j = some i → args[i]? = some v) ∧ FRep args G r s
/-- how an error lies: its own dict at d holds its fields -/
structure ErrSt (Γ : Gr) (G H : Hp) (fs : List (Str × Option Nat × D)) (d : Addr) : Prop where
  le : Le Γ.tabs G H
  g0 : Same Γ.G0 G
  fr : ∀ a o, Γ.H0 a = some o → NT o → a ∉ Γ.fz → a ∉ Γ.fo → H a = some o
  nw : ∀ a, G a ≠ none → Γ.G0 a ≠ none ∨ Fre Γ.H0 a ∨ a ∈ Γ.fo
  keep : ∀ a o, Γ.H0 a = some o → NT o → ∃ o', H a = some o' ∧ NT o'
  new : Fre Γ.H0 d
  off : G d = none
  fld : ∃ ys, H d = some (.xd ys) ∧ FRep Γ.args G fs ys
def okE (mg : Str → Option Value) (E : XK) (Γ : Gr) (c : Str) (fs : List (Str × Option Nat × D)) : Prop :=
  ∀ C d G H, mg c = some (.ref C) → ErrSt Γ G H fs d → E (.ref C) (some d) H
section
variable (mg : Str → Option Value) (E : XK)
def post {α : Type} (Γ : Gr) (P : α → EnvS → Prop) : R (α × EnvS) → Prop
  | .ok (a, e) => P a e
  | .err c fs => okE mg E Γ c fs
  | .stuck => False
def tV (f : M T) : TE := fun σ H Q => ∃ Γ G env ts vs, Stt Γ G H env σ ts vs ∧ post mg E Γ (fun t e => ∀ v G' H', Stt Γ G' H' e σ (t :: ts) (v :: vs) → Q v H') (f env)
def tAs (f : M (List T)) : TA := fun σ H Q => ∃ Γ G env ts vs, Stt Γ G H env σ ts vs ∧
  post mg E Γ (fun l e => ∀ us G' H', l.length = us.length → Stt Γ G' H' e σ (l ++ ts) (us ++ vs) → Q us H') (f env)
def tBo (f : M Bool) : TT := fun σ H Q => ∃ Γ G env ts vs, Stt Γ G H env σ ts vs ∧ post mg E Γ (fun b e => ∀ G' H', Stt Γ G' H' e σ ts vs → Q b H') (f env)
end
section
variable {mg : Str → Option Value} {E : XK} {Γ : Gr}
theorem post_bind {α β : Type} {f : M α} {g : α → M β} {P : β → EnvS → Prop} {env : EnvS} (h : post mg E Γ P (M.bind f g env)) : post mg E Γ (fun a e => post mg E Γ P (g a e)) (f env) := by
  unfold M.bind at h
  cases q : f env with
  | ok x => rw [q] at h; exact h
  | err c fs => rw [q] at h; exact h
  | stuck => rw [q] at h; exact h
theorem post_mono {α : Type} {P P' : α → EnvS → Prop} {r : R (α × EnvS)} (h : post mg E Γ P r) (k : ∀ a e, P a e → P' a e) : post mg E Γ P' r := by
  cases r with
  | ok x => exact k _ _ h
  | err c fs => exact h
  | stuck => exact h
theorem post_opt {α : Type} {P : α → EnvS → Prop} {x : Option α} {env : EnvS} (h : post mg E Γ P (M.opt x env)) : ∃ a, x = some a ∧ P a env := by
  cases x with
  | none => exact h.elim
  | some a => exact ⟨a, rfl, h⟩
end
theorem PE.imp {X : Cx} {e : Expr} {t t' : TE} (h : PE X e t) (k : ∀ σ H Q, t' σ H Q → t σ H Q) : PE X e t' := ⟨fun pins s σ H Q I q => h.run pins s σ H Q I (k _ _ _ q)⟩
theorem PT.imp {X : Cx} {e : Expr} {t t' : TT} (h : PT X e t) (k : ∀ σ H Q, t' σ H Q → t σ H Q) : PT X e t' := ⟨fun pins s σ H Q I q => h.run pins s σ H Q I (k _ _ _ q)⟩
theorem PW.imp {X : Cx} {e : Expr} {t t' : TT} (h : PW X e t) (k : ∀ σ H Q, t' σ H Q → t σ H Q) : PW X e t' := ⟨fun w pins s σ H Q I q => h.run w pins s σ H Q I (k _ _ _ q)⟩
theorem PA.imp {X : Cx} {e : List Expr} {t t' : TA} (h : PA X e t) (k : ∀ σ H Q, t' σ H Q → t σ H Q) : PA X e t' := ⟨fun p pins s σ H Q I q => h.run p pins s σ H Q I (k _ _ _ q)⟩
theorem PS.imp {X : Cx} {e : Stmt} {t t' : TS} (h : PS X e t) (k : ∀ D σ H, t' D σ H → t D σ H) : PS X e t' := ⟨fun pins s σ H D I q => h.run pins s σ H D I (k _ _ _ q)⟩
theorem PSs.imp {X : Cx} {e : List Stmt} {t t' : TS} (h : PSs X e t) (k : ∀ D σ H, t' D σ H → t D σ H) : PSs X e t' := ⟨fun pins s σ H D I q => h.run pins s σ H D I (k _ _ _ q)⟩
abbrev PEv (X : Cx) (E : XK) (e : Expr) (f : M T) : Prop := PE X e (tV X.mg E f)
abbrev PAv (X : Cx) (E : XK) (es : List Expr) (f : M (List T)) : Prop := PA X es (tAs X.mg E f)
abbrev PTv (X : Cx) (E : XK) (e : Expr) (f : M Bool) : Prop := PT X e (tBo X.mg E f)
abbrev PWv (X : Cx) (E : XK) (e : Expr) (f : M Bool) : Prop := PW X e (tBo X.mg E f)
/-! ### constants and names -/
def M.con (d : D) : M T := fun e => .ok (.o (.val d), e)
def D.isSc : D → Bool
  | .non => true | .bl _ => true | .int _ => true | .str _ => true
  | _ => false
def M.var (i : Nat) : M T := fun e => match e[i]? with
  | some (.o (.val d)) => .ok (.o (.val d), e)
  | some (.o _) => .ok (.al i, e)
  | some (.p _ d) => if d.isSc then .ok (.o (.val d), e) else .ok (.al i, e)
  | some (.st _ _) => .ok (.al i, e)
  | _ => .stuck
section
variable {X : Cx} {E : XK} {pos : Pos}
theorem ev_con {e : Expr} {v : V} {d : D} (h : PE X e (tC v)) (r : ∀ G, Rep G d v) : PEv X E e (M.con d) := PE.imp h fun σ H Q ⟨Γ, G, env, ts, vs, S, q⟩ => q v G H (S.val (r G))
theorem ev_int {i j pos} : PEv X E (.Constant (.int i) j pos) (M.con (.int i)) := ev_con pe_int fun _ => rfl
theorem ev_bl {b j pos} : PEv X E (.Constant (.bool b) j pos) (M.con (.bl b)) := ev_con pe_bl fun _ => rfl
theorem ev_non {j pos} : PEv X E (.Constant .none j pos) (M.con .non) := ev_con pe_non fun _ => rfl
theorem ev_str {x j pos} : PEv X E (.Constant (.str x) j pos) (M.con (.str x)) := ev_con pe_str fun _ => rfl
/-- a slot's own thing, seen -/
theorem Stt.alias {Γ G H env σ ts vs} {i : Nat} {s : Sl} (S : Stt Γ G H env σ ts vs) (hi : env[i]? = some s) (hs : s ≠ .no) : ∃ v, σ[i]? = some (some v) ∧ Stt Γ G H env σ (.al i :: ts) (v :: vs) := by
  obtain ⟨fO, fZ, fT, q⟩ := S
  obtain ⟨w, fi, zi, h1, h2, h3, h4⟩ := q.reslot hi
  obtain ⟨v, ev⟩ : ∃ v, w = some v := by
    cases s with
    | no => exact absurd rfl hs
    | o o => obtain ⟨_, u, e, _⟩ := h2; exact ⟨u, e⟩
    | p j d => obtain ⟨_, _, u, e, _⟩ := h2; exact ⟨u, e⟩
    | st j z => obtain ⟨_, u, e, _⟩ := h2; exact ⟨u, e⟩
  subst ev
  exact ⟨v, h1, fO, fZ, fT, q.turn (ts' := .al i :: ts) (vs' := v :: vs) (fT' := [] ++ fT) ⟨v, vs, [], fT, rfl, rfl, ⟨rfl, h1⟩, q.tm⟩ fun a => Nat.le_refl _⟩
theorem ev_var {i : Nat} {x : Str} (hN : X.N[i]? = some x := by rfl) (hv : Vis X.env.scope x := by first | exact Or.inl rfl | exact Or.inr (Or.inl rfl) | exact Or.inr (Or.inr rfl)) (hd : (x == ("__debug__" : Str)) = false := by decide)
    (hcd : (x == ("__classdict__" : Str)) = false := by decide) : PEv X E (.Name x pos) (M.var i) := by
  refine PE.imp (pe_var hN hv hd hcd) fun σ H Q ⟨Γ, G, env, ts, vs, S, q⟩ => ?_
  unfold M.var at q
  have al : ∀ s, env[i]? = some s → s ≠ .no → post X.mg E Γ (fun t e => ∀ v G' H', Stt Γ G' H' e σ (t :: ts) (v :: vs) → Q v H') (.ok (.al i, env)) → tVar i σ H Q := fun s e ne q => by
    obtain ⟨v, hv, S'⟩ := S.alias e ne
    exact ⟨v, hv, q v G H S'⟩
  have vl : ∀ s d, env[i]? = some s → (s = .o (.val d) ∨ ∃ j, s = .p j d) → post X.mg E Γ (fun t e => ∀ v G' H', Stt Γ G' H' e σ (t :: ts) (v :: vs) → Q v H') (.ok (.o (.val d), env)) → tVar i σ H Q := fun s d e hs q => by
    obtain ⟨v, hv, r⟩ := S.read e hs
    exact ⟨v, hv, q v G H (S.val r)⟩
  cases e : env[i]? with
  | none => rw [e] at q; exact q.elim
  | some s =>
    rw [e] at q
    cases s with
    | no => exact q.elim
    | o o =>
      cases o with
      | val d => exact vl _ d e (.inl rfl) q
      | lst os => exact al _ e (fun z => nomatch z) q
      | tup os => exact al _ e (fun z => nomatch z) q
      | dct os => exact al _ e (fun z => nomatch z) q
    | p j d =>
      simp only at q
      split at q
      · exact vl _ d e (.inr ⟨j, rfl⟩) q
      · exact al _ e (fun z => nomatch z) q
    | st j z => exact al _ e (fun z => nomatch z) q
end
/-! ### what stands at a place -/
/-- the data behind a value laid by: is it ours to take, and what it is -/
def view (env : EnvS) : T → Option (Bool × O)
  | .o o => some (true, o)
  | .al i => match env[i]? with
    | some (.o o) => some (false, o)
    | some (.p _ d) => some (false, .val d)
    | _ => none
theorem Stt.see {Γ G H env σ ts vs t v b o} {A : List T} {vA : List V} (S : Stt Γ G H env σ (A ++ t :: ts) (vA ++ v :: vs)) (hl : A.length = vA.length) (h : view env t = some (b, o)) : ∃ f, ORep G H o v f := by
  cases t with
  | o o' =>
    have e : (true, o') = (b, o) := Option.some.inj h
    injection e with e1 e2
    subst e2
    exact (S.rot hl).top
  | al i =>
    have h : (match env[i]? with | some (.o o) => some (false, o) | some (.p _ d) => some (false, .val d) | _ => none) = some (b, o) := h
    have hv := (S.rot hl).topA
    cases e : env[i]? with
    | none => rw [e] at h; cases h
    | some s =>
      rw [e] at h
      cases s with
      | o o' =>
        have e' : (false, o') = (b, o) := Option.some.inj h
        injection e' with e1 e2
        subst e2
        obtain ⟨u, f, h1, h2⟩ := S.ownS e
        rw [hv] at h1
        injection h1 with h1
        injection h1 with h1
        subst h1
        exact ⟨f, h2⟩
      | p j d =>
        have e' : (false, O.val d) = (b, o) := Option.some.inj h
        injection e' with e1 e2
        subst e2
        obtain ⟨u, h1, h2⟩ := S.read e (.inr ⟨j, rfl⟩)
        rw [hv] at h1
        injection h1 with h1
        injection h1 with h1
        subst h1
        exact ⟨[], rfl, h2⟩
      | _ => cases h
theorem Stt.see0 {Γ G H env σ ts vs t v b o} (S : Stt Γ G H env σ (t :: ts) (v :: vs)) (h : view env t = some (b, o)) : ∃ f, ORep G H o v f := S.see (A := []) (vA := []) rfl h
theorem Stt.see1 {Γ G H env σ ts vs s u t v b o} (S : Stt Γ G H env σ (s :: t :: ts) (u :: v :: vs)) (h : view env t = some (b, o)) : ∃ f, ORep G H o v f := S.see (A := [s]) (vA := [u]) rfl h
theorem Stt.le {Γ G H env σ ts vs} (S : Stt Γ G H env σ ts vs) : Le Γ.tabs G H := let ⟨_, _, _, q⟩ := S; q.le
theorem Stt.pop2 {Γ G H env σ t ts v vs s u} (S : Stt Γ G H env σ (s :: t :: ts) (u :: v :: vs)) : Stt Γ G H env σ ts vs := S.pop.pop
/-- a plain value without parts may be laid by at any time -/
def D.toV : D → V
  | .non => .non | .bl b => .bl b | .int i => .int i | .str s => .str s
  | _ => .non
theorem rep_sc {d : D} (h : d.isSc = true) (G : Hp) : Rep G d d.toV := by
  cases d <;> first | rfl | cases h
theorem sc_rep {d : D} (h : d.isSc = true) {G : Hp} {v : V} (r : Rep G d v) : v = d.toV := by
  cases d <;> first | exact r | cases h
/-- a list's, a tuple's items -/
def O.lstOf : O → Option (List O)
  | .val (.lst ds) => some (ds.map O.val)
  | .lst os => some os
  | _ => none
def O.tupOf : O → Option (List O)
  | .val (.tup ds) => some (ds.map O.val)
  | .tup os => some os
  | _ => none
def O.dctOf : O → Option (List (Key × O))
  | .val (.dct ds) => some (ds.map fun p => (p.1, O.val p.2))
  | .dct os => some os
  | _ => none
theorem ORep.lstOf {tl : List (Addr × Str)} {G H : Hp} (l : Le tl G H) {o : O} {v : V} {f : List Addr} {os : List O} (r : ORep G H o v f) (h : o.lstOf = some os) : ∃ a xs f', v = .ref a ∧ H a = some (.lst xs) ∧ OReps G H os xs f' ∧ ∀ b, f'.count b ≤ f.count b := by
  cases o with
  | val d =>
    cases d with
    | lst ds =>
      obtain ⟨e, a, xs, ev, hG, rs⟩ := r
      have : os = ds.map O.val := (Option.some.inj h).symm
      subst this e
      exact ⟨a, xs, [], ev, l.lst hG, OReps.vals rs, fun _ => Nat.le_refl _⟩
    | _ => cases h
  | lst os' =>
    obtain ⟨a, xs, g, ev, ef, hH, rs⟩ := r
    have : os = os' := (Option.some.inj h).symm
    subst this ef
    exact ⟨a, xs, g, ev, hH, rs, fun b => by rw [List.count_cons]; omega⟩
  | _ => cases h
theorem ORep.tupOf {tl : List (Addr × Str)} {G H : Hp} (l : Le tl G H) {o : O} {v : V} {f : List Addr} {os : List O} (r : ORep G H o v f) (h : o.tupOf = some os) : ∃ a xs f', v = .ref a ∧ H a = some (.tup xs) ∧ OReps G H os xs f' ∧ ∀ b, f'.count b ≤ f.count b := by
  cases o with
  | val d =>
    cases d with
    | tup ds =>
      obtain ⟨e, a, xs, ev, hG, rs⟩ := r
      have : os = ds.map O.val := (Option.some.inj h).symm
      subst this e
      exact ⟨a, xs, [], ev, l.tup hG, OReps.vals rs, fun _ => Nat.le_refl _⟩
    | _ => cases h
  | tup os' =>
    obtain ⟨a, xs, g, ev, ef, hH, rs⟩ := r
    have : os = os' := (Option.some.inj h).symm
    subst this ef
    exact ⟨a, xs, g, ev, hH, rs, fun b => by rw [List.count_cons]; omega⟩
  | _ => cases h
theorem ORep.dctOf {tl : List (Addr × Str)} {G H : Hp} (l : Le tl G H) {o : O} {v : V} {f : List Addr} {os : List (Key × O)} (r : ORep G H o v f) (h : o.dctOf = some os) : ∃ a ys f', v = .ref a ∧ Rd H a (.dK ys) ∧ OKs G H os ys f' ∧ ∀ b, f'.count b ≤ f.count b := by
  cases o with
  | val d =>
    cases d with
    | dct ds =>
      obtain ⟨e, a, xs, ev, hG, rs⟩ := r
      have : os = ds.map fun p => (p.1, O.val p.2) := (Option.some.inj h).symm
      subst this e
      exact ⟨a, xs, [], ev, l.rdD hG, OKs.vals rs, fun _ => Nat.le_refl _⟩
    | _ => cases h
  | dct os' =>
    obtain ⟨a, xs, g, ev, ef, hH, rs⟩ := r
    have : os = os' := (Option.some.inj h).symm
    subst this ef
    exact ⟨a, xs, g, ev, .inl hH, rs, fun b => by rw [List.count_cons]; omega⟩
  | _ => cases h
theorem OReps.get {G H : Hp} : ∀ {os : List O} {vs : List V} {f : List Addr}, OReps G H os vs f → ∀ {i : Nat} {o : O}, os[i]? = some o → ∃ v f', vs[i]? = some v ∧ ORep G H o v f' ∧ ∀ b, f'.count b ≤ f.count b
  | [], _, _, _, i, o, e => by simp at e
  | _ :: _, _, _, ⟨v, r, f1, f2, e, ef, h, t⟩, 0, o, q => by
    simp at q; subst q
    exact ⟨v, f1, by rw [e]; rfl, h, fun b => by rw [ef, List.count_append]; omega⟩
  | _ :: _, _, _, ⟨v, r, f1, f2, e, ef, h, t⟩, i + 1, o, q => by
    obtain ⟨u, g, a, b, c⟩ := OReps.get t (i := i) (o := o) (by simpa using q)
    exact ⟨u, g, by rw [e]; simpa using a, b, fun x => by have := c x; rw [ef, List.count_append]; omega⟩
end Mw
namespace Mw
open PySem L2
/-! ### what holds where code stands -/
structure Ctx (X : Cx) (E : XK) : Prop where
  hu : X.A.units + 66 < cLine
  calm : X.calm = true
  nd : X.N.Nodup
  tk : Takes X (fun c d _ H => E c d H)
section
variable {X : Cx} {E : XK} {pos : Pos} {a b : Expr} {fa fb : M T}
/-! ### operators -/
/-- a two-place operation that changes nothing it is handed -/
def M.op2 (g : EnvS → T → T → Option O) (x y : M T) : M T := M.bind x fun s => M.bind y fun t => fun e => match g e s t with
  | some o => .ok (.o o, e)
  | none => .stuck
def Op2 (r : R2) (g : EnvS → T → T → Option O) : Prop := ∀ Γ G H env σ s t vs vt ts us o (Q : VK), Stt Γ G H env σ (t :: s :: ts) (vt :: vs :: us) → g env s t = some o →
  (∀ v G' H', Stt Γ G' H' env σ (.o o :: ts) (v :: us) → Q v H') → r vs vt H Q
theorem tV_op2 {mg : Str → Option Value} {r : R2} {g} (hr : Op2 r g) {σ : L2.St} {H : Hp} {Q : VK} (h : tV mg E (M.op2 g fa fb) σ H Q) : tOp r (tV mg E fa) (tV mg E fb) σ H Q := by
  obtain ⟨Γ, G, env, ts, vs, S, q⟩ := h
  refine ⟨Γ, G, env, ts, vs, S, post_mono (post_bind q) fun s e1 q1 v1 G1 H1 S1 => ?_⟩
  refine ⟨Γ, G1, e1, s :: ts, v1 :: vs, S1, post_mono (post_bind q1) fun t e2 q2 v2 G2 H2 S2 => ?_⟩
  cases e : g e2 s t with
  | none => rw [e] at q2; exact q2.elim
  | some o =>
    rw [e] at q2
    exact hr Γ G2 H2 e2 σ s t v1 v2 ts vs o Q S2 e q2
theorem ev_op2 {op : Operator} {r : R2} {g} (ho : OpR X (binaryOp op) r) (hr : Op2 r g) (ha : PEv X E a fa) (hb : PEv X E b fb) : PEv X E (.BinOp a op b pos) (M.op2 g fa fb) := PE.imp (pe_op ho ha hb) fun _ _ _ h => tV_op2 hr h
theorem Op2.or {r r' : R2} {g g'} (h : Op2 r g) (h' : Op2 r' g') : Op2 (fun x y H Q => r x y H Q ∨ r' x y H Q) (fun e s t => (g e s t).orElse fun _ => g' e s t) := by
  intro Γ G H env σ s t vs vt ts us o Q S e k
  cases q : g env s t with
  | some o' =>
    simp only [q, Option.orElse] at e
    injection e with e
    subst e
    exact .inl (h Γ G H env σ s t vs vt ts us o' Q S q k)
  | none =>
    simp only [q, Option.orElse] at e
    exact .inr (h' Γ G H env σ s t vs vt ts us o Q S e k)
/-- an operation on plain values without parts -/
def sc2 (g : D → D → Option D) : EnvS → T → T → Option O := fun _ s t => match s, t with
  | .o (.val x), .o (.val y) => (g x y).map O.val
  | _, _ => none
theorem Op2.sc {r : R2} {g : D → D → Option D} (h : ∀ x y d, g x y = some d → x.isSc = true ∧ y.isSc = true ∧ d.isSc = true ∧ ∀ H (Q : VK), Q d.toV H → r x.toV y.toV H Q) : Op2 r (sc2 g) := by
  intro Γ G H env σ s t vs vt ts us o Q S e k
  cases s with
  | al i => exact nomatch e
  | o x =>
    cases x with
    | val x =>
      cases t with
      | al i => exact nomatch e
      | o y =>
        cases y with
        | val y =>
          have e : (g x y).map O.val = some o := e
          cases q : g x y with
          | none => rw [q] at e; cases e
          | some d =>
            rw [q] at e
            have eo : O.val d = o := Option.some.inj e
            subst eo
            obtain ⟨hx, hy, hd, hr⟩ := h x y d q
            obtain ⟨f1, r1⟩ := S.see0 (b := true) (o := .val y) rfl
            obtain ⟨f2, r2⟩ := S.see1 (b := true) (o := .val x) rfl
            have e1 := sc_rep hy r1.2
            have e2 := sc_rep hx r2.2
            subst e1 e2
            exact hr H Q (k _ G H (S.pop2.val (rep_sc hd G)))
        | _ => exact nomatch e
    | _ => exact nomatch e
def gInt (f : Int → Int → Int) (C : Int → Int → Bool := fun _ _ => true) : D → D → Option D
  | .int i, .int j => if C i j then some (.int (f i j)) else none
  | _, _ => none
theorem gInt_some {f : Int → Int → Int} {C : Int → Int → Bool} {x y d : D} (h : gInt f C x y = some d) : ∃ i j, x = .int i ∧ y = .int j ∧ C i j = true ∧ d = .int (f i j) := by
  cases x with
  | int i =>
    cases y with
    | int j =>
      have h : (if C i j = true then some (D.int (f i j)) else none) = some d := h
      by_cases c : C i j = true
      · rw [if_pos c] at h; injection h with h; exact ⟨i, j, rfl, rfl, c, h.symm⟩
      · rw [if_neg c] at h; cases h
    | _ => cases h
  | _ => cases h
theorem Op2.int0 {f : Int → Int → Int} : Op2 (rI0 fun i j => .int (f i j)) (sc2 (gInt f)) := Op2.sc fun x y d h => by
  obtain ⟨i, j, rfl, rfl, _, rfl⟩ := gInt_some h
  exact ⟨rfl, rfl, rfl, fun H Q q => ⟨i, j, rfl, rfl, q⟩⟩
theorem Op2.intC {f : Int → Int → Int} {C : Int → Int → Prop} {c : Int → Int → Bool} (hc : ∀ i j, c i j = true → C i j) : Op2 (rI C fun i j => .int (f i j)) (sc2 (gInt f c)) := Op2.sc fun x y d h => by
  obtain ⟨i, j, rfl, rfl, k, rfl⟩ := gInt_some h
  exact ⟨rfl, rfl, rfl, fun H Q q => ⟨i, j, rfl, rfl, hc _ _ k, q⟩⟩
def cMul (i j : Int) : Bool := decide (i.natAbs < 2 ^ 64) || decide (j.natAbs < 2 ^ 64)
theorem cMul_ok (i j : Int) (h : cMul i j = true) : CMul i j := by
  unfold cMul at h
  rw [Bool.or_eq_true, decide_eq_true_eq, decide_eq_true_eq] at h
  rcases h with h | h
  · exact .inl (by omega)
  · exact .inr (by omega)
def cPos (_ j : Int) : Bool := decide (0 < j)
def cDiv (_ j : Int) : Bool := decide (0 < j ∧ j < 1073741824)
def cPow (i j : Int) : Bool := decide (0 ≤ j ∧ j ≤ 1000000 ∧ i.natAbs < 2 ^ 64)
/-! items that may be handed on -/
def O.isVal : O → Bool
  | .val _ => true
  | _ => false
/-- the items of a list (a tuple) laid by: ours if it was made for this, else plain ones alone -/
def kidsOf (of : O → Option (List O)) (e : EnvS) (t : T) : Option (List O) := match view e t with
  | some (true, o) => of o
  | some (false, o) => match of o with
    | some os => if os.all O.isVal then some os else none
    | none => none
  | none => none
def kidsL : EnvS → T → Option (List O) := kidsOf O.lstOf
def kidsT : EnvS → T → Option (List O) := kidsOf O.tupOf
theorem plain_os {G H : Hp} : ∀ {os : List O} {vs : List V} {f : List Addr}, OReps G H os vs f → os.all O.isVal = true → f = []
  | [], _, _, h, _ => h.2
  | .val d :: os, _, _, ⟨v, r, f1, f2, e, ef, h, t⟩, k => by
    rw [List.all_cons, Bool.and_eq_true] at k
    rw [ef, h.1, plain_os t k.2]
    rfl
  | .lst _ :: _, _, _, _, k => by simp [O.isVal] at k
  | .tup _ :: _, _, _, _, k => by simp [O.isVal] at k
  | .dct _ :: _, _, _, _, k => by simp [O.isVal] at k
/-- kinds of objects with items -/
structure Kd (of : O → Option (List O)) (mk : List V → HO) (cons : List O → O) : Prop where
  of : ∀ {tl : List (Addr × Str)} {G H : Hp}, Le tl G H → ∀ {o : O} {v : V} {f : List Addr} {os : List O}, ORep G H o v f → of o = some os → ∃ a xs f', v = .ref a ∧ H a = some (mk xs) ∧ OReps G H os xs f' ∧ ∀ b, f'.count b ≤ f.count b
  put : ∀ {G H : Hp} {os : List O} {xs : List V} {f : List Addr} {a : Addr}, H a = some (mk xs) → OReps G H os xs f → ORep G H (cons os) (.ref a) (a :: f)
  inj : ∀ {xs ys : List V}, mk xs = mk ys → xs = ys
theorem kL : Kd O.lstOf HO.lst O.lst := ⟨fun l _ _ _ _ r h => r.lstOf l h, fun h r => ⟨_, _, _, rfl, rfl, h, r⟩, fun e => HO.lst.inj e⟩
theorem kT : Kd O.tupOf HO.tup O.tup := ⟨fun l _ _ _ _ r h => r.tupOf l h, fun h r => ⟨_, _, _, rfl, rfl, h, r⟩, fun e => HO.tup.inj e⟩
theorem Stt.kids {of : O → Option (List O)} {mk : List V → HO} {cons : List O → O} (K : Kd of mk cons) {Γ G H env σ ts vs t v} {os : List O} {A : List T} {vA : List V} (S : Stt Γ G H env σ (A ++ t :: ts) (vA ++ v :: vs)) (hl : A.length = vA.length) (h : kidsOf of env t = some os) :
    ∃ a xs, v = .ref a ∧ H a = some (mk xs) ∧ (∃ f', OReps G H os xs f') ∧ ∀ f, TRep G H σ t v f → ∃ f', OReps G H os xs f' ∧ ∀ b, f'.count b ≤ f.count b := by
  unfold kidsOf at h
  cases q : view env t with
  | none => rw [q] at h; cases h
  | some p =>
    obtain ⟨bb, o⟩ := p
    rw [q] at h
    obtain ⟨f, r⟩ := S.see hl q
    cases bb with
    | true =>
      have h : of o = some os := h
      obtain ⟨a, xs, f', e, hH, rs, n⟩ := K.of S.le r h
      refine ⟨a, xs, e, hH, ⟨_, rs⟩, fun f2 r2 => ?_⟩
      cases t with
      | al i =>
        have q : (match env[i]? with | some (.o o) => some (false, o) | some (.p _ d) => some (false, .val d) | _ => none) = some (true, o) := q
        split at q <;> cases q
      | o o' =>
        have e' : (true, o') = (true, o) := Option.some.inj q
        injection e' with _ e'
        subst e'
        have r2 : ORep G H o' v f2 := r2
        obtain ⟨a2, xs2, f2', e2, hH2, rs2, n2⟩ := K.of S.le r2 h
        rw [e] at e2
        injection e2 with e2
        subst e2
        rw [hH] at hH2
        injection hH2 with hH2
        have := K.inj hH2
        subst this
        exact ⟨f2', rs2, n2⟩
    | false =>
      cases q2 : of o with
      | none => simp only [q2] at h; cases h
      | some os' =>
        simp only [q2] at h
        by_cases k : os'.all O.isVal = true
        · rw [if_pos k] at h
          injection h with h
          subst h
          obtain ⟨a, xs, f', e, hH, rs, n⟩ := K.of S.le r q2
          have ef := plain_os rs k
          subst ef
          exact ⟨a, xs, e, hH, ⟨_, rs⟩, fun f2 r2 => ⟨[], rs, fun b => Nat.zero_le _⟩⟩
        · rw [if_neg k] at h; cases h
/-- a new object over items -/
theorem Stt.fresh {of : O → Option (List O)} {mk : List V → HO} {cons : List O → O} (K : Kd of mk cons) {Γ G H env σ ts vs} {p : Addr} {os : List O} {xs : List V} {tp : List T} {vp : List V} (c : Stt Γ G H env σ (tp ++ ts) (vp ++ vs)) (hl : tp.length = vp.length) (hp : H p = none)
    (hr : ∀ fp, TReps G H σ tp vp fp → ∃ f', OReps G H os xs f' ∧ ∀ b, f'.count b ≤ fp.count b) : Stt Γ G (upd H p (mk xs)) env σ (.o (cons os) :: ts) (.ref p :: vs) :=
  c.node hl hp fun fp r => by
    obtain ⟨f', r', n⟩ := hr fp r
    exact ⟨f', K.put upd_same (r'.mono (Same.refl _) (.of_same (Same.upd hp))), n⟩
theorem TReps.two {G H : Hp} {σ : L2.St} {s t : T} {vs vt : V} {fp : List Addr} (r : TReps G H σ [t, s] [vt, vs] fp) : ∃ f1 f2, TRep G H σ t vt f1 ∧ TRep G H σ s vs f2 ∧ ∀ b, fp.count b = f1.count b + f2.count b := by
  obtain ⟨v, r', f1, f2, e, ef, h1, h2⟩ := r
  injection e with e1 e2
  subst e1 e2
  obtain ⟨v', r'', g1, g2, e', ef', h3, h4⟩ := h2
  injection e' with e1 e2
  subst e1 e2
  have := h4.2
  subst this ef ef'
  exact ⟨f1, g1, h1, h3, fun b => by simp [List.count_append]⟩
theorem TReps.oneV {G H : Hp} {σ : L2.St} {t : T} {vt : V} {fp : List Addr} (r : TReps G H σ [t] [vt] fp) : TRep G H σ t vt fp := by
  obtain ⟨v, r', f1, f2, e, ef, h1, h2⟩ := r
  injection e with e1 e2
  subst e1 e2
  have := h2.2
  subst this ef
  simpa using h1
def gCat (of : O → Option (List O)) (cons : List O → O) : EnvS → T → T → Option O := fun e s t => match kidsOf of e s, kidsOf of e t with
  | some xs, some ys => if xs.length + ys.length ≤ sizeLine then some (cons (xs ++ ys)) else none
  | _, _ => none
theorem Op2.cat : Op2 rCat (gCat O.lstOf O.lst) := by
  intro Γ G H env σ s t vs vt ts us o Q S e k
  unfold gCat at e
  split at e
  · rename_i xs ys e1 e2
    by_cases hz : xs.length + ys.length ≤ sizeLine
    · rw [if_pos hz] at e
      injection e with e
      subst e
      obtain ⟨b, vys, eb, hb, ⟨f1, r1⟩, g1⟩ := Stt.kids kL (A := []) (vA := []) S rfl e2
      obtain ⟨a, vxs, ea, ha, ⟨f2, r2⟩, g2⟩ := Stt.kids kL (A := [t]) (vA := [vt]) S rfl e1
      refine ⟨a, b, vxs, vys, ea, eb, ha, hb, by rw [← r1.length, ← r2.length]; exact hz, fun p hp => k _ G _ (Stt.fresh kL (tp := [t, s]) (vp := [vt, vs]) S rfl hp fun fp r => ?_)⟩
      obtain ⟨h1, h2, q1, q2, n⟩ := r.two
      obtain ⟨f1', r1', n1⟩ := g1 _ q1
      obtain ⟨f2', r2', n2⟩ := g2 _ q2
      exact ⟨f2' ++ f1', r2'.append r1', fun b => by have := n b; have := n1 b; have := n2 b; rw [List.count_append]; omega⟩
    · rw [if_neg hz] at e; cases e
  · cases e
def gStr (f : Str → Str → Str) : D → D → Option D
  | .str a, .str b => if a.length + b.length ≤ sizeLine then some (.str (f a b)) else none
  | _, _ => none
theorem Op2.addStr : Op2 (fun x y H Q => ∃ i j, x = .str i ∧ y = .str j ∧ i.length + j.length ≤ sizeLine ∧ Q (.str (i ++ j)) H) (sc2 (gStr fun a b => a ++ b)) := Op2.sc fun x y d h => by
  cases x with
  | str i =>
    cases y with
    | str j =>
      have h : (if i.length + j.length ≤ sizeLine then some (D.str (i ++ j)) else none) = some d := h
      by_cases c : i.length + j.length ≤ sizeLine
      · rw [if_pos c] at h; injection h with h; subst h; exact ⟨rfl, rfl, rfl, fun H Q q => ⟨i, j, rfl, rfl, c, q⟩⟩
      · rw [if_neg c] at h; cases h
    | _ => cases h
  | _ => cases h
/-- a + b -/
def gAdd : EnvS → T → T → Option O := fun e s t => (sc2 (gInt fun i j => i + j) e s t).orElse fun _ => (gCat O.lstOf O.lst e s t).orElse fun _ => sc2 (gStr fun a b => a ++ b) e s t
theorem ev_add (ha : PEv X E a fa) (hb : PEv X E b fb) : PEv X E (.BinOp a .Add b pos) (M.op2 gAdd fa fb) :=
  ev_op2 (OpR.or op_add (OpR.or op_cat op_add_str)) (Op2.or Op2.int0 (Op2.or Op2.cat Op2.addStr)) ha hb
def gSub := sc2 (gInt fun i j => i - j)
theorem ev_sub (ha : PEv X E a fa) (hb : PEv X E b fb) : PEv X E (.BinOp a .Sub b pos) (M.op2 gSub fa fb) := ev_op2 op_sub Op2.int0 ha hb
/-- a list so many times -/
def gRepL : EnvS → T → T → Option O := fun e s t => match kidsL e s, t with
  | some xs, .o (.val (.int k)) => if xs.all O.isVal && decide (-(2 ^ 63) ≤ k ∧ k < 2 ^ 63) && decide (xs.length * k.toNat ≤ sizeLine) then some (.lst (List.replicate k.toNat xs).flatten) else none
  | _, _ => none
theorem reps_flat {G H : Hp} {os : List O} {xs : List V} (r : OReps G H os xs []) : ∀ n : Nat, OReps G H (List.replicate n os).flatten (List.replicate n xs).flatten []
  | 0 => ⟨rfl, rfl⟩
  | n + 1 => by
    rw [List.replicate_succ, List.replicate_succ, List.flatten_cons, List.flatten_cons]
    exact r.append (reps_flat r n)
theorem Op2.repL : Op2 rRep gRepL := by
  intro Γ G H env σ s t vs vt ts us o Q S e k
  unfold gRepL at e
  split at e
  · rename_i xs n e1
    split at e
    · rename_i c
      simp only [Bool.and_eq_true, decide_eq_true_eq] at c
      obtain ⟨⟨c1, c2, c3⟩, c4⟩ := c
      injection e with e
      subst e
      obtain ⟨f1, r1⟩ := S.see0 (b := true) (o := .val (.int n)) rfl
      have ev : vt = .int n := r1.2
      obtain ⟨a, vxs, ea, ha, ⟨f2, r2⟩, g2⟩ := Stt.kids kL (A := [.o (.val (.int n))]) (vA := [vt]) S rfl e1
      have ef := plain_os r2 c1
      subst ef
      refine ⟨a, n, vxs, ea, ev, ha, c2, c3, by rw [← r2.length]; exact c4, fun p hp => k _ G _ (Stt.fresh kL (tp := [.o (.val (.int n)), s]) (vp := [vt, vs]) S rfl hp fun fp r => ?_)⟩
      exact ⟨[], reps_flat r2 _, fun _ => Nat.zero_le _⟩
    · cases e
  · cases e
def gMul : EnvS → T → T → Option O := fun e s t => (sc2 (gInt (fun i j => i * j) cMul) e s t).orElse fun _ => gRepL e s t
theorem ev_mul (ha : PEv X E a fa) (hb : PEv X E b fb) : PEv X E (.BinOp a .Mult b pos) (M.op2 gMul fa fb) := ev_op2 (OpR.or op_mul op_rep) (Op2.or (Op2.intC cMul_ok) Op2.repL) ha hb
def gMod := sc2 (gInt (fun i j => i % j) cPos)
theorem ev_mod (ha : PEv X E a fa) (hb : PEv X E b fb) : PEv X E (.BinOp a .Mod b pos) (M.op2 gMod fa fb) := ev_op2 op_mod (Op2.intC fun i j h => of_decide_eq_true h) ha hb
def gFdiv := sc2 (gInt (fun i j => i / j) cDiv)
theorem ev_fdiv (ha : PEv X E a fa) (hb : PEv X E b fb) : PEv X E (.BinOp a .FloorDiv b pos) (M.op2 gFdiv fa fb) := ev_op2 op_fdiv (Op2.intC fun i j h => (of_decide_eq_true h : 0 < j ∧ j < 1073741824)) ha hb
def gPow := sc2 (gInt (fun i j => i ^ j.toNat) cPow)
theorem ev_pow (ha : PEv X E a fa) (hb : PEv X E b fb) : PEv X E (.BinOp a .Pow b pos) (M.op2 gPow fa fb) := ev_op2 op_pow (Op2.intC fun i j h => (of_decide_eq_true h : 0 ≤ j ∧ j ≤ 1000000 ∧ i.natAbs < 2 ^ 64)) ha hb
/-- -a -/
def M.neg (x : M T) : M T := M.bind x fun s => fun e => match s with
  | .o (.val (.int i)) => .ok (.o (.val (.int (-i))), e)
  | _ => .stuck
theorem ev_neg (ha : PEv X E a fa) : PEv X E (.UnaryOp .USub a pos) (M.neg fa) := PE.imp (pe_un un_neg ha) fun σ H Q ⟨Γ, G, env, ts, vs, S, q⟩ => by
  refine ⟨Γ, G, env, ts, vs, S, post_mono (post_bind q) fun s e1 q1 v1 G1 H1 S1 => ?_⟩
  split at q1
  · rename_i i
    obtain ⟨f1, r1⟩ := S1.see0 (b := true) (o := .val (.int i)) rfl
    exact ⟨i, r1.2, q1 _ G1 H1 (S1.pop.val rfl)⟩
  · exact q1.elim
end
end Mw
namespace Mw
open PySem L2
/-! ### equality -/
mutual
def D.py : D → PyData
  | .non => .none | .bl b => .bool b | .int i => .int i | .str s => .str s
  | .lst xs => .list (D.pys xs) | .tup xs => .tuple (D.pys xs) | .dct _ => .dict []
def D.pys : List D → List PyData
  | [] => []
  | d :: r => d.py :: D.pys r
end
mutual
theorem Rep.dp {K : PySem.W.Frag} {tl : List (Addr × Str)} {G H : Hp} (l : Le tl G H) : ∀ {d : D} {v : V}, Rep G d v → d.py.canLay0 = true → Dp K H v d.py
  | .non, _, h, _ => by rw [show _ = _ from h]; exact .non
  | .bl _, _, h, _ => by rw [show _ = _ from h]; exact .bl _
  | .int _, _, h, _ => by rw [show _ = _ from h]; exact .int _
  | .str _, _, h, _ => by rw [show _ = _ from h]; exact .str _
  | .lst ds, _, ⟨a, xs, e, h, r⟩, k => by rw [e]; exact .lst (.inl (.inl (l.lst h))) (Reps.dp l r (by simpa [D.py, PyData.canLay0] using k))
  | .tup ds, _, ⟨a, xs, e, h, r⟩, k => by rw [e]; exact .tup (.inl (.inl (l.tup h))) (Reps.dp l r (by simpa [D.py, PyData.canLay0] using k))
  | .dct _, _, _, k => by simp [D.py, PyData.canLay0] at k
theorem Reps.dp {K : PySem.W.Frag} {tl : List (Addr × Str)} {G H : Hp} (l : Le tl G H) : ∀ {d : List D} {v : List V}, Reps G d v → PyData.canLayAll0 (D.pys d) = true → DpAll K H v (D.pys d)
  | [], _, h, _ => by rw [show _ = _ from h]; exact .nil
  | d :: ds, _, ⟨v, r, e, h, t⟩, k => by
    rw [e]
    have k : (d.py.canLay0 && PyData.canLayAll0 (D.pys ds)) = true := by simpa [D.pys, PyData.canLayAll0] using k
    rw [Bool.and_eq_true] at k
    exact .cons (Rep.dp l h k.1) (Reps.dp l t k.2)
end
/-- seen in the whole heap, all is plain -/
theorem ORep.dp {K : PySem.W.Frag} {tl : List (Addr × Str)} {G H : Hp} (l : Le tl G H) {o : O} {v : V} {f : List Addr} (r : ORep G H o v f) (hk : ∀ a ∈ f, G a = none) (k : o.toD.py.canLay0 = true) : Dp K H v o.toD.py := by
  let G' : Hp := fun a => if a ∈ f then H a else G a
  have sG : ∀ a o, G' a = some o → G a = some o ∨ (H a = some o ∧ NT o) := fun a o h => by
    have h : (if a ∈ f then H a else G a) = some o := h
    by_cases m : a ∈ f
    · rw [if_pos m] at h
      obtain ⟨o', e', w⟩ := r.trk a m
      rw [h] at e'
      have := Option.some.inj e'
      subst this
      exact .inr ⟨h, w.nt⟩
    · rw [if_neg m] at h; exact .inl h
  have s : Same G G' := fun a o h => by
    show (if a ∈ f then H a else G a) = some o
    by_cases m : a ∈ f
    · rw [hk a m] at h; cases h
    · rw [if_neg m]; exact h
  exact Rep.dp (l.add sG) (ORep.rep s (fun a m o h => by show (if a ∈ f then H a else G a) = some o; rw [if_pos m]; exact h) r) k
theorem Stt.seeG {Γ G H env σ ts vs t v b o} {A : List T} {vA : List V} (S : Stt Γ G H env σ (A ++ t :: ts) (vA ++ v :: vs)) (hl : A.length = vA.length) (h : view env t = some (b, o)) : ∃ f, ORep G H o v f ∧ ∀ a ∈ f, G a = none := by
  have S1 := S.rot hl
  cases t with
  | o o' =>
    have e : (true, o') = (b, o) := Option.some.inj h
    injection e with e1 e2
    subst e2
    obtain ⟨_, _, _, q⟩ := S1
    obtain ⟨v', vr, f1, f2, e1, e2, h1, h2⟩ := q.tm
    injection e1 with e3 e4
    subst e3
    exact ⟨f1, h1, fun a m => q.off a (.inr (.inl (by rw [e2]; exact List.mem_append_left _ m)))⟩
  | al i =>
    have h : (match env[i]? with | some (.o o) => some (false, o) | some (.p _ d) => some (false, .val d) | _ => none) = some (b, o) := h
    have hv := S1.topA
    cases e : env[i]? with
    | none => rw [e] at h; cases h
    | some s =>
      rw [e] at h
      cases s with
      | o o' =>
        have e' : (false, o') = (b, o) := Option.some.inj h
        injection e' with e1 e2
        subst e2
        obtain ⟨fO, fZ, fT, q⟩ := S1
        obtain ⟨w, fi, zi, fr, zr, h1, h2, h3, h4, h5⟩ := q.sl.at e
        obtain ⟨e0, u, ev, h2⟩ := h2
        rw [hv] at h1
        injection h1 with h1
        subst ev
        injection h1 with h1
        subst h1
        exact ⟨fi, h2, fun a m => q.off a (.inl (mem_count.mpr (by have := h3 a; have := mem_count.mp m; omega)))⟩
      | p j d =>
        have e' : (false, O.val d) = (b, o) := Option.some.inj h
        injection e' with e1 e2
        subst e2
        obtain ⟨u, h1, h2⟩ := S1.read e (.inr ⟨j, rfl⟩)
        rw [hv] at h1
        injection h1 with h1
        injection h1 with h1
        subst h1
        exact ⟨[], ⟨rfl, h2⟩, fun _ m => nomatch m⟩
      | _ => cases h
def eqS : D → D → Option Bool
  | .int i, .int j => some (i == j) | .str a, .str b => some (a == b) | .bl a, .bl b => some (a == b) | .non, .non => some true
  | .non, .int _ => some false | .int _, .non => some false | .non, .bl _ => some false | .bl _, .non => some false | .non, .str _ => some false | .str _, .non => some false
  | .int _, .str _ => some false | .str _, .int _ => some false | .bl _, .str _ => some false | .str _, .bl _ => some false
  | _, _ => none
theorem eqS_ok : ∀ {x y : D} {k : Bool}, eqS x y = some k → x.isSc = true ∧ y.isSc = true ∧ scal x.toV y.toV = true ∧ decide (x.toV = y.toV) = k := by
  intro x y k h
  cases x <;> cases y <;> first
    | (cases h <;> done)
    | (have h := Option.some.inj h; subst h; exact ⟨rfl, rfl, rfl, dec_int⟩)
    | (have h := Option.some.inj h; subst h; exact ⟨rfl, rfl, rfl, dec_str⟩)
    | (have h := Option.some.inj h; subst h; exact ⟨rfl, rfl, rfl, dec_bl⟩)
    | (have h := Option.some.inj h; subst h; exact ⟨rfl, rfl, rfl, by simp [D.toV]⟩)
def eqD (x y : D) : Option Bool := match eqS x y with
  | some k => some k
  | none => if SeqAt.shaped x.py && SeqAt.shaped y.py then some (PyData.eqv x.py y.py) else none
def gEq (neg : Bool) : EnvS → T → T → Option O := fun e s t => match view e s, view e t with
  | some (_, a), some (_, b) => match eqD a.toD b.toD with
    | some k => some (.val (.bl (if neg then !k else k)))
    | none => none
  | _, _ => none
section
variable {X : Cx} {E : XK} {pos : Pos} {a b : Expr} {fa fb : M T}
theorem toD_val {o : O} {G H : Hp} {v : V} {f : List Addr} (h : o.toD.isSc = true) (r : ORep G H o v f) : Rep G o.toD v := by
  cases o with
  | val d => exact r.2
  | lst os => cases h
  | tup os => cases h
  | dct os => cases h
theorem Op2.eq (neg : Bool) {K : PySem.W.Frag} : Op2 (fun x y H Q => (scal x y = true ∧ Q (.bl (if neg then !decide (x = y) else decide (x = y))) H) ∨
    ∃ d e, Dp K H x d ∧ Dp K H y e ∧ SeqAt.shaped d = true ∧ SeqAt.shaped e = true ∧ Q (.bl (if neg then !PyData.eqv d e else PyData.eqv d e)) H) (gEq neg) := by
  intro Γ G H env σ s t vs vt ts us o Q S e k
  unfold gEq at e
  split at e
  · rename_i b1 oa b2 ob e1 e2
    split at e
    · rename_i kk e3
      injection e with e
      subst e
      obtain ⟨f1, r1, g1⟩ := Stt.seeG (A := []) (vA := []) S rfl e2
      obtain ⟨f2, r2, g2⟩ := Stt.seeG (A := [t]) (vA := [vt]) S rfl e1
      have fin : ∀ z, Q (.bl z) H ∨ True := fun _ => .inr trivial
      have go : Q (.bl (if neg then !kk else kk)) H := k _ G H (S.pop2.val rfl)
      unfold eqD at e3
      split at e3
      · rename_i k' e4
        injection e3 with e3
        subst e3
        obtain ⟨h1, h2, h3, h4⟩ := eqS_ok e4
        have q1 := sc_rep h2 (toD_val h2 r1)
        have q2 := sc_rep h1 (toD_val h1 r2)
        left
        rw [q1, q2, h4]
        exact ⟨h3, go⟩
      · split at e3
        · rename_i c
          rw [Bool.and_eq_true] at c
          injection e3 with e3
          subst e3
          right
          exact ⟨_, _, ORep.dp S.le r2 g2 (SeqAt.canLay_of_shaped c.1), ORep.dp S.le r1 g1 (SeqAt.canLay_of_shaped c.2), c.1, c.2, go⟩
        · cases e3
    · cases e
  · cases e
theorem oeq (c : Ctx X E) : OpR X (compareOp .Eq) (fun x y H Q => (scal x y = true ∧ Q (.bl (if false then !decide (x = y) else decide (x = y))) H) ∨
    ∃ d e, Dp X.K H x d ∧ Dp X.K H y e ∧ SeqAt.shaped d = true ∧ SeqAt.shaped e = true ∧ Q (.bl (if false then !PyData.eqv d e else PyData.eqv d e)) H) := OpR.or op_eq (op_eqD (by have := c.hu; omega))
theorem one (c : Ctx X E) : OpR X (compareOp .NotEq) (fun x y H Q => (scal x y = true ∧ Q (.bl (if true then !decide (x = y) else decide (x = y))) H) ∨
    ∃ d e, Dp X.K H x d ∧ Dp X.K H y e ∧ SeqAt.shaped d = true ∧ SeqAt.shaped e = true ∧ Q (.bl (if true then !PyData.eqv d e else PyData.eqv d e)) H) := OpR.or op_ne (op_neD (by have := c.hu; omega))
/-! ### order -/
def gCmp (f : Int → Int → Bool) (g : Str → Str → Bool) : D → D → Option D
  | .int i, .int j => some (.bl (f i j))
  | .str a, .str b => some (.bl (g a b))
  | _, _ => none
theorem Op2.cmp {f : Int → Int → Bool} {g : Str → Str → Bool} : Op2 (fun x y H Q => (rI0 (fun i j => .bl (f i j)) x y H Q) ∨ ∃ i j, x = .str i ∧ y = .str j ∧ Q (.bl (g i j)) H) (sc2 (gCmp f g)) := Op2.sc fun x y d h => by
  cases x with
  | int i =>
    cases y with
    | int j => have h := Option.some.inj h; subst h; exact ⟨rfl, rfl, rfl, fun H Q q => .inl ⟨i, j, rfl, rfl, q⟩⟩
    | _ => cases h
  | str i =>
    cases y with
    | str j => have h := Option.some.inj h; subst h; exact ⟨rfl, rfl, rfl, fun H Q q => .inr ⟨i, j, rfl, rfl, q⟩⟩
    | _ => cases h
  | _ => cases h
def gLt := sc2 (gCmp (fun i j => decide (i < j)) fun i j => decide (i.cps.toList < j.cps.toList))
def gLe := sc2 (gCmp (fun i j => decide (i ≤ j)) fun i j => !decide (j.cps.toList < i.cps.toList))
def gGt := sc2 (gCmp (fun i j => decide (j < i)) fun i j => decide (j.cps.toList < i.cps.toList))
def gGe := sc2 (gCmp (fun i j => decide (j ≤ i)) fun i j => !decide (i.cps.toList < j.cps.toList))
/-! ### in -/
def O.seqOf (o : O) : Option (List O) := match o.lstOf with
  | some os => some os
  | none => o.tupOf
def inO (d : D) (y : O) : Option Bool := match y.seqOf with
  | some os => if d.isSc && os.all (fun o => o.toD.isSc) then some (os.any (fun o => eqV o.toD.toV d.toV)) else none
  | none => match y.dctOf, d with
    | some kvs, .str z => some (kvs.any fun p => decide (p.1 = Sum.inr z))
    | some kvs, .int z => some (kvs.any fun p => decide (p.1 = Sum.inl z))
    | _, _ => none
def gIn (neg : Bool) : EnvS → T → T → Option O := fun e s t => match view e s, view e t with
  | some (_, x), some (_, y) => match inO x.toD y with
    | some k => some (.val (.bl (if neg then !k else k)))
    | none => none
  | _, _ => none
theorem OReps.sc {G H : Hp} : ∀ {os : List O} {vs : List V} {f : List Addr}, OReps G H os vs f → os.all (fun o => o.toD.isSc) = true → vs = os.map fun o => o.toD.toV
  | [], _, _, h, _ => h.1
  | o :: os, _, _, ⟨v, r, f1, f2, e, ef, h, t⟩, k => by
    rw [List.all_cons, Bool.and_eq_true] at k
    rw [e, t.sc k.2, sc_rep k.1 (toD_val k.1 h)]
    rfl
theorem flat_sc {d : D} (h : d.isSc = true) : flatV d.toV = true := by cases d <;> first | rfl | cases h
theorem ORep.seqOf {tl : List (Addr × Str)} {G H : Hp} (l : Le tl G H) {o : O} {v : V} {f : List Addr} {os : List O} {K : PySem.W.Frag} (r : ORep G H o v f) (h : o.seqOf = some os) : ∃ a xs f', v = .ref a ∧ (SqL K H a xs ∨ SqT K H a xs) ∧ OReps G H os xs f' := by
  unfold O.seqOf at h
  split at h
  · rename_i os' e
    injection h with h
    subst h
    obtain ⟨a, xs, f', ev, hH, rs, _⟩ := r.lstOf l e
    exact ⟨a, xs, f', ev, .inl (.inl (.inl hH)), rs⟩
  · obtain ⟨a, xs, f', ev, hH, rs, _⟩ := r.tupOf l h
    exact ⟨a, xs, f', ev, .inr (.inl (.inl hH)), rs⟩
theorem OKs.keys {G H : Hp} : ∀ {os : List (Key × O)} {vs : List (Key × V)} {f : List Addr}, OKs G H os vs f → ∀ k : Key, os.any (fun p => decide (p.1 = k)) = (valV vs k).isSome
  | [], _, _, h, k => by rw [h.1]; rfl
  | (x, o) :: os, _, _, ⟨v, r, f1, f2, e, ef, h, t⟩, k => by
    rw [e, List.any_cons]
    by_cases c : x = k
    · rw [valV_pos (p := (x, v)) c, decide_eq_true c]; rfl
    · rw [valV_neg (p := (x, v)) c, decide_eq_false c, Bool.false_or]; exact t.keys k
def rInA (K : PySem.W.Frag) (neg : Bool) : R2 := fun x y H Q => rIn K neg x y H Q ∨ ∃ a o, y = .ref a ∧ DGet H a x o ∧ Q (.bl (if neg then !o.isSome else o.isSome)) H
theorem oin (c : Ctx X E) : OpR X (compareOp .In) (rInA X.K false) := OpR.or op_in_seq (by
  intro pins s σ H x y v u Q I rx ry h
  obtain ⟨a, o, ey, g, q⟩ := h
  subst ey
  obtain rfl : u = Value.ref a := ry
  exact d_in (by have := c.hu; omega) I g rx fun s' I' => ⟨.bl o.isSome, H, I', rfl, q⟩)
theorem onotin (c : Ctx X E) : OpR X (compareOp .NotIn) (rInA X.K true) := OpR.or op_notIn_seq (by
  intro pins s σ H x y v u Q I rx ry h
  obtain ⟨a, o, ey, g, q⟩ := h
  subst ey
  obtain rfl : u = Value.ref a := ry
  exact d_notIn (by have := c.hu; omega) I g rx fun s' I' => ⟨.bl (!o.isSome), H, I', rfl, q⟩)
theorem Op2.inn (neg : Bool) {K : PySem.W.Frag} : Op2 (rInA K neg) (gIn neg) := by
  intro Γ G H env σ s t vs vt ts us o Q S e k
  unfold gIn at e
  split at e
  · rename_i b1 ox b2 oy e1 e2
    obtain ⟨f1, r1⟩ := S.see0 e2
    obtain ⟨f2, r2⟩ := S.see1 e1
    split at e
    · rename_i kk e3
      injection e with e
      subst e
      have go : Q (.bl (if neg then !kk else kk)) H := k _ G H (S.pop2.val rfl)
      unfold inO at e3
      split at e3
      · rename_i os e4
        split at e3
        · rename_i c
          rw [Bool.and_eq_true] at c
          injection e3 with e3
          subst e3
          obtain ⟨a, xs, f', ev, hs, rs⟩ := r1.seqOf (K := K) S.le e4
          have q2 := sc_rep c.1 (toD_val c.1 r2)
          have q1 := rs.sc c.2
          subst q1
          left
          refine ⟨a, _, ev, hs, by rw [q2]; exact flat_sc c.1, ?_, ?_⟩
          · rw [List.all_map, List.all_eq_true]
            intro z m
            exact flat_sc (List.all_eq_true.mp c.2 z m)
          · unfold inV
            rw [q2, List.any_map]
            exact go
        · cases e3
      · have key : ∀ kvs z, oy.dctOf = some kvs → ox.toD.toV = kV z → ox.toD.isSc = true → some (kvs.any (fun p => decide (p.1 = z))) = some kk → rInA K neg vs vt H Q := fun kvs z e4 ez hsc e => by
          obtain ⟨a, ys, f', ev, hd, rs, _⟩ := r1.dctOf S.le e4
          right
          injection e with e
          refine ⟨a, valV ys z, ev, .inl ⟨ys, z, hd, ?_, rfl⟩, ?_⟩
          · rw [← ez]; exact sc_rep hsc (toD_val hsc r2)
          · rw [← rs.keys z, e]
            exact go
        split at e3
        · rename_i kvs z e4 e5
          exact key kvs (.inr z) e4 (by rw [e5]; rfl) (by rw [e5]; rfl) e3
        · rename_i kvs z e4 e5
          exact key kvs (.inl z) e4 (by rw [e5]; rfl) (by rw [e5]; rfl) e3
        · cases e3
    · cases e
  · cases e
/-! the comparisons, one by one -/
theorem ev_cmp {op : CmpOp} {r : R2} {g} (ho : OpR X (compareOp op) r) (hr : Op2 r g) (ha : PEv X E a fa) (hb : PEv X E b fb) (hm : behindInMarks op b = false) : PEv X E (.Compare a [op] [b] pos) (M.op2 g fa fb) := PE.imp (pe_cmpR ho ha hb hm) fun _ _ _ h => tV_op2 hr h
theorem ev_eq (c : Ctx X E) (ha : PEv X E a fa) (hb : PEv X E b fb) : PEv X E (.Compare a [.Eq] [b] pos) (M.op2 (gEq false) fa fb) := ev_cmp (oeq c) (Op2.eq false) ha hb (nomark _)
theorem ev_ne (c : Ctx X E) (ha : PEv X E a fa) (hb : PEv X E b fb) : PEv X E (.Compare a [.NotEq] [b] pos) (M.op2 (gEq true) fa fb) := ev_cmp (one c) (Op2.eq true) ha hb (nomark _)
theorem olt : OpR X (compareOp .Lt) (fun x y H Q => (rI0 (fun i j => .bl (decide (i < j))) x y H Q) ∨ ∃ i j, x = .str i ∧ y = .str j ∧ Q (.bl (decide (i.cps.toList < j.cps.toList))) H) := OpR.or op_lt op_lt_str
theorem ole : OpR X (compareOp .LtE) (fun x y H Q => (rI0 (fun i j => .bl (decide (i ≤ j))) x y H Q) ∨ ∃ i j, x = .str i ∧ y = .str j ∧ Q (.bl (!decide (j.cps.toList < i.cps.toList))) H) := OpR.or op_le op_le_str
theorem ogt : OpR X (compareOp .Gt) (fun x y H Q => (rI0 (fun i j => .bl (decide (j < i))) x y H Q) ∨ ∃ i j, x = .str i ∧ y = .str j ∧ Q (.bl (decide (j.cps.toList < i.cps.toList))) H) := OpR.or op_gt op_gt_str
theorem oge : OpR X (compareOp .GtE) (fun x y H Q => (rI0 (fun i j => .bl (decide (j ≤ i))) x y H Q) ∨ ∃ i j, x = .str i ∧ y = .str j ∧ Q (.bl (!decide (i.cps.toList < j.cps.toList))) H) := OpR.or op_ge op_ge_str
theorem ev_lt (ha : PEv X E a fa) (hb : PEv X E b fb) : PEv X E (.Compare a [.Lt] [b] pos) (M.op2 gLt fa fb) := ev_cmp olt Op2.cmp ha hb (nomark _)
theorem ev_le (ha : PEv X E a fa) (hb : PEv X E b fb) : PEv X E (.Compare a [.LtE] [b] pos) (M.op2 gLe fa fb) := ev_cmp ole Op2.cmp ha hb (nomark _)
theorem ev_gt (ha : PEv X E a fa) (hb : PEv X E b fb) : PEv X E (.Compare a [.Gt] [b] pos) (M.op2 gGt fa fb) := ev_cmp ogt Op2.cmp ha hb (nomark _)
theorem ev_ge (ha : PEv X E a fa) (hb : PEv X E b fb) : PEv X E (.Compare a [.GtE] [b] pos) (M.op2 gGe fa fb) := ev_cmp oge Op2.cmp ha hb (nomark _)
theorem ev_in (c : Ctx X E) (ha : PEv X E a fa) (hb : PEv X E b fb) (hm : behindInMarks .In b = false := by with_unfolding_all rfl) : PEv X E (.Compare a [.In] [b] pos) (M.op2 (gIn false) fa fb) := ev_cmp (oin c) (Op2.inn false) ha hb hm
theorem ev_notin (c : Ctx X E) (ha : PEv X E a fa) (hb : PEv X E b fb) (hm : behindInMarks .NotIn b = false := by with_unfolding_all rfl) : PEv X E (.Compare a [.NotIn] [b] pos) (M.op2 (gIn true) fa fb) := ev_cmp (onotin c) (Op2.inn true) ha hb hm
/-- is None -/
def M.isN (neg : Bool) (f : M T) : M T := M.bind f fun t => fun e => match t with
  | .o (.val .non) => .ok (.o (.val (.bl (!neg))), e)
  | .o _ => .ok (.o (.val (.bl neg)), e)
  | .al _ => .ok (.o (.val (.bl neg)), e)
end
end Mw
namespace Mw
open PySem L2
section
variable {X : Cx} {E : XK} {pos : Pos} {a b c : Expr} {fa fb fc : M T} {rest : List Expr}
def O.isNon : O → Bool
  | .val .non => true
  | _ => false
theorem is_non {o : O} {G H : Hp} {v : V} {f : List Addr} (r : ORep G H o v f) : decide (v = .non) = o.isNon := by
  cases o with
  | val d =>
    obtain ⟨_, r⟩ := r
    cases d with
    | non => have e : v = _ := r; subst e; rfl
    | bl x => have e : v = _ := r; subst e; rfl
    | int x => have e : v = _ := r; subst e; rfl
    | str x => have e : v = _ := r; subst e; rfl
    | lst x => obtain ⟨a, xs, e, _⟩ := r; subst e; rfl
    | tup x => obtain ⟨a, xs, e, _⟩ := r; subst e; rfl
    | dct x => obtain ⟨a, xs, e, _⟩ := r; subst e; rfl
  | lst x => obtain ⟨a, xs, g, e, _⟩ := r; subst e; rfl
  | tup x => obtain ⟨a, xs, g, e, _⟩ := r; subst e; rfl
  | dct x => obtain ⟨a, xs, g, e, _⟩ := r; subst e; rfl
def isNonT (env : EnvS) (t : T) : Option Bool := match view env t with
  | some (_, o) => some o.isNon
  | none => none
def M.isNone (neg : Bool) (f : M T) : M T := M.bind f fun t => fun e => match isNonT e t with
  | some k => .ok (.o (.val (.bl (if neg then !k else k))), e)
  | none => .stuck
theorem isNonT_ok {Γ G H env σ ts vs t v k} (S : Stt Γ G H env σ (t :: ts) (v :: vs)) (h : isNonT env t = some k) : decide (v = .non) = k := by
  unfold isNonT at h
  cases q : view env t with
  | none => rw [q] at h; cases h
  | some p =>
    obtain ⟨bb, o⟩ := p
    rw [q] at h
    obtain ⟨f, r⟩ := S.see0 q
    rw [is_non r]
    exact Option.some.inj h
theorem ev_isN {j p2} (ha : PEv X E a fa) : PEv X E (.Compare a [.Is] [.Constant .none j p2] pos) (M.isNone false fa) := PE.imp (pe_cmp (pc_isN ha) rfl) fun σ H Q ⟨Γ, G, env, ts, vs, S, q⟩ => by
  refine ⟨Γ, G, env, ts, vs, S, post_mono (post_bind q) fun s e1 q1 v1 G1 H1 S1 => ?_⟩
  cases e : isNonT e1 s with
  | none => rw [e] at q1; exact q1.elim
  | some k =>
    rw [e] at q1
    rw [isNonT_ok S1 e]
    exact q1 _ G1 H1 (S1.pop.val rfl)
theorem ev_notN {j p2} (ha : PEv X E a fa) : PEv X E (.Compare a [.IsNot] [.Constant .none j p2] pos) (M.isNone true fa) := PE.imp (pe_cmp (pc_notN ha) rfl) fun σ H Q ⟨Γ, G, env, ts, vs, S, q⟩ => by
  refine ⟨Γ, G, env, ts, vs, S, post_mono (post_bind q) fun s e1 q1 v1 G1 H1 S1 => ?_⟩
  cases e : isNonT e1 s with
  | none => rw [e] at q1; exact q1.elim
  | some k =>
    rw [e] at q1
    rw [isNonT_ok S1 e]
    exact q1 _ G1 H1 (S1.pop.val rfl)
/-! ### truth -/
def truth (env : EnvS) (t : T) : Option Bool := match view env t with
  | some (_, o) => match o with
    | .val .non => some false
    | .val (.bl b) => some b
    | .val (.int i) => some (i != 0)
    | .val (.str s) => if s.length ≤ sizeLine then some ((s.length : Int) != 0) else none
    | .val (.lst ds) => some (!ds.isEmpty)
    | .val (.tup ds) => some (!ds.isEmpty)
    | .lst ds => some (!ds.isEmpty)
    | .tup ds => some (!ds.isEmpty)
    | .dct ds => some (!ds.isEmpty)
    | _ => none
  | none => none
theorem emp_of {α β : Type} {l : List α} {r : List β} (h : l.length = r.length) : l.isEmpty = r.isEmpty := by cases l <;> cases r <;> first | rfl | simp at h
theorem truth_ok {Γ G H env σ ts vs t v k} {K : PySem.W.Frag} (S : Stt Γ G H env σ (t :: ts) (v :: vs)) (h : truth env t = some k) : TruV K v H k := by
  unfold truth at h
  cases q : view env t with
  | none => rw [q] at h; cases h
  | some p =>
    obtain ⟨bb, o⟩ := p
    simp only [q] at h
    obtain ⟨f, r⟩ := S.see0 q
    cases o with
    | val d =>
      have r := r.2
      cases d with
      | non => rw [show v = _ from r]; exact (Option.some.inj h).symm
      | bl x => rw [show v = _ from r]; exact (Option.some.inj h).symm
      | int x => rw [show v = _ from r]; exact (Option.some.inj h).symm
      | str x =>
        rw [show v = _ from r]
        have h : (if x.length ≤ sizeLine then some ((x.length : Int) != 0) else none) = some k := h
        by_cases c : x.length ≤ sizeLine
        · rw [if_pos c] at h; exact ⟨c, (Option.some.inj h).symm⟩
        · rw [if_neg c] at h; cases h
      | lst x =>
        obtain ⟨a, xs, e, hG, rs⟩ := r
        rw [e]
        exact .inl ⟨xs, .inl (.inl (S.le.lst hG)), by rw [← emp_of rs.length]; exact (Option.some.inj h).symm⟩
      | tup x =>
        obtain ⟨a, xs, e, hG, rs⟩ := r
        rw [e]
        exact .inr (.inl ⟨xs, .inl (.inl (S.le.tup hG)), by rw [← emp_of rs.length]; exact (Option.some.inj h).symm⟩)
      | dct x => cases h
    | lst x =>
      obtain ⟨a, xs, g, e, ef, hH, rs⟩ := r
      rw [e]
      exact .inl ⟨xs, .inl (.inl hH), by rw [← emp_of rs.length]; exact (Option.some.inj h).symm⟩
    | tup x =>
      obtain ⟨a, xs, g, e, ef, hH, rs⟩ := r
      rw [e]
      exact .inr (.inl ⟨xs, .inl (.inl hH), by rw [← emp_of rs.length]; exact (Option.some.inj h).symm⟩)
    | dct x =>
      obtain ⟨a, xs, g, e, ef, hH, rs⟩ := r
      rw [e]
      exact .inr (.inr ⟨xs, hH, by rw [← emp_of rs.length]; exact (Option.some.inj h).symm⟩)
/-- a value as a test -/
def M.tst (f : M T) : M Bool := M.bind f fun t => fun e => match truth e t with
  | some k => .ok (k, e)
  | none => .stuck
theorem tBo_tst {mg} {σ H Q} (h : tBo mg E (M.tst fa) σ H Q) {K : PySem.W.Frag} : tV mg E fa σ H fun x H' => ∃ k, TruV K x H' k ∧ Q k H' := by
  obtain ⟨Γ, G, env, ts, vs, S, q⟩ := h
  refine ⟨Γ, G, env, ts, vs, S, post_mono (post_bind q) fun t e1 q1 v1 G1 H1 S1 => ?_⟩
  cases e : truth e1 t with
  | none => rw [e] at q1; exact q1.elim
  | some k =>
    rw [e] at q1
    exact ⟨k, truth_ok S1 e, q1 G1 H1 S1.pop⟩
/-- any expression but and, or, not, a comparison -/
theorem et_truth (ha : PEv X E a fa) (he : ∀ whole, isTrue a X.env whole = (do let v ← whole; standAt a.pos; holding [v] (truthy v)) := by intro _; rfl) : PTv X E a (M.tst fa) :=
  PT.imp (pt_truth ha he) fun σ H Q h => tBo_tst h
def M.op2b (g : EnvS → T → T → Option O) (x y : M T) : M Bool := M.bind x fun s => M.bind y fun t => fun e => match g e s t with
  | some (.val (.bl k)) => .ok (k, e)
  | _ => .stuck
theorem et_cmp {op : CmpOp} {r : R2} {g} (ho : OpR X (compareOp op) r) (hr : Op2 r g) (ha : PEv X E a fa) (hb : PEv X E b fb) (hm : behindInMarks op b = false) :
    PTv X E (.Compare a [op] [b] pos) (M.op2b g fa fb) := PT.imp (pt_cmpR ho ha hb hm) fun σ H Q ⟨Γ, G, env, ts, vs, S, q⟩ => by
  refine ⟨Γ, G, env, ts, vs, S, post_mono (post_bind q) fun s e1 q1 v1 G1 H1 S1 => ?_⟩
  refine ⟨Γ, G1, e1, s :: ts, v1 :: vs, S1, post_mono (post_bind q1) fun t e2 q2 v2 G2 H2 S2 => ?_⟩
  split at q2
  · rename_i k e
    refine hr Γ G2 H2 e2 σ s t v1 v2 ts vs _ _ S2 e fun v G' H' S' => ?_
    obtain ⟨f, r⟩ := S'.see0 (b := true) (o := .val (.bl k)) rfl
    exact ⟨k, r.2, q2 G' H' S'.pop⟩
  · exact q2.elim
theorem et_eq (c : Ctx X E) (ha : PEv X E a fa) (hb : PEv X E b fb) : PTv X E (.Compare a [.Eq] [b] pos) (M.op2b (gEq false) fa fb) := et_cmp (oeq c) (Op2.eq false) ha hb (nomark _)
theorem et_ne (c : Ctx X E) (ha : PEv X E a fa) (hb : PEv X E b fb) : PTv X E (.Compare a [.NotEq] [b] pos) (M.op2b (gEq true) fa fb) := et_cmp (one c) (Op2.eq true) ha hb (nomark _)
theorem et_lt (ha : PEv X E a fa) (hb : PEv X E b fb) : PTv X E (.Compare a [.Lt] [b] pos) (M.op2b gLt fa fb) := et_cmp olt Op2.cmp ha hb (nomark _)
theorem et_le (ha : PEv X E a fa) (hb : PEv X E b fb) : PTv X E (.Compare a [.LtE] [b] pos) (M.op2b gLe fa fb) := et_cmp ole Op2.cmp ha hb (nomark _)
theorem et_gt (ha : PEv X E a fa) (hb : PEv X E b fb) : PTv X E (.Compare a [.Gt] [b] pos) (M.op2b gGt fa fb) := et_cmp ogt Op2.cmp ha hb (nomark _)
theorem et_ge (ha : PEv X E a fa) (hb : PEv X E b fb) : PTv X E (.Compare a [.GtE] [b] pos) (M.op2b gGe fa fb) := et_cmp oge Op2.cmp ha hb (nomark _)
theorem et_in (c : Ctx X E) (ha : PEv X E a fa) (hb : PEv X E b fb) (hm : behindInMarks .In b = false := by with_unfolding_all rfl) : PTv X E (.Compare a [.In] [b] pos) (M.op2b (gIn false) fa fb) := et_cmp (oin c) (Op2.inn false) ha hb hm
theorem et_notin (c : Ctx X E) (ha : PEv X E a fa) (hb : PEv X E b fb) (hm : behindInMarks .NotIn b = false := by with_unfolding_all rfl) : PTv X E (.Compare a [.NotIn] [b] pos) (M.op2b (gIn true) fa fb) := et_cmp (onotin c) (Op2.inn true) ha hb hm
def M.isNoneB (neg : Bool) (f : M T) : M Bool := M.bind f fun t => fun e => match isNonT e t with
  | some k => .ok (if neg then !k else k, e)
  | none => .stuck
theorem et_isN {j p2} (ha : PEv X E a fa) : PTv X E (.Compare a [.Is] [.Constant .none j p2] pos) (M.isNoneB false fa) := PT.imp (pt_cmp (pc_isN ha) rfl) fun σ H Q ⟨Γ, G, env, ts, vs, S, q⟩ => by
  refine ⟨Γ, G, env, ts, vs, S, post_mono (post_bind q) fun s e1 q1 v1 G1 H1 S1 => ?_⟩
  cases e : isNonT e1 s with
  | none => rw [e] at q1; exact q1.elim
  | some k =>
    rw [e] at q1
    rw [isNonT_ok S1 e]
    exact ⟨_, rfl, q1 G1 H1 S1.pop⟩
theorem et_notN {j p2} (ha : PEv X E a fa) : PTv X E (.Compare a [.IsNot] [.Constant .none j p2] pos) (M.isNoneB true fa) := PT.imp (pt_cmp (pc_notN ha) rfl) fun σ H Q ⟨Γ, G, env, ts, vs, S, q⟩ => by
  refine ⟨Γ, G, env, ts, vs, S, post_mono (post_bind q) fun s e1 q1 v1 G1 H1 S1 => ?_⟩
  cases e : isNonT e1 s with
  | none => rw [e] at q1; exact q1.elim
  | some k =>
    rw [e] at q1
    rw [isNonT_ok S1 e]
    exact ⟨_, rfl, q1 G1 H1 S1.pop⟩
/-! a op b op c -/
def M.chain (g g' : EnvS → T → T → Option O) (x y z : M T) : M T := M.bind x fun s => M.bind y fun t => fun e => match g e s t with
  | some (.val (.bl true)) => M.bind z (fun u e => match g' e t u with
    | some o => .ok (.o o, e)
    | none => .stuck) e
  | some (.val (.bl false)) => .ok (.o (.val (.bl false)), e)
  | _ => .stuck
theorem sc2_run {r : R2} {g : D → D → Option D} (h : ∀ x y d, g x y = some d → x.isSc = true ∧ y.isSc = true ∧ d.isSc = true ∧ ∀ H (Q : VK), Q d.toV H → r x.toV y.toV H Q)
    {Γ G H env σ s t vs vt ts us o} (S : Stt Γ G H env σ (t :: s :: ts) (vt :: vs :: us)) (e : sc2 g env s t = some o) : ∃ d, o = .val d ∧ ∀ Q : VK, Q d.toV H → r vs vt H Q := by
  cases s with
  | al i => exact nomatch e
  | o x =>
    cases x with
    | val x =>
      cases t with
      | al i => exact nomatch e
      | o y =>
        cases y with
        | val y =>
          have e : (g x y).map O.val = some o := e
          cases q : g x y with
          | none => rw [q] at e; cases e
          | some d =>
            rw [q] at e
            have eo : O.val d = o := Option.some.inj e
            obtain ⟨hx, hy, hd, hr⟩ := h x y d q
            obtain ⟨f1, r1⟩ := S.see0 (b := true) (o := .val y) rfl
            obtain ⟨f2, r2⟩ := S.see1 (b := true) (o := .val x) rfl
            have e1 := sc_rep hy r1.2
            have e2 := sc_rep hx r2.2
            subst e1 e2
            exact ⟨d, eo.symm, fun Q z => hr H Q z⟩
        | _ => exact nomatch e
    | _ => exact nomatch e
theorem cmpF {f : Int → Int → Bool} {g : Str → Str → Bool} : ∀ x y d, gCmp f g x y = some d → x.isSc = true ∧ y.isSc = true ∧ d.isSc = true ∧ ∀ H (Q : VK), Q d.toV H →
    (fun x y H Q => (rI0 (fun i j => .bl (f i j)) x y H Q) ∨ ∃ i j, x = .str i ∧ y = .str j ∧ Q (.bl (g i j)) H : R2) x.toV y.toV H Q := fun x y d h => by
  cases x with
  | int i =>
    cases y with
    | int j => have h := Option.some.inj h; subst h; exact ⟨rfl, rfl, rfl, fun H Q q => .inl ⟨i, j, rfl, rfl, q⟩⟩
    | _ => cases h
  | str i =>
    cases y with
    | str j => have h := Option.some.inj h; subst h; exact ⟨rfl, rfl, rfl, fun H Q q => .inr ⟨i, j, rfl, rfl, q⟩⟩
    | _ => cases h
  | _ => cases h
/-- a comparison that leaves its operands where they are -/
def Op2k (r : R2) (g : EnvS → T → T → Option O) : Prop := ∀ {Γ G H env σ s t vs vt ts us k}, Stt Γ G H env σ (t :: s :: ts) (vt :: vs :: us) → g env s t = some (.val (.bl k)) → ∀ Q : VK, Q (.bl k) H → r vs vt H Q
theorem Op2k.cmp {f : Int → Int → Bool} {g : Str → Str → Bool} : Op2k (fun x y H Q => (rI0 (fun i j => .bl (f i j)) x y H Q) ∨ ∃ i j, x = .str i ∧ y = .str j ∧ Q (.bl (g i j)) H) (sc2 (gCmp f g)) := fun S e Q q => by
  obtain ⟨d, ed, h⟩ := sc2_run (r := fun x y H Q => (rI0 (fun i j => .bl (f i j)) x y H Q) ∨ ∃ i j, x = .str i ∧ y = .str j ∧ Q (.bl (g i j)) H) cmpF S e
  injection ed with ed
  subst ed
  exact h Q q
theorem tV_chain {mg : Str → Option Value} {r r' : R2} {g g'} (hr : Op2k r g) (hr' : Op2 r' g') {σ : L2.St} {H : Hp} {Q : VK} (h : tV mg E (M.chain g g' fa fb fc) σ H Q) : tChain r r' (tV mg E fa) (tV mg E fb) (tV mg E fc) σ H Q := by
  obtain ⟨Γ, G, env, ts, vs, S, q⟩ := h
  refine ⟨Γ, G, env, ts, vs, S, post_mono (post_bind q) fun s e1 q1 v1 G1 H1 S1 => ?_⟩
  refine ⟨Γ, G1, e1, s :: ts, v1 :: vs, S1, post_mono (post_bind q1) fun t e2 q2 v2 G2 H2 S2 => ?_⟩
  split at q2
  · rename_i e
    refine hr S2 e _ ⟨true, rfl, ?_⟩
    rw [if_pos rfl]
    refine ⟨Γ, G2, e2, t :: s :: ts, v2 :: v1 :: vs, S2, post_mono (post_bind q2) fun u e3 q3 v3 G3 H3 S3 => ?_⟩
    cases e' : g' e3 t u with
    | none => rw [e'] at q3; exact q3.elim
    | some o =>
      rw [e'] at q3
      refine hr' Γ G3 H3 e3 σ t u v2 v3 (s :: ts) (v1 :: vs) o Q S3 e' fun v G' H' S' => q3 v G' H' ?_
      exact (Stt.rot (A := [.o o]) (vA := [v]) S' rfl).pop
  · rename_i e
    refine hr S2 e _ ⟨false, rfl, ?_⟩
    rw [if_neg Bool.false_ne_true]
    exact q2 _ G2 H2 (S2.pop2.val rfl)
  · exact q2.elim
theorem ev_chain {op op' : CmpOp} {r r' : R2} {g g'} (ho : OpR X (compareOp op) r) (ho' : OpR X (compareOp op') r') (hr : Op2k r g) (hr' : Op2 r' g') (ha : PEv X E a fa) (hb : PEv X E b fb) (hc : PEv X E c fc)
    (hm : lastMarks [op, op'] [b, c] = false := by with_unfolding_all rfl) : PEv X E (.Compare a [op, op'] [b, c] pos) (M.chain g g' fa fb fc) := PE.imp (pe_chain ho ho' ha hb hc hm) fun σ H Q h => tV_chain hr hr' h
def M.bB (f : M T) : M Bool := M.bind f fun t => fun e => match t with
  | .o (.val (.bl k)) => .ok (k, e)
  | _ => .stuck
theorem tBo_bB {mg} {σ H Q} (h : tBo mg E (M.bB fa) σ H Q) : tV mg E fa σ H fun x H' => ∃ k, x = .bl k ∧ Q k H' := by
  obtain ⟨Γ, G, env, ts, vs, S, q⟩ := h
  refine ⟨Γ, G, env, ts, vs, S, post_mono (post_bind q) fun t e1 q1 v1 G1 H1 S1 => ?_⟩
  split at q1
  · rename_i k
    obtain ⟨f, r⟩ := S1.see0 (b := true) (o := .val (.bl k)) rfl
    exact ⟨k, r.2, q1 G1 H1 S1.pop⟩
  · exact q1.elim
theorem et_chain {op op' : CmpOp} {r r' : R2} {g g'} (ho : OpR X (compareOp op) r) (ho' : OpR X (compareOp op') r') (hr : Op2k r g) (hr' : Op2 r' g') (ha : PEv X E a fa) (hb : PEv X E b fb) (hc : PEv X E c fc)
    (hm : lastMarks [op, op'] [b, c] = false := by with_unfolding_all rfl) : PTv X E (.Compare a [op, op'] [b, c] pos) (M.bB (M.chain g g' fa fb fc)) := PT.imp (pt_chain ho ho' ha hb hc hm) fun σ H Q h => by
  have z := tBo_bB h
  obtain ⟨Γ, G, env, ts, vs, S, q⟩ := z
  exact tV_chain hr hr' ⟨Γ, G, env, ts, vs, S, q⟩
/-! ### and, or, not -/
variable {fA fB : M Bool}
def M.andB (x y : M Bool) : M Bool := M.bind x fun k => if k then y else M.pure false
def M.orB (x y : M Bool) : M Bool := M.bind x fun k => if k then M.pure true else y
def M.notB (x : M Bool) : M Bool := M.bind x fun k => M.pure (!k)
theorem ew_and1 (ha : PTv X E a fA) : PWv X E (.BoolOp .And [a] pos) fA := pw_and1 ha
theorem ew_or1 (ha : PTv X E a fA) : PWv X E (.BoolOp .Or [a] pos) fA := pw_or1 ha
theorem ew_and (ha : PTv X E a fA) (hb : PWv X E (.BoolOp .And (b :: rest) pos) fB) : PWv X E (.BoolOp .And (a :: b :: rest) pos) (M.andB fA fB) := PW.imp (pw_and ha hb) fun σ H Q ⟨Γ, G, env, ts, vs, S, q⟩ => by
  refine ⟨Γ, G, env, ts, vs, S, post_mono (post_bind q) fun k e1 q1 G1 H1 S1 => ?_⟩
  cases k with
  | true => exact ⟨Γ, G1, e1, ts, vs, S1, q1⟩
  | false => exact q1 G1 H1 S1
theorem ew_or (ha : PTv X E a fA) (hb : PWv X E (.BoolOp .Or (b :: rest) pos) fB) : PWv X E (.BoolOp .Or (a :: b :: rest) pos) (M.orB fA fB) := PW.imp (pw_or ha hb) fun σ H Q ⟨Γ, G, env, ts, vs, S, q⟩ => by
  refine ⟨Γ, G, env, ts, vs, S, post_mono (post_bind q) fun k e1 q1 G1 H1 S1 => ?_⟩
  cases k with
  | true => exact q1 G1 H1 S1
  | false => exact ⟨Γ, G1, e1, ts, vs, S1, q1⟩
theorem et_w {e : Expr} (h : PWv X E e fA) : PTv X E e fA := h.pt
theorem et_not (ha : PTv X E a fA) : PTv X E (.UnaryOp .Not a pos) (M.notB fA) := PT.imp (pt_not ha) fun σ H Q ⟨Γ, G, env, ts, vs, S, q⟩ =>
  ⟨Γ, G, env, ts, vs, S, post_mono (post_bind q) fun k e1 q1 G1 H1 S1 => q1 G1 H1 S1⟩
/-! .. as values -/
def M.andV (x y : M T) : M T := M.bind x fun t => fun e => match truth e t with
  | some true => y e
  | some false => .ok (t, e)
  | none => .stuck
def M.orV (x y : M T) : M T := M.bind x fun t => fun e => match truth e t with
  | some true => .ok (t, e)
  | some false => y e
  | none => .stuck
def M.notV (x : M T) : M T := M.bind x fun t => fun e => match truth e t with
  | some k => .ok (.o (.val (.bl (!k))), e)
  | none => .stuck
theorem ev_one {op} (h : PEv X E a fa) : PEv X E (.BoolOp op [a] pos) fa := pe_one h
theorem ev_and (ha : PEv X E a fa) (hb : PEv X E (.BoolOp .And (b :: rest) pos) fb) : PEv X E (.BoolOp .And (a :: b :: rest) pos) (M.andV fa fb) := PE.imp (pe_andT ha hb) fun σ H Q ⟨Γ, G, env, ts, vs, S, q⟩ => by
  refine ⟨Γ, G, env, ts, vs, S, post_mono (post_bind q) fun t e1 q1 v1 G1 H1 S1 => ?_⟩
  cases e : truth e1 t with
  | none => rw [e] at q1; exact q1.elim
  | some k =>
    rw [e] at q1
    refine ⟨k, truth_ok S1 e, ?_⟩
    cases k with
    | true => exact ⟨Γ, G1, e1, ts, vs, S1.pop, q1⟩
    | false => exact q1 v1 G1 H1 S1
theorem ev_or (ha : PEv X E a fa) (hb : PEv X E (.BoolOp .Or (b :: rest) pos) fb) : PEv X E (.BoolOp .Or (a :: b :: rest) pos) (M.orV fa fb) := PE.imp (pe_orT ha hb) fun σ H Q ⟨Γ, G, env, ts, vs, S, q⟩ => by
  refine ⟨Γ, G, env, ts, vs, S, post_mono (post_bind q) fun t e1 q1 v1 G1 H1 S1 => ?_⟩
  cases e : truth e1 t with
  | none => rw [e] at q1; exact q1.elim
  | some k =>
    rw [e] at q1
    refine ⟨k, truth_ok S1 e, ?_⟩
    cases k with
    | false => exact ⟨Γ, G1, e1, ts, vs, S1.pop, q1⟩
    | true => exact q1 v1 G1 H1 S1
theorem ev_not (ha : PEv X E a fa) : PEv X E (.UnaryOp .Not a pos) (M.notV fa) := PE.imp (pe_notT ha) fun σ H Q ⟨Γ, G, env, ts, vs, S, q⟩ => by
  refine ⟨Γ, G, env, ts, vs, S, post_mono (post_bind q) fun t e1 q1 v1 G1 H1 S1 => ?_⟩
  cases e : truth e1 t with
  | none => rw [e] at q1; exact q1.elim
  | some k =>
    rw [e] at q1
    exact ⟨k, truth_ok S1 e, q1 _ G1 H1 (S1.pop.val rfl)⟩
/-- a if t else b -/
def M.ite (t : M Bool) (x y : M T) : M T := M.bind t fun k => if k then x else y
theorem ev_ite {t : Expr} (ht : PTv X E t fA) (ha : PEv X E a fa) (hb : PEv X E b fb) : PEv X E (.IfExp t a b pos) (M.ite fA fa fb) := PE.imp (pe_ifExp ht ha hb) fun σ H Q ⟨Γ, G, env, ts, vs, S, q⟩ => by
  refine ⟨Γ, G, env, ts, vs, S, post_mono (post_bind q) fun k e1 q1 G1 H1 S1 => ?_⟩
  cases k with
  | true => exact ⟨Γ, G1, e1, ts, vs, S1, q1⟩
  | false => exact ⟨Γ, G1, e1, ts, vs, S1, q1⟩
end
end Mw
namespace Mw
open PySem L2
section
variable {X : Cx} {E : XK} {pos : Pos} {a b c : Expr} {fa fb fc : M T} {es rest : List Expr}
/-! ### subscripts -/
theorem OReps.atI {G H : Hp} {os : List O} {xs : List V} {f : List Addr} (r : OReps G H os xs f) {i : Int} {o : O} (h : atI os i = some o) : ∃ v f', atI xs i = some v ∧ ORep G H o v f' ∧ ∀ b, f'.count b ≤ f.count b := by
  unfold L2.atI at h ⊢
  rw [← r.length]
  cases e : ixN os.length i with
  | none => rw [e] at h; cases h
  | some j =>
    rw [e] at h
    obtain ⟨v, f', h1, h2, h3⟩ := r.get (i := j) (o := o) h
    exact ⟨v, f', h1, h2, h3⟩
theorem Reps.atI {G : Hp} {os : List D} {xs : List V} (r : Reps G os xs) {i : Int} {o : D} (h : atI os i = some o) : ∃ v, atI xs i = some v ∧ Rep G o v := by
  unfold L2.atI at h ⊢
  rw [← r.length]
  cases e : ixN os.length i with
  | none => rw [e] at h; cases h
  | some j =>
    rw [e] at h
    exact r.get (i := j) (d := o) h
def findK {α : Type} (kvs : List (Key × α)) (k : Key) : Option α := (kvs.find? fun p => decide (p.1 = k)).map (·.2)
theorem RepKs.find {G : Hp} : ∀ {os : List (Key × D)} {vs : List (Key × V)}, RepKs G os vs → ∀ {k : Key} {d : D}, findK os k = some d → ∃ v, valV vs k = some v ∧ Rep G d v
  | [], _, _, k, d, e => by simp [findK] at e
  | (x, o) :: os, _, ⟨v, r, e, h, t⟩, k, d, q => by
    rw [e]
    by_cases c : x = k
    · rw [valV_pos (p := (x, v)) c]
      have : findK ((x, o) :: os) k = some o := by simp [findK, List.find?_cons, c]
      rw [this] at q
      injection q with q
      subst q
      exact ⟨v, rfl, h⟩
    · rw [valV_neg (p := (x, v)) c]
      have : findK ((x, o) :: os) k = findK os k := by simp [findK, List.find?_cons, c]
      rw [this] at q
      exact t.find q
theorem OKs.find {G H : Hp} : ∀ {os : List (Key × O)} {vs : List (Key × V)} {f : List Addr}, OKs G H os vs f → ∀ {k : Key} {d : O}, findK os k = some d → ∃ v f', valV vs k = some v ∧ ORep G H d v f' ∧ ∀ b, f'.count b ≤ f.count b
  | [], _, _, _, k, d, e => by simp [findK] at e
  | (x, o) :: os, _, _, ⟨v, r, f1, f2, e, ef, h, t⟩, k, d, q => by
    rw [e]
    by_cases c : x = k
    · rw [valV_pos (p := (x, v)) c]
      have : findK ((x, o) :: os) k = some o := by simp [findK, List.find?_cons, c]
      rw [this] at q
      injection q with q
      subst q
      exact ⟨v, f1, rfl, h, fun b => by rw [ef, List.count_append]; omega⟩
    · rw [valV_neg (p := (x, v)) c]
      have : findK ((x, o) :: os) k = findK os k := by simp [findK, List.find?_cons, c]
      rw [this] at q
      obtain ⟨w, f', h1, h2, h3⟩ := t.find q
      exact ⟨w, f', h1, h2, fun b => by have := h3 b; rw [ef, List.count_append]; omega⟩
def mine (own : Bool) : Option O → Option O
  | some o => if own || o.isVal then some o else none
  | none => none
def ixO (own : Bool) : O → D → Option O
  | .val (.lst ds), .int k => (atI ds k).map O.val
  | .val (.tup ds), .int k => (atI ds k).map O.val
  | .val (.str z), .int k => if z.length ≤ sizeLine then (atI z.cps.toList k).map fun c => .val (.str ⟨#[c]⟩) else none
  | .val (.dct kvs), .int k => (findK kvs (.inl k)).map O.val
  | .val (.dct kvs), .str k => (findK kvs (.inr k)).map O.val
  | .lst os, .int k => mine own (atI os k)
  | .tup os, .int k => mine own (atI os k)
  | .dct kvs, .int k => mine own (findK kvs (.inl k))
  | .dct kvs, .str k => mine own (findK kvs (.inr k))
  | _, _ => none
def gIx : EnvS → T → T → Option O := fun e s t => match view e s, t with
  | some (own, o), .o (.val d) => ixO own o d
  | _, _ => none
def rDct : R2 := fun x y H Q => ∃ a v, x = .ref a ∧ DGet H a y (some v) ∧ Q v H
theorem ix_dct (c : Ctx X E) : IxR X rDct := by
  intro value slice pins s σ H x y v u Q I rx ry h hs
  obtain ⟨a, w, ex, g, q⟩ := h
  subst ex
  obtain rfl : v = Value.ref a := rx
  exact PyProof.Rows.tail_any (dict_typeIs I g) PySem.F.slot_dict_getitem.lookup (d_getItem (by have := c.hu; omega) I g ry fun w' s' I' rw' => ⟨w, H, I', rw', q⟩) hs
theorem mine_some {own : Bool} {x : Option O} {o : O} (h : mine own x = some o) : x = some o ∧ (own = true ∨ o.isVal = true) := by
  unfold mine at h
  cases x with
  | none => cases h
  | some o' =>
    simp only at h
    split at h
    · rename_i c
      injection h with h
      subst h
      exact ⟨rfl, by simpa using c⟩
    · cases h
theorem val_f {G H : Hp} {o : O} {v : V} {f : List Addr} (r : ORep G H o v f) (h : o.isVal = true) : f = [] := by
  cases o with
  | val d => exact r.1
  | _ => cases h
/-- what is read out of the second value laid by takes the place of both -/
theorem Stt.pick {Γ G H env σ s t ts vs' vt us v own o o'} {f' : List Addr} (S : Stt Γ G H env σ (t :: s :: ts) (vt :: vs' :: us)) (hv : view env s = some (own, o))
    (h : ∀ f, ORep G H o vs' f → ∃ f', ORep G H o' v f' ∧ ∀ b, f'.count b ≤ f.count b) (ho : own = true ∨ o'.isVal = true) : Stt Γ G H env σ (.o o' :: ts) (v :: us) := by
  have S' := S
  obtain ⟨fO, fZ, fT, q⟩ := S
  obtain ⟨f0, r0⟩ := S'.see1 hv
  obtain ⟨x, y, f1, f2, e1, e2, h1, h2⟩ := TReps.split (a := [t, s]) q.tm
  have ex : x = [vt, vs'] ∧ y = us := by
    have hx := h1.len
    match x, hx with
    | [x1, x2], _ => injection e1 with e3 e4; injection e4 with e4 e5; subst e3 e4 e5; exact ⟨rfl, rfl⟩
  obtain ⟨ex, ey⟩ := ex
  subst ex ey e2
  obtain ⟨g1, g2, k1, k2, n⟩ := h1.two
  rcases ho with ho | ho
  · subst ho
    cases s with
    | al i =>
      have hv : (match env[i]? with | some (.o o) => some (false, o) | some (.p _ d) => some (false, .val d) | _ => none) = some (true, o) := hv
      split at hv <;> cases hv
    | o o2 =>
      have e' : (true, o2) = (true, o) := Option.some.inj hv
      injection e' with _ e'
      subst e'
      obtain ⟨f', r', n'⟩ := h g2 k2
      exact ⟨_, _, _, q.turn (ts' := .o o' :: ts) (vs' := v :: y) (fT' := f' ++ f2) ⟨v, y, f', f2, rfl, rfl, r', h2⟩ fun b => by have := n b; have := n' b; rw [List.count_append, List.count_append]; omega⟩
  · obtain ⟨f', r', n'⟩ := h f0 r0
    have := val_f r' ho
    subst this
    exact ⟨_, _, _, q.turn (ts' := .o o' :: ts) (vs' := v :: y) (fT' := [] ++ f2) ⟨v, y, [], f2, rfl, rfl, r', h2⟩ fun b => by rw [List.count_append, List.count_append]; simp⟩
theorem Op2.ix {K : PySem.W.Frag} : Op2 (fun x y H Q => rIx K x y H Q ∨ rDct x y H Q) gIx := by
  intro Γ G H env σ s t vs vt ts us o' Q S e k
  unfold gIx at e
  split at e
  · rename_i own o d e1
    obtain ⟨f0, r0⟩ := S.see0 (b := true) (o := .val d) rfl
    obtain ⟨f1, r1⟩ := S.see1 e1
    have rd := r0.2
    have pk : ∀ v, (∀ f, ORep G H o vs f → ∃ f', ORep G H o' v f' ∧ ∀ b, f'.count b ≤ f.count b) → (own = true ∨ o'.isVal = true) → Q v H := fun v h ho => k v G H (S.pick (f' := []) e1 h ho)
    have isv : ∀ (d' : D), (O.val d').isVal = true := fun _ => rfl
    have plain : ∀ (d' : D) (v : V), o' = .val d' → Rep G d' v → Q v H := fun d' v e r => by subst e; exact k v G H (S.pop2.val r)
    have dref : ∀ {a a2 : Addr}, V.ref a = V.ref a2 → a = a2 := fun e => V.ref.inj e
    cases o with
    | val b =>
      have rb := r1.2
      cases b with
      | lst ds =>
        cases d with
        | int i =>
          have e : (atI ds i).map O.val = some o' := e
          cases q : atI ds i with
          | none => rw [q] at e; cases e
          | some d' =>
            rw [q] at e
            obtain ⟨p, xs, ep, hG, rs⟩ := rb
            obtain ⟨v, hv, rv⟩ := rs.atI q
            exact .inl (.inl ⟨p, xs, i, v, ep, rd, .inl (.inl (S.le.lst hG)), hv, plain d' v (Option.some.inj e).symm rv⟩)
        | _ => cases e
      | tup ds =>
        cases d with
        | int i =>
          have e : (atI ds i).map O.val = some o' := e
          cases q : atI ds i with
          | none => rw [q] at e; cases e
          | some d' =>
            rw [q] at e
            obtain ⟨p, xs, ep, hG, rs⟩ := rb
            obtain ⟨v, hv, rv⟩ := rs.atI q
            exact .inl (.inr (.inl ⟨p, xs, i, v, ep, rd, .inl (.inl (S.le.tup hG)), hv, plain d' v (Option.some.inj e).symm rv⟩))
        | _ => cases e
      | str z =>
        cases d with
        | int i =>
          have e : (if z.length ≤ sizeLine then (atI z.cps.toList i).map (fun c => O.val (.str ⟨#[c]⟩)) else none) = some o' := e
          by_cases hz : z.length ≤ sizeLine
          · rw [if_pos hz] at e
            cases q : atI z.cps.toList i with
            | none => rw [q] at e; cases e
            | some c =>
              rw [q] at e
              exact .inl (.inr (.inr ⟨z, i, c, rb, rd, hz, q, plain (.str ⟨#[c]⟩) _ (Option.some.inj e).symm rfl⟩))
          · rw [if_neg hz] at e; cases e
        | _ => cases e
      | dct kvs =>
        have go : ∀ (kk : Key), vt = kV kk → (findK kvs kk).map O.val = some o' → (rIx K vs vt H Q ∨ rDct vs vt H Q) := fun kk ek e => by
          cases q : findK kvs kk with
          | none => rw [q] at e; cases e
          | some d' =>
            rw [q] at e
            obtain ⟨p, ys, ep, hG, rs⟩ := rb
            obtain ⟨v, hv, rv⟩ := rs.find q
            exact .inr ⟨p, v, ep, .inl ⟨ys, kk, S.le.rdD hG, ek, hv.symm⟩, plain d' v (Option.some.inj e).symm rv⟩
        cases d with
        | int i => exact go (.inl i) rd e
        | str i => exact go (.inr i) rd e
        | _ => cases e
      | _ => cases d <;> cases e
    | lst os =>
      cases d with
      | int i =>
        obtain ⟨q, ho⟩ := mine_some (own := own) (x := atI os i) e
        obtain ⟨p, xs, g, ep, ef, hH, rs⟩ := r1
        obtain ⟨v, f', hv, rv, n⟩ := rs.atI q
        refine .inl (.inl ⟨p, xs, i, v, ep, rd, .inl (.inl hH), hv, pk v (fun f r => ?_) ho⟩)
        obtain ⟨p2, xs2, g2, ep2, ef2, hH2, rs2⟩ := r
        have := dref (ep.symm.trans ep2)
        subst this
        rw [hH] at hH2
        have := HO.lst.inj (Option.some.inj hH2)
        subst this
        obtain ⟨v2, f2, hv2, rv2, n2⟩ := rs2.atI q
        rw [hv] at hv2
        have := Option.some.inj hv2
        subst this
        exact ⟨f2, rv2, fun b => by rw [ef2, List.count_cons]; have := n2 b; omega⟩
      | _ => cases e
    | tup os =>
      cases d with
      | int i =>
        obtain ⟨q, ho⟩ := mine_some (own := own) (x := atI os i) e
        obtain ⟨p, xs, g, ep, ef, hH, rs⟩ := r1
        obtain ⟨v, f', hv, rv, n⟩ := rs.atI q
        refine .inl (.inr (.inl ⟨p, xs, i, v, ep, rd, .inl (.inl hH), hv, pk v (fun f r => ?_) ho⟩))
        obtain ⟨p2, xs2, g2, ep2, ef2, hH2, rs2⟩ := r
        have := dref (ep.symm.trans ep2)
        subst this
        rw [hH] at hH2
        have := HO.tup.inj (Option.some.inj hH2)
        subst this
        obtain ⟨v2, f2, hv2, rv2, n2⟩ := rs2.atI q
        rw [hv] at hv2
        have := Option.some.inj hv2
        subst this
        exact ⟨f2, rv2, fun b => by rw [ef2, List.count_cons]; have := n2 b; omega⟩
      | _ => cases e
    | dct kvs =>
      have go : ∀ (kk : Key), vt = kV kk → mine own (findK kvs kk) = some o' → (rIx K vs vt H Q ∨ rDct vs vt H Q) := fun kk ek e => by
        obtain ⟨q, ho⟩ := mine_some e
        obtain ⟨p, ys, g, ep, ef, hH, rs⟩ := r1
        obtain ⟨v, f', hv, rv, n⟩ := rs.find q
        refine .inr ⟨p, v, ep, .inl ⟨ys, kk, .inl hH, ek, hv.symm⟩, pk v (fun f r => ?_) ho⟩
        obtain ⟨p2, xs2, g2, ep2, ef2, hH2, rs2⟩ := r
        have := dref (ep.symm.trans ep2)
        subst this
        rw [hH] at hH2
        have := HO.dK.inj (Option.some.inj hH2)
        subst this
        obtain ⟨v2, f2, hv2, rv2, n2⟩ := rs2.find q
        rw [hv] at hv2
        have := Option.some.inj hv2
        subst this
        exact ⟨f2, rv2, fun b => by rw [ef2, List.count_cons]; have := n2 b; omega⟩
      cases d with
      | int i => exact go (.inl i) rd e
      | str i => exact go (.inr i) rd e
      | _ => cases e
  · cases e
theorem ev_ix (cx : Ctx X E) (ha : PEv X E a fa) (hb : PEv X E b fb) (hs : PlainIx b := by intro _ _; rfl) : PEv X E (.Subscript a b pos) (M.op2 gIx fa fb) :=
  PE.imp (pe_ix (IxR.or ix_seq (ix_dct cx)) ha hb hs) fun _ _ _ h => tV_op2 Op2.ix h
end
end Mw
namespace Mw
open PySem L2
/-! ### values laid by, made strong -/
theorem Stt.swap {Γ G H env σ ts vs} {A B : List T} {vA vB : List V} (S : Stt Γ G H env σ (A ++ (B ++ ts)) (vA ++ (vB ++ vs))) (ha : A.length = vA.length) (hb : B.length = vB.length) : Stt Γ G H env σ (B ++ (A ++ ts)) (vB ++ (vA ++ vs)) := by
  obtain ⟨_, _, _, q⟩ := S
  obtain ⟨x, y, f1, f2, e1, e2, h1, h2⟩ := q.tm.split
  obtain ⟨e3, e4⟩ := List.append_inj e1 (by rw [← ha, h1.len])
  subst e3 e4
  obtain ⟨x', y', g1, g2, e5, e6, h3, h4⟩ := h2.split
  obtain ⟨e7, e8⟩ := List.append_inj e5 (by rw [← hb, h3.len])
  subst e7 e8
  exact ⟨_, _, _, q.turn (fT' := g1 ++ (f1 ++ g2)) (h3.append (h1.append h4)) fun a => by rw [e2, e6]; simp only [List.count_append]; omega⟩
theorem TReps.os {G H : Hp} {σ : L2.St} : ∀ {os : List O} {vs : List V} {f : List Addr}, TReps G H σ (os.map T.o) vs f ↔ OReps G H os vs f
  | [], _, _ => Iff.rfl
  | o :: os, vs, f => by
    constructor
    · rintro ⟨v, r, f1, f2, e, ef, h, t⟩; exact ⟨v, r, f1, f2, e, ef, h, TReps.os.mp t⟩
    · rintro ⟨v, r, f1, f2, e, ef, h, t⟩; exact ⟨v, r, f1, f2, e, ef, h, TReps.os.mpr t⟩
/-- what is ours in a slot becomes plain, and so what was laid by of it -/
theorem Stt.conv {Γ G H env σ ts vs v i o} {P : List T} {vP : List V} (S : Stt Γ G H env σ (P ++ .al i :: ts) (vP ++ v :: vs)) (hl : P.length = vP.length) (hi : env[i]? = some (.o o)) :
    ∃ G', Same G G' ∧ Stt Γ G' H (env.set i (.o (.val o.toD))) σ (P ++ .o (.val o.toD) :: ts) (vP ++ v :: vs) := by
  obtain ⟨G', s, S1⟩ := S.freezeS hi
  have hil : i < env.length := (List.getElem?_eq_some_iff.mp hi).1
  have e1 : (env.set i (Sl.o (.val o.toD)))[i]? = some (.o (.val o.toD)) := List.getElem?_set_self hil
  obtain ⟨u, hu, ru⟩ := S1.read e1 (.inl rfl)
  have hv := (S1.rot hl).topA
  rw [hu] at hv
  have := Option.some.inj (Option.some.inj hv)
  subst this
  refine ⟨G', s, ?_⟩
  have S2 := (S1.rot hl).pop.val ru
  have S3 : Stt Γ G' H (env.set i (.o (.val o.toD))) σ ([.o (.val o.toD)] ++ (P ++ ts)) ([u] ++ (vP ++ vs)) := S2
  exact S3.swap rfl hl
def strong1 (t : T) (e : EnvS) : Option (O × EnvS) := match t with
  | .o o => some (o, e)
  | .al i => match e[i]? with
    | some (.o o) => some (.val o.toD, e.set i (.o (.val o.toD)))
    | some (.p _ d) => some (.val d, e)
    | _ => none
def strongL : List T → EnvS → Option (List O × EnvS)
  | [], e => some ([], e)
  | t :: r, e => match strong1 t e with
    | some (o, e1) => match strongL r e1 with
      | some (os, e2) => some (o :: os, e2)
      | none => none
    | none => none
theorem Stt.strong1 {Γ G H env σ ts vs t v o env'} {P : List T} {vP : List V} (S : Stt Γ G H env σ (P ++ t :: ts) (vP ++ v :: vs)) (hl : P.length = vP.length) (h : strong1 t env = some (o, env')) :
    ∃ G', Same G G' ∧ Stt Γ G' H env' σ (P ++ .o o :: ts) (vP ++ v :: vs) := by
  unfold Mw.strong1 at h
  cases t with
  | o o' => injection h with h; injection h with e1 e2; subst e1 e2; exact ⟨G, Same.refl _, S⟩
  | al i =>
    simp only at h
    split at h
    · rename_i o' hi
      injection h with h
      injection h with e1 e2
      subst e1 e2
      exact S.conv hl hi
    · rename_i j d hi
      injection h with h
      injection h with e1 e2
      subst e1 e2
      have S1 := S.rot hl
      obtain ⟨u, h1, h2⟩ := S1.read hi (.inr ⟨j, rfl⟩)
      have hv := S1.topA
      rw [hv] at h1
      have := Option.some.inj (Option.some.inj h1)
      subst this
      refine ⟨G, Same.refl _, ?_⟩
      have S3 : Stt Γ G H env σ ([.o (.val d)] ++ (P ++ ts)) ([v] ++ (vP ++ vs)) := S1.pop.val h2
      exact S3.swap rfl hl
    · cases h
theorem Stt.strongs {Γ H σ} : ∀ {l : List T} {us : List V} {G : Hp} {env env' : EnvS} {os : List O} {P ts : List T} {vP vs : List V}, Stt Γ G H env σ (P ++ (l ++ ts)) (vP ++ (us ++ vs)) → P.length = vP.length → l.length = us.length → strongL l env = some (os, env') →
    ∃ G', Same G G' ∧ Stt Γ G' H env' σ (P ++ (os.map T.o ++ ts)) (vP ++ (us ++ vs)) ∧ os.length = us.length
  | [], us, G, env, env', os, P, ts, vP, vs, S, hl, hu, h => by
    injection h with h
    injection h with e1 e2
    subst e1 e2
    exact ⟨G, Same.refl _, S, hu⟩
  | t :: l, [], G, env, env', os, P, ts, vP, vs, S, hl, hu, h => by simp at hu
  | t :: l, v :: us, G, env, env', os, P, ts, vP, vs, S, hl, hu, h => by
    unfold strongL at h
    split at h
    · rename_i o e1 h1
      split at h
      · rename_i os' e2 h2
        injection h with h
        injection h with e3 e4
        subst e3 e4
        obtain ⟨G1, s1, S1⟩ := Stt.strong1 (ts := l ++ ts) (vs := us ++ vs) S hl h1
        have S1' : Stt Γ G1 H e1 σ ((P ++ [.o o]) ++ (l ++ ts)) ((vP ++ [v]) ++ (us ++ vs)) := by simpa [List.append_assoc] using S1
        obtain ⟨G2, s2, S2, n⟩ := Stt.strongs S1' (by simp [hl]) (by simpa using hu) h2
        exact ⟨G2, s1.trans s2, by simpa [List.append_assoc] using S2, by simpa using n⟩
      · cases h
    · cases h
section
variable {X : Cx} {E : XK} {pos : Pos} {a b c : Expr} {fa fb fc : M T} {es rest : List Expr} {fs : M (List T)}
/-! ### argument lists -/
def M.consA (f : M T) (fs : M (List T)) : M (List T) := M.bind f fun t => M.bind fs fun l => M.pure (t :: l)
theorem ea_nil : PAv X E [] (M.pure []) := PA.imp pa_nil fun σ H Q ⟨Γ, G, env, ts, vs, S, q⟩ => q [] G H rfl S
theorem ea_cons (ha : PEv X E a fa) (hr : PAv X E es fs) (hs : starEach (a :: es) X.env = (false, eval a X.env) :: starEach es X.env := by rfl) : PAv X E (a :: es) (M.consA fa fs) := PA.imp (pa_cons ha hr hs) fun σ H Q ⟨Γ, G, env, ts, vs, S, q⟩ => by
  refine ⟨Γ, G, env, ts, vs, S, post_mono (post_bind q) fun t e1 q1 v1 G1 H1 S1 => ?_⟩
  refine ⟨Γ, G1, e1, t :: ts, v1 :: vs, S1, post_mono (post_bind q1) fun l e2 q2 us G2 H2 hl S2 => ?_⟩
  exact q2 (v1 :: us) G2 H2 (by simp [hl]) (S2.rot hl)
/-- the items of a list or a tuple -/
def kidsA (e : EnvS) (t : T) : Option (List O) := match kidsL e t with
  | some os => some os
  | none => kidsT e t
def M.starA (f : M T) (fs : M (List T)) : M (List T) := M.bind f fun t => fun e => match kidsA e t with
  | some os => M.bind fs (fun l => M.pure (os.map T.o ++ l)) e
  | none => .stuck
theorem Stt.items {of : O → Option (List O)} {mk : List V → HO} {cons : List O → O} (K : Kd of mk cons) {Γ G H env σ ts vs t v} {os : List O} (S : Stt Γ G H env σ (t :: ts) (v :: vs)) (h : kidsOf of env t = some os) :
    ∃ a xs, v = .ref a ∧ H a = some (mk xs) ∧ os.length = xs.length ∧ Stt Γ G H env σ (os.map T.o ++ ts) (xs ++ vs) := by
  obtain ⟨a, xs, ev, hH, ⟨f0, r0⟩, k⟩ := Stt.kids K (A := []) (vA := []) S rfl h
  obtain ⟨fO, fZ, fT, q⟩ := S
  obtain ⟨v', vr, f1, f2, e1, e2, h1, h2⟩ := q.tm
  injection e1 with e3 e4
  subst e3 e4 e2
  obtain ⟨f', r', n⟩ := k f1 h1
  exact ⟨a, xs, ev, hH, r'.length, _, _, _, q.turn (fT' := f' ++ f2) ((TReps.os.mpr r').append h2) fun b => by have := n b; rw [List.count_append, List.count_append]; omega⟩
theorem Stt.itemsA {Γ G H env σ ts vs t v} {os : List O} {K : PySem.W.Frag} (S : Stt Γ G H env σ (t :: ts) (v :: vs)) (h : kidsA env t = some os) :
    ∃ a xs, v = .ref a ∧ (SqL K H a xs ∨ SqT K H a xs) ∧ os.length = xs.length ∧ Stt Γ G H env σ (os.map T.o ++ ts) (xs ++ vs) := by
  unfold kidsA at h
  split at h
  · rename_i os' e
    injection h with h
    subst h
    obtain ⟨a, xs, ev, hH, hl, S'⟩ := S.items kL e
    exact ⟨a, xs, ev, .inl (.inl (.inl hH)), hl, S'⟩
  · obtain ⟨a, xs, ev, hH, hl, S'⟩ := S.items kT h
    exact ⟨a, xs, ev, .inr (.inl (.inl hH)), hl, S'⟩
theorem ea_star {p : Pos} (ha : PEv X E a fa) (hr : PAv X E es fs) (hs : starEach (.Starred a p :: es) X.env = (true, eval a X.env) :: starEach es X.env := by rfl) : PAv X E (.Starred a p :: es) (M.starA fa fs) := PA.imp (StX.pa_star ha hr hs) fun σ H Q ⟨Γ, G, env, ts, vs, S, q⟩ => by
  refine ⟨Γ, G, env, ts, vs, S, post_mono (post_bind q) fun t e1 q1 v1 G1 H1 S1 => ?_⟩
  cases e : kidsA e1 t with
  | none => rw [e] at q1; exact q1.elim
  | some os =>
    rw [e] at q1
    obtain ⟨p, xs, ev, hs, hl, S2⟩ := S1.itemsA (K := X.K) e
    refine ⟨p, xs, ev, hs.symm, Γ, G1, e1, os.map T.o ++ ts, xs ++ vs, S2, post_mono (post_bind q1) fun l e2 q2 us G2 H2 hl2 S3 => ?_⟩
    refine q2 (xs ++ us) G2 H2 (by simp [hl, hl2]) ?_
    have := S3.swap hl2 (by simp [hl])
    simpa [List.append_assoc] using this
/-- .. made strong -/
def M.strongA (fs : M (List T)) : M (List O) := M.bind fs fun l => fun e => match strongL l e with
  | some (os, e') => .ok (os, e')
  | none => .stuck
def M.lst (fs : M (List T)) : M T := M.bind (M.strongA fs) fun os => fun e => if os.length ≤ sizeLine then .ok (.o (.lst os), e) else .stuck
def M.tup (fs : M (List T)) : M T := M.bind (M.strongA fs) fun os => fun e => if os.length ≤ sizeLine then .ok (.o (.tup os), e) else .stuck
theorem post_strong {mg : Str → Option Value} {Γ : Gr} {P : List O → EnvS → Prop} {env : EnvS} (h : post mg E Γ P (M.strongA fs env)) : post mg E Γ (fun l e => ∃ os e', strongL l e = some (os, e') ∧ P os e') (fs env) := by
  refine post_mono (post_bind h) fun l e q => ?_
  cases q2 : strongL l e with
  | none => rw [q2] at q; exact q.elim
  | some p => rw [q2] at q; exact ⟨p.1, p.2, rfl, q⟩
theorem ev_disp {of : O → Option (List O)} {mk : List V → HO} {cons : List O → O} (K : Kd of mk cons) {e : Expr} {t : TA → TE} (hp : ∀ ta, PA X es ta → PE X e (t ta))
    (ht : ∀ ta σ H Q, (ta σ H fun xs H1 => xs.length ≤ sizeLine ∧ ∀ p, H1 p = none → Q (.ref p) (upd H1 p (mk xs))) → t ta σ H Q) (hr : PAv X E es fs) :
    PEv X E e (M.bind (M.strongA fs) fun os => fun e => if os.length ≤ sizeLine then .ok (.o (cons os), e) else .stuck) := PE.imp (hp _ hr) fun σ H Q ⟨Γ, G, env, ts, vs, S, q⟩ => by
  refine ht _ _ _ _ ⟨Γ, G, env, ts, vs, S, post_mono (post_strong (post_bind q)) fun l e1 ⟨os, e', h1, q1⟩ us G1 H1 hl S1 => ?_⟩
  obtain ⟨G2, s2, S2, n⟩ := Stt.strongs (P := []) (vP := []) S1 rfl hl h1
  by_cases hz : os.length ≤ sizeLine
  · rw [if_pos hz] at q1
    refine ⟨by rw [← n]; exact hz, fun p hp => q1 _ G2 _ (Stt.fresh K (tp := os.map T.o) (vp := us) S2 (by simp [n]) hp fun fp r => ⟨fp, TReps.os.mp r, fun _ => Nat.le_refl _⟩)⟩
  · rw [if_neg hz] at q1; exact q1.elim
theorem ev_lst (hr : PAv X E es fs) : PEv X E (.List es pos) (M.lst fs) := ev_disp kL (t := tLst) (fun ta h => pe_lst h) (fun _ _ _ _ h => h) hr
theorem ev_tup {k} (hr : PAv X E es fs) : PEv X E (.Tuple es k pos) (M.tup fs) := ev_disp kT (t := tTup) (fun ta h => pe_tup h) (fun _ _ _ _ h => h) hr
/-! ### built-in calls of one argument -/
def M.call1 (g : EnvS → T → Option O) (f : M T) : M T := M.bind f fun t => fun e => match g e t with
  | some o => .ok (.o o, e)
  | none => .stuck
def Sp1 (r : List V → Hp → VK → Prop) (g : EnvS → T → Option O) : Prop := ∀ Γ G H env σ t v ts vs o (Q : VK), Stt Γ G H env σ (t :: ts) (v :: vs) → g env t = some o →
  (∀ v' G' H', Stt Γ G' H' env σ (.o o :: ts) (v' :: vs) → Q v' H') → r [v] H Q
theorem tV_call1 {mg : Str → Option Value} {r : List V → Hp → VK → Prop} {g} (hr : Sp1 r g) {σ : L2.St} {H : Hp} {Q : VK} (h : tV mg E (M.call1 g fa) σ H Q) : tCB r (tCons (tV mg E fa) tNil) σ H Q := by
  obtain ⟨Γ, G, env, ts, vs, S, q⟩ := h
  refine ⟨Γ, G, env, ts, vs, S, post_mono (post_bind q) fun t e1 q1 v1 G1 H1 S1 => ?_⟩
  cases e : g e1 t with
  | none => rw [e] at q1; exact q1.elim
  | some o =>
    rw [e] at q1
    exact hr Γ G1 H1 e1 σ t v1 ts vs o Q S1 e q1
variable {x : Str} {p : Pos} {id : String} {r : List V → Hp → VK → Prop} {g : EnvS → T → Option O}
theorem ev_callB1 (hc : CallR X (.builtin id) r) (hr : Sp1 r g) (ha : PEv X E a fa) (hm : X.mg x = none) (hv : bootBuiltins x = some (.builtin id)) (hg : Gl X x := by rfl) (hn : x ≠ "__name__" := by decide) (hdb : (x == ("__debug__" : Str)) = false := by decide)
    (hs : starEach [a] X.env = (false, eval a X.env) :: starEach [] X.env := by rfl) : PEv X E (.Call (.Name x p) [a] [] pos) (M.call1 g fa) :=
  PE.imp (pe_callB hc hg hm hv (pa_cons ha pa_nil hs) hn hdb hs rfl) fun σ H Q h => tV_call1 hr h
theorem ev_callT1 (hc : CallR X (.type id) r) (hr : Sp1 r g) (ha : PEv X E a fa) (hm : X.mg x = none) (hv : bootBuiltins x = some (.type id)) (hg : Gl X x := by rfl) (hn : x ≠ "__name__" := by decide) (hdb : (x == ("__debug__" : Str)) = false := by decide)
    (hs : starEach [a] X.env = (false, eval a X.env) :: starEach [] X.env := by rfl) : PEv X E (.Call (.Name x p) [a] [] pos) (M.call1 g fa) :=
  PE.imp (pe_callTy hc hg hm hv (pa_cons ha pa_nil hs) hn hdb hs rfl) fun σ H Q h => tV_call1 hr h
end
end Mw
namespace Mw
open PySem L2
/-! ### len -/
def gLen : EnvS → T → Option O := fun e t => match view e t with
  | some (_, o) => match o.seqOf with
    | some os => some (.val (.int os.length))
    | none => match o with
      | .val (.str z) => if z.length ≤ sizeLine then some (.val (.int z.length)) else none
      | _ => match o.dctOf with
        | some kvs => some (.val (.int kvs.length))
        | none => none
  | none => none
def rLenA (K : PySem.W.Frag) : List V → Hp → VK → Prop := fun xs H Q => (∃ p ys, xs = [.ref p] ∧ (SqL K H p ys ∨ SqT K H p ys) ∧ Q (.int ys.length) H) ∨ (∃ z, xs = [.str z] ∧ z.length ≤ sizeLine ∧ Q (.int z.length) H) ∨
  ∃ a kvs, xs = [V.ref a] ∧ Rd H a (.dK kvs) ∧ Q (.int kvs.length) H
theorem call_lenA {X : Cx} : CallR X (.builtin "len") (rLenA X.K) := CallR.or call_len_seq (CallR.or call_len_str (by
  intro pins s σ H xs us Q I r h
  obtain ⟨a, kvs, rfl, ha, q⟩ := h
  obtain ⟨u, rfl, ru⟩ := vals1 r
  cases ru
  exact d_len I ha fun t s' I' => ⟨.int kvs.length, H, I', ⟨t, rfl⟩, q⟩))
theorem Sp1.len {K : PySem.W.Frag} : Sp1 (rLenA K) gLen := by
  intro Γ G H env σ t v ts vs o Q S e k
  unfold gLen at e
  split at e
  · rename_i b o' e1
    obtain ⟨f, r⟩ := S.see0 e1
    split at e
    · rename_i os e2
      obtain ⟨a, xs, f', ev, hs, rs⟩ := r.seqOf (K := K) S.le e2
      injection e with e
      subst e
      exact .inl ⟨a, xs, by rw [ev], hs, by rw [← rs.length]; exact k _ G H (S.pop.val rfl)⟩
    · split at e
      · rename_i z hq
        split at e
        · rename_i hz
          injection e with e
          subst e
          exact .inr (.inl ⟨z, by rw [show v = _ from r.2], hz, k _ G H (S.pop.val rfl)⟩)
        · cases e
      · split at e
        · rename_i kvs e3
          injection e with e
          subst e
          obtain ⟨a, ys, f', ev, hd, rs, _⟩ := r.dctOf S.le e3
          exact .inr (.inr ⟨a, ys, by rw [ev], hd, by rw [← rs.length]; exact k _ G H (S.pop.val rfl)⟩)
        · cases e
  · cases e
/-! ### list(x), tuple(x) -/
def keyD : Key → D
  | .inl i => .int i
  | .inr s => .str s
def gList : EnvS → T → Option O := fun e t => match kidsA e t with
  | some os => some (.lst os)
  | none => match view e t with
    | some (_, o) => match o.dctOf with
      | some kvs => some (.lst (kvs.map fun p => .val (keyD p.1)))
      | none => none
    | none => none
def rListA (K : PySem.W.Frag) : List V → Hp → VK → Prop := fun xs H Q => (∃ p ys, xs = [.ref p] ∧ (SqL K H p ys ∨ SqT K H p ys) ∧ ∀ l, H l = none → Q (.ref l) (upd H l (.lst ys))) ∨
  ∃ (a : Addr) (kvs : List (Key × V)), xs = [.ref a] ∧ Rd H a (.dK kvs) ∧ ∀ p, H p = none → Q (.ref p) (upd H p (.lst (kvs.map fun kv => kV kv.1)))
theorem call_listA {X : Cx} {E : XK} (c : Ctx X E) : CallR X (.type "list") (rListA X.K) := CallR.or call_list_of (call_listD c.calm)
theorem keys_rep {G H : Hp} : ∀ {os : List (Key × O)} {ys : List (Key × V)} {f : List Addr}, OKs G H os ys f → OReps G H (os.map fun p => .val (keyD p.1)) (ys.map fun kv => kV kv.1) []
  | [], _, _, h => by rw [h.1]; exact ⟨rfl, rfl⟩
  | (k, o) :: os, _, _, ⟨v, r, f1, f2, e, ef, h, t⟩ => by
    rw [e]
    exact ⟨kV k, r.map fun kv => kV kv.1, [], [], rfl, rfl, ⟨rfl, by cases k <;> rfl⟩, keys_rep t⟩
theorem Sp1.list {K : PySem.W.Frag} : Sp1 (rListA K) gList := by
  intro Γ G H env σ t v ts vs o Q S e k
  unfold gList at e
  split at e
  · rename_i os e1
    injection e with e
    subst e
    obtain ⟨a, xs, ev, hs, hl, S2⟩ := S.itemsA (K := K) e1
    refine .inl ⟨a, xs, by rw [ev], hs, fun p hp => k _ G _ (Stt.fresh kL (tp := os.map T.o) (vp := xs) S2 (by simp [hl]) hp fun fp r => ⟨fp, TReps.os.mp r, fun _ => Nat.le_refl _⟩)⟩
  · split at e
    · rename_i b o' e1
      split at e
      · rename_i kvs e2
        injection e with e
        subst e
        obtain ⟨f, r⟩ := S.see0 e1
        obtain ⟨a, ys, f', ev, hd, rs, _⟩ := r.dctOf S.le e2
        exact .inr ⟨a, ys, by rw [ev], hd, fun p hp => k _ G _ (Stt.fresh kL (tp := [t]) (vp := [v]) S rfl hp fun fp _ => ⟨[], keys_rep rs, fun _ => Nat.zero_le _⟩)⟩
      · cases e
    · cases e
def gTuple : EnvS → T → Option O := fun e t => match kidsL e t with
  | some os => some (.tup os)
  | none => match view e t with
    | some (true, .tup os) => some (.tup os)
    | some (_, .val (.tup ds)) => some (.val (.tup ds))
    | _ => none
theorem Sp1.tuple {K : PySem.W.Frag} : Sp1 (fun xs H Q => ∃ p ys, xs = [.ref p] ∧ ((SqL K H p ys ∧ ∀ l, H l = none → Q (.ref l) (upd H l (.tup ys))) ∨ (SqT K H p ys ∧ Q (.ref p) H))) gTuple := by
  intro Γ G H env σ t v ts vs o Q S e k
  unfold gTuple at e
  split at e
  · rename_i os e1
    injection e with e
    subst e
    obtain ⟨a, xs, ev, hH, hl, S2⟩ := S.items kL e1
    exact ⟨a, xs, by rw [ev], .inl ⟨.inl (.inl hH), fun p hp => k _ G _ (Stt.fresh kT (tp := os.map T.o) (vp := xs) S2 (by simp [hl]) hp fun fp r => ⟨fp, TReps.os.mp r, fun _ => Nat.le_refl _⟩)⟩⟩
  · split at e
    · rename_i os e1
      injection e with e
      subst e
      obtain ⟨f, r⟩ := S.see0 e1
      obtain ⟨a, xs, f', ev, hH, rs, _⟩ := r.tupOf S.le rfl
      cases t with
      | al i =>
        have e1 : (match env[i]? with | some (.o o) => some (false, o) | some (.p _ d) => some (false, .val d) | _ => none) = some (true, O.tup os) := e1
        split at e1 <;> cases e1
      | o o2 =>
        have e' : (true, o2) = (true, O.tup os) := Option.some.inj e1
        injection e' with _ e'
        subst e'
        exact ⟨a, xs, by rw [ev], .inr ⟨.inl (.inl hH), by rw [← ev]; exact k v G H S⟩⟩
    · rename_i b ds e1
      injection e with e
      subst e
      obtain ⟨f, r⟩ := S.see0 e1
      obtain ⟨a, xs, f', ev, hH, rs, _⟩ := r.tupOf S.le rfl
      exact ⟨a, xs, by rw [ev], .inr ⟨.inl (.inl hH), by rw [← ev]; exact k v G H (S.pop.val r.2)⟩⟩
    · cases e
/-! ### int, sum, any, all -/
def gInt1 : EnvS → T → Option O := fun _ t => match t with
  | .o (.val (.int i)) => some (.val (.int i))
  | .o (.val (.bl b)) => some (.val (.int (if b then 1 else 0)))
  | _ => none
theorem Sp1.int : Sp1 (fun xs H Q => (∃ i, xs = [.int i] ∧ Q (.int i) H) ∨ ∃ k, xs = [.bl k] ∧ Q (.int (if k then 1 else 0)) H) gInt1 := by
  intro Γ G H env σ t v ts vs o Q S e k
  unfold gInt1 at e
  split at e
  · rename_i i
    injection e with e
    subst e
    obtain ⟨f, r⟩ := S.see0 (b := true) (o := .val (.int i)) rfl
    exact .inl ⟨i, by rw [show v = _ from r.2], k _ G H (S.pop.val rfl)⟩
  · rename_i b
    injection e with e
    subst e
    obtain ⟨f, r⟩ := S.see0 (b := true) (o := .val (.bl b)) rfl
    exact .inr ⟨b, by rw [show v = _ from r.2], k _ G H (S.pop.val rfl)⟩
  · cases e
/-- the ints of a list -/
def intsO : List O → Option (List Int)
  | [] => some []
  | .val (.int i) :: r => (intsO r).map (i :: ·)
  | _ :: _ => none
def blsO : List O → Option (List Bool)
  | [] => some []
  | .val (.bl i) :: r => (blsO r).map (i :: ·)
  | _ :: _ => none
def strsO : List O → Option (List Str)
  | [] => some []
  | .val (.str i) :: r => (strsO r).map (i :: ·)
  | _ :: _ => none
theorem intsO_rep {G H : Hp} : ∀ {os : List O} {vs : List V} {f : List Addr} {ns : List Int}, OReps G H os vs f → intsO os = some ns → vs = ns.map V.int ∧ f = []
  | [], _, _, _, h, e => by injection e with e; subst e; exact h
  | .val (.int i) :: os, _, _, ns, ⟨v, r, f1, f2, e, ef, h, t⟩, q => by
    have q : (intsO os).map (i :: ·) = some ns := q
    cases q2 : intsO os with
    | none => rw [q2] at q; cases q
    | some ms =>
      rw [q2] at q
      have := Option.some.inj q
      subst this
      obtain ⟨e1, e2⟩ := intsO_rep t q2
      rw [e, e1, ef, h.1, e2, show v = _ from h.2]
      exact ⟨rfl, rfl⟩
  | .val .non :: _, _, _, _, _, q => nomatch q
  | .val (.bl _) :: _, _, _, _, _, q => nomatch q
  | .val (.str _) :: _, _, _, _, _, q => nomatch q
  | .val (.lst _) :: _, _, _, _, _, q => nomatch q
  | .val (.tup _) :: _, _, _, _, _, q => nomatch q
  | .val (.dct _) :: _, _, _, _, _, q => nomatch q
  | .lst _ :: _, _, _, _, _, q => nomatch q
  | .tup _ :: _, _, _, _, _, q => nomatch q
  | .dct _ :: _, _, _, _, _, q => nomatch q
theorem blsO_rep {G H : Hp} : ∀ {os : List O} {vs : List V} {f : List Addr} {ns : List Bool}, OReps G H os vs f → blsO os = some ns → vs = ns.map V.bl
  | [], _, _, _, h, e => by injection e with e; subst e; exact h.1
  | .val (.bl i) :: os, _, _, ns, ⟨v, r, f1, f2, e, ef, h, t⟩, q => by
    have q : (blsO os).map (i :: ·) = some ns := q
    cases q2 : blsO os with
    | none => rw [q2] at q; cases q
    | some ms =>
      rw [q2] at q
      have := Option.some.inj q
      subst this
      rw [e, blsO_rep t q2, show v = _ from h.2]
      rfl
  | .val .non :: _, _, _, _, _, q => nomatch q
  | .val (.int _) :: _, _, _, _, _, q => nomatch q
  | .val (.str _) :: _, _, _, _, _, q => nomatch q
  | .val (.lst _) :: _, _, _, _, _, q => nomatch q
  | .val (.tup _) :: _, _, _, _, _, q => nomatch q
  | .val (.dct _) :: _, _, _, _, _, q => nomatch q
  | .lst _ :: _, _, _, _, _, q => nomatch q
  | .tup _ :: _, _, _, _, _, q => nomatch q
  | .dct _ :: _, _, _, _, _, q => nomatch q
theorem strsO_rep {G H : Hp} : ∀ {os : List O} {vs : List V} {f : List Addr} {ns : List Str}, OReps G H os vs f → strsO os = some ns → vs = ns.map V.str
  | [], _, _, _, h, e => by injection e with e; subst e; exact h.1
  | .val (.str i) :: os, _, _, ns, ⟨v, r, f1, f2, e, ef, h, t⟩, q => by
    have q : (strsO os).map (i :: ·) = some ns := q
    cases q2 : strsO os with
    | none => rw [q2] at q; cases q
    | some ms =>
      rw [q2] at q
      have := Option.some.inj q
      subst this
      rw [e, strsO_rep t q2, show v = _ from h.2]
      rfl
  | .val .non :: _, _, _, _, _, q => nomatch q
  | .val (.int _) :: _, _, _, _, _, q => nomatch q
  | .val (.bl _) :: _, _, _, _, _, q => nomatch q
  | .val (.lst _) :: _, _, _, _, _, q => nomatch q
  | .val (.tup _) :: _, _, _, _, _, q => nomatch q
  | .val (.dct _) :: _, _, _, _, _, q => nomatch q
  | .lst _ :: _, _, _, _, _, q => nomatch q
  | .tup _ :: _, _, _, _, _, q => nomatch q
  | .dct _ :: _, _, _, _, _, q => nomatch q
def seqT (e : EnvS) (t : T) : Option (List O) := match view e t with
  | some (_, o) => o.lstOf
  | none => none
theorem seqT_ok {Γ G H env σ ts vs t v os} {K : PySem.W.Frag} (S : Stt Γ G H env σ (t :: ts) (v :: vs)) (h : seqT env t = some os) : ∃ a xs f, v = .ref a ∧ SqL K H a xs ∧ OReps G H os xs f := by
  unfold seqT at h
  split at h
  · rename_i b o e
    obtain ⟨f, r⟩ := S.see0 e
    obtain ⟨a, xs, f', ev, hH, rs, _⟩ := r.lstOf S.le h
    exact ⟨a, xs, f', ev, .inl (.inl hH), rs⟩
  · cases h
def gSum : EnvS → T → Option O := fun e t => match seqT e t with
  | some os => match intsO os with
    | some ns => some (.val (.int ns.sum))
    | none => none
  | none => none
theorem Sp1.sum {K : PySem.W.Frag} : Sp1 (rSum K) gSum := by
  intro Γ G H env σ t v ts vs o Q S e k
  unfold gSum at e
  split at e
  · rename_i os e1
    split at e
    · rename_i ns e2
      injection e with e
      subst e
      obtain ⟨a, xs, f, ev, hs, rs⟩ := seqT_ok (K := K) S e1
      obtain ⟨e3, _⟩ := intsO_rep rs e2
      subst e3
      exact ⟨a, ns, by rw [ev], hs, k _ G H (S.pop.val rfl)⟩
    · cases e
  · cases e
def gAny : EnvS → T → Option O := fun e t => match seqT e t with
  | some os => match blsO os with
    | some ns => some (.val (.bl (ns.any id)))
    | none => none
  | none => none
def gAll : EnvS → T → Option O := fun e t => match seqT e t with
  | some os => match blsO os with
    | some ns => some (.val (.bl (ns.all id)))
    | none => none
  | none => none
theorem Sp1.any {K : PySem.W.Frag} : Sp1 (rAny K) gAny := by
  intro Γ G H env σ t v ts vs o Q S e k
  unfold gAny at e
  split at e
  · rename_i os e1
    split at e
    · rename_i ns e2
      injection e with e
      subst e
      obtain ⟨a, xs, f, ev, hs, rs⟩ := seqT_ok (K := K) S e1
      have e3 := blsO_rep rs e2
      subst e3
      exact ⟨a, ns, by rw [ev], hs, k _ G H (S.pop.val rfl)⟩
    · cases e
  · cases e
theorem Sp1.all {K : PySem.W.Frag} : Sp1 (rAll K) gAll := by
  intro Γ G H env σ t v ts vs o Q S e k
  unfold gAll at e
  split at e
  · rename_i os e1
    split at e
    · rename_i ns e2
      injection e with e
      subst e
      obtain ⟨a, xs, f, ev, hs, rs⟩ := seqT_ok (K := K) S e1
      have e3 := blsO_rep rs e2
      subst e3
      exact ⟨a, ns, by rw [ev], hs, k _ G H (S.pop.val rfl)⟩
    · cases e
  · cases e
/-! ### isinstance -/
inductive Ty where
  | non | bl | int | str | lst | tup | dct
  deriving DecidableEq
def Ty.name : Ty → String
  | .non => "NoneType" | .bl => "bool" | .int => "int" | .str => "str" | .lst => "list" | .tup => "tuple" | .dct => "dict"
def Ty.sub (a b : Ty) : Bool := match a, b with
  | .bl, .int => true
  | .non, .non => true | .bl, .bl => true | .int, .int => true | .str, .str => true | .lst, .lst => true | .tup, .tup => true | .dct, .dct => true
  | _, _ => false
theorem kit_all : ∀ a b : Ty, b ≠ .non → kitB a.name b.name = some (a.sub b) := by
  intro a b hb
  cases b <;> first
    | exact absurd rfl hb
    | (cases a <;> decide +kernel)
def D.ty : D → Ty
  | .non => .non | .bl _ => .bl | .int _ => .int | .str _ => .str | .lst _ => .lst | .tup _ => .tup | .dct _ => .dct
def O.ty : O → Ty
  | .val d => d.ty | .lst _ => .lst | .tup _ => .tup | .dct _ => .dct
theorem tyX_of {K : PySem.W.Frag} {tl : List (Addr × Str)} {G H : Hp} (l : Le tl G H) {o : O} {v : V} {f : List Addr} (r : ORep G H o v f) : TyX K H v (.type o.ty.name) := by
  cases o with
  | val d =>
    obtain ⟨_, r⟩ := r
    cases d with
    | non => have e : v = _ := r; subst e; exact .base .non
    | bl x => have e : v = _ := r; subst e; exact .base (.bl _)
    | int x => have e : v = _ := r; subst e; exact .base (.int _)
    | str x => have e : v = _ := r; subst e; exact .base (.str _)
    | lst x => obtain ⟨a, xs, e, h, _⟩ := r; subst e; exact .base (.lst (l.lst h))
    | tup x => obtain ⟨a, xs, e, h, _⟩ := r; subst e; exact .base (.tup (l.tup h))
    | dct x =>
      obtain ⟨a, xs, e, h, _⟩ := r
      subst e
      rcases l.rdD h with h | ⟨ob, h⟩
      · exact .base (.dK h)
      · exact .fDict h
  | lst x => obtain ⟨a, xs, g, e, _, h, _⟩ := r; subst e; exact .base (.lst h)
  | tup x => obtain ⟨a, xs, g, e, _, h, _⟩ := r; subst e; exact .base (.tup h)
  | dct x => obtain ⟨a, xs, g, e, _, h, _⟩ := r; subst e; exact .base (.dK h)
def M.isi (cs : List Ty) (f : M T) : M T := M.bind f fun t => fun e => match view e t with
  | some (_, o) => .ok (.o (.val (.bl (cs.any fun c => o.ty.sub c))), e)
  | none => .stuck
theorem kit_any {K : PySem.W.Frag} (a : Ty) : ∀ (cs : List Ty), (∀ c ∈ cs, c ≠ .non) → PySem.W.kitAny K (.type a.name) (cs.map fun c => Value.type c.name) = some (cs.any fun c => a.sub c)
  | [], _ => kitAny_nil
  | c :: cs, h => by
    have h1 := kit_ty (K := K) (kit_all a c (h c List.mem_cons_self))
    have h2 := kit_any (K := K) a cs fun c m => h c (List.mem_cons_of_mem _ m)
    rw [List.any_cons]
    exact kitAny_cons h1 (fun e => by rw [e]; exact h2) (fun e => by rw [e]; rfl)
section
variable {X : Cx} {E : XK} {pos p p2 p3 : Pos} {a : Expr} {fa : M T} {x : Str} {k : Nat}
/-- isinstance(a, T) -/
theorem ev_isi1 (c : Ty) (hc : c ≠ .non := by decide) (ha : PEv X E a fa) (hm : X.mg "isinstance" = none) (hx : X.mg x = none) (hv : bootBuiltins x = some (.type c.name) := by decide +kernel) (hg : Gl X "isinstance" := by rfl) (hgx : Gl X x := by rfl)
    (hn : x ≠ "__name__" := by decide) (hdb : (x == ("__debug__" : Str)) = false := by decide)
    (hs : starEach [a, .Name x p2] X.env = (false, eval a X.env) :: starEach [.Name x p2] X.env := by rfl) (hs2 : starEach [.Name x p2] X.env = (false, eval (.Name x p2) X.env) :: starEach [] X.env := by rfl) :
    PEv X E (.Call (.Name "isinstance" p) [a, .Name x p2] [] pos) (M.isi [c] fa) :=
  PE.imp (pe_callB call_isi hg hm (by decide +kernel) (pa_cons ha (pa_cons (pe_bltn (v := .ty c.name) hgx hx hv rfl hn hdb) pa_nil hs2) hs) (by decide) (by decide) hs (by rw [hs2]; rfl)) fun σ H Q ⟨Γ, G, env, ts, vs, S, q⟩ => by
    refine ⟨Γ, G, env, ts, vs, S, post_mono (post_bind q) fun t e1 q1 v1 G1 H1 S1 => ?_⟩
    split at q1
    · rename_i b o e
      obtain ⟨f, r⟩ := S1.see0 e
      have h := kit_ty (K := X.K) (kit_all o.ty c hc)
      exact ⟨v1, .ty c.name, _, _, _, rfl, .ty _, tyX_of S1.le r, h, by
        have := q1 (.bl ([c].any fun c => o.ty.sub c)) G1 H1 (S1.pop.val rfl)
        simpa using this⟩
    · exact q1.elim
theorem isi_pair : ∀ (cs : List Ty), Paired ClsV (cs.map fun c => V.ty c.name) (cs.map fun c => Value.type c.name)
  | [] => .nil
  | c :: cs => .cons (.ty _) (isi_pair cs)
/-- isinstance(a, (T, U, ..)) -/
theorem ev_isiT (cs : List Ty) {te : Expr} {tl : TA} (hT : PE X te (tTup tl)) (htl : ∀ σ H Q, Q (cs.map fun c => V.ty c.name) H → tl σ H Q) (hc : ∀ c ∈ cs, c ≠ .non := by decide) (hl : cs.length ≤ 100 := by decide) (ha : PEv X E a fa) (hm : X.mg "isinstance" = none) (hg : Gl X "isinstance" := by rfl)
    (hs : starEach [a, te] X.env = (false, eval a X.env) :: starEach [te] X.env := by rfl) (hs2 : starEach [te] X.env = (false, eval te X.env) :: starEach [] X.env := by rfl) :
    PEv X E (.Call (.Name "isinstance" p) [a, te] [] pos) (M.isi cs fa) :=
  PE.imp (pe_callB call_isiT hg hm (by decide +kernel) (pa_cons ha (pa_cons hT pa_nil hs2) hs) (by decide) (by decide) hs (by rw [hs2]; rfl)) fun σ H Q ⟨Γ, G, env, ts, vs, S, q⟩ => by
    refine ⟨Γ, G, env, ts, vs, S, post_mono (post_bind q) fun t e1 q1 v1 G1 H1 S1 => ?_⟩
    split at q1
    · rename_i b o e
      refine htl _ _ _ ⟨by rw [List.length_map]; exact Nat.le_trans hl (by decide), fun tp hp => ?_⟩
      have S2 := S1.same (Same.upd (u := .tup (cs.map fun c => V.ty c.name)) hp)
      obtain ⟨f, r⟩ := S2.see0 e
      exact ⟨v1, tp, _, _, _, _, rfl, upd_same, isi_pair cs, tyX_of S2.le r, kit_any o.ty cs hc, q1 _ G1 _ (S2.pop.val rfl)⟩
    · exact q1.elim
end
end Mw
namespace Mw
open PySem L2
/-! ### a part of the code that begins anew -/
/-- how H2 becomes what it was: as it is, or the dict that was locked is let go -/
def Unl (X : Cx) (H2 H3 : Hp) : Prop := H3 = H2 ∨ ∃ d od u, H2 d = some (.frz od u) ∧ (∀ o' u', X.H_0 d ≠ some (.frz o' u')) ∧ H3 = upd H2 d u
structure Fr (X : Cx) (Γ : Gr) (σ : L2.St) (ts : List T) (vs : List V) (Γ' : Gr) : Prop where
  args : Γ'.args = Γ.args
  tabs : Γ'.tabs = Γ.tabs
  back : ∀ {G2 H2 env2 σ2 ts2 vs2}, Stt Γ' G2 H2 env2 σ2 ts2 vs2 → (∀ i, T.al i ∈ ts → σ2[i]? = σ[i]?) → ∃ H3, Unl X H2 H3 ∧ Stt Γ G2 H3 env2 σ2 (ts2 ++ ts) (vs2 ++ vs)
theorem SReps.args {a b : List V} (e : a = b) {G H : Hp} {l : List Sl} {σ : L2.St} {f z : List Addr} (h : SReps a G H l σ f z) : SReps b G H l σ f z := e ▸ h
theorem Core.frame {Γ G H env σ ts vs fO fZ fT} (q : Core Γ G H env σ ts vs fO fZ fT) {Γ' : Gr} (ea : Γ'.args = Γ.args) (e0 : Γ'.G0 = G) (ez : Γ'.fz = fZ) (eo : Γ'.fo = fO) (hn : ∀ a, Fre Γ'.H0 a → Fre H a)
    {G2 H2 H3 : Hp} {env2 : EnvS} {σ2 : L2.St} {ts2 : List T} {vs2 : List V} (h3 : ∀ a o, H a = some o → NT o → a ∉ fZ → a ∉ fO → H3 a = some o) (hk : ∀ a o, H a = some o → NT o → ∃ o', H3 a = some o' ∧ NT o')
    (le : Le Γ.tabs G2 H3) (hs : ∀ a, G2 a = none → H2 a ≠ none → ∀ o, H2 a = some o → H3 a = some o)
    (S : Stt Γ' G2 H2 env2 σ2 ts2 vs2) (al : ∀ i, T.al i ∈ ts → σ2[i]? = σ[i]?) : Stt Γ G2 H3 env2 σ2 (ts2 ++ ts) (vs2 ++ vs) := by
  obtain ⟨fO2, fZ2, fT2, q2⟩ := S
  have on3 : ∀ {f : List Addr}, (∀ a ∈ f, G2 a = none) → On f H2 H3 := fun h a m o e => hs a (h a m) (by rw [e]; exact fun z => nomatch z) o e
  have hT : ∀ a, a ∈ fT → ¬ Fre H a ∧ a ∉ fZ ∧ a ∉ fO := fun a m => by
    have := q.one a
    have := mem_count.mp m
    exact ⟨q.tm.trk.fre a m, not_mem_count.mp (by omega), not_mem_count.mp (by omega)⟩
  have nT : ∀ a, a ∈ fT → ¬ Fre Γ'.H0 a := fun a m e => (hT a m).1 (hn a e)
  have oT : On fT H H3 := fun a m o e => by
    obtain ⟨o', e', w⟩ := q.tm.trk a m
    rw [e] at e'
    have := Option.some.inj e'
    subst this
    exact h3 a o e w.nt (hT a m).2.1 (hT a m).2.2
  have out : ∀ a, a ∈ fT → a ∉ fO2 ∧ a ∉ fT2 ∧ a ∉ fZ2 := fun a m => by
    refine ⟨fun z => ?_, fun z => ?_, fun z => ?_⟩
    · rcases q2.nwO a (.inl z) with k | k
      · exact nT a m k
      · rw [eo] at k; exact (hT a m).2.2 k
    · rcases q2.nwO a (.inr z) with k | k
      · exact nT a m k
      · rw [eo] at k; exact (hT a m).2.2 k
    · rcases q2.nwZ a z with k | k
      · exact nT a m k
      · rw [ez] at k; exact (hT a m).2.1 k
  have g2 := q2.g0
  rw [e0] at g2
  refine ⟨fO2, fZ2, fT2 ++ fT, (q2.sl.args ea).mono (Same.refl _) (on3 fun a m => q2.off a (.inl m)) (on3 fun a m => q2.off a (.inr (.inr m))),
    (q2.tm.mono (Same.refl _) (on3 fun a m => q2.off a (.inr (.inl m)))).append ((q.tm.mono g2 oT).hold al), fun a => ?_, fun a m => ?_, fun a m => ?_, fun a m => ?_, le, q.g0.trans g2, fun a o h1 nt n1 n2 => ?_, fun a h => ?_, fun a o h nt => ?_⟩
  · rw [List.count_append]
    have := q2.one a
    have := q.one a
    by_cases m : a ∈ fT
    · obtain ⟨k1, k2, k3⟩ := out a m
      have := not_mem_count.mpr k1
      have := not_mem_count.mpr k2
      have := not_mem_count.mpr k3
      omega
    · have := not_mem_count.mpr m
      omega
  · have up : ∀ a, Fre Γ'.H0 a ∨ a ∈ Γ'.fo → Fre Γ.H0 a ∨ a ∈ Γ.fo := fun a k => by
      rcases k with k | k
      · exact .inl (q.fre (hn a k))
      · rw [eo] at k; exact q.nwO a (.inl k)
    rcases m with m | m
    · exact up a (q2.nwO a (.inl m))
    · rcases List.mem_append.mp m with m | m
      · exact up a (q2.nwO a (.inr m))
      · exact q.nwO a (.inr m)
  · rcases q2.nwZ a m with k | k
    · exact .inl (q.fre (hn a k))
    · rw [ez] at k; exact q.nwZ a k
  · rcases m with m | m | m
    · exact q2.off a (.inl m)
    · rcases List.mem_append.mp m with m | m
      · exact q2.off a (.inr (.inl m))
      · cases e : G2 a with
        | none => rfl
        | some o =>
          rcases q2.nw a (by rw [e]; exact fun z => nomatch z) with k | k | k
          · rw [e0] at k; exact absurd (q.off a (.inr (.inl m))) k
          · exact absurd k (nT a m)
          · rw [eo] at k; exact absurd k (hT a m).2.2
    · exact q2.off a (.inr (.inr m))
  · refine h3 a o (q.fr a o h1 nt n1 n2) nt (fun z => ?_) (fun z => ?_)
    · rcases q.nwZ a z with k | k
      · exact absurd nt (k _ h1)
      · exact n1 k
    · rcases q.nwO a (.inl z) with k | k
      · exact absurd nt (k _ h1)
      · exact n2 k
  · rcases q2.nw a h with k | k | k
    · rw [e0] at k; exact q.nw a k
    · exact .inr (.inl (q.fre (hn a k)))
    · rw [eo] at k; exact .inr (q.nwO a (.inl k))
  · obtain ⟨o1, e1, nt1⟩ := q.keep a o h nt
    exact hk a o1 e1 nt1
/-- the ground of a part that begins here; what is laid by stays outside -/
theorem Stt.base (X : Cx) {Γ G H env σ ts vs} (S : Stt Γ G H env σ ts vs) : ∃ Γ', Γ'.H0 = H ∧ Γ'.G0 = G ∧ Stt Γ' G H env σ [] [] ∧ Fr X Γ σ ts vs Γ' ∧ (∀ {G2 H2 env2 σ2 ts2 vs2}, Stt Γ' G2 H2 env2 σ2 ts2 vs2 → (∀ i, T.al i ∈ ts → σ2[i]? = σ[i]?) → Stt Γ G2 H2 env2 σ2 (ts2 ++ ts) (vs2 ++ vs)) ∧
    (∀ {G2 H2 fs d}, ErrSt Γ' G2 H2 fs d → ErrSt Γ G2 H2 fs d) ∧ ∀ a, G a ≠ none → a ∉ Γ'.fz ∧ a ∉ Γ'.fo := by
  obtain ⟨fO, fZ, fT, q⟩ := S
  have back : ∀ {G2 H2 env2 σ2 ts2 vs2}, Stt ⟨G, H, fZ, fO, Γ.args, Γ.tabs, fun p m => q.g0 _ _ (Γ.tb p m)⟩ G2 H2 env2 σ2 ts2 vs2 → (∀ i, T.al i ∈ ts → σ2[i]? = σ[i]?) → Stt Γ G2 H2 env2 σ2 (ts2 ++ ts) (vs2 ++ vs) := fun S al => by
    have S' := S
    obtain ⟨_, _, _, q2⟩ := S'
    exact q.frame (Γ' := ⟨G, H, fZ, fO, Γ.args, Γ.tabs, fun p m => q.g0 _ _ (Γ.tb p m)⟩) rfl rfl rfl rfl (fun _ h => h) (fun a o h nt n1 n2 => q2.fr a o h nt n1 n2) (fun a o h nt => q2.keep a o h nt) q2.le (fun _ _ _ _ h => h) S al
  refine ⟨⟨G, H, fZ, fO, Γ.args, Γ.tabs, fun p m => q.g0 _ _ (Γ.tb p m)⟩, rfl, rfl, ?_, ⟨rfl, rfl, fun S al => ⟨_, .inl rfl, back S al⟩⟩, back, fun {G2 H2 fs d} e => ?_, fun a h => ⟨fun m => h (q.off a (.inr (.inr m))), fun m => h (q.off a (.inl m))⟩⟩
  · refine ⟨fO, fZ, [], q.sl, ⟨rfl, rfl⟩, fun a => ?_, fun a m => ?_, fun a m => .inr m, fun a m => ?_, q.le, Same.refl _, fun a o h _ _ _ => h, fun a h => .inl h, fun a o h nt => ⟨o, h, nt⟩⟩
    · have := q.one a; simp; omega
    · rcases m with m | m
      · exact .inr m
      · cases m
    · rcases m with m | m | m
      · exact q.off a (.inl m)
      · cases m
      · exact q.off a (.inr (.inr m))
  · have nn : ∀ a, Fre H a → Fre Γ.H0 a := fun a k => q.fre k
    refine ⟨e.le, q.g0.trans e.g0, fun a o h1 nt n1 n2 => e.fr a o (q.fr a o h1 nt n1 n2) nt (fun z => ?_) (fun z => ?_), fun a h => ?_, fun a o h nt => (let ⟨o1, e1, nt1⟩ := q.keep a o h nt; e.keep a o1 e1 nt1), nn d e.new, e.off, e.fld⟩
    · rcases q.nwZ a z with k | k
      · exact absurd nt (k _ h1)
      · exact n1 k
    · rcases q.nwO a (.inl z) with k | k
      · exact absurd nt (k _ h1)
      · exact n2 k
    · rcases e.nw a h with k | k | k
      · exact q.nw a k
      · exact .inr (.inl (nn a k))
      · exact .inr (q.nwO a (.inl k))
/-- .. with a dict locked -/
theorem Stt.baseL (X : Cx) {Γ G H env σ ts vs d ys} (S : Stt Γ G H env σ ts vs) (hd : H d = some (.dK ys)) (hG : G d = some (.dK ys)) (od : Obj) (nf : ∀ o' u', X.H_0 d ≠ some (.frz o' u')) :
    ∃ Γ', Γ'.G0 = G ∧ Stt Γ' G (upd H d (.frz od (.dK ys))) env σ [] [] ∧ Fr X Γ σ ts vs Γ' ∧ ∀ {G2 H2 env2 σ2 ts2 vs2}, Stt Γ' G2 H2 env2 σ2 ts2 vs2 → H2 d = some (.frz od (.dK ys)) := by
  obtain ⟨fO, fZ, fT, q⟩ := S
  have nd : ∀ a, a ∈ fO ∨ a ∈ fT ∨ a ∈ fZ → a ≠ d := fun a m e => by
    have := q.off a m
    rw [e, hG] at this
    cases this
  have le1 : Le Γ.tabs G (upd H d (.frz od (.dK ys))) := fun a o e => by
    by_cases h : a = d
    · subst h
      rw [hG] at e
      injection e with e
      subst e
      exact .inr (.inl ⟨od, ys, rfl, upd_same⟩)
    · have w := own_code (o := .dK ys) (.inr (.inr ⟨_, rfl⟩)) hd
      rcases q.le a o e with ⟨h1, nt⟩ | ⟨ob, kvs, e1, h1⟩ | ⟨q', m', e1, h1⟩
      · exact .inl ⟨by rw [upd_ne h]; exact h1, nt⟩
      · exact .inr (.inl ⟨ob, kvs, e1, by rw [upd_ne h]; exact h1⟩)
      · exact .inr (.inr ⟨q', m', e1, TabS.write (fun b hb => upd_ne hb) w.1 w.2 h1⟩)
  have on : ∀ {f : List Addr}, (∀ a ∈ f, a ≠ d) → On f H (upd H d (.frz od (.dK ys))) := fun h a m o e => by rw [upd_ne (h a m)]; exact e
  have hn : ∀ a, Fre (upd H d (.frz od (.dK ys))) a → Fre H a := fun a k o e => by
    by_cases h : a = d
    · subst h; exact absurd (fun _ z => nomatch z) (k _ upd_same)
    · exact k o (by rw [upd_ne h]; exact e)
  have lk : ∀ {G2 H2 env2 σ2 ts2 vs2}, Stt ⟨G, upd H d (.frz od (.dK ys)), fZ, fO, Γ.args, Γ.tabs, fun p m => q.g0 _ _ (Γ.tb p m)⟩ G2 H2 env2 σ2 ts2 vs2 → H2 d = some (.frz od (.dK ys)) := fun ⟨_, _, _, q2⟩ =>
    q2.fr d _ upd_same (fun _ z => nomatch z) (fun z => nd d (.inr (.inr z)) rfl) (fun z => nd d (.inl z) rfl)
  refine ⟨⟨G, upd H d (.frz od (.dK ys)), fZ, fO, Γ.args, Γ.tabs, fun p m => q.g0 _ _ (Γ.tb p m)⟩, rfl, ?_, ⟨rfl, rfl, fun {G2 H2 env2 σ2 ts2 vs2} S al => ⟨upd H2 d (.dK ys), .inr ⟨d, od, .dK ys, lk S, nf, rfl⟩, ?_⟩⟩, lk⟩
  · refine ⟨fO, fZ, [], q.sl.mono (Same.refl _) (on fun a m => nd a (.inl m)) (on fun a m => nd a (.inr (.inr m))), ⟨rfl, rfl⟩, fun a => ?_, fun a m => ?_, fun a m => .inr m, fun a m => ?_, le1, Same.refl _, fun a o h _ _ _ => h, fun a h => .inl h, fun a o h nt => ⟨o, h, nt⟩⟩
    · have := q.one a; simp; omega
    · rcases m with m | m
      · exact .inr m
      · cases m
    · rcases m with m | m | m
      · exact q.off a (.inl m)
      · cases m
      · exact q.off a (.inr (.inr m))
  · have S' := S
    obtain ⟨_, _, _, q2⟩ := S'
    have gd : G2 d = some (.dK ys) := q2.g0 d _ hG
    refine q.frame (Γ' := ⟨G, upd H d (.frz od (.dK ys)), fZ, fO, Γ.args, Γ.tabs, fun p m => q.g0 _ _ (Γ.tb p m)⟩) rfl rfl rfl rfl hn (fun a o h nt n1 n2 => ?_) (fun a o h nt => ?_) (fun a o e => ?_) (fun a h _ o e => ?_) S al
    · by_cases c : a = d
      · subst c; rw [hd] at h; rw [upd_same]; exact h
      · rw [upd_ne c]; exact q2.fr a o (by show upd H d _ a = _; rw [upd_ne c]; exact h) nt n1 n2
    · by_cases c : a = d
      · subst c; exact ⟨_, upd_same, fun _ z => nomatch z⟩
      · obtain ⟨o', e', nt'⟩ := q2.keep a o (by show upd H d _ a = _; rw [upd_ne c]; exact h) nt
        exact ⟨o', by rw [upd_ne c]; exact e', nt'⟩
    · by_cases c : a = d
      · subst c; rw [gd] at e; injection e with e; subst e; exact .inl ⟨upd_same, fun _ z => nomatch z⟩
      · have hl := lk S
        rcases q2.le a o e with ⟨h1, nt⟩ | ⟨ob, kvs, e1, h1⟩ | ⟨q', m', e1, h1⟩
        · exact .inl ⟨by rw [upd_ne c]; exact h1, nt⟩
        · exact .inr (.inl ⟨ob, kvs, e1, by rw [upd_ne c]; exact h1⟩)
        · exact .inr (.inr ⟨q', m', e1, TabS.write (fun b hb => upd_ne hb) (fun c q z => by rw [hl] at z; cases z) (fun ps z => by rw [hl] at z; cases z) h1⟩)
    · by_cases c : a = d
      · subst c; rw [gd] at h; cases h
      · rw [upd_ne c]; exact e
end Mw
namespace Mw
open PySem L2
/-! ### targets -/
abbrev AsF := O → EnvS → Option EnvS
abbrev AsFs := List O → EnvS → Option EnvS
def Asg (g : TG) (A : AsF) (L : List Nat) : Prop := ∀ {Γ G H env σ o v ts vs env'}, (∀ i ∈ L, T.al i ∉ ts) → Stt Γ G H env σ (.o o :: ts) (v :: vs) → A o env = some env' →
  ∀ Q : L2.St → Hp → Prop, (∀ σ' G' H', σ'.length = σ.length → (∀ j, j ∉ L → σ'[j]? = σ[j]?) → Stt Γ G' H' env' σ' ts vs → Q σ' H') → g v σ H Q
def AsgL (g : TGs) (A : AsFs) (L : List Nat) : Prop := ∀ {Γ G H env σ} {os : List O} {us : List V} {ts vs env'}, (∀ i ∈ L, T.al i ∉ ts) → Stt Γ G H env σ (os.map T.o ++ ts) (us ++ vs) → os.length = us.length → A os env = some env' →
  ∀ Q : L2.St → Hp → Prop, (∀ σ' G' H', σ'.length = σ.length → (∀ j, j ∉ L → σ'[j]? = σ[j]?) → Stt Γ G' H' env' σ' ts vs → Q σ' H') → g us σ H Q
def aName (i : Nat) : AsF := fun o e => if i < e.length then some (e.set i (.o o)) else none
def aNil : AsFs := fun os e => match os with
  | [] => some e
  | _ => none
def aCons (A : AsF) (B : AsFs) : AsFs := fun os e => match os with
  | o :: r => (A o e).bind (B r)
  | [] => none
def aTup (A : AsFs) : AsF := fun o e => match o.seqOf with
  | some os => A os e
  | none => none
theorem asg_name {i : Nat} : Asg (gName i) (aName i) [i] := by
  intro Γ G H env σ o v ts vs env' na S e Q k
  unfold aName at e
  split at e
  · rename_i hi
    injection e with e
    subst e
    exact k _ G H (by simp) (fun j hj => by rw [List.getElem?_set_ne (fun z => hj (by simp [z]))]) (S.assign hi (na i (by simp)))
  · cases e
theorem asg_nil : AsgL gNil aNil [] := by
  intro Γ G H env σ os us ts vs env' na S hl e Q k
  cases os with
  | nil =>
    cases us with
    | nil => injection e with e; subst e; exact ⟨rfl, k σ G H rfl (fun _ _ => rfl) S⟩
    | cons u us => simp at hl
  | cons o os => cases e
theorem no_al {os : List O} {ts : List T} {i : Nat} (h : T.al i ∉ ts) : T.al i ∉ os.map T.o ++ ts := fun m => by
  rcases List.mem_append.mp m with m | m
  · obtain ⟨o, _, e⟩ := List.mem_map.mp m; cases e
  · exact h m
theorem asg_cons {g : TG} {gs : TGs} {A : AsF} {B : AsFs} {L M : List Nat} (h : Asg g A L) (h' : AsgL gs B M) : AsgL (gCons g gs) (aCons A B) (L ++ M) := by
  intro Γ G H env σ os us ts vs env' na S hl e Q k
  cases os with
  | nil => cases e
  | cons o os =>
    cases us with
    | nil => simp at hl
    | cons u us =>
      have e : (A o env).bind (B os) = some env' := e
      cases q : A o env with
      | none => rw [q] at e; cases e
      | some e1 =>
        rw [q] at e
        have e : B os e1 = some env' := e
        refine ⟨u, us, rfl, h (fun i m => no_al (na i (List.mem_append_left _ m))) S q _ fun σ1 G1 H1 hl1 k1 S1 => ?_⟩
        refine h' (fun i m => na i (List.mem_append_right _ m)) S1 (by simpa using hl) e Q fun σ2 G2 H2 hl2 k2 S2 => ?_
        exact k σ2 G2 H2 (hl2.trans hl1) (fun j hj => (k2 j fun z => hj (List.mem_append_right _ z)).trans (k1 j fun z => hj (List.mem_append_left _ z))) S2
def gAnyT (K : PySem.W.Frag) (n : Nat) (t : TGs) : TG := fun v σ H Q => gTup K n t v σ H Q ∨ gUnl K n t v σ H Q
theorem pg_any {X : Cx} {es : List Expr} {k : Nat} {pos : Pos} {t : TGs} {n : Nat} (hc : X.calm = true) (h : PGs X es t)
    (hn : (assignEach es X.env).length = n := by rfl) (hst : (assignEach es X.env).findIdx? (·.1) = none := by rfl) : PG X (.Tuple es k pos) (gAnyT X.K n t) :=
  ⟨fun pins s σ H v u Q I r hw => hw.elim (fun hw => (pg_tup hc h hn hst).run pins s σ H v u Q I r hw) fun hw => (pg_unl hc h hn hst).run pins s σ H v u Q I r hw⟩
theorem asg_tup {K : PySem.W.Frag} {gs : TGs} {A : AsFs} {L : List Nat} {n : Nat} (h : AsgL gs A L) (hn : ∀ os e e', A os e = some e' → os.length = n) : Asg (gAnyT K n gs) (aTup A) L := by
  intro Γ G H env σ o v ts vs env' na S e Q k
  unfold aTup at e
  cases q : o.seqOf with
  | none => rw [q] at e; cases e
  | some os =>
    rw [q] at e
    have e : A os env = some env' := e
    unfold O.seqOf at q
    cases q1 : o.lstOf with
    | some os' =>
      rw [q1] at q
      have := Option.some.inj q
      subst this
      obtain ⟨a, xs, ev, hH, hl, S2⟩ := S.items kL (os := os') (by unfold kidsOf; simp only [view]; exact q1)
      exact .inr ⟨a, xs, ev, .inl (.inl hH), by rw [← hl]; exact hn _ _ _ e, h na S2 hl e Q k⟩
    | none =>
      rw [q1] at q
      obtain ⟨a, xs, ev, hH, hl, S2⟩ := S.items kT (os := os) (by unfold kidsOf; simp only [view]; exact q)
      exact .inl ⟨a, xs, ev, .inl (.inl hH), by rw [← hl]; exact hn _ _ _ e, h na S2 hl e Q k⟩
theorem aNil_len : ∀ os e e', aNil os e = some e' → os.length = 0 := fun os e e' h => by
  cases os with
  | nil => rfl
  | cons => cases h
theorem aCons_len {A : AsF} {B : AsFs} {n : Nat} (h : ∀ os e e', B os e = some e' → os.length = n) : ∀ os e e', aCons A B os e = some e' → os.length = n + 1 := fun os e e' q => by
  cases os with
  | nil => cases q
  | cons o os =>
    have q : (A o e).bind (B os) = some e' := q
    cases q1 : A o e with
    | none => rw [q1] at q; cases q
    | some e1 => rw [q1] at q; rw [List.length_cons, h os e1 e' q]
/-! ### what is walked -/
def Src (Γ : Gr) (G : Hp) (J : It) (os : List O) : Prop := ∀ {G' H' env σ ts vs}, Stt Γ G' H' env σ ts vs → Same G G' → (∀ i, i < os.length → J.go i H') ∧ J.stop os.length H' ∧
  ∀ i x H'' o, os[i]? = some o → J.yld i H' x H'' → Same H' H'' ∧ ∃ f, ORep G' H'' o x f ∧ (∀ a ∈ f, H' a = none) ∧ ∀ a, f.count a ≤ 1
structure FrU (Γ : Gr) (σ : L2.St) (ts : List T) (vs : List V) (Γ' : Gr) : Prop where
  back : ∀ {G2 H2 env2 σ2 ts2 vs2}, Stt Γ' G2 H2 env2 σ2 ts2 vs2 → (∀ i, T.al i ∈ ts → σ2[i]? = σ[i]?) → Stt Γ G2 H2 env2 σ2 (ts2 ++ ts) (vs2 ++ vs)
  err : ∀ {G2 H2 fs d}, ErrSt Γ' G2 H2 fs d → ErrSt Γ G2 H2 fs d
def tI (X : Cx) (E : XK) (f : M (List O × Bool)) : TI := fun σ H R => ∃ Γ G env ts vs, Stt Γ G H env σ ts vs ∧
  post X.mg E Γ (fun p e => ∀ J Γ' G' H', Γ'.G0 = G' → Stt Γ' G' H' e σ [] [] → Src Γ' G' J p.1 → Fr X Γ σ ts vs Γ' → (p.2 = false → FrU Γ σ ts vs Γ') → R J H') (f env)
abbrev PIv (X : Cx) (E : XK) (tg e : Expr) (f : M (List O × Bool)) : Prop := PI X tg e (tI X E f)
theorem PI.imp {X : Cx} {tg e : Expr} {w w' : TI} (h : PI X tg e w) (k : ∀ σ H R, w' σ H R → w σ H R) : PI X tg e w' := ⟨fun pins s σ H R I q => h.run pins s σ H R I (k _ _ _ q)⟩
theorem PI.or {X : Cx} {tg e : Expr} {w w' : TI} (h : PI X tg e w) (h' : PI X tg e w') : PI X tg e (fun σ H R => w σ H R ∨ w' σ H R) := ⟨fun pins s σ H R I q => q.elim (h.run pins s σ H R I) (h'.run pins s σ H R I)⟩
theorem Stt.pushY {Γ G H env σ ts vs} (S : Stt Γ G H env σ ts vs) {H'' : Hp} {o : O} {x : V} (h : Same H H'' ∧ ∃ f, ORep G H'' o x f ∧ (∀ a ∈ f, H a = none) ∧ ∀ a, f.count a ≤ 1) : Stt Γ G H'' env σ (.o o :: ts) (x :: vs) := by
  obtain ⟨s, f, r, n, o1⟩ := h
  exact S.push (Same.refl _) s r n o1 (fun a m => S.le.none (n a m)) (fun a h => .inl h) (S.le.same s)
/-- a plain thing is walked -/
theorem src_plain {Γ : Gr} {G : Hp} {J : It} {ds : List D} {xs : List V} (rs : Reps G ds xs) (h : ∀ {tl : List (Addr × Str)} {H' : Hp} {G' : Hp}, Le tl G' H' → Same G G' → (∀ i, i < xs.length → J.go i H') ∧ J.stop xs.length H' ∧ ∀ i x H'', i < xs.length → J.yld i H' x H'' → H'' = H' ∧ xs[i]? = some x) :
    Src Γ G J (ds.map O.val) := fun {G' H' env σ ts vs} S s => by
  obtain ⟨h1, h2, h3⟩ := h S.le s
  have hl := rs.length
  refine ⟨fun i hi => h1 i (by rw [List.length_map] at hi; omega), by rw [List.length_map, hl]; exact h2, fun i x H'' o ho hy => ?_⟩
  rw [List.getElem?_map] at ho
  cases e : ds[i]? with
  | none => rw [e] at ho; cases ho
  | some d =>
    rw [e] at ho
    have := Option.some.inj ho
    subst this
    obtain ⟨v, hv, rv⟩ := rs.get e
    have hi : i < xs.length := (List.getElem?_eq_some_iff.mp hv).1
    obtain ⟨e1, e2⟩ := h3 i x H'' hi hy
    rw [hv] at e2
    have := Option.some.inj e2
    subst this e1
    exact ⟨Same.refl _, [], ⟨rfl, rv.mono s⟩, (fun _ m => nomatch m), fun _ => Nat.zero_le _⟩
section
variable {X : Cx} {E : XK} {pos p : Pos} {tg a b : Expr} {fa fb : M T}
/-- .. made plain -/
def plain1 (t : T) (e : EnvS) : Option (D × EnvS) := match strong1 t e with
  | some (o, e') => some (o.toD, e')
  | none => none
theorem Stt.plain1 {Γ G H env σ ts vs t v d env'} (S : Stt Γ G H env σ (t :: ts) (v :: vs)) (h : plain1 t env = some (d, env')) : ∃ G', Same G G' ∧ Rep G' d v ∧ Stt Γ G' H env' σ ts vs := by
  unfold Mw.plain1 at h
  split at h
  · rename_i o e' e
    injection h with h
    injection h with h1 h2
    subst h1 h2
    obtain ⟨G1, s1, S1⟩ := Stt.strong1 (P := []) (vP := []) S rfl e
    obtain ⟨G2, s2, S2⟩ := S1.freeze
    obtain ⟨f, r⟩ := S2.top
    exact ⟨G2, s1.trans s2, r.2, S2.pop⟩
  · cases h
def M.srcD (f : M T) : M (List O × Bool) := M.bind f fun t => fun e => match plain1 t e with
  | some (.lst ds, e') => .ok ((ds.map O.val, false), e')
  | some (.tup ds, e') => .ok ((ds.map O.val, false), e')
  | some (.dct kvs, e') => .ok ((kvs.map fun p => .val (keyD p.1), true), e')
  | _ => .stuck
/-- a dict is locked behind the expression that tells it -/
def tLk (X : Cx) (t : TE) : TE := fun σ H Q => t σ H fun x H1 => ∃ d u, x = .ref d ∧ ((H1 d = some u ∧ Mut (some u) ∧ ∀ od, (∀ o' u', X.H_0 d ≠ some (.frz o' u')) → Q x (upd H1 d (.frz od u))) ∨ ∃ od, H1 d = some (.frz od u) ∧ Q x H1)
theorem pe_lk {e : Expr} {t : TE} (h : PE X e t) : PE X e (tLk X t) := by
  refine ⟨fun pins s σ H Q I hw => ?_⟩
  refine thn (h.run pins s σ H _ I hw) fun v s1 hv => ?_
  obtain ⟨x, H1, I1, r, d, u, ex, q⟩ := hv
  rcases q with ⟨hd, mu, q⟩ | ⟨od, hd, q⟩
  · obtain ⟨od, I2⟩ := I1.lock hd mu
    exact ⟨x, _, I2, r, q od (I1.nofrz hd mu)⟩
  · exact ⟨x, _, I1, r, q⟩
theorem keys_len {G H : Hp} {kvs : List (Key × D)} {ys : List (Key × V)} (r : RepKs G kvs ys) : kvs.length = ys.length := by
  have := (OKs.vals (H := H) r).length
  rwa [List.length_map] at this
theorem keys_reps {G : Hp} : ∀ {kvs : List (Key × D)} {ys : List (Key × V)}, RepKs G kvs ys → Reps G (kvs.map fun p => keyD p.1) (ys.map fun p => kV p.1)
  | [], _, h => by rw [show _ = _ from h]; rfl
  | (k, d) :: r, _, ⟨v, s, e, h, t⟩ => by rw [e]; exact ⟨kV k, s.map fun p => kV p.1, rfl, by cases k <;> rfl, keys_reps t⟩
theorem src_keys {Γ : Gr} {G : Hp} {d : Addr} {od : Obj} {kvs : List (Key × D)} {ys : List (Key × V)} (rs : RepKs G kvs ys) (h : ∀ {G2 H2 env2 σ2 ts2 vs2}, Stt Γ G2 H2 env2 σ2 ts2 vs2 → Same G G2 → H2 d = some (.frz od (.dK ys))) :
    Src Γ G (Itk d od ys) (kvs.map fun p => .val (keyD p.1)) := fun {G' H' env σ ts vs} S s => by
  have hd := h S s
  have hl : kvs.length = ys.length := keys_len (H := G) rs
  refine ⟨fun i hi => ⟨hd, by rw [List.length_map] at hi; omega⟩, ⟨hd, by rw [List.length_map]; omega⟩, fun i x H'' o ho ⟨e1, k, v, hk, ex⟩ => ?_⟩
  subst e1 ex
  have ho' : ((kvs.map fun p => keyD p.1).map O.val)[i]? = some o := by rw [List.map_map]; exact ho
  rw [List.getElem?_map] at ho'
  cases e : (kvs.map fun p => keyD p.1)[i]? with
  | none => rw [e] at ho'; cases ho'
  | some d' =>
    rw [e] at ho'
    have := Option.some.inj ho'
    subst this
    obtain ⟨v', hv, rv⟩ := (keys_reps rs).get e
    rw [List.getElem?_map, hk] at hv
    have := Option.some.inj hv
    subst this
    exact ⟨Same.refl _, [], ⟨rfl, rv.mono s⟩, (fun _ m => nomatch m), fun _ => Nat.zero_le _⟩
/-- a list, a tuple, a dict's keys -/
theorem ei_seq (ha : PEv X E a fa) : PIv X E tg a (M.srcD fa) := PI.imp (PI.or (pi_list ha) (PI.or (pi_tup ha) (pi_keys (pe_lk ha)))) fun σ H R ⟨Γ, G, env, ts, vs, S, q⟩ => by
  have q := post_bind q
  cases ef : fa env with
  | stuck => rw [ef] at q; exact q.elim
  | err c fs =>
    rw [ef] at q
    exact .inl ⟨Γ, G, env, ts, vs, S, by rw [ef]; exact q⟩
  | ok pr =>
    obtain ⟨t, e1⟩ := pr
    rw [ef] at q
    have q : post X.mg E Γ _ (match Mw.plain1 t e1 with | some (.lst ds, e') => .ok ((ds.map O.val, false), e') | some (.tup ds, e') => .ok ((ds.map O.val, false), e') | some (.dct kvs, e') => .ok ((kvs.map fun p => .val (keyD p.1), true), e') | _ => .stuck) := q
    split at q
    · rename_i ds e' ep
      refine .inl ⟨Γ, G, env, ts, vs, S, ?_⟩
      rw [ef]
      intro v1 G1 H1 S1
      obtain ⟨G2, s2, ⟨p, xs, ev, hG, rs⟩, S2⟩ := S1.plain1 ep
      obtain ⟨Γ', e0, e00, S3, fr, bk, er, offs⟩ := S2.base X
      have hH := S2.le.lst hG
      refine ⟨p, ev, ⟨xs, .inl (.inl hH)⟩, q _ Γ' G2 H1 e00 S3 (src_plain rs fun {tl H' G'} l s => ?_) fr fun _ => ⟨bk, er⟩⟩
      have h' := l.lst (s _ _ hG)
      exact ⟨fun i hi => ⟨xs, xs[i], .inl (.inl h'), by simp [hi]⟩, ⟨xs, .inl (.inl h'), Nat.le_refl _⟩, fun i x H'' hi hy => ⟨hy.1, hy.2 xs (.inl (.inl h'))⟩⟩
    · rename_i ds e' ep
      refine .inr (.inl ⟨Γ, G, env, ts, vs, S, ?_⟩)
      rw [ef]
      intro v1 G1 H1 S1
      obtain ⟨G2, s2, ⟨p, xs, ev, hG, rs⟩, S2⟩ := S1.plain1 ep
      obtain ⟨Γ', e0, e00, S3, fr, bk, er, offs⟩ := S2.base X
      have hH := S2.le.tup hG
      refine ⟨p, ev, ⟨xs, .inl (.inl hH)⟩, q _ Γ' G2 H1 e00 S3 (src_plain rs fun {tl H' G'} l s => ?_) fr fun _ => ⟨bk, er⟩⟩
      have h' := l.tup (s _ _ hG)
      exact ⟨fun i hi => ⟨xs, xs[i], .inl (.inl h'), by simp [hi]⟩, ⟨xs, .inl (.inl h'), Nat.le_refl _⟩, fun i x H'' hi hy => ⟨hy.1, hy.2 xs (.inl (.inl h'))⟩⟩
    · rename_i kvs e' ep
      refine .inr (.inr ⟨Γ, G, env, ts, vs, S, ?_⟩)
      rw [ef]
      intro v1 G1 H1 S1
      obtain ⟨G2, s2, ⟨p, ys, ev, hG, rs⟩, S2⟩ := S1.plain1 ep
      refine ⟨p, .dK ys, ev, ?_⟩
      rcases S2.le.dK hG with hd | ⟨ob, hd⟩
      · refine .inl ⟨hd, trivial, fun od nf => ?_⟩
        obtain ⟨Γ', e00, S3, fr, lk⟩ := S2.baseL X hd hG od nf
        exact ⟨p, od, ev, .inl ⟨ys, upd_same, q _ Γ' G2 _ e00 S3 (src_keys rs fun S _ => lk S) fr fun z => nomatch z⟩⟩
      · refine .inr ⟨ob, hd, ?_⟩
        obtain ⟨Γ', e0, e00, S3, fr, bk, er, offs⟩ := S2.base X
        refine ⟨p, ob, ev, .inl ⟨ys, hd, q _ Γ' G2 _ e00 S3 (src_keys rs fun S s => ?_) fr fun z => nomatch z⟩⟩
        obtain ⟨_, _, _, q2⟩ := S
        obtain ⟨n1, n2⟩ := offs p (by rw [hG]; exact fun z => nomatch z)
        exact q2.fr p _ (by rw [e0]; exact hd) (fun _ z => nomatch z) n1 n2
    · exact q.elim
end
end Mw
namespace Mw
open PySem L2
/-! ### the block's own names -/
def wipeE (e : EnvS) : List Nat → EnvS
  | [] => e
  | v :: vs => (wipeE e vs).set v .no
def putS (σ σ' : L2.St) : List Nat → L2.St
  | [] => σ
  | v :: vs => (putS σ σ' vs).set v (σ'.getD v none)
theorem putS_len (σ σ' : L2.St) : ∀ vs, (putS σ σ' vs).length = σ.length
  | [] => rfl
  | v :: vs => by unfold putS; rw [List.length_set, putS_len σ σ' vs]
theorem putS_get (σ σ' : L2.St) (hl : σ'.length = σ.length) : ∀ (vs : List Nat) (j : Nat), (putS σ σ' vs)[j]? = if j ∈ vs then σ'[j]? else σ[j]?
  | [], j => by simp [putS]
  | v :: vs, j => by
    unfold putS
    by_cases h : v = j
    · subst h
      rw [if_pos List.mem_cons_self]
      by_cases hv : v < σ.length
      · rw [List.getElem?_set_self (by rw [putS_len]; exact hv)]
        have hv' : v < σ'.length := by omega
        rw [List.getD_eq_getElem?_getD]
        simp [hv']
      · rw [List.getElem?_eq_none (by rw [List.length_set, putS_len]; omega), List.getElem?_eq_none (by omega)]
    · rw [List.getElem?_set_ne h, putS_get σ σ' hl vs j]
      by_cases m : j ∈ vs
      · rw [if_pos m, if_pos (List.mem_cons_of_mem _ m)]
      · rw [if_neg m, if_neg (fun z => (List.mem_cons.mp z).elim (fun e => h e.symm) m)]
theorem putS_all {σ σ' : L2.St} {vs : List Nat} (hl : σ'.length = σ.length) (h : ∀ j, j ∉ vs → σ'[j]? = σ[j]?) : putS σ σ' vs = σ' := by
  apply List.ext_getElem?
  intro j
  rw [putS_get σ σ' hl vs j]
  by_cases m : j ∈ vs
  · rw [if_pos m]
  · rw [if_neg m, h j m]
theorem Stt.re0 {Γ G H env σ ts vs} (S : Stt Γ G H env σ ts vs) (σ' : L2.St) : ∀ {own : List Nat}, (∀ i ∈ own, T.al i ∉ ts) → Stt Γ G H (wipeE env own) (putS σ σ' own) ts vs
  | [], _ => S
  | v :: vs, h => (Stt.re0 S σ' fun i m => h i (List.mem_cons_of_mem _ m)).dropW _ (h v List.mem_cons_self)
theorem Stt.re {Γ G H env σ ts vs} {own : List Nat} (S : Stt Γ G H env σ ts vs) {σ' : L2.St} (hl : σ'.length = σ.length) (h : ∀ j, j ∉ own → σ'[j]? = σ[j]?) (na : ∀ i ∈ own, T.al i ∉ ts) : Stt Γ G H (wipeE env own) σ' ts vs := by
  have := S.re0 σ' na
  rwa [putS_all hl h] at this
theorem wipe_eq {σ σ' : L2.St} {vs : List Nat} (hl : σ'.length = σ.length) (h : ∀ j, j ∉ vs → σ'[j]? = σ[j]?) : wipe σ' vs = wipe σ vs := by
  apply List.ext_getElem?
  intro j
  by_cases m : j ∈ vs
  · have z : ∀ τ : L2.St, j < τ.length → (wipe τ vs)[j]? = some none := fun τ hj => by
      have hj' : j < (wipe τ vs).length := by rw [wipe_length]; exact hj
      cases e : (wipe τ vs)[j] with
      | none => rw [List.getElem?_eq_getElem hj', e]
      | some x => exact absurd m (wipe_some (x := x) (by rw [List.getElem?_eq_getElem hj', e])).2
    by_cases hj : j < σ.length
    · rw [z σ hj, z σ' (by omega)]
    · rw [List.getElem?_eq_none (by rw [wipe_length]; omega), List.getElem?_eq_none (by rw [wipe_length]; omega)]
  · rw [wipe_out m, wipe_out m, h j m]
/-! ### comprehensions -/
def lcLoop (A : AsF) (own : List Nat) (tt : M Bool) (te : M T) : List O → EnvS → R (List O × EnvS)
  | [], e => .ok ([], e)
  | o :: os, e => match A o e with
    | none => .stuck
    | some e1 => match tt e1 with
      | .ok (false, e2) => lcLoop A own tt te os (wipeE e2 own)
      | .ok (true, e2) => match te e2 with
        | .ok (t, e3) => match strong1 t e3 with
          | some (o', e4) => match lcLoop A own tt te os (wipeE e4 own) with
            | .ok (l, e5) => .ok (o' :: l, e5)
            | _ => .stuck
          | none => .stuck
        | _ => .stuck
      | _ => .stuck
def M.lc (src : M (List O × Bool)) (A : AsF) (own : List Nat) (tt : M Bool) (te : M T) : M T := M.bind src fun p => fun e => match lcLoop A own tt te p.1 (wipeE e own) with
  | .ok (res, e') => if res.length ≤ sizeLine then .ok (.o (.lst res), wipeE e' own) else .stuck
  | _ => .stuck
theorem pe_unl {X : Cx} {e : Expr} {t : TE} (h : PE X e t) : PE X e (fun σ H Q => t σ H fun v H' => ∃ H3, Unl X H' H3 ∧ Q v H3) := by
  refine ⟨fun pins s σ H Q I hw => ?_⟩
  refine thn (h.run pins s σ H _ I hw) fun v s1 hv => ?_
  obtain ⟨x, H1, I1, r, H3, u, q⟩ := hv
  rcases u with e | ⟨d, od, u, hd, nf, e⟩
  · subst e; exact ⟨x, _, I1, r, q⟩
  · subst e; exact ⟨x, _, I1.unlock hd nf, r, q⟩
theorem lc_len {A : AsF} {own : List Nat} {tt : M Bool} {te : M T} : True := trivial
section
variable {X : Cx} {E : XK} {pos : Pos} {tg elt iter : Expr} {ifs : List Expr} {scope : Scope} {own : List (Str × Nat)} {fs : M (List O × Bool)} {g : TG} {A : AsF} {L : List Nat} {ft : M Bool} {fe : M T}
theorem lc_reads (hA : Asg g A L) (hL : ∀ i ∈ L, i ∈ own.map (·.2)) {σ : L2.St} {H : Hp} {Q : VK} (h : tV X.mg E (M.lc fs A (own.map (·.2)) ft fe) σ H Q) :
    tLc (tI X E fs) g (tBo X.mg E0 ft) (tV X.mg E0 fe) (own.map (·.2)) σ H (fun v H' => ∃ H3, Unl X H' H3 ∧ Q v H3) := by
  obtain ⟨Γ, G, env, ts, vs, S, q⟩ := h
  refine ⟨Γ, G, env, ts, vs, S, post_mono (post_bind q) fun p e1 q1 J Γ' G1 H1 eG S1 src fr _ D hD => ?_⟩
  generalize hw : own.map (·.2) = ow at *
  obtain ⟨os, lk⟩ := p
  split at q1
  · rename_i res e2 hres
    split at q1
    · rename_i hz
      have S2 : Stt Γ' G1 (upd H1 D (.lst [])) e1 σ [.o (.lst [])] [.ref D] := Stt.fresh kL (tp := []) (vp := []) (os := []) (xs := []) S1 rfl hD fun fp r => ⟨[], ⟨rfl, rfl⟩, fun _ => Nat.zero_le _⟩
      have noal : ∀ (o : O) (i : Nat), T.al i ∉ [T.o o] := fun o i m => by cases m with | tail _ m => cases m
      have S3 : Stt Γ' G1 (upd H1 D (.lst [])) (wipeE e1 ow) (wipe σ ow) [.o (.lst [])] [.ref D] := S2.re (wipe_length _ _) (fun j hj => wipe_out hj) fun i _ => noal _ i
      refine ⟨fun i m H => m = os.length - i ∧ i ≤ os.length ∧ ∃ G acc e l, Stt Γ' G H e (wipe σ ow) [.o (.lst acc)] [.ref D] ∧ lcLoop A ow ft fe (os.drop i) e = .ok (l, e2) ∧ acc ++ l = res,
        ⟨_, rfl, Nat.zero_le _, G1, [], _, res, S3, hres, rfl⟩, ?_⟩
      rintro i m H2 ⟨rfl, hi, G2, acc, e, l, S4, hl, hr⟩
      have sG : Same G1 G2 := by
        obtain ⟨_, _, _, q2⟩ := S4
        have := q2.g0
        rwa [eG] at this
      obtain ⟨sgo, sstop, sy⟩ := src S4 sG
      by_cases hlt : i < os.length
      · right
        refine ⟨sgo i hlt, fun H' => ∃ G acc e l, Stt Γ' G H' e (wipe σ ow) [.o (.lst acc)] [.ref D] ∧ lcLoop A ow ft fe (os.drop (i + 1)) e = .ok (l, e2) ∧ acc ++ l = res, fun H' h => ⟨os.length - (i + 1), by omega, rfl, hlt, h⟩, fun x H' hy => ?_⟩
        have ho : os[i]? = some os[i] := by simp [hlt]
        have S5 := S4.pushY (sy i x H' _ ho hy)
        rw [List.drop_eq_getElem_cons hlt] at hl
        unfold lcLoop at hl
        split at hl
        · cases hl
        · rename_i e3 hA3
          refine hA (fun i _ => noal _ i) S5 hA3 _ fun σ' G3 H3 hl3 hσ3 S6 => ?_
          have hσ : ∀ j, j ∉ ow → (wipe σ ow)[j]? = σ'[j]? := fun j hj => (hσ3 j fun z => hj (hL j z)).symm
          have hll : (wipe σ ow).length = σ'.length := hl3.symm
          refine ⟨?_, Γ', G3, e3, [.o (.lst acc)], [.ref D], S6, ?_⟩
          · have z1 : wipe σ' ow = wipe (wipe σ ow) ow := wipe_eq hl3 fun j hj => (hσ j hj).symm
            rw [z1]
            exact wipe_eq (wipe_length _ _) fun j hj => wipe_out hj
          · split at hl
            · rename_i e4 ht4
              rw [ht4]
              intro G4 H4 S7
              rw [if_neg Bool.false_ne_true]
              exact ⟨G4, acc, _, l, S7.re hll hσ fun i _ => noal _ i, hl, hr⟩
            · rename_i e4 ht4
              rw [ht4]
              intro G4 H4 S7
              rw [if_pos rfl]
              refine ⟨Γ', G4, e4, [.o (.lst acc)], [.ref D], S7, ?_⟩
              split at hl
              · rename_i t e5 he5
                rw [he5]
                intro v G5 H5 S8
                split at hl
                · rename_i o' e6 hs6
                  split at hl
                  · rename_i l' e7 hl7
                    injection hl with hl
                    injection hl with hl1 hl2
                    subst hl1 hl2
                    obtain ⟨G6, s6, S9⟩ := Stt.strong1 (P := []) (vP := []) S8 rfl hs6
                    obtain ⟨f9, r9⟩ := S9.see1 (b := true) (o := .lst acc) rfl
                    obtain ⟨a9, xs, g9, ea, ef, hD9, rs9⟩ := r9
                    injection ea with ea
                    subst ea
                    have hlen := rs9.length
                    refine ⟨xs, hD9, ?_, G6, acc ++ [o'], wipeE e6 ow, l', ?_, hl7, ?_⟩
                    · have : res.length = acc.length + (l'.length + 1) := by rw [← hr]; simp
                      omega
                    · refine Stt.re (σ := σ') ?_ hll hσ fun i _ => noal _ i
                      refine Stt.wtemp (tp := [.o o', .o (.lst acc)]) (vp := [v, .ref D]) (ts := []) (vs := []) (a := D) S9 rfl (fun b hb => upd_ne hb) ⟨_, upd_same, fun _ z => nomatch z⟩ fun fp r one => ?_
                      obtain ⟨f1, f2, r1, r2, n⟩ := r.two
                      obtain ⟨a2, ys, g2, ea2, ef2, hD2, rs2⟩ := r2
                      injection ea2 with ea2
                      subst ea2
                      rw [hD9] at hD2
                      have := HO.lst.inj (Option.some.inj hD2)
                      subst this
                      subst ef2
                      have o1 := one D
                      rw [n D, List.count_cons_self] at o1
                      have on : ∀ {f : List Addr}, f.count D = 0 → On f H5 (upd H5 D (.lst (xs ++ [v]))) := fun z b m o h => by
                        rw [upd_ne (fun e => by subst e; exact absurd (mem_count.mp m) (by omega))]; exact h
                      refine ⟨mem_count.mpr (by rw [n D, List.count_cons_self]; omega), D :: (g2 ++ f1), ⟨D, xs ++ [v], g2 ++ f1, rfl, rfl, upd_same, ?_⟩, fun b => ?_⟩
                      · have r1' : ORep G6 H5 o' v f1 := r1
                        have k1 : OReps G6 (upd H5 D (.lst (xs ++ [v]))) [o'] [v] f1 := ⟨v, [], f1, [], rfl, (List.append_nil _).symm, r1'.mono (Same.refl _) (on (by omega)), rfl, rfl⟩
                        exact (rs2.mono (Same.refl _) (on (by omega))).append k1
                      · rw [n b, List.count_cons, List.count_cons, List.count_append]; omega
                    · rw [← hr, List.append_assoc]; rfl
                  · cases hl
                · cases hl
              · cases hl
            · cases hl
      · have ei : i = os.length := by omega
        subst ei
        left
        rw [List.drop_length] at hl
        injection hl with hl
        injection hl with hl1 hl2
        subst hl1 hl2
        rw [List.append_nil] at hr
        subst hr
        have S5 : Stt Γ' G2 H2 (wipeE e ow) σ [.o (.lst acc)] [.ref D] := S4.re (wipe_length _ _).symm (fun j hj => (wipe_out hj).symm) fun i _ => noal _ i
        obtain ⟨H3, hu, S6⟩ := fr.back S5 fun _ _ => rfl
        exact ⟨sstop, H3, hu, q1 _ _ _ S6⟩
    · exact q1.elim
  · exact q1.elim
theorem ev_lc (c : Ctx X E) (hi : PIv X E tg iter fs) (ok : BlkOk X.N X.env.scope scope own)
    (hg : ∀ (s : Shared) (H : Hp) (C : Addr) (cl : List (Str × Addr)) (fp : List Addr), PG (X.blk s H scope (compEnvC scope cl C X.env) fp) tg g) (hA : Asg g A L) (hL : ∀ i ∈ L, i ∈ own.map (·.2))
    (ht : ∀ (s : Shared) (H : Hp) (C : Addr) (cl : List (Str × Addr)) (fp : List Addr), PTs (X.blk s H scope (compEnvC scope cl C X.env) fp) ifs (tBo X.mg E0 ft))
    (he : ∀ (s : Shared) (H : Hp) (C : Addr) (cl : List (Str × Addr)) (fp : List Addr), PE (X.blk s H scope (compEnvC scope cl C X.env) fp) elt (tV X.mg E0 fe)) (hs : ∀ x, foldedSetIterable iter X.env x = pure x := by intro _; rfl) :
    PEv X E (.ListComp elt [⟨tg, iter, ifs, 0⟩] scope pos) (M.lc fs A (own.map (·.2)) ft fe) := PE.imp (pe_unl (pe_lc c.calm c.nd hi ok hg ht he hs)) fun σ H Q h => lc_reads hA hL h
end
end Mw
namespace Mw
open PySem L2
section
variable {X : Cx} {E : XK} {pos p tpos : Pos} {tg a b c : Expr} {fa fb fc : M T} {elts : List Expr} {kk : Nat}
/-! ### range -/
def rgItems (lo : Int) (n : Nat) : List O := (List.range n).map fun k => .val (.int (lo + (k : Nat)))
def M.rg1 (f : M T) : M (List O × Bool) := M.bind f fun t => fun e => match t with
  | .o (.val (.int j)) => if -(2 ^ 62) ≤ j ∧ j < 2 ^ 62 then .ok ((rgItems 0 j.toNat, false), e) else .stuck
  | _ => .stuck
def M.rg2 (f g : M T) : M (List O × Bool) := M.bind f fun s => M.bind g fun t => fun e => match s, t with
  | .o (.val (.int i)), .o (.val (.int j)) => if (-(2 ^ 62) ≤ i ∧ i < 2 ^ 62) ∧ -(2 ^ 62) ≤ j ∧ j < 2 ^ 62 then .ok ((rgItems i (j - i).toNat, false), e) else .stuck
  | _, _ => .stuck
theorem src_range {Γ : Gr} {G : Hp} {lo : Int} {n : Nat} : Src Γ G (Itr lo n) (rgItems lo n) := fun {G' H' env σ ts vs} S s => by
  have hl : (rgItems lo n).length = n := by simp [rgItems]
  rw [hl]
  refine ⟨fun i hi => hi, Nat.le_refl _, fun i x H'' o ho ⟨e1, e2⟩ => ?_⟩
  subst e1 e2
  unfold rgItems at ho
  rw [List.getElem?_map] at ho
  have hi : i < n := by
    cases e : (List.range n)[i]? with
    | none => rw [e] at ho; cases ho
    | some k => have := (List.getElem?_eq_some_iff.mp e).1; simpa using this
  rw [List.getElem?_range hi] at ho
  have := Option.some.inj ho
  subst this
  exact ⟨Same.refl _, [], ⟨rfl, rfl⟩, (fun _ m => nomatch m), fun _ => Nat.zero_le _⟩
theorem ei_range1 (hm : X.mg "range" = none) (ha : PEv X E a fa) (hg : Gl X "range" := by rfl) (hs : starEach [a] X.env = [(false, eval a X.env)] := by rfl) (hs' : starEach [a] X.env = (false, eval a X.env) :: starEach [] X.env := by rfl) :
    PIv X E tg (.Call (.Name "range" p) [a] [] pos) (M.rg1 fa) := PI.imp (pi_range1 hg hm (pa_cons ha pa_nil hs') hs) fun σ H R ⟨Γ, G, env, ts, vs, S, q⟩ => by
  refine ⟨Γ, G, env, ts, vs, S, post_mono (post_bind q) fun t e1 q1 v1 G1 H1 S1 => ?_⟩
  split at q1
  · rename_i j
    split at q1
    · rename_i hj
      obtain ⟨f, r⟩ := S1.see0 (b := true) (o := .val (.int j)) rfl
      obtain ⟨Γ', e0, e00, S3, fr, bk, er, offs⟩ := S1.pop.base X
      exact ⟨j, by rw [show v1 = _ from r.2], hj.1, hj.2, q1 _ Γ' G1 H1 e00 S3 src_range fr fun _ => ⟨bk, er⟩⟩
    · exact q1.elim
  · exact q1.elim
theorem ei_range2 (hm : X.mg "range" = none) (ha : PEv X E a fa) (hb : PEv X E b fb) (hg : Gl X "range" := by rfl) (hs : starEach [a, b] X.env = [(false, eval a X.env), (false, eval b X.env)] := by rfl) (hs2 : starEach [b] X.env = [(false, eval b X.env)] := by rfl)
    (hs' : starEach [a, b] X.env = (false, eval a X.env) :: starEach [b] X.env := by rfl) (hs2' : starEach [b] X.env = (false, eval b X.env) :: starEach [] X.env := by rfl) :
    PIv X E tg (.Call (.Name "range" p) [a, b] [] pos) (M.rg2 fa fb) := PI.imp (pi_range2 hg hm (pa_cons ha (pa_cons hb pa_nil hs2') hs') hs hs2) fun σ H R ⟨Γ, G, env, ts, vs, S, q⟩ => by
  refine ⟨Γ, G, env, ts, vs, S, post_mono (post_bind q) fun s e1 q1 v1 G1 H1 S1 => ?_⟩
  refine ⟨Γ, G1, e1, s :: ts, v1 :: vs, S1, post_mono (post_bind q1) fun t e2 q2 v2 G2 H2 S2 => ?_⟩
  split at q2
  · rename_i i j
    split at q2
    · rename_i hj
      obtain ⟨f, r⟩ := S2.see0 (b := true) (o := .val (.int j)) rfl
      obtain ⟨f', r'⟩ := S2.see1 (b := true) (o := .val (.int i)) rfl
      obtain ⟨Γ', e0, e00, S3, fr, bk, er, offs⟩ := S2.pop2.base X
      exact ⟨i, j, by rw [show v1 = _ from r'.2, show v2 = _ from r.2], ⟨hj.1.1, hj.1.2, hj.2.1, hj.2.2⟩, q2 _ Γ' G2 H2 e00 S3 src_range fr fun _ => ⟨bk, er⟩⟩
    · exact q2.elim
  · exact q2.elim
/-! ### pairs -/
def pairO (x y : D) : O := .tup [.val x, .val y]
theorem pair_rep {G H : Hp} {T : Addr} {x y : D} {v w : V} (hT : H T = none) (rx : Rep G x v) (ry : Rep G y w) : Same H (upd H T (.tup [v, w])) ∧ ∃ f, ORep G (upd H T (.tup [v, w])) (pairO x y) (.ref T) f ∧ (∀ a ∈ f, H a = none) ∧ ∀ a, f.count a ≤ 1 :=
  ⟨Same.upd hT, [T], ⟨T, [v, w], [], rfl, rfl, upd_same, v, [w], [], [], rfl, rfl, ⟨rfl, rx⟩, w, [], [], [], rfl, rfl, ⟨rfl, ry⟩, rfl, rfl⟩, (fun a m => by rw [List.mem_singleton.mp m]; exact hT), fun a => by rw [List.count_cons, List.count_nil]; split <;> omega⟩
def zipO (xs ys : List D) : List O := (xs.zip ys).map fun p => pairO p.1 p.2
def plainL (t : T) (e : EnvS) : Option (Bool × List D × EnvS) := match plain1 t e with
  | some (.lst ds, e') => some (true, ds, e')
  | some (.tup ds, e') => some (false, ds, e')
  | _ => none
theorem plainL_some {t : T} {e e' : EnvS} {k : Bool} {ds : List D} (h : plainL t e = some (k, ds, e')) : plain1 t e = some (if k then D.lst ds else D.tup ds, e') := by
  unfold plainL at h
  split at h
  · rename_i ds' e2 h2
    injection h with h; injection h with h1 h; injection h with h3 h4
    subst h1 h3 h4
    exact h2
  · rename_i ds' e2 h2
    injection h with h; injection h with h1 h; injection h with h3 h4
    subst h1 h3 h4
    exact h2
  · cases h
def M.zip (f g : M T) : M (List O × Bool) := M.bind f fun s => M.bind g fun t => fun e => match plainL t e with
  | some (k2, ys, e1) => match plainL s e1 with
    | some (k1, xs, e2) => if k1 == k2 then .ok ((zipO xs ys, false), e2) else .stuck
    | none => .stuck
  | none => .stuck
theorem zip_len (xs ys : List D) : (zipO xs ys).length = min xs.length ys.length := by simp [zipO]
theorem zip_get {xs ys : List D} {i : Nat} {o : O} (h : (zipO xs ys)[i]? = some o) : ∃ x y, xs[i]? = some x ∧ ys[i]? = some y ∧ o = pairO x y := by
  unfold zipO at h
  rw [List.getElem?_map] at h
  cases e : (xs.zip ys)[i]? with
  | none => rw [e] at h; cases h
  | some p =>
    rw [e] at h
    have := Option.some.inj h
    subst this
    rw [List.getElem?_zip_eq_some] at e
    exact ⟨p.1, p.2, e.1, e.2, rfl⟩
theorem ei_zip (hm : X.mg "zip" = none) (ha : PEv X E a fa) (hb : PEv X E b fb) (hg : Gl X "zip" := by rfl) (hs : starEach [a, b] X.env = (false, eval a X.env) :: starEach [b] X.env := by rfl) (hs2 : starEach [b] X.env = (false, eval b X.env) :: starEach [] X.env := by rfl)
    (hpl : (backTo pos (starEach [b] X.env)).any (·.1) = false := by rfl) : PIv X E (.Tuple elts kk tpos) (.Call (.Name "zip" p) [a, b] [] pos) (M.zip fa fb) := PI.imp (RZ.pi_zipA hg hm (pa_cons ha (pa_cons hb pa_nil hs2) hs) hs hpl) fun σ H R ⟨Γ, G, env, ts, vs, S, q⟩ => by
  refine ⟨Γ, G, env, ts, vs, S, post_mono (post_bind q) fun s e1 q1 v1 G1 H1 S1 => ?_⟩
  refine ⟨Γ, G1, e1, s :: ts, v1 :: vs, S1, post_mono (post_bind q1) fun t e2 q2 v2 G2 H2 S2 => ?_⟩
  split at q2
  · rename_i k2 ys e3 hp2
    split at q2
    · rename_i k1 xs e4 hp1
      split at q2
      · rename_i hk
        have hk : k1 = k2 := by simpa using hk
        subst hk
        obtain ⟨G3, s3, r2, S3⟩ := S2.plain1 (plainL_some hp2)
        obtain ⟨G4, s4, r1, S4⟩ := S3.plain1 (plainL_some hp1)
        obtain ⟨Γ', e0, e00, S5, fr, bk, er, offs⟩ := S4.base X
        have r2 := r2.mono s4
        cases k1 with
        | true =>
          obtain ⟨pa, vx, ea, hGa, rx⟩ := r1
          obtain ⟨pb, vy, eb, hGb, ry⟩ := r2
          refine ⟨pa, pb, vx, vy, by rw [ea, eb], .inl ⟨.inl (.inl (S4.le.lst hGa)), .inl (.inl (S4.le.lst hGb)), q2 _ Γ' G4 H2 e00 S5 (fun {G' H' env' σ' ts' vs'} S' s' => ?_) fr fun _ => ⟨bk, er⟩⟩⟩
          have qa : SqL X.K H' pa vx := .inl (.inl (S'.le.lst (s' _ _ hGa)))
          have qb : SqL X.K H' pb vy := .inl (.inl (S'.le.lst (s' _ _ hGb)))
          have hx := rx.length
          have hy := ry.length
          refine ⟨fun i hi => ?_, ⟨vx, vy, qa, qb, ?_⟩, fun i x H'' o ho hyd => ?_⟩
          · rw [zip_len] at hi
            exact ⟨vx, vy, vx[i]'(by omega), vy[i]'(by omega), qa, qb, by simp [show i < vx.length by omega], by simp [show i < vy.length by omega]⟩
          · rw [zip_len]; omega
          · obtain ⟨T, x', y', e5, hT, e6, k1, k2⟩ := hyd
            obtain ⟨dx, dy, g1, g2, eo⟩ := zip_get ho
            obtain ⟨wx, h1, h2⟩ := rx.get g1
            obtain ⟨wy, h3, h4⟩ := ry.get g2
            have := Option.some.inj ((k1 vx qa).symm.trans h1)
            subst this
            have := Option.some.inj ((k2 vy qb).symm.trans h3)
            subst this e5 e6 eo
            exact pair_rep hT (h2.mono s') (h4.mono s')
        | false =>
          obtain ⟨pa, vx, ea, hGa, rx⟩ := r1
          obtain ⟨pb, vy, eb, hGb, ry⟩ := r2
          refine ⟨pa, pb, vx, vy, by rw [ea, eb], .inr ⟨.inl (.inl (S4.le.tup hGa)), .inl (.inl (S4.le.tup hGb)), q2 _ Γ' G4 H2 e00 S5 (fun {G' H' env' σ' ts' vs'} S' s' => ?_) fr fun _ => ⟨bk, er⟩⟩⟩
          have qa : SqT X.K H' pa vx := .inl (.inl (S'.le.tup (s' _ _ hGa)))
          have qb : SqT X.K H' pb vy := .inl (.inl (S'.le.tup (s' _ _ hGb)))
          have hx := rx.length
          have hy := ry.length
          refine ⟨fun i hi => ?_, ⟨vx, vy, qa, qb, ?_⟩, fun i x H'' o ho hyd => ?_⟩
          · rw [zip_len] at hi
            exact ⟨vx, vy, vx[i]'(by omega), vy[i]'(by omega), qa, qb, by simp [show i < vx.length by omega], by simp [show i < vy.length by omega]⟩
          · rw [zip_len]; omega
          · obtain ⟨T, x', y', e5, hT, e6, k1, k2⟩ := hyd
            obtain ⟨dx, dy, g1, g2, eo⟩ := zip_get ho
            obtain ⟨wx, h1, h2⟩ := rx.get g1
            obtain ⟨wy, h3, h4⟩ := ry.get g2
            have := Option.some.inj ((k1 vx qa).symm.trans h1)
            subst this
            have := Option.some.inj ((k2 vy qb).symm.trans h3)
            subst this e5 e6 eo
            exact pair_rep hT (h2.mono s') (h4.mono s')
      · exact q2.elim
    · exact q2.elim
  · exact q2.elim
def enumO : Nat → List D → List O
  | _, [] => []
  | k, d :: ds => pairO (.int (k : Nat)) d :: enumO (k + 1) ds
theorem enum_get : ∀ {ds : List D} {k i : Nat} {o : O}, (enumO k ds)[i]? = some o → ∃ d, ds[i]? = some d ∧ o = pairO (.int ((k + i : Nat) : Int)) d
  | [], k, i, o, h => by simp [enumO] at h
  | d :: ds, k, 0, o, h => by simp [enumO] at h; exact ⟨d, rfl, h.symm⟩
  | d :: ds, k, i + 1, o, h => by
    obtain ⟨d', h1, h2⟩ := enum_get (ds := ds) (k := k + 1) (i := i) (o := o) (by simpa [enumO] using h)
    exact ⟨d', by simpa using h1, by rw [h2, show k + 1 + i = k + (i + 1) by omega]⟩
theorem enum_len : ∀ (ds : List D) (k : Nat), (enumO k ds).length = ds.length
  | [], _ => rfl
  | d :: ds, k => by simp [enumO, enum_len ds]
def M.enum (f : M T) : M (List O × Bool) := M.bind f fun t => fun e => match plain1 t e with
  | some (.lst ds, e1) => .ok ((enumO 0 ds, false), e1)
  | _ => .stuck
theorem ei_enum (hm : X.mg "enumerate" = none) (ha : PEv X E a fa) (hg : Gl X "enumerate" := by rfl) (hs : starEach [a] X.env = [(false, eval a X.env)] := by rfl) (hs' : starEach [a] X.env = (false, eval a X.env) :: starEach [] X.env := by rfl) :
    PIv X E (.Tuple elts kk tpos) (.Call (.Name "enumerate" p) [a] [] pos) (M.enum fa) := PI.imp (pi_enum hg hm (pa_cons ha pa_nil hs') hs) fun σ H R ⟨Γ, G, env, ts, vs, S, q⟩ => by
  refine ⟨Γ, G, env, ts, vs, S, post_mono (post_bind q) fun t e1 q1 v1 G1 H1 S1 => ?_⟩
  split at q1
  · rename_i ds e2 hp
    obtain ⟨G2, s2, ⟨pa, vx, ea, hGa, rx⟩, S2⟩ := S1.plain1 hp
    obtain ⟨Γ', e0, e00, S5, fr, bk, er, offs⟩ := S2.base X
    refine ⟨pa, vx, by rw [ea], .inl (.inl (S2.le.lst hGa)), q1 _ Γ' G2 H1 e00 S5 (fun {G' H' env' σ' ts' vs'} S' s' => ?_) fr fun _ => ⟨bk, er⟩⟩
    have qa : SqL X.K H' pa vx := .inl (.inl (S'.le.lst (s' _ _ hGa)))
    have hx := rx.length
    refine ⟨fun i hi => ?_, ⟨vx, qa, ?_⟩, fun i x H'' o ho hyd => ?_⟩
    · rw [enum_len] at hi
      exact ⟨vx, vx[i]'(by omega), qa, by simp [show i < vx.length by omega]⟩
    · rw [enum_len]; omega
    · obtain ⟨T, x', e5, hT, e6, k1⟩ := hyd
      obtain ⟨d, g1, eo⟩ := enum_get ho
      obtain ⟨wx, h1, h2⟩ := rx.get g1
      have := Option.some.inj ((k1 vx qa).symm.trans h1)
      subst this e5 e6 eo
      rw [Nat.zero_add]
      exact pair_rep hT rfl (h2.mono s')
  · exact q1.elim
/-! ### a dict's items, values -/
def M.items (f : M T) : M (List O × Bool) := M.bind f fun t => fun e => match plain1 t e with
  | some (.dct kvs, e1) => .ok ((kvs.map fun p => pairO (keyD p.1) p.2, true), e1)
  | _ => .stuck
def M.values (f : M T) : M (List O × Bool) := M.bind f fun t => fun e => match plain1 t e with
  | some (.dct kvs, e1) => .ok ((kvs.map fun p => .val p.2, true), e1)
  | _ => .stuck
theorem RepKs.get {G : Hp} : ∀ {ds : List (Key × D)} {vs : List (Key × V)}, RepKs G ds vs → ∀ {i : Nat} {p : Key × D}, ds[i]? = some p → ∃ v, vs[i]? = some (p.1, v) ∧ Rep G p.2 v
  | [], _, h, i, d, e => by simp at e
  | (k, x) :: _, _, ⟨v, r, e, h, t⟩, 0, d, q => by simp at q; subst q; exact ⟨v, by rw [e]; rfl, h⟩
  | (k, x) :: _, _, ⟨v, r, e, h, t⟩, i + 1, d, q => by
    obtain ⟨u, a, b⟩ := RepKs.get t (i := i) (p := d) (by simpa using q)
    exact ⟨u, by rw [e]; simpa using a, b⟩
theorem key_rep (G : Hp) (k : Key) : Rep G (keyD k) (kV k) := by cases k <;> rfl
variable {apos cpos : Pos}
theorem dict_lk {f : M T} {R : It → Hp → Prop} {mk : Addr → Obj → List (Key × V) → It} {g : List (Key × D) → List O} {σ : L2.St} {H : Hp}
    (hsrc : ∀ {Γ : Gr} {G : Hp} {d : Addr} {od : Obj} {kvs : List (Key × D)} {ys : List (Key × V)}, RepKs G kvs ys → (∀ {G2 H2 env2 σ2 ts2 vs2}, Stt Γ G2 H2 env2 σ2 ts2 vs2 → Same G G2 → H2 d = some (.frz od (.dK ys))) → Src Γ G (mk d od ys) (g kvs))
    (h : tI X E (M.bind f fun t => fun e => match plain1 t e with | some (.dct kvs, e1) => .ok ((g kvs, true), e1) | _ => .stuck) σ H R) :
    tLk X (tV X.mg E f) σ H fun x H1 => ∃ d o kvs, x = .ref d ∧ H1 d = some (.frz o (.dK kvs)) ∧ R (mk d o kvs) H1 := by
  obtain ⟨Γ, G, env, ts, vs, S, q⟩ := h
  refine ⟨Γ, G, env, ts, vs, S, post_mono (post_bind q) fun t e1 q v1 G1 H1 S1 => ?_⟩
  split at q
  · rename_i kvs e' ep
    obtain ⟨G2, s2, ⟨p, ys, ev, hG, rs⟩, S2⟩ := S1.plain1 ep
    refine ⟨p, .dK ys, ev, ?_⟩
    rcases S2.le.dK hG with hd | ⟨ob, hd⟩
    · refine .inl ⟨hd, trivial, fun od nf => ?_⟩
      obtain ⟨Γ', e00, S3, fr, lk⟩ := S2.baseL X hd hG od nf
      exact ⟨p, od, ys, ev, upd_same, q _ Γ' G2 _ e00 S3 (hsrc rs fun S _ => lk S) fr fun z => nomatch z⟩
    · obtain ⟨Γ', e0, e00, S3, fr, bk, er, offs⟩ := S2.base X
      refine .inr ⟨ob, hd, p, ob, ys, ev, hd, q _ Γ' G2 _ e00 S3 (hsrc rs fun S s => ?_) fr fun z => nomatch z⟩
      obtain ⟨_, _, _, q2⟩ := S
      obtain ⟨n1, n2⟩ := offs p (by rw [hG]; exact fun z => nomatch z)
      exact q2.fr p _ (by rw [e0]; exact hd) (fun _ z => nomatch z) n1 n2
  · exact q.elim
theorem ei_items (ha : PEv X E a fa) (hbase : attributeBase a "items" X.env (eval a X.env) = eval a X.env := by rfl) (hline : (apos.endLine == cpos.line) = true := by rfl) :
    PIv X E (.Tuple elts kk tpos) (.Call (.Attribute a "items" apos) [] [] cpos) (M.items fa) := PI.imp (pi_items (pe_lk ha) hbase hline) fun σ H R h => dict_lk (mk := Iti) (g := fun kvs => kvs.map fun p : Key × D => pairO (keyD p.1) p.2) (fun {Γ G d od kvs ys} rs h {G' H' env σ ts vs} S s => by
  have hd := h S s
  have hl : kvs.length = ys.length := keys_len (H := G) rs
  refine ⟨fun i hi => ⟨hd, by rw [List.length_map] at hi; omega⟩, ⟨hd, by rw [List.length_map]; omega⟩, fun i x H'' o ho ⟨T, k, v, hk, ex, hT, eH⟩ => ?_⟩
  subst ex eH
  rw [List.getElem?_map] at ho
  cases e : kvs[i]? with
  | none => rw [e] at ho; cases ho
  | some p =>
    rw [e] at ho
    have := Option.some.inj ho
    subst this
    obtain ⟨v', hv, rv⟩ := rs.get e
    rw [hk] at hv
    injection hv with hv
    injection hv with h1 h2
    subst h1 h2
    exact pair_rep hT (key_rep _ _) (rv.mono s)) h
theorem ei_values (ha : PEv X E a fa) (hbase : attributeBase a "values" X.env (eval a X.env) = eval a X.env := by rfl) (hline : (apos.endLine == cpos.line) = true := by rfl) :
    PIv X E tg (.Call (.Attribute a "values" apos) [] [] cpos) (M.values fa) := PI.imp (pi_values (pe_lk ha) hbase hline) fun σ H R h => dict_lk (mk := Itd) (g := fun kvs => kvs.map fun p : Key × D => O.val p.2) (fun {Γ G d od kvs ys} rs h {G' H' env σ ts vs} S s => by
  have hd := h S s
  have hl : kvs.length = ys.length := keys_len (H := G) rs
  refine ⟨fun i hi => ⟨hd, by rw [List.length_map] at hi; omega⟩, ⟨hd, by rw [List.length_map]; omega⟩, fun i x H'' o ho ⟨eH, k, hk⟩ => ?_⟩
  subst eH
  rw [List.getElem?_map] at ho
  cases e : kvs[i]? with
  | none => rw [e] at ho; cases ho
  | some p =>
    rw [e] at ho
    have := Option.some.inj ho
    subst this
    obtain ⟨v', hv, rv⟩ := rs.get e
    rw [hk] at hv
    injection hv with hv
    injection hv with h1 h2
    subst h2
    exact ⟨Same.refl _, [], ⟨rfl, rv.mono s⟩, (fun _ m => nomatch m), fun _ => Nat.zero_le _⟩) h
end
end Mw
namespace Mw
open PySem L2
/-! ### statements -/
inductive Fl where
  | nx | rt (o : O) | bk | ct
def ends (D : Ends) (Γ : Gr) : Fl → EnvS → Prop
  | .nx, e => ∀ σ G H, Stt Γ G H e σ [] [] → D.nx σ H
  | .rt o, e => ∀ v σ G H, Stt Γ G H e σ [.o o] [v] → D.rt v H
  | .bk, e => ∀ σ G H, Stt Γ G H e σ [] [] → D.bk σ H
  | .ct, e => ∀ σ G H, Stt Γ G H e σ [] [] → D.ct σ H
def tS (mg : Str → Option Value) (E : XK) (f : M Fl) : TS := fun D σ H => ∃ Γ G env, Stt Γ G H env σ [] [] ∧ post mg E Γ (ends D Γ) (f env)
abbrev PSv (X : Cx) (E : XK) (st : Stmt) (f : M Fl) : Prop := PS X st (tS X.mg E f)
abbrev PSsv (X : Cx) (E : XK) (st : List Stmt) (f : M Fl) : Prop := PSs X st (tS X.mg E f)
def M.nx : M Fl := fun e => .ok (.nx, e)
def M.seq (f g : M Fl) : M Fl := M.bind f fun fl => match fl with
  | .nx => g
  | x => M.pure x
/-- the value is handed on: what a slot holds moves out of it -/
def move1 (t : T) (e : EnvS) : Option (O × EnvS) := match t with
  | .o o => some (o, e)
  | .al i => match e[i]? with
    | some (.o o) => some (o, e.set i .no)
    | some (.p _ d) => some (.val d, e)
    | _ => none
theorem Stt.move1 {Γ G H env σ t v o env'} (S : Stt Γ G H env σ [t] [v]) (h : move1 t env = some (o, env')) : Stt Γ G H env' σ [.o o] [v] := by
  unfold Mw.move1 at h
  cases t with
  | o o' => injection h with h; injection h with h1 h2; subst h1 h2; exact S
  | al i =>
    have ha := S.topA
    simp only at h
    split at h
    · rename_i o' ho
      injection h with h
      injection h with h1 h2
      subst h1 h2
      obtain ⟨v', e, S'⟩ := S.pop.out ho
      rw [ha] at e
      have := Option.some.inj (Option.some.inj e)
      subst this
      exact S'
    · rename_i j d ho
      injection h with h
      injection h with h1 h2
      subst h1 h2
      obtain ⟨u, h1, h2⟩ := S.read ho (.inr ⟨j, rfl⟩)
      rw [ha] at h1
      have := Option.some.inj (Option.some.inj h1)
      subst this
      exact S.pop.val h2
    · cases h
def M.ret (f : M T) : M Fl := M.bind f fun t => fun e => match move1 t e with
  | some (o, e') => .ok (.rt o, e')
  | none => .stuck
def M.drop (f : M T) : M Fl := M.bind f fun _ => M.nx
def M.asg (f : M T) (A : AsF) : M Fl := M.bind f fun t => fun e => match strong1 t e with
  | some (o, e1) => match A o e1 with
    | some e2 => .ok (.nx, e2)
    | none => .stuck
  | none => .stuck
def M.ifS (c : M Bool) (f g : M Fl) : M Fl := M.bind c fun b => if b = true then f else g
def M.loopK (k : M Fl) : Fl → M Fl
  | .nx => k
  | .ct => k
  | .bk => M.nx
  | .rt o => M.pure (.rt o)
def M.whileN (c : M Bool) (f : M Fl) : Nat → M Fl
  | 0 => fun _ => .stuck
  | n + 1 => M.bind c fun b => if b = true then M.bind f (M.loopK (M.whileN c f n)) else M.nx
def forLoop (A : AsF) (f : M Fl) : List O → M Fl
  | [] => M.nx
  | o :: os => fun e => match A o e with
    | none => .stuck
    | some e1 => M.bind f (M.loopK (forLoop A f os)) e1
def M.forS (s : M (List O × Bool)) (A : AsF) (f : M Fl) : M Fl := M.bind s fun p => if p.2 = true then fun _ => .stuck else forLoop A f p.1
section
variable {X : Cx} {E : XK} {pos : Pos} {st : Stmt} {rest body a b : List Stmt} {e c tg iter : Expr} {f g h : M Fl} {fe : M T} {fc : M Bool} {fs : M (List O × Bool)}
theorem pss_nilv : PSsv X E [] M.nx := PSs.imp pss_nil fun D σ H ⟨Γ, G, env, S, q⟩ => q σ G H S
theorem pss_consv (h1 : PSv X E st f) (h2 : PSsv X E rest g) : PSsv X E (st :: rest) (M.seq f g) := PSs.imp (pss_cons h1 h2) fun D σ H ⟨Γ, G, env, S, q⟩ => by
  refine ⟨Γ, G, env, S, post_mono (post_bind q) fun fl e1 q1 => ?_⟩
  cases fl with
  | nx => exact fun σ1 G1 H1 S1 => ⟨Γ, G1, e1, S1, q1⟩
  | rt o => exact q1
  | bk => exact q1
  | ct => exact q1
theorem ps_passv : PSv X E (.Pass pos) M.nx := PS.imp ps_pass fun D σ H ⟨Γ, G, env, S, q⟩ => q σ G H S
theorem ps_docv {x j pos pos'} : PSv X E (.Expr (.Constant (.str x) j pos) pos') M.nx := PS.imp ps_doc fun D σ H ⟨Γ, G, env, S, q⟩ => q σ G H S
theorem ps_breakv : PSv X E (.Break pos) (M.pure .bk) := PS.imp ps_break fun D σ H ⟨Γ, G, env, S, q⟩ => q σ G H S
theorem ps_continuev : PSv X E (.Continue pos) (M.pure .ct) := PS.imp ps_continue fun D σ H ⟨Γ, G, env, S, q⟩ => q σ G H S
theorem ps_dropv (he : PEv X E e fe) (hs : swapsWith e none pos.line X.env = pure false := by rfl) : PSv X E (.Expr e pos) (M.drop fe) := PS.imp (ps_expr he hs) fun D σ H ⟨Γ, G, env, S, q⟩ =>
  ⟨Γ, G, env, [], [], S, post_mono (post_bind q) fun t e1 q1 v G1 H1 S1 => q1 _ _ _ S1.pop⟩
theorem ps_retv (he : PEv X E e fe) : PSv X E (.Return (some e) pos) (M.ret fe) := PS.imp (ps_ret he) fun D σ H ⟨Γ, G, env, S, q⟩ => by
  refine ⟨Γ, G, env, [], [], S, post_mono (post_bind q) fun t e1 q1 v G1 H1 S1 => ?_⟩
  split at q1
  · rename_i o e' hm
    exact q1 _ _ _ _ (S1.move1 hm)
  · exact q1.elim
theorem asg_imp {gt : TG} {A : AsF} {L : List Nat} (hA : Asg gt A L) {D : Ends} {σ : L2.St} {H : Hp} (q : tS X.mg E (M.asg fe A) D σ H) : tAsg (tV X.mg E fe) gt D σ H := by
  obtain ⟨Γ, G, env, S, q⟩ := q
  refine ⟨Γ, G, env, [], [], S, post_mono (post_bind q) fun t e1 q1 v G1 H1 S1 => ?_⟩
  split at q1
  · rename_i o e2 hm
    obtain ⟨G2, s2, S2⟩ := Stt.strong1 (P := []) (vP := []) S1 rfl hm
    split at q1
    · rename_i e3 ha
      exact hA (fun i _ => by simp) S2 ha _ fun σ' G' H' _ _ S3 => q1 _ _ _ S3
    · exact q1.elim
  · exact q1.elim
theorem ps_setv {i : Nat} {x : Str} {pos' : Pos} (c : Ctx X E) (hi : X.N[i]? = some x) (hx : Loc X.env.scope x) (he : PEv X E e fe) (hs : swapsWith e (some (.Name x pos')) pos.line X.env = pure false := by rfl) (hf : X.fn x = true ∨ X.env.scope.names.lookup x = some .local := by first | exact .inl rfl | exact .inr rfl | assumption) :
    PSv X E (.Assign [.Name x pos'] e pos) (M.asg fe (aName i)) := PS.imp (ps_set c.nd hi hx he hs hf) fun D σ H q => asg_imp asg_name q
theorem ps_asgv {gt : TG} {A : AsF} {L : List Nat} (hA : Asg gt A L) (he : PEv X E e fe) (hg : PG X tg gt) (hs : swapsWithSole [tg] e pos.line X.env = pure false := by rfl) (hw : swappedStores [tg] e X.env = pure none := by rfl)
    (h1 : (assignEach [tg] X.env).map (·.2) = [assign tg X.env] := by rfl) : PSv X E (.Assign [tg] e pos) (M.asg fe A) := PS.imp (ps_asg he hg hs hw h1) fun D σ H q => asg_imp hA q
theorem ps_ifv (hc : PTv X E c fc) (ha : PSsv X E a f) (hb : PSsv X E b g) : PSv X E (.If c a b pos) (M.ifS fc f g) := PS.imp (ps_if hc ha hb) fun D σ H ⟨Γ, G, env, S, q⟩ => by
  refine ⟨Γ, G, env, [], [], S, post_mono (post_bind q) fun t e1 q1 G1 H1 S1 => ?_⟩
  cases t with
  | true => rw [if_pos rfl] at q1 ⊢; exact ⟨Γ, G1, e1, S1, q1⟩
  | false => rw [if_neg Bool.false_ne_true] at q1 ⊢; exact ⟨Γ, G1, e1, S1, q1⟩
theorem ends_loop {D : Ends} {Γ : Gr} {k : M Fl} {N : L2.St → Hp → Prop} {fl : Fl} {e : EnvS} (h : post X.mg E Γ (ends D Γ) (M.loopK k fl e)) (hN : post X.mg E Γ (ends D Γ) (k e) → ∀ σ G H, Stt Γ G H e σ [] [] → N σ H) :
    ends { D with nx := N, ct := N, bk := D.nx } Γ fl e := by
  cases fl with
  | nx => exact hN h
  | ct => exact hN h
  | bk => exact h
  | rt o => exact h
theorem ps_whilev (n : Nat) (hp : PassesOwn (model X.prog X.w) X.A X.env X.xe) (hc : PTv X E c fc) (hb : PSsv X E body f) : PSv X E (.While c body [] pos) (M.whileN fc f n) := PS.imp (ps_while hp hc hb) fun D σ H ⟨Γ, G, env, S, q⟩ => by
  refine ⟨fun m σ H => ∃ G e, Stt Γ G H e σ [] [] ∧ post X.mg E Γ (ends D Γ) (M.whileN fc f m e), ⟨n, G, env, S, q⟩, fun m σ H ⟨G, e, S, q⟩ => ?_⟩
  cases m with
  | zero => exact q.elim
  | succ m =>
    refine ⟨Γ, G, e, [], [], S, post_mono (post_bind q) fun b e1 q1 G1 H1 S1 => ?_⟩
    cases b with
    | false => rw [if_neg Bool.false_ne_true] at q1 ⊢; exact q1 _ _ _ S1
    | true =>
      rw [if_pos rfl] at q1 ⊢
      exact ⟨fun σ' H' => ∃ G e, Stt Γ G H' e σ' [] [] ∧ post X.mg E Γ (ends D Γ) (M.whileN fc f m e), fun σ' H' z => ⟨m, Nat.lt_succ_self m, z⟩, Γ, G1, e1, S1, post_mono (post_bind q1) fun fl e2 q2 => ends_loop q2 fun z σ G H S => ⟨G, e2, S, z⟩⟩
theorem post_base {D : Ends} {Γ Γ' : Gr} {σ : L2.St} {r : R (Fl × EnvS)} (u : FrU Γ σ [] [] Γ') (h : post X.mg E Γ (ends D Γ) r) : post X.mg E Γ' (ends D Γ') r := by
  cases r with
  | stuck => exact h
  | err cl fs => exact fun C d G H hC he => h C d G H hC (u.err he)
  | ok p =>
    obtain ⟨fl, e⟩ := p
    have no : ∀ {σ2 : L2.St} (i : Nat), T.al i ∈ ([] : List T) → σ2[i]? = σ[i]? := fun _ m => nomatch m
    cases fl with
    | nx => exact fun σ G H S => h _ _ _ (by simpa using u.back S no)
    | bk => exact fun σ G H S => h _ _ _ (by simpa using u.back S no)
    | ct => exact fun σ G H S => h _ _ _ (by simpa using u.back S no)
    | rt o => exact fun v σ G H S => h _ _ _ _ (by simpa using u.back S no)
theorem ps_forv {gt : TG} {A : AsF} {L : List Nat} (cx : Ctx X E) (hp : PassesOwn (model X.prog X.w) X.A X.env X.xe) (hi : PIv X E tg iter fs) (hg : PG X tg gt) (hA : Asg gt A L) (hb : PSsv X E body f)
    (hs : ∀ x, foldedSetIterable iter X.env x = pure x := by intro _; rfl) : PSv X E (.For tg iter body [] pos) (M.forS fs A f) := PS.imp (ps_for hp cx.calm hi hg hb hs) fun D σ H ⟨Γ, G, env, S, q⟩ => by
  refine ⟨Γ, G, env, [], [], S, post_mono (post_bind q) fun p e1 q1 J Γ' G1 H1 eG S1 src fr fru => ?_⟩
  obtain ⟨os, lk⟩ := p
  cases lk with
  | true => rw [if_pos rfl] at q1; exact q1.elim
  | false =>
    rw [if_neg Bool.false_ne_true] at q1
    have q1 := post_base (fru rfl) q1
    refine ⟨fun i m σ H => m = os.length - i ∧ i ≤ os.length ∧ ∃ G e, Stt Γ' G H e σ [] [] ∧ post X.mg E Γ' (ends D Γ') (forLoop A f (os.drop i) e), ⟨_, rfl, Nat.zero_le _, G1, e1, S1, q1⟩, ?_⟩
    rintro i m σ2 H2 ⟨rfl, hi, G2, e2, S2, q2⟩
    have sG : Same G1 G2 := by
      obtain ⟨_, _, _, q2⟩ := S2
      have := q2.g0
      rwa [eG] at this
    obtain ⟨sgo, sstop, sy⟩ := src S2 sG
    by_cases hlt : i < os.length
    · right
      refine ⟨sgo i hlt, fun σ' H' => ∃ G e, Stt Γ' G H' e σ' [] [] ∧ post X.mg E Γ' (ends D Γ') (forLoop A f (os.drop (i + 1)) e), fun σ' H' z => ⟨os.length - (i + 1), by omega, rfl, hlt, z⟩, fun x H' hy => ?_⟩
      have ho : os[i]? = some os[i] := by simp [hlt]
      have S5 := S2.pushY (sy i x H' _ ho hy)
      rw [List.drop_eq_getElem_cons hlt] at q2
      unfold forLoop at q2
      split at q2
      · exact q2.elim
      · rename_i e3 hA3
        refine hA (fun i _ => by simp) S5 hA3 _ fun σ' G3 H3 _ _ S6 => ?_
        exact ⟨Γ', G3, e3, S6, post_mono (post_bind q2) fun fl e4 q4 => ends_loop q4 fun z σ G H S => ⟨G, e4, S, z⟩⟩
    · have ei : i = os.length := by omega
      subst ei
      left
      rw [List.drop_length] at q2
      exact ⟨sstop, q2 _ _ _ S2⟩
end
end Mw
namespace Mw
open PySem L2
/-! ### what is ours is changed -/
theorem Stt.wtempL {Γ G H env σ ts vs a H'} {tp tp' : List T} {vp vp' : List V} (c : Stt Γ G H env σ (tp ++ ts) (vp ++ vs)) (hl : tp.length = vp.length)
    (hH : ∀ b, b ≠ a → H' b = H b) (hn : ∃ o, H' a = some o ∧ NT o)
    (hr : ∀ fp, TReps G H σ tp vp fp → (∀ b, fp.count b ≤ 1) → a ∈ fp ∧ ∃ f', TReps G H' σ tp' vp' f' ∧ ∀ b, f'.count b ≤ fp.count b) :
    Stt Γ G H' env σ (tp' ++ ts) (vp' ++ vs) := by
  obtain ⟨fO, fZ, fT, q⟩ := c
  obtain ⟨x, y, fp, ft, e1, e2, h1, h2⟩ := q.tm.split
  obtain ⟨e3, e4⟩ := List.append_inj e1 (by rw [← hl, h1.len])
  subst e3 e4 e2
  obtain ⟨ha, f', r', n'⟩ := hr fp h1 fun b => by have := q.one b; rw [List.count_append] at this; omega
  have am : 0 < fp.count a := mem_count.mp ha
  have oa := q.one a
  rw [List.count_append] at oa
  have out : ∀ {f : List Addr}, f.count a = 0 → On f H H' := fun z b m o h => by
    rw [hH b fun e => by subst e; exact absurd (mem_count.mp m) (by omega)]
    exact h
  have ga : G a = none := q.off a (.inr (.inl (List.mem_append_left _ ha)))
  refine ⟨fO, fZ, f' ++ ft, q.sl.mono (Same.refl _) (out (by omega)) (out (by omega)), r'.append (h2.mono (Same.refl _) (out (by omega))), fun b => ?_, fun b m => ?_, q.nwZ, fun b m => ?_, ?_, q.g0, fun b o h nt n1 n2 => ?_, q.nw, fun b o h nt => ?_⟩
  · have := q.one b; have := n' b
    rw [List.count_append] at *
    omega
  · refine q.nwO b (m.imp id fun m => ?_)
    have := n' b
    have := mem_count.mp m
    rw [List.count_append] at this
    exact mem_count.mpr (by rw [List.count_append]; omega)
  · refine q.off b (m.imp id fun m => m.imp (fun m => ?_) id)
    have := n' b
    have := mem_count.mp m
    rw [List.count_append] at this
    exact mem_count.mpr (by rw [List.count_append]; omega)
  · exact q.le.write hH (h1.trk a ha) ga
  · have z := q.fr b o h nt n1 n2
    have ne : b ≠ a := fun e => by
      subst e
      rcases q.nwO b (.inr (List.mem_append_left _ ha)) with k | k
      · exact absurd nt (k _ h)
      · exact n2 k
    rw [hH b ne]
    exact z
  · by_cases e : b = a
    · subst e; exact hn
    · rw [hH b e]; exact q.keep b o h nt
/-- the list in a slot -/
theorem Stt.slotL {Γ : Gr} {G H : Hp} {env : EnvS} {σ : L2.St} {ts : List T} {vs : List V} {i : Nat} {os : List O} (S : Stt Γ G H env σ ts vs) (hi : env[i]? = some (.o (.lst os))) : ∃ p xs, σ[i]? = some (some (.ref p)) ∧ H p = some (.lst xs) ∧ os.length = xs.length := by
  obtain ⟨v, f, h1, a, xs, g, ev, ef, hH, rs⟩ := S.ownS hi
  subst ev
  exact ⟨a, xs, h1, hH, rs.length⟩
theorem Stt.lset {Γ : Gr} {G H : Hp} {env : EnvS} {σ : L2.St} {ts : List T} {vs : List V} {i : Nat} {os os' : List O} {p : Addr} {xs xs' : List V} {tp tp' : List T} {vp vp' : List V} (S : Stt Γ G H env σ (tp ++ ts) (vp ++ vs)) (hl : tp.length = vp.length) (hi : env[i]? = some (.o (.lst os)))
    (hv : σ[i]? = some (some (.ref p))) (hH : H p = some (.lst xs))
    (hr : ∀ g fp, OReps G H os xs g → TReps G H σ tp vp fp → ∃ g' f', OReps G H os' xs' g' ∧ TReps G H σ tp' vp' f' ∧ ∀ b, g'.count b + f'.count b ≤ g.count b + fp.count b) :
    Stt Γ G (upd H p (.lst xs')) (env.set i (.o (.lst os'))) σ (tp' ++ ts) (vp' ++ vs) := by
  have hil : i < (env.set i Sl.no).length := by rw [List.length_set]; exact (List.getElem?_eq_some_iff.mp hi).1
  obtain ⟨v, hv', S1⟩ := S.out hi
  rw [hv] at hv'
  have := Option.some.inj (Option.some.inj hv')
  subst this
  have S2 : Stt Γ G H (env.set i .no) σ ((T.o (.lst os) :: tp) ++ ts) ((V.ref p :: vp) ++ vs) := S1
  have S3 := Stt.wtempL (a := p) (H' := upd H p (.lst xs')) (tp := T.o (.lst os) :: tp) (vp := V.ref p :: vp) (tp' := T.o (.lst os') :: tp') (vp' := V.ref p :: vp') S2 (by simp [hl]) (fun b hb => upd_ne hb) ⟨_, upd_same, fun _ z => nomatch z⟩ fun fp r one => by
    obtain ⟨v1, r1, f1, f2, e1, ef, h1, h2⟩ := r
    injection e1 with e1 e2
    subst e1 e2
    obtain ⟨a, xs2, g, ea, ef1, hH2, rs⟩ := h1
    injection ea with ea
    subst ea
    rw [hH] at hH2
    have := HO.lst.inj (Option.some.inj hH2)
    subst this
    subst ef1
    obtain ⟨g', f', k1, k2, n⟩ := hr g f2 rs h2
    have cnt : ∀ b, fp.count b = (p :: g).count b + f2.count b := fun b => by rw [ef, List.count_append]
    have o1 := one p
    rw [cnt p, List.count_cons_self] at o1
    have n1 := n p
    have on : ∀ {f : List Addr}, f.count p = 0 → On f H (upd H p (.lst xs')) := fun z b m o h => by
      rw [upd_ne (fun e => by subst e; exact absurd (mem_count.mp m) (by omega))]; exact h
    refine ⟨by rw [ef]; simp, (p :: g') ++ f', ⟨.ref p, vp', p :: g', f', rfl, rfl, ⟨p, xs', g', rfl, rfl, upd_same, k1.mono (Same.refl _) (on (by omega))⟩, k2.mono (Same.refl _) (on (by omega))⟩, fun b => ?_⟩
    rw [cnt b, List.count_append, List.count_cons, List.count_cons]
    have := n b
    omega
  have S4 : Stt Γ G (upd H p (.lst xs')) (env.set i .no) σ (.o (.lst os') :: (tp' ++ ts)) (.ref p :: (vp' ++ vs)) := S3
  have S5 := S4.back hil hv
  rwa [List.set_set] at S5
/-! ### a part of what is ours becomes plain -/
theorem Stt.freezeP {Γ G H env σ o o' ts v vs} (c : Stt Γ G H env σ (.o o :: ts) (v :: vs))
    (hr : ∀ f, ORep G H o v f → ∃ fa fb, (∀ b, f.count b = fa.count b + fb.count b) ∧ ∀ G', Same G G' → On fa H G' → ORep G' H o' v fb) : ∃ G', Same G G' ∧ Stt Γ G' H env σ (.o o' :: ts) (v :: vs) := by
  obtain ⟨fO, fZ, fT, q⟩ := c
  obtain ⟨v', vr, f1, f2, e1, e2, h1, h2⟩ := q.tm
  injection e1 with e3 e4
  subst e3 e4 e2
  have h1 : ORep G H o v f1 := h1
  obtain ⟨fa, fb, cnt, mk⟩ := hr f1 h1
  have sub : ∀ a, a ∈ fa → a ∈ f1 := fun a m => mem_count.mpr (by have := mem_count.mp m; have := cnt a; omega)
  have z : ∀ a, a ∈ fa → fO.count a = 0 ∧ f2.count a = 0 ∧ fZ.count a = 0 ∧ fb.count a = 0 := fun a m => by
    have := q.one a
    rw [List.count_append] at this
    have := mem_count.mp m
    have := cnt a
    omega
  have gn : ∀ a, a ∈ fa → G a = none := fun a m => q.off a (.inr (.inl (List.mem_append_left _ (sub a m))))
  let G' : Hp := fun a => if a ∈ fa then H a else G a
  have sG : Same G G' := fun a o h => by
    show (if a ∈ fa then H a else G a) = some o
    by_cases m : a ∈ fa
    · rw [gn a m] at h; cases h
    · rw [if_neg m]; exact h
  have on : On fa H G' := fun a m o h => by
    show (if a ∈ fa then H a else G a) = some o
    rw [if_pos m]; exact h
  have offG : ∀ a, a ∉ fa → G a = none → G' a = none := fun a m h => by
    show (if a ∈ fa then H a else G a) = none
    rw [if_neg m]; exact h
  refine ⟨G', sG, fO, fZ, fb ++ f2, q.sl.mono sG (.of_same (Same.refl _)) (.of_same (Same.refl _)), ⟨v, vs, fb, f2, rfl, rfl, mk G' sG on, h2.mono sG (.of_same (Same.refl _))⟩, fun a => ?_, fun a m => ?_, q.nwZ, fun a m => ?_, ?_, q.g0.trans sG, q.fr, fun a h => ?_, q.keep⟩
  · have := q.one a
    have := cnt a
    rw [List.count_append] at *
    omega
  · refine q.nwO a (m.imp id fun m => ?_)
    have := mem_count.mp m
    have := cnt a
    rw [List.count_append] at *
    exact mem_count.mpr (by rw [List.count_append]; omega)
  · refine offG a (fun m1 => ?_) (q.off a (m.imp id fun m => m.imp (fun m => ?_) id))
    · obtain ⟨z1, z2, z3, z4⟩ := z a m1
      rcases m with m | m | m
      · exact absurd (mem_count.mp m) (by omega)
      · rcases List.mem_append.mp m with m | m
        · exact absurd (mem_count.mp m) (by omega)
        · exact absurd (mem_count.mp m) (by omega)
      · exact absurd (mem_count.mp m) (by omega)
    · have := mem_count.mp m
      have := cnt a
      rw [List.count_append] at *
      exact mem_count.mpr (by rw [List.count_append]; omega)
  · intro a o h
    have h : (if a ∈ fa then H a else G a) = some o := h
    by_cases m : a ∈ fa
    · rw [if_pos m] at h
      obtain ⟨o', e', w⟩ := h1.trk a (sub a m)
      rw [h] at e'
      have := Option.some.inj e'
      subst this
      exact .inl ⟨h, w.nt⟩
    · rw [if_neg m] at h; exact q.le a o h
  · have h : (if a ∈ fa then H a else G a) ≠ none := h
    by_cases m : a ∈ fa
    · rcases q.nwO a (.inr (List.mem_append_left _ (sub a m))) with k | k
      · exact .inr (.inl k)
      · exact .inr (.inr k)
    · rw [if_neg m] at h; exact q.nw a h
/-- the parts become plain, the whole stays ours -/
def O.flat : O → O
  | .lst os => .lst ((O.toDs os).map O.val)
  | .tup os => .tup ((O.toDs os).map O.val)
  | .dct kvs => .dct ((O.toDk kvs).map fun p => (p.1, .val p.2))
  | o => o
theorem OKs.valsK {G H : Hp} : ∀ {ds : List (Key × D)} {vs : List (Key × V)}, RepKs G ds vs → OKs G H (ds.map fun p => (p.1, O.val p.2)) vs []
  | [], _, h => ⟨h, rfl⟩
  | (k, d) :: r, _, ⟨v, s, e, h, t⟩ => ⟨v, s, [], [], e, rfl, ⟨rfl, h⟩, OKs.valsK t⟩
theorem Stt.flat {Γ G H env σ o ts v vs} (c : Stt Γ G H env σ (.o o :: ts) (v :: vs)) : ∃ G', Same G G' ∧ Stt Γ G' H env σ (.o o.flat :: ts) (v :: vs) := c.freezeP fun f r => by
  cases o with
  | val d => exact ⟨[], f, fun b => by simp, fun G' s on => r.mono s (On.of_same (Same.refl _))⟩
  | lst os =>
    obtain ⟨a, xs, g, ev, ef, hH, rs⟩ := r
    subst ef
    exact ⟨g, [a], fun b => by rw [List.count_cons, List.count_cons, List.count_nil]; omega, fun G' s on => ⟨a, xs, [], ev, rfl, hH, OReps.vals (OReps.reps s on rs)⟩⟩
  | tup os =>
    obtain ⟨a, xs, g, ev, ef, hH, rs⟩ := r
    subst ef
    exact ⟨g, [a], fun b => by rw [List.count_cons, List.count_cons, List.count_nil]; omega, fun G' s on => ⟨a, xs, [], ev, rfl, hH, OReps.vals (OReps.reps s on rs)⟩⟩
  | dct os =>
    obtain ⟨a, xs, g, ev, ef, hH, rs⟩ := r
    subst ef
    exact ⟨g, [a], fun b => by rw [List.count_cons, List.count_cons, List.count_nil]; omega, fun G' s on => ⟨a, xs, [], ev, rfl, hH, OKs.valsK (OKs.reps s on rs)⟩⟩
/-- an assignment whose value's parts become plain -/
def aFlat (A : AsF) : AsF := fun o e => A o.flat e
theorem asg_flat {g : TG} {A : AsF} {L : List Nat} (h : Asg g A L) : Asg g (aFlat A) L := by
  intro Γ G H env σ o v ts vs env' na S e Q k
  obtain ⟨G1, s1, S1⟩ := S.flat
  exact h na S1 e Q k
/-! ### a list's own methods -/
def M.meth (fo : M T) (fa : M (List T)) (k : Nat → List T → M T) : M T := M.bind fo fun t => fun e => match t with
  | .al i => match e[i]? with
    | some (.o (.lst _)) => M.bind fa (k i) e
    | _ => .stuck
  | _ => .stuck
def LOp (mg : Str → Option Value) (E : XK) (r : V → List V → Hp → VK → Prop) (k : Nat → List T → M T) : Prop := ∀ {Γ G H env σ ts vs i l us x} {Q : VK}, Stt Γ G H env σ (l ++ ts) (us ++ vs) → l.length = us.length → σ[i]? = some (some x) →
  post mg E Γ (fun t e => ∀ v G' H', Stt Γ G' H' e σ (t :: ts) (v :: vs) → Q v H') (k i l env) → r x us H Q
section
variable {X : Cx} {E : XK} {o e : Expr} {es : List Expr} {fo : M T} {fa : M (List T)} {k : Nat → List T → M T} {name : Str} {apos cpos : Pos} {id : String} {r : V → List V → Hp → VK → Prop}
theorem ev_meth (K : LOp X.mg E r k) (rule : ∀ {t : TE} {u : TA}, PE X o t → PA X (e :: es) u → PE X (.Call (.Attribute o name apos) (e :: es) [] cpos) (tBM X.K "list" r t u)) (ho : PEv X E o fo) (ha : PAv X E (e :: es) fa) :
    PEv X E (.Call (.Attribute o name apos) (e :: es) [] cpos) (M.meth fo fa k) := PE.imp (rule ho ha) fun σ H Q ⟨Γ, G, env, ts, vs, S, q⟩ => by
  refine ⟨Γ, G, env, ts, vs, S, post_mono (post_bind q) fun t e1 q1 v G1 H1 S1 => ?_⟩
  split at q1
  · rename_i i
    split at q1
    · rename_i os hi
      obtain ⟨p, xs, hv, hH, hl⟩ := S1.slotL hi
      have hx := S1.topA
      rw [hv] at hx
      have := Option.some.inj (Option.some.inj hx)
      subst this
      refine ⟨.inl ⟨rfl, xs, .inl (.inl hH)⟩, Γ, G1, e1, ts, vs, S1.pop, post_mono (post_bind q1) fun l e2 q2 us G2 H2 hl2 S2 => ?_⟩
      exact K S2 hl2 hv q2
    · exact q1.elim
  · exact q1.elim
def kApp : Nat → List T → M T := fun i l e => match l with
  | [t] => match strong1 t e with
    | some (o, e1) => match e1[i]? with
      | some (.o (.lst os)) => if os.length < sizeLine then .ok (.o (.val .non), e1.set i (.o (.lst (os ++ [o])))) else .stuck
      | _ => .stuck
    | none => .stuck
  | _ => .stuck
theorem lop_app {mg : Str → Option Value} {E : XK} : LOp mg E rAppend kApp := by
  intro Γ G H env σ ts vs i l us x Q S hl hx q
  unfold kApp at q
  split at q
  · rename_i t
    match us, hl with
    | [u], _ =>
      split at q
      · rename_i o e1 h1
        obtain ⟨G1, s1, S1⟩ := Stt.strong1 (P := []) (vP := []) S rfl h1
        split at q
        · rename_i os hi
          split at q
          · rename_i hz
            obtain ⟨p, xs, hv, hH, hlen⟩ := S1.slotL hi
            rw [hx] at hv
            have := Option.some.inj (Option.some.inj hv)
            subst this
            refine ⟨p, xs, u, rfl, rfl, hH, by omega, q _ G1 _ (Stt.val ?_ rfl)⟩
            refine Stt.lset (tp := [.o o]) (vp := [u]) (tp' := []) (vp' := []) S1 rfl hi hx hH fun g fp r1 r2 => ?_
            have r3 : OReps G1 H [o] [u] fp := TReps.os.mp r2
            exact ⟨g ++ fp, [], r1.append r3, ⟨rfl, rfl⟩, fun b => by rw [List.count_append]; simp⟩
          · exact q.elim
        · exact q.elim
      · exact q.elim
  · exact q.elim
end
end Mw
namespace Mw
open PySem L2
def kExt : Nat → List T → M T := fun i l e => match l with
  | [t] => match strong1 t e with
    | some (o, e1) => match e1[i]?, o.lstOf with
      | some (.o (.lst os)), some os2 => if os.length + os2.length ≤ sizeLine then .ok (.o (.val .non), e1.set i (.o (.lst (os ++ os2)))) else .stuck
      | _, _ => .stuck
    | none => .stuck
  | _ => .stuck
theorem lop_ext {mg : Str → Option Value} {E : XK} : LOp mg E rExtend kExt := by
  intro Γ G H env σ ts vs i l us x Q S hl hx q
  unfold kExt at q
  split at q
  · rename_i t
    match us, hl with
    | [u], _ =>
      split at q
      · rename_i o e1 h1
        obtain ⟨G1, s1, S1⟩ := Stt.strong1 (P := []) (vP := []) S rfl h1
        split at q
        · rename_i os os2 hi ho
          split at q
          · rename_i hz
            obtain ⟨p, xs, hv, hH, hlen⟩ := S1.slotL hi
            rw [hx] at hv
            have := Option.some.inj (Option.some.inj hv)
            subst this
            obtain ⟨f0, r0⟩ := S1.top
            obtain ⟨b, zs, f', eb, hB, rs, _⟩ := r0.lstOf S1.le ho
            have hzl := rs.length
            refine ⟨p, b, xs, zs, rfl, by rw [eb], hH, hB, by omega, q _ G1 _ (Stt.val ?_ rfl)⟩
            refine Stt.lset (tp := [.o o]) (vp := [u]) (tp' := []) (vp' := []) S1 rfl hi hx hH fun g fp r1 r2 => ?_
            obtain ⟨v', r', f1, f2, e5, e6, r3, e7⟩ := r2
            injection e5 with e5 e8
            subst e5
            have r3 : ORep G1 H o u f1 := r3
            obtain ⟨b', zs', f'', eb', hB', rs', n⟩ := r3.lstOf S1.le ho
            rw [eb] at eb'
            injection eb' with eb'
            subst eb'
            rw [hB] at hB'
            have := HO.lst.inj (Option.some.inj hB')
            subst this
            refine ⟨g ++ f'', [], r1.append rs', ⟨rfl, rfl⟩, fun b => ?_⟩
            have := n b
            rw [List.count_append, e6, List.count_append]; simp; omega
          · exact q.elim
        · exact q.elim
      · exact q.elim
  · exact q.elim
theorem OReps.erase {G H : Hp} : ∀ {os : List O} {xs : List V} {f : List Addr}, OReps G H os xs f → ∀ {i : Nat} {o : O}, os[i]? = some o →
    ∃ v f1 f2, xs[i]? = some v ∧ ORep G H o v f1 ∧ OReps G H (os.eraseIdx i) (xs.eraseIdx i) f2 ∧ ∀ b, f.count b = f1.count b + f2.count b
  | [], _, _, _, i, o, e => by simp at e
  | x :: os, _, _, ⟨v, r, f1, f2, e, ef, h, t⟩, 0, o, q => by
    have q : x = o := by simpa using q
    subst q e ef
    exact ⟨v, f1, f2, rfl, h, t, fun b => List.count_append⟩
  | x :: os, _, _, ⟨v, r, f1, f2, e, ef, h, t⟩, i + 1, o, q => by
    subst e ef
    obtain ⟨w, g1, g2, h1, h2, h3, h4⟩ := OReps.erase t (i := i) (o := o) (by simpa using q)
    exact ⟨w, g1, f1 ++ g2, by simpa using h1, h2, ⟨v, r.eraseIdx i, f1, g2, rfl, rfl, h, h3⟩, fun b => by rw [List.count_append, List.count_append, h4]; omega⟩
theorem OReps.setAt {G H : Hp} : ∀ {os : List O} {xs : List V} {f : List Addr}, OReps G H os xs f → ∀ {o : O} {v : V} {g : List Addr}, ORep G H o v g → ∀ (i : Nat),
    ∃ f', OReps G H (os.set i o) (xs.set i v) f' ∧ ∀ b, f'.count b ≤ f.count b + g.count b
  | [], _, _, h, o, v, g, r, i => ⟨[], by obtain ⟨e1, e2⟩ := h; rw [e1]; simp; exact ⟨rfl, rfl⟩, fun b => by simp⟩
  | x :: os, _, _, ⟨v, r, f1, f2, e, ef, h, t⟩, o, w, g, k, 0 => by
    subst e ef
    exact ⟨g ++ f2, ⟨w, r, g, f2, rfl, rfl, k, t⟩, fun b => by rw [List.count_append, List.count_append]; omega⟩
  | x :: os, _, _, ⟨v, r, f1, f2, e, ef, h, t⟩, o, w, g, k, i + 1 => by
    subst e ef
    obtain ⟨f', h1, h2⟩ := OReps.setAt t k i
    exact ⟨f1 ++ f', ⟨v, r.set i w, f1, f', rfl, rfl, h, h1⟩, fun b => by have := h2 b; rw [List.count_append, List.count_append]; omega⟩
def popK (i : Nat) (n : Option Int) : M T := fun e => match e[i]? with
  | some (.o (.lst os)) => match (match n with
      | none => if os.length = 0 then none else some (os.length - 1)
      | some k => if -(2 ^ 63) ≤ k ∧ k < 2 ^ 63 then ixN os.length k else none) with
    | some j => match os[j]? with
      | some o => .ok (.o o, e.set i (.o (.lst (os.eraseIdx j))))
      | none => .stuck
    | none => .stuck
  | _ => .stuck
theorem Stt.popJ {Γ : Gr} {G H : Hp} {env : EnvS} {σ : L2.St} {ts : List T} {vs : List V} {i : Nat} {os : List O} {p : Addr} {xs : List V} {j : Nat} {o : O} (S : Stt Γ G H env σ ts vs) (hi : env[i]? = some (.o (.lst os))) (hv : σ[i]? = some (some (.ref p))) (hH : H p = some (.lst xs)) (ho : os[j]? = some o) :
    ∃ y, xs[j]? = some y ∧ Stt Γ G (upd H p (.lst (xs.eraseIdx j))) (env.set i (.o (.lst (os.eraseIdx j)))) σ (.o o :: ts) (y :: vs) := by
  obtain ⟨v, f, h1, a, xs2, g, ea, ef, hH2, rs⟩ := S.ownS hi
  rw [hv] at h1
  have := Option.some.inj (Option.some.inj h1)
  rw [ea] at this
  injection this with this
  subst this
  rw [hH] at hH2
  have := HO.lst.inj (Option.some.inj hH2)
  subst this
  obtain ⟨y, g1, g2, hy, ry, _, _⟩ := rs.erase ho
  refine ⟨y, hy, ?_⟩
  exact Stt.lset (tp := []) (vp := []) (tp' := [.o o]) (vp' := [y]) S rfl hi hv hH fun g fp r1 r2 => by
    obtain ⟨y', g1, g2, hy', ry', rr, n⟩ := r1.erase ho
    rw [hy] at hy'
    have := Option.some.inj hy'
    subst this
    exact ⟨g2, g1, rr, ⟨y, [], g1, [], rfl, by simp, ry', rfl, rfl⟩, fun b => by rw [n b]; omega⟩
theorem ixN_lt {n : Nat} {i : Int} {j : Nat} (h : ixN n i = some j) : j < n := (ixN_seq h).2.1
def kPopAt : Nat → List T → M T := fun i l e => match l with
  | [.o (.val (.int k))] => popK i (some k) e
  | _ => .stuck
theorem lop_popAt {mg : Str → Option Value} {E : XK} : LOp mg E rPopAt kPopAt := by
  intro Γ G H env σ ts vs i l us x Q S hl hx q
  unfold kPopAt at q
  split at q
  · rename_i k
    match us, hl with
    | [u], _ =>
      unfold popK at q
      split at q
      · rename_i os hi
        split at q
        · rename_i j hj
          split at q
          · rename_i o ho
            simp only at hj
            split at hj
            · rename_i hk
              obtain ⟨p, xs, hv, hH, hlen⟩ := S.slotL hi
              rw [hx] at hv
              have := Option.some.inj (Option.some.inj hv)
              subst this
              obtain ⟨f0, r0⟩ := S.top
              have eu : u = .int k := r0.2
              subst eu
              obtain ⟨y, hy, S1⟩ := S.pop.popJ hi hx hH ho
              rw [hlen] at hj
              exact ⟨p, xs, k, j, y, rfl, rfl, hH, hk.1, hk.2, (ixN_seq hj).1, hy, q _ G _ S1⟩
            · cases hj
          · exact q.elim
        · exact q.elim
      · exact q.elim
  · exact q.elim
section
variable {X : Cx} {E : XK} {pos apos cpos : Pos} {a b o e : Expr} {es : List Expr} {fo fa fb : M T}
def M.pop0 (fo : M T) : M T := M.bind fo fun t => match t with
  | .al i => popK i none
  | _ => fun _ => .stuck
theorem ev_pop0 (ho : PEv X E o fo) (hbase : attributeBase o "pop" X.env (eval o X.env) = eval o X.env := by rfl) (hline : (apos.endLine == cpos.line) = true := by rfl) :
    PEv X E (.Call (.Attribute o "pop" apos) [] [] cpos) (M.pop0 fo) := PE.imp (pe_bm0 PySem.F.plainAttrs_list PySem.F.slot_list_pop PySem.F.type_list_pop mt_pop ho hbase hline) fun σ H Q ⟨Γ, G, env, ts, vs, S, q⟩ => by
  refine ⟨Γ, G, env, ts, vs, S, post_mono (post_bind q) fun t e1 q1 v G1 H1 S1 => ?_⟩
  cases t with
  | o o => exact q1.elim
  | al i =>
    have q1 : post X.mg E Γ _ (popK i none e1) := q1
    unfold popK at q1
    split at q1
    · rename_i os hi
      split at q1
      · rename_i j hj
        split at q1
        · rename_i o ho
          obtain ⟨p, xs, hv, hH, hlen⟩ := S1.slotL hi
          have hx := S1.topA
          rw [hv] at hx
          have := Option.some.inj (Option.some.inj hx)
          subst this
          simp only at hj
          split at hj
          · cases hj
          · injection hj with hj
            subst hj
            obtain ⟨y, hy, S2⟩ := S1.pop.popJ hi hv hH ho
            rw [hlen] at hy
            have ee : xs.eraseIdx (os.length - 1) = xs.dropLast := by rw [hlen, List.eraseIdx_length_sub_one]
            rw [ee] at S2
            exact ⟨.inl ⟨rfl, xs, .inl (.inl hH)⟩, p, xs, y, rfl, rfl, hH, hy, q1 _ G1 _ S2⟩
        · exact q1.elim
      · exact q1.elim
    · exact q1.elim
/-! ### x[e] = .. -/
def aSub (fo fi : M T) : AsF := fun o e => match fo e with
  | .ok (.al i, e0) => match e0[i]? with
    | some (.o (.lst _)) => match fi e0 with
      | .ok (.o (.val (.int k)), e1) => match e1[i]? with
        | some (.o (.lst os)) => match ixN os.length k with
          | some j => some (e1.set i (.o (.lst (os.set j o))))
          | none => none
        | _ => none
      | _ => none
    | _ => none
  | _ => none
theorem asg_sub {mg : Str → Option Value} : Asg (L2.gSub (tV mg E fo) (tV mg E fi) rSetL) (aSub fo fi) [] := by
  intro Γ G H env σ o v ts vs env' na S e Q k
  unfold aSub at e
  split at e
  · rename_i i e0 h0
    split at e
    · rename_i os0 hi0
      split at e
      · rename_i kk e1 h1
        split at e
        · rename_i os hi
          split at e
          · rename_i j hj
            injection e with e
            subst e
            refine ⟨Γ, G, env, _, _, S, ?_⟩
            rw [h0]
            intro vx G1 H1 S1
            have hx := S1.topA
            refine ⟨Γ, G1, e0, _, _, S1.pop, ?_⟩
            rw [h1]
            intro vi G2 H2 S2
            obtain ⟨f0, r0⟩ := S2.top
            have eu : vi = .int kk := r0.2
            subst eu
            obtain ⟨p, xs, hv, hH, hlen⟩ := S2.slotL hi
            rw [hv] at hx
            have := Option.some.inj (Option.some.inj hx)
            subst this
            refine ⟨p, xs, kk, j, rfl, rfl, hH, by rw [← hlen]; exact hj, k σ G2 _ rfl (fun _ _ => rfl) ?_⟩
            refine Stt.lset (tp := [.o o]) (vp := [v]) (tp' := []) (vp' := []) S2.pop rfl hi hv hH fun g fp r1 r2 => ?_
            obtain ⟨v', r', f1, f2, e5, e6, r3, e7⟩ := r2
            injection e5 with e5 e8
            subst e5
            have r3 : ORep G2 H2 o v f1 := r3
            obtain ⟨f', h1, h2⟩ := r1.setAt r3 j
            refine ⟨f', [], h1, ⟨rfl, rfl⟩, fun b => ?_⟩
            have := h2 b
            rw [e6, List.count_append]; simp; omega
          · cases e
        · cases e
      · cases e
    · cases e
  · cases e
theorem pg_subv (ho : PEv X E a fa) (hi : PEv X E b fb) (rule : ∀ {t u : TE}, PE X a t → PE X b u → PG X (.Subscript a b pos) (L2.gSub t u rSetL) := by intro _ _ h h2; exact pg_sub h h2 set_list) :
    PG X (.Subscript a b pos) (L2.gSub (tV X.mg E fa) (tV X.mg E fb) rSetL) := rule ho hi
/-! ### list.index -/
def findAt (p : O → Bool) : List O → Option Nat
  | [] => none
  | o :: os => if p o then some 0 else (findAt p os).map (· + 1)
theorem findAt_some {p : O → Bool} : ∀ {os : List O} {j : Nat}, findAt p os = some j → (∃ o, os[j]? = some o ∧ p o = true) ∧ ∀ m o, m < j → os[m]? = some o → p o = false
  | [], j, h => by cases h
  | o :: os, j, h => by
    unfold findAt at h
    split at h
    · rename_i c
      injection h with h
      subst h
      exact ⟨⟨o, rfl, c⟩, fun m o' hm => by omega⟩
    · rename_i c
      cases q : findAt p os with
      | none => rw [q] at h; cases h
      | some j' =>
        rw [q] at h
        have e5 := Option.some.inj h
        simp only at e5
        subst e5
        obtain ⟨h1, h2⟩ := findAt_some q
        refine ⟨by simpa using h1, fun m o' hm ho => ?_⟩
        cases m with
        | zero => have : o = o' := by simpa using ho
                  subst this; simpa using c
        | succ m => exact h2 m o' (by omega) (by simpa using ho)
def M.index (fo fa : M T) : M T := M.bind fo fun t => fun e => match view e t with
  | some (_, x) => match x.lstOf with
    | some _ => M.bind fa (fun s e1 => match view e1 t, view e1 s with
      | some (_, x), some (_, y) => match x.lstOf with
        | some os => if y.toD.isSc && os.all (fun o => o.toD.isSc) then match findAt (fun o => eqV o.toD.toV y.toD.toV) os with
            | some j => .ok (.o (.val (.int (j : Nat))), e1)
            | none => .stuck
          else .stuck
        | none => .stuck
      | _, _ => .stuck) e
    | none => .stuck
  | none => .stuck
theorem ev_index (ho : PEv X E o fo) (he : PEv X E e fa) (rule : ∀ {t u : TE}, PE X o t → PE X e u → PE X (.Call (.Attribute o "index" apos) [e] [] cpos) (tBM X.K "list" (rIndex X.K) t (tCons u tNil)) := by intro _ _ h h2; exact pe_bm PySem.F.plainAttrs_list PySem.F.slot_list_index PySem.F.type_list_index mt_index h (pa_cons h2 pa_nil)) :
    PEv X E (.Call (.Attribute o "index" apos) [e] [] cpos) (M.index fo fa) := PE.imp (rule ho he) fun σ H Q ⟨Γ, G, env, ts, vs, S, q⟩ => by
  refine ⟨Γ, G, env, ts, vs, S, post_mono (post_bind q) fun t e1 q1 v G1 H1 S1 => ?_⟩
  split at q1
  · rename_i b0 x hx
    split at q1
    · rename_i os0 hos
      obtain ⟨f0, r0⟩ := S1.see0 hx
      obtain ⟨a, xs, f', ev, hH, rs, _⟩ := r0.lstOf S1.le hos
      refine ⟨by rw [ev]; exact .inl ⟨rfl, xs, .inl (.inl hH)⟩, Γ, G1, e1, _, _, S1, post_mono (post_bind q1) fun s e2 q2 u G2 H2 S2 => ?_⟩
      split at q2
      · rename_i b1 x1 b2 y1 hx1 hy1
        split at q2
        · rename_i os hos2
          split at q2
          · rename_i c
            rw [Bool.and_eq_true] at c
            split at q2
            · rename_i j hj
              obtain ⟨f2, r2⟩ := S2.see1 hx1
              obtain ⟨f3, r3⟩ := S2.see0 hy1
              obtain ⟨a2, ys, f4, ev2, hH2, rs2, _⟩ := r2.lstOf S2.le hos2
              have ey := sc_rep c.1 (toD_val c.1 r3)
              have eys := rs2.sc c.2
              subst eys
              obtain ⟨⟨o', ho', hp⟩, hno⟩ := findAt_some hj
              subst ey
              refine ⟨a2, _, _, j, o'.toD.toV, ev2, rfl, .inl (.inl hH2), flat_sc c.1, ?_, by rw [List.getElem?_map, ho']; rfl, hp, fun m z' hm hz => ?_, q2 _ G2 _ (S2.pop2.val rfl)⟩
              · rw [List.all_map, List.all_eq_true]
                intro z m
                exact flat_sc (List.all_eq_true.mp c.2 z m)
              · rw [List.getElem?_map] at hz
                cases eo : os[m]? with
                | none => rw [eo] at hz; cases hz
                | some om =>
                  rw [eo] at hz
                  have := Option.some.inj hz
                  subst this
                  exact hno m om hm eo
            · exact q2.elim
          · exact q2.elim
        · exact q2.elim
      · exact q2.elim
    · exact q1.elim
  · exact q1.elim
end
end Mw
set_option maxHeartbeats 2000000
namespace PySem
namespace MwLow
open PySem.W PySem.Calls PyProof.Rows PySem.HandSPX
/-! ### the text of __init__ -/
def iA (p1 p2 : Pos) : Arguments := { posonlyargs := [], args := [{ arg := "self", annotation := none, pos := p1 }, { arg := "thing", annotation := none, pos := p2 }], vararg := none, kwonlyargs := [], kw_defaults := [], kwarg := none, defaults := [] }
def iB (q1 q2 q3 q4 : Pos) : List Stmt := [.Assign [.Attribute (.Name "self" q1) "thing" q2] (.Name "thing" q3) q4]
def iS : Scope := { kind := .function, names := [(PySem.Str.ofString "self", .local), (PySem.Str.ofString "thing", .local)], isGenerator := false, isCoroutine := false, more := [] }
/-- what the written part says of Low, at C, and of its __init__, at fI -/
structure LowTxt (K : Frag) (mg : Str → Option Value) (nm qn : Str) (C fI : Addr) : Prop where
  gC : mg nm = some (.ref C)
  cls : ∃ nm0 q N bs bm sn sub ab col dd k0 k1 k2 k3 k5, K.lookup C = some (excClassObj nm0 q C N bs bm true sn sub ab col dd k0 k1 k2 k3 k5 "ValueError.__new__") ∧ refsVE bm = true
  sa : findIn K (.ref C) "__setattr__" = some (some (.builtin "object.__setattr__"))
  ga : findIn K (.ref C) "__getattribute__" = some (some (.builtin "BaseException.__getattribute__"))
  gg : findIn K (.ref C) "__getattr__" = some none
  noN : findIn K (.ref C) "thing" = some none
  iC : findIn K (.ref C) "__init__" = some (some (.ref fI))
  tC : typeIn K (.ref fI) = some (.type "function")
  kC : keepIn K (.ref C) = true
  exC : subIn K (.ref C) (.type "BaseException") = some true
  tyC : typeIn K (.ref C) = some (.type "type")
  hdC : hasDictIn K C = true
  te : exmOne K (.ref C) (.ref C) = some true
  fn : ∃ (oc : Value) (od : Option Addr) (doc pm : Value) (an : Option Addr) (cdv ct : Value) (osl : Array (Option Value)) (p1 p2 q1 q2 q3 q4 : Pos),
    K.lookup fI = some ⟨oc, od, .func (fnOf "__init__" qn (iA p1 p2) (iB q1 q2 q3 q4) iS .none .none doc pm an cdv ct), osl⟩ ∧ codeIn K cdv qn = true
theorem one_size (v : Value) : [v].length ≤ sizeLine := by
  rw [sizeLine_eq]
  exact (by decide : 1 ≤ 16777216)
theorem kept_but {K : Frag} {h h' : Heap} {x : Addr} (X : K.In h) (hx : K.lookup x = none) (k : ∀ b o, b ≠ x → h.get? b = some o → h'.get? b = some o) : K.In h' := fun a o e =>
  k a o (fun z => by rw [z, hx] at e; cases e) (X a o e)
theorem ldC {M : Model} {s : Shared} {name : Str} {scope : Scope} {L a : Addr} {cd : Value} {m : Str → Option Value} {x : Str} {pos : Pos} {v : Value} {Q : Value → Shared → Prop} {A : Around} {E : Value → Shared → Prop} (hn : s.heap.Ns L m) (hv : m x = some v) (h : Q v s)
    (hk : scope.kind = .function := by rfl) (hl : (envOfC name scope L a cd).kindOf x = some .local := by rfl) (hd : (x == ("__debug__" : Str)) = false := by decide) :
    wpAny M A (eval (.Name x pos) (envOfC name scope L a cd)) Q E s := wpAny_Name (wpAny_loadName_local hk hl hn hv h) hd
/-- what __init__ leaves of a fresh exception at x -/
structure InitEnd (h h' : Heap) (x C dx t1 : Addr) (v : Value) : Prop where
  keep : ∀ b o, b ≠ x → h.get? b = some o → h'.get? b = some o
  obj : h'.get? x = some { cls := .ref C, dict := some dx, data := .fields #[.ref t1, .none, .none, .none, .bool false, .none] }
  dbig : h.objs.size ≤ dx
  dne : dx ≠ x
  ns : h'.Ns1 dx (fun y => if y = "thing" then some v else none)
/-- a made Low -/
structure OwnMade (h h' : Heap) (e C d : Addr) (v : Value) : Prop where
  keep : ∀ b o, h.get? b = some o → h'.get? b = some o
  new : h.objs.size ≤ e
  obj : ∃ oe vs, h'.get? e = some oe ∧ oe.cls = .ref C ∧ oe.dict = some d ∧ oe.data = .fields vs ∧ vs[1]? = some .none
  dbig : h.objs.size ≤ d
  dne : d ≠ e
  ns : h'.Ns1 d (fun y => if y = "thing" then some v else none)
section
variable {prog : Program} {w : World} {A : Around} {E : Value → Shared → Prop} {R : Result → Shared → Prop} {s : Shared} {K : Frag} {mg : Str → Option Value} {nm qn : Str} {C fI : Addr}
theorem low_init (T : LowTxt K mg nm qn C fI) {x t0 : Addr} {v : Value} (X : K.In s.heap) (hlim : s.heap.NoLimit) (hx : s.heap.get? x = some (excO C t0)) (hnx : K.lookup x = none) (hroom : A.depth < recursionLimit)
    (hq : ∀ h' tk dx, InitEnd s.heap h' x C dx t0 v → R (.ok (.ret .none)) { s with heap := h', toks := tk }) :
    codeAny (model prog w) A (.call (.ref fI) ⟨[.ref x, v], []⟩) R s := by
  obtain ⟨oc, od, doc, pm, an, cdv, ct, osl, p1, p2, q1, q2, q3, q4, ho, hcd⟩ := T.fn
  obtain ⟨nm0, q, N, bs, bm, sn, sub, ab, col, dd, k0, k1, k2, k3, k5, hC, hbm⟩ := T.cls
  have hcl : clsIn K C = some { name := nm0, bases := bs, mro := .ref C :: bm, ns := N, qualname := q, hasDict := true, slotNames := sn, subclasses := sub, abstract := ab, collection := col, hasDel := false } := by unfold clsIn; rw [hC] <;> rfl
  refine Att.call_fn (binds := [("self", .ref x), ("thing", v)]) X hlim ho hcd hroom (BindsTo.of_eq (by first | rfl | with_unfolding_all rfl)) (by first | rfl | decide | with_unfolding_all rfl) (fun s₁ IC => ?_) rfl rfl rfl
  obtain ⟨h₁, tk₁, rfl⟩ := IC.toInCall.same
  have k : ∀ b o, s.heap.get? b = some o → h₁.get? b = some o := IC.toInCall.keep
  have hn := IC.toInCall.ns
  have hxL : s.heap.objs.size ≠ x := Nat.ne_of_gt (Heap.lt_size hx)
  have X₁ : K.In h₁ := X.keeps k
  have hx₁ := k _ _ hx
  -- self.by = by
  show wpAny _ _ (execs _ _) _ _ _
  refine wpAny_execs_cons (plainObj_wpAny_Assign_Attribute ?_)
  refine ldC (v := v) hn (by first | rfl | with_unfolding_all rfl | kernel_rfl) (ldC (v := .ref x) hn (by first | rfl | with_unfolding_all rfl | kernel_rfl) ?_)
  refine set_plain X₁ (ox := excO C t0) (od := none) ⟨hx₁, rfl, rfl, trivial⟩ T.sa ?_
  refine exc_osa X₁ hx₁ hcl (show refsVE (.ref C :: bm) = true from hbm) rfl T.noN (fun h₃ tk₃ dx k₃ dn dne hx₃ hn₃ => ?_)
  show wpAny _ _ (execs _ _) _ _ _
  have z : s.heap.objs.size < h₁.objs.size := hn.lt
  exact wpAny_execs_nil (hq h₃ tk₃ dx ⟨fun b o hb e => k₃ b o hb (k b o e), hx₃, Nat.le_of_lt (Nat.lt_of_lt_of_le z dn), dne, hn₃⟩)
theorem low_made (T : LowTxt K mg nm qn C fI) {v : Value} (X : K.In s.heap) (hlim : s.heap.NoLimit) (hroom : A.depth + 1 < recursionLimit)
    (hq : ∀ h' tk e d, OwnMade s.heap h' e C d v → R (.ok (.ret (.ref e))) { s with heap := h', toks := tk }) :
    codeAny (model prog w) A (.call (.ref C) ⟨[v], []⟩) R s := by
  obtain ⟨nm0, q, N, bs, bm, sn, sub, ab, col, dd, k0, k1, k2, k3, k5, hC, hbm⟩ := T.cls
  obtain ⟨hp, g, dr, tk, os⟩ := s
  have k : ∀ b o, hp.get? b = some o → ((hp.push (kdv_tup [v])).push (excO C hp.objs.size)).get? b = some o := fun b o e => Heap.get?_push_of_some _ (Heap.get?_push_of_some _ e)
  have hget : ((hp.push (kdv_tup [v])).push (excO C hp.objs.size)).get? (hp.objs.size + 1) = some (excO C hp.objs.size) := by heap_get
  have hnx : K.lookup (hp.objs.size + 1) = none := by
    cases e : K.lookup (hp.objs.size + 1) with
    | none => rfl
    | some o =>
      have z : hp.get? (hp.objs.size + 1) = some o := X _ _ e
      exact absurd (Nat.lt_of_succ_lt (Heap.lt_size z)) (Nat.lt_irrefl _)
  refine call_own F.excBase_ValueError (fun X => refsVE_contains X bm hbm) (X _ _ hC) (looks_findIn X T.iC) (fun self => bind_fn X self T.tC) (one_size v) ?_
  refine low_init (s := ⟨(hp.push (kdv_tup [v])).push (excO C hp.objs.size), g, dr, tk, os⟩) T (X.keeps k) (hlim.keeps k) hget hnx ?_ fun h' tk' dx ⟨k', hx, dn, dne, hns⟩ => ?_
  · show A.depth + 1 < recursionLimit
    exact hroom
  · have old : ∀ b o, hp.get? b = some o → h'.get? b = some o := fun b o e => k' b o (Nat.ne_of_lt (Nat.lt_succ_of_lt (Heap.lt_size e))) (k b o e)
    have z : hp.objs.size + 1 + 1 ≤ dx := by
      first
        | (simpa only [Heap.size_push] using dn)
        | exact dn
        | (have q := dn; rw [Heap.size_push, Heap.size_push] at q; exact q)
    exact ⟨rfl, hq h' tk' (hp.objs.size + 1) dx ⟨old, Nat.le_succ _, ⟨_, _, hx, rfl, rfl, rfl, rfl⟩, Nat.le_trans (Nat.le_trans (Nat.le_succ _) (Nat.le_succ _)) z, dne, hns⟩⟩
end
end MwLow
end PySem
namespace L2
open PySem PySem.Spec PyProof.Rows
theorem relO_err {v : V} {v' : Value} (r : RelV v v') (f : Str) : RelO (List.lookup f [(("thing" : Str), v)]) (if f = "thing" then some v' else none) := by
  by_cases hw : f = "thing"
  · subst hw
    rw [if_pos rfl]
    have q : List.lookup ("thing" : Str) [(("thing" : Str), v)] = some v := by simp [List.lookup]
    rw [q]
    exact r
  · rw [if_neg hw]
    have qw : (f == ("thing" : Str)) = false := by simpa using hw
    have q2 : List.lookup f [(("thing" : Str), v)] = none := by simp [List.lookup, qw]
    rw [q2]
    trivial
section
variable {X : Cx} {nm qn : Str} {C fI : Addr}
/-- Low(e) -/
def tMkErr (C : Addr) (ta : TA) : St → Hp → XK → Prop := fun σ H Q => ta σ H fun vs H1 => ∃ v, vs = [v] ∧ ∀ d, H1 d = none → Q (.ref C) (some d) (upd H1 d (.xd [(("thing" : Str), v)]))
theorem pmk_err {a : Expr} {ta : TA} {p pos : Pos} {k : Nat} (T : PySem.MwLow.LowTxt X.K X.mg nm qn C fI) (hr : Room k X.A) (ha : PA X [a] ta) (hg : Gl X nm := by rfl)
    (he : starEach (a :: []) X.env = (false, eval a X.env) :: starEach [] X.env := by rfl) (hpl : (backTo pos (starEach [] X.env)).any (·.1) = false := by rfl) (hdb : (nm == ("__debug__" : Str)) = false := by decide) :
    PMk X (.Call (.Name nm p) [a] [] pos) (tMkErr C ta) := by
  intro pins s σ H Q I h
  refine wpAny_Call_Name_kw (ld_glob I hg T.gC ?_ hdb)
  refine PySem.W.callWith_K (h₀ := X.base) I.ok.mod.kin T.kC (thn (ha.run pos pins s σ H _ I h) fun us s1 hh => ?_) he hpl
  obtain ⟨vs, H1, I1, r1, v, ev, q1⟩ := hh
  subst ev
  refine ⟨I1.kIn, ?_⟩
  cases r1 with
  | cons rv rn =>
    rename_i v' us'
    cases rn
    show wpAny _ _ (call (.ref C) [v']) _ _ _
    have hlim := I1.nolimit
    obtain ⟨hp, g, dr, tk, os⟩ := s1
    refine wpAny_call (PySem.MwLow.low_made T I1.kIn hlim (by have := hr.dp; omega) fun h' tk' e d M => ?_)
    show MkP X pins σ Q (.ref e) ⟨h', g, dr, tk', os⟩
    obtain ⟨oe, fv, hoe, hc, hd, hdat, h1⟩ := M.obj
    have hns := M.ns
    obtain ⟨G', g1, g2⟩ := restrict h' fun b => decide (b ≠ e)
    have gk : ∀ b, b ≠ e → G'.get? b = h'.get? b := fun b hb => g1 b (decide_eq_true hb)
    have ge : G'.get? e = none := g2 e (by simp)
    have old : ∀ b o, hp.get? b = some o → G'.get? b = some o := fun b o q => (gk b (Nat.ne_of_lt (Nat.lt_of_lt_of_le (Heap.lt_size q) M.new))).trans (M.keep b o q)
    have ob : ObjOk X.prog X.w (upd H1 d (.xd [(("thing" : Str), v)])) G' d (.xd [(("thing" : Str), v)]) :=
      ⟨_, hns.at (fun o q => (gk d M.dne).trans q), fun f => relO_err rv f⟩
    have J : Inv X pins σ (upd H1 d (.xd [(("thing" : Str), v)])) ⟨G', g, dr, tk', os⟩ := I1.laid (t' := tk') old M.dbig ob
    refine ⟨e, oe, fv, ⟨G', g, dr, tk', os⟩, _, .ref C, some d, rfl, J, fun b o q => ?_, ge, hoe, ⟨hc, hd⟩, hdat, h1, ?_, rfl, I1.bare, raises_own T.exC T.tyC, q1 d (I1.hok.fresh M.dbig)⟩
    · by_cases hb : b = e
      · have q' : G'.get? b = some o := q
        rw [hb, ge] at q'; cases q'
      · exact (gk b hb).symm.trans q
    · rw [upd_ne (Ne.symm M.dne)]
      exact I1.hok.fresh M.new
/-- raise Low(e) -/
def tRaiseErr (C : Addr) (W : WX) (ta : TA) : TS := fun _ σ H => tMkErr C ta σ H fun cls d H' => W cls d σ H'
theorem ps_raiseErr {a : Expr} {ta : TA} {W : WX} {p pos pos2 : Pos} {k : Nat} (hc : X.calm = true) (T : PySem.MwLow.LowTxt X.K X.mg nm qn C fI) (hr : Room k X.A) (tk : Takes X W) (ha : PA X [a] ta) (hg : Gl X nm := by rfl)
    (he : starEach (a :: []) X.env = (false, eval a X.env) :: starEach [] X.env := by rfl) (hpl : (backTo pos (starEach [] X.env)).any (·.1) = false := by rfl) (hdb : (nm == ("__debug__" : Str)) = false := by decide) :
    PS X (.Raise (some (.Call (.Name nm p) [a] [] pos)) none pos2) (tRaiseErr C W ta) := ps_raise hc tk (pmk_err T hr ha hg he hpl hdb)
end
end L2
namespace Mw
open PySem L2
/-! ### raise -/
theorem Stt.err {Γ : Gr} {G H : Hp} {env : EnvS} {σ : L2.St} {ts : List T} {vs : List V} (S : Stt Γ G H env σ ts vs) {d : Addr} {ys : List (Str × V)} {fs : List (Str × Option Nat × D)} (hd : H d = none) (r : FRep Γ.args G fs ys) : ErrSt Γ G (upd H d (.xd ys)) fs d := by
  obtain ⟨fO, fZ, fT, q⟩ := S
  have s := Same.upd (u := .xd ys) hd
  refine ⟨q.le.same s, q.g0, fun a o h nt n1 n2 => s _ _ (q.fr a o h nt n1 n2), q.nw, fun a o h nt => ?_, q.fre (fre_none hd), q.le.none hd, ys, upd_same, r⟩
  obtain ⟨o', e', nt'⟩ := q.keep a o h nt
  exact ⟨o', s a o' e', nt'⟩
/-- what an error's field is, and which argument it was -/
def errF (t : T) (e : EnvS) : Option (Option Nat × D) := match t with
  | .o o => some (none, o.toD)
  | .al i => match e[i]? with
    | some (.p j d) => some (some j, d)
    | some (.o o) => some (none, o.toD)
    | _ => none
theorem Stt.errF {Γ : Gr} {G H : Hp} {env : EnvS} {σ : L2.St} {ts : List T} {vs : List V} {t : T} {v : V} {j : Option Nat} {d : D} (S : Stt Γ G H env σ (t :: ts) (v :: vs)) (h : errF t env = some (j, d)) :
    ∃ G' env', Stt Γ G' H env' σ ts vs ∧ Rep G' d v ∧ ∀ i, j = some i → Γ.args[i]? = some v := by
  unfold Mw.errF at h
  cases t with
  | o o =>
    injection h with h
    injection h with h1 h2
    subst h1 h2
    obtain ⟨G', s, S'⟩ := S.freeze
    obtain ⟨f, r⟩ := S'.top
    exact ⟨G', env, S'.pop, r.2, fun i z => nomatch z⟩
  | al i =>
    have ha := S.topA
    simp only at h
    split at h
    · rename_i j' d' hi
      injection h with h
      injection h with h1 h2
      subst h1 h2
      obtain ⟨u, h1, h2, h3⟩ := S.arg hi
      rw [ha] at h1
      have := Option.some.inj (Option.some.inj h1)
      subst this
      exact ⟨G, env, S.pop, h3, fun i e => by injection e with e; subst e; exact h2⟩
    · rename_i o hi
      injection h with h
      injection h with h1 h2
      subst h1 h2
      obtain ⟨G', s, S'⟩ := Stt.conv (P := []) (vP := []) S rfl hi
      obtain ⟨f, r⟩ := S'.top
      exact ⟨G', _, S'.pop, r.2, fun i z => nomatch z⟩
    · cases h
def M.raise (nm : Str) (f : M T) : M Fl := M.bind f fun t => fun e => match errF t e with
  | some (j, d) => .err nm [("thing", j, d)]
  | none => .stuck
theorem ps_raisev {X : Cx} {E : XK} {nm qn : Str} {C fI : Addr} {a : Expr} {fa : M T} {p pos pos2 : Pos} {k : Nat} (c : Ctx X E) (T : PySem.MwLow.LowTxt X.K X.mg nm qn C fI) (hr : Room k X.A) (ha : PEv X E a fa) (hg : Gl X nm := by rfl)
    (he : starEach (a :: []) X.env = (false, eval a X.env) :: starEach [] X.env := by rfl) (hpl : (backTo pos (starEach [] X.env)).any (·.1) = false := by rfl) (hdb : (nm == ("__debug__" : Str)) = false := by decide) :
    PSv X E (.Raise (some (.Call (.Name nm p) [a] [] pos)) none pos2) (M.raise nm fa) := PS.imp (ps_raiseErr c.calm T hr c.tk (pa_cons ha pa_nil he) hg he hpl hdb) fun D σ H ⟨Γ, G, env, S, q⟩ => by
  refine ⟨Γ, G, env, [], [], S, post_mono (post_bind q) fun t e1 q1 v G1 H1 S1 => ⟨v, rfl, fun d hd => ?_⟩⟩
  split at q1
  · rename_i j dd hj
    obtain ⟨G2, e2, S2, rd, hj2⟩ := S1.errF hj
    exact q1 C d G2 _ T.gC (S2.err hd ⟨v, [], rfl, rd, hj2, rfl⟩)
  · exact q1.elim
end Mw
namespace Mw
open PySem PyProof.Rows L2
/-! ### a def's promise -/
abbrev FM := List Sl → R (O × List Sl)
abbrev Nd := List (Addr × Str)
/-- nd: the tables that must be at hand -/
def spM (nd : Nd) (mg : Str → Option Value) (n : Nat) (F : FM) : Sp := fun vs H Q E => ∃ G as z tl, ∃ tb : ∀ p ∈ tl, G p.1 = some (tmk p.2), (∀ p ∈ nd, p ∈ tl) ∧ as.length = n ∧ SReps vs G H as (vs.map some) [] z ∧ (∀ a, z.count a ≤ 1) ∧ (∀ a ∈ z, G a = none) ∧ Le tl G H ∧
  post mg E ⟨G, H, z, [], vs, tl, tb⟩ (fun o as' => ∀ v G' H', Stt ⟨G, H, z, [], vs, tl, tb⟩ G' H' as' (vs.map some) [.o o] [v] → Q v H') (F as)
/-- what is left of the arguments: the springs -/
def argSl (n : Nat) (e : EnvS) : List Sl := (List.range n).map (β := Sl) fun j => match e[j]? with
  | some (Sl.st (some i) s) => if i = j then Sl.st (some j) s else Sl.no
  | _ => Sl.no
def M.fn (n m : Nat) (f : M Fl) : FM := fun as => match f (as ++ List.replicate (m - n) .no) with
  | .ok (.rt o, e) => .ok (o, argSl n e)
  | .ok (.nx, e) => .ok (.val .non, argSl n e)
  | .ok _ => .stuck
  | .err c fs => .err c fs
  | .stuck => .stuck
theorem SReps.keepSt {args : List V} {G H : Hp} : ∀ {l : List Sl} {σ : L2.St} {f z : List Addr}, SReps args G H l σ f z → ∀ {l' : List Sl} {σ' : L2.St}, l'.length ≤ l.length → l'.length = σ'.length →
    (∀ (i : Nat) (s' : Sl), l'[i]? = some s' → s' = Sl.no ∨ ((∃ (j : Option Nat) (s : Strm), s' = Sl.st j s) ∧ l[i]? = some s' ∧ σ'[i]? = σ[i]?)) → ∃ z', SReps args G H l' σ' [] z' ∧ ∀ a, z'.count a ≤ z.count a
  | l, σ, f, z, h, [], [], _, _, _ => ⟨[], ⟨rfl, rfl, rfl⟩, fun a => by simp⟩
  | l, σ, f, z, h, [], _ :: _, _, e, _ => by simp at e
  | l, σ, f, z, h, _ :: _, [], _, e, _ => by simp at e
  | [], σ, f, z, h, _ :: _, _, e, _, _ => by simp at e
  | s :: r, σ, f, z, ⟨w, σ0, f1, f2, z1, z2, e, ef, ez, h, t⟩, s' :: r', w' :: σ', hl, hs, hp => by
    subst e ef ez
    obtain ⟨z', k1, k2⟩ := SReps.keepSt t (l' := r') (σ' := σ') (by simpa using hl) (by simpa using hs) fun i s'' hi => by
      rcases hp (i + 1) s'' (by simpa using hi) with q | ⟨q1, q2, q3⟩
      · exact .inl q
      · exact .inr ⟨q1, by simpa using q2, by simpa using q3⟩
    rcases hp 0 s' rfl with q | ⟨⟨j, s0, q1⟩, q2, q3⟩
    · subst q
      exact ⟨z', ⟨w', σ', [], [], [], z', rfl, rfl, rfl, ⟨rfl, rfl⟩, k1⟩, fun a => by have := k2 a; rw [List.count_append]; omega⟩
    · subst q1
      have e2 : s = .st j s0 := by simpa using q2
      have e3 : w' = w := by simpa using q3
      subst e2 e3
      obtain ⟨e4, u, ev, ea, zr⟩ := h
      exact ⟨z1 ++ z', ⟨w', σ', [], [], z1, z', rfl, rfl, rfl, ⟨rfl, u, ev, ea, zr⟩, k1⟩, fun a => by have := k2 a; rw [List.count_append, List.count_append]; omega⟩
theorem argSl_len (n : Nat) (e : EnvS) : (argSl n e).length = n := by simp [argSl]
theorem TReps.noal {G H : Hp} {σ σ' : L2.St} {os : List O} {vs : List V} {f : List Addr} (h : TReps G H σ (os.map T.o) vs f) : TReps G H σ' (os.map T.o) vs f := h.hold fun i m => by
  obtain ⟨o, _, e⟩ := List.mem_map.mp m; cases e
theorem Stt.toArgs {Γ : Gr} {G H : Hp} {env : EnvS} {σ : L2.St} {os : List O} {vs : List V} (S : Stt Γ G H env σ (os.map T.o) vs) {n : Nat} (hn : n = Γ.args.length) (hle : n ≤ env.length) :
    Stt Γ G H (argSl n env) (Γ.args.map some) (os.map T.o) vs := by
  obtain ⟨fO, fZ, fT, q⟩ := S
  obtain ⟨z', k1, k2⟩ := q.sl.keepSt (l' := argSl n env) (σ' := Γ.args.map some) (by rw [argSl_len]; exact hle) (by rw [argSl_len, List.length_map]; exact hn) fun i s' hi => by
    unfold argSl at hi
    rw [List.getElem?_map] at hi
    cases hr : (List.range n)[i]? with
    | none => rw [hr] at hi; cases hi
    | some j =>
      have hj : i < n ∧ j = i := by
        obtain ⟨h1, h2⟩ := List.getElem?_eq_some_iff.mp hr
        rw [List.length_range] at h1
        rw [List.getElem_range] at h2
        exact ⟨h1, h2.symm⟩
      obtain ⟨hj1, hj2⟩ := hj
      subst hj2
      rw [hr] at hi
      have hi := Option.some.inj hi
      simp only at hi
      split at hi
      · rename_i i2 s e1
        split at hi
        · rename_i c
          subst c hi
          right
          refine ⟨⟨_, _, rfl⟩, e1, ?_⟩
          obtain ⟨w, fi, zi, fr, zr, g1, g2, _⟩ := q.sl.at e1
          obtain ⟨_, u, ev, ea, _⟩ := g2
          rw [List.getElem?_map, ea _ rfl, g1, ev]; rfl
        · exact .inl hi.symm
      · exact .inl hi.symm
  refine ⟨[], z', fT, k1, q.tm.noal, fun a => ?_, fun a m => ?_, fun a m => q.nwZ a ?_, fun a m => ?_, q.le, q.g0, q.fr, q.nw, q.keep⟩
  · have := q.one a; have := k2 a; simp; omega
  · rcases m with m | m
    · cases m
    · exact q.nwO a (.inr m)
  · exact mem_count.mpr (Nat.lt_of_lt_of_le (mem_count.mp m) (k2 a))
  · rcases m with m | m | m
    · cases m
    · exact q.off a (.inr (.inl m))
    · exact q.off a (.inr (.inr (mem_count.mpr (Nat.lt_of_lt_of_le (mem_count.mp m) (k2 a)))))
theorem SReps.app {args : List V} {G H : Hp} : ∀ {l : List Sl} {σ : L2.St} {f z : List Addr} (m : Nat), SReps args G H l σ f z → SReps args G H (l ++ List.replicate m .no) (σ ++ List.replicate m none) f z
  | [], σ, f, z, 0, h => by simpa using h
  | [], σ, f, z, m + 1, ⟨e1, e2, e3⟩ => by
    subst e1 e2 e3
    exact ⟨none, List.replicate m none, [], [], [], [], rfl, rfl, rfl, ⟨rfl, rfl⟩, by simpa using SReps.app (l := []) (σ := []) m ⟨rfl, rfl, rfl⟩⟩
  | s :: r, σ, f, z, m, ⟨w, σ0, f1, f2, z1, z2, e, ef, ez, h, t⟩ => by
    subst e
    exact ⟨w, σ0 ++ List.replicate m none, f1, f2, z1, z2, rfl, ef, ez, h, SReps.app m t⟩
theorem Stt.begin {vs : List V} {G H : Hp} {as : List Sl} {z : List Addr} {tl : List (Addr × Str)} {tb : ∀ p ∈ tl, G p.1 = some (tmk p.2)} (h : SReps vs G H as (vs.map some) [] z) (h1 : ∀ a, z.count a ≤ 1) (h2 : ∀ a ∈ z, G a = none) (le : Le tl G H) (m : Nat) :
    Stt ⟨G, H, z, [], vs, tl, tb⟩ G H (as ++ List.replicate m .no) (vs.map some ++ List.replicate m none) [] [] := by
  refine ⟨[], z, [], h.app m, ⟨rfl, rfl⟩, fun a => by have := h1 a; simp; omega, fun a mm => ?_, fun a mm => .inr mm, fun a mm => ?_, le, Same.refl _, fun a o e _ _ _ => e, fun a e => .inl e, fun a o e nt => ⟨o, e, nt⟩⟩
  · rcases mm with mm | mm <;> cases mm
  · rcases mm with mm | mm | mm
    · cases mm
    · cases mm
    · exact h2 a mm
section
variable {P : Program} {w : World} {K : PySem.W.Frag} {mg : Str → Option Value} {base : Heap}
theorem fn_readsT {nd : Nd} {E : XK} {Q : VK} {vs : List V} {H : Hp} {n m : Nat} {f : M Fl} (hm : n ≤ m) (h : spM nd mg n (M.fn n m f) vs H Q E) {N : List Str} (hN : N.length = m) : ∃ Γ G env, (∀ p ∈ nd, p ∈ Γ.tabs) ∧ Stt Γ G H env (L2.start N vs) [] [] ∧ post mg E Γ (ends { nx := fun _ H' => Q .non H', rt := Q } Γ) (f env) := by
  obtain ⟨G, as, z, tl, tb, hnd, hl, hs, h1, h2, le, q⟩ := h
  have hvs : vs.length = n := by have := hs.len; rw [hl, List.length_map] at this; exact this.symm
  have S := Stt.begin (tb := tb) hs h1 h2 le (m - n)
  refine ⟨_, G, _, hnd, by unfold L2.start; rw [hN, hvs]; exact S, ?_⟩
  unfold M.fn at q
  have hlen : (as ++ List.replicate (m - n) Sl.no).length = m := by simp [hl]; omega
  cases e : f (as ++ List.replicate (m - n) Sl.no) with
  | stuck => rw [e] at q; exact q.elim
  | err c fs => rw [e] at q; exact q
  | ok p =>
    obtain ⟨fl, e1⟩ := p
    rw [e] at q
    have key : ∀ {σ' : L2.St} {G' H' : Hp} {os : List O} {us : List V}, Stt ⟨G, H, z, [], vs, tl, tb⟩ G' H' e1 σ' (os.map T.o) us → n ≤ e1.length → Stt ⟨G, H, z, [], vs, tl, tb⟩ G' H' (argSl n e1) (vs.map some) (os.map T.o) us := fun S h => S.toArgs hvs.symm h
    have any : ∀ {σ' : L2.St} {G' H' : Hp} {os : List O} {us : List V}, Stt ⟨G, H, z, [], vs, tl, tb⟩ G' H' e1 σ' (os.map T.o) us → Stt ⟨G, H, z, [], vs, tl, tb⟩ G' H' (argSl n e1) (vs.map some) (os.map T.o) us := fun {σ' G' H' os us} S => by
      by_cases hn : n ≤ e1.length
      · exact key S hn
      · -- slots that are not there are filled up
        obtain ⟨fO, fZ, fT, c⟩ := S
        have c' : Stt ⟨G, H, z, [], vs, tl, tb⟩ G' H' (e1 ++ List.replicate n .no) (σ' ++ List.replicate n none) (os.map T.o) us := ⟨fO, fZ, fT, { c with sl := c.sl.app n, tm := c.tm.noal }⟩
        have r := c'.toArgs (n := n) hvs.symm (by simp)
        have eA : argSl n (e1 ++ List.replicate n .no) = argSl n e1 := by
          unfold argSl
          refine List.map_congr_left fun j hj => ?_
          by_cases hj2 : j < e1.length
          · rw [List.getElem?_append_left hj2]
          · rw [List.getElem?_append_right (by omega), List.getElem?_eq_none (l := e1) (by omega)]
            by_cases hj3 : j - e1.length < n
            · rw [List.getElem?_replicate, if_pos hj3]
            · rw [List.getElem?_eq_none (by simpa using hj3)]
        rw [eA] at r
        exact r
    cases fl with
    | nx => exact fun σ' G' H' S' => q .non G' H' (any (os := [.val .non]) (us := [.non]) (S'.val rfl))
    | rt o => exact fun v σ' G' H' S' => q v G' H' (any (os := [o]) (us := [v]) S')
    | bk => exact q.elim
    | ct => exact q.elim
theorem fn_reads {E : XK} {Q : VK} {vs : List V} {H : Hp} {n m : Nat} {f : M Fl} (hm : n ≤ m) (h : spM [] mg n (M.fn n m f) vs H Q E) {N : List Str} (hN : N.length = m) : tS mg E f { nx := fun _ H' => Q .non H', rt := Q } (L2.start N vs) H :=
  let ⟨Γ, G, env, _, S, q⟩ := fn_readsT hm h hN
  ⟨Γ, G, env, S, q⟩
theorem Fun.okM {x qual : Str} {st : Stmt} {f : Addr} {fd : FuncData} {N ps : List Str} {k : Nat} {fb : M Fl} (F : Fun K x qual st f fd) (S : FnScope N ps (defScope st))
    (hbody : ∀ (cdv : Value) (A : Around) (outer : List Env) (s : Shared) (H : Hp) (E : XK), Room k (A.deeper (envOfC qual (defScope st) s.heap.objs.size f cdv)) →
      PSsv (cxOf (L2.CX P w) P w K mg base N qual (defScope st) f cdv A outer s H E) E (defBody st) fb) : FnOk P w K mg base (L2.CX P w) (k + 1) f fd ps (spM [] mg ps.length (M.fn ps.length N.length fb)) := by
  refine F.okX S (fun vs H Q E h => ?_) fun cdv A outer s H vs Q E hr h => ⟨_, hbody cdv A outer s H E hr, ?_⟩
  · obtain ⟨G, as, z, tl, tb, _, hl, hs, _⟩ := h
    have := hs.len
    rw [hl, List.length_map] at this
    exact this.symm
  · have hpl : ps.length ≤ N.length := by have := congrArg List.length S.pre; rw [List.length_take] at this; omega
    exact fn_reads hpl h rfl
theorem ctx_of {N ps : List Str} {qual : Str} {sc : Scope} {f : Addr} {cdv : Value} {A : Around} {outer : List Env} {s : Shared} {H : Hp} {E : XK} {k : Nat} (S : FnScope N ps sc) (hr : Room k (A.deeper (envOfC qual sc s.heap.objs.size f cdv))) :
    Ctx (cxOf (L2.CX P w) P w K mg base N qual sc f cdv A outer s H E) E where
  hu := by have := hr.un; show (A.deeper (envOfC qual sc s.heap.objs.size f cdv)).units + 66 < cLine; omega
  calm := rfl
  nd := S.nd
  tk := takes_of rfl rfl rfl rfl
end
theorem Ctx.blk {X : Cx} {E : XK} (c : Ctx X E) {s : Shared} {H : Hp} {sc : Scope} {en : Env} {fp : List Addr} : Ctx (X.blk s H sc en fp) E0 where
  hu := c.hu
  calm := c.calm
  nd := c.nd
  tk := takes0
end Mw
namespace Mw
open PySem PyProof.Rows L2
/-! ### behind a call -/
theorem Stt.marks {Γ : Gr} {G H : Hp} {env : EnvS} {σ : L2.St} {ts : List T} {vs : List V} (S : Stt Γ G H env σ ts vs) : ∀ p ∈ Γ.tabs, G p.1 = some (tmk p.2) := fun p m => by
  obtain ⟨_, _, _, q⟩ := S
  exact q.g0 _ _ (Γ.tb p m)
def reid (g : Nat → Option Nat) (fs : List (Str × Option Nat × D)) : List (Str × Option Nat × D) := fs.map fun p => (p.1, p.2.1.bind g, p.2.2)
theorem FRep.re {us args : List V} {G : Hp} {g : Nat → Option Nat} (h : ∀ (j i : Nat) (v : V), g j = some i → us[j]? = some v → args[i]? = some v) : ∀ {fs : List (Str × Option Nat × D)} {ys : List (Str × V)}, FRep us G fs ys → FRep args G (reid g fs) ys
  | [], _, e => e
  | (x, j, d) :: r, ys, ⟨v, s, e, rv, hv, t⟩ => ⟨v, s, e, rv, fun i hi => by
    cases j with
    | none => cases hi
    | some j => exact h j i v hi (hv j rfl), FRep.re h t⟩
theorem Stt.after0 {Γ : Gr} {G H G' H' : Hp} {tb : ∀ p ∈ Γ.tabs, G p.1 = some (tmk p.2)} {env as' : EnvS} {σ σ' : L2.St} {ts : List T} {vs us : List V} {o : O} {v : V} (S : Stt Γ G H env σ ts vs) (S' : Stt ⟨G, H, [], [], us, Γ.tabs, tb⟩ G' H' as' σ' [.o o] [v]) :
    Stt Γ G' H' env σ (.o o :: ts) (v :: vs) := by
  obtain ⟨fO, fZ, fT, q⟩ := S'
  obtain ⟨v', vr, f1, f2, e1, e2, h1, h2⟩ := q.tm
  injection e1 with e3 e4
  subst e3 e2
  obtain ⟨gO, gZ, gT, p⟩ := S
  refine ⟨gO, gZ, _, p.push q.g0 (fun a o e nt => q.fr a o e nt (fun z => nomatch z) (fun z => nomatch z)) h1 (fun a m => ?_) (fun a => ?_) (fun a m => q.off a (.inr (.inl (List.mem_append_left _ m)))) (fun a h => ?_) q.le⟩
  · rcases q.nwO a (.inr (List.mem_append_left _ m)) with k | k
    · exact k
    · cases k
  · have := q.one a; rw [List.count_append] at this; omega
  · rcases q.nw a h with k | k | k
    · exact .inl k
    · exact .inr k
    · cases k
theorem ErrSt.up {Γ : Gr} {G H G' H' : Hp} {tb : ∀ p ∈ Γ.tabs, G p.1 = some (tmk p.2)} {env : EnvS} {σ : L2.St} {ts : List T} {vs us : List V} {z : List Addr} {fs fs' : List (Str × Option Nat × D)} {d : Addr} (S : Stt Γ G H env σ ts vs) (hz : ∀ a ∈ z, Fre Γ.H0 a ∨ a ∈ Γ.fz)
    (e : ErrSt ⟨G, H, z, [], us, Γ.tabs, tb⟩ G' H' fs d) (hf : ∀ ys, FRep us G' fs ys → FRep Γ.args G' fs' ys) : ErrSt Γ G' H' fs' d := by
  obtain ⟨fO, fZ, fT, q⟩ := S
  have nn : ∀ a, Fre H a → Fre Γ.H0 a := fun a k => q.fre k
  refine ⟨e.le, q.g0.trans e.g0, fun a o h1 nt n1 n2 => e.fr a o (q.fr a o h1 nt n1 n2) nt (fun m => ?_) (fun m => nomatch m), fun a h => ?_, fun a o h nt => (let ⟨o1, e1, nt1⟩ := q.keep a o h nt; e.keep a o1 e1 nt1), nn d e.new, e.off, ?_⟩
  · rcases hz a m with k | k
    · exact absurd nt (k _ h1)
    · exact n1 k
  · rcases e.nw a h with k | k | k
    · exact q.nw a k
    · exact .inr (.inl (nn a k))
    · cases k
  · obtain ⟨ys, h1, h2⟩ := e.fld
    exact ⟨ys, h1, hf ys h2⟩
/-- a spring is handed on -/
theorem Stt.spring {Γ : Gr} {G H : Hp} {env : EnvS} {σ : L2.St} {ts : List T} {vs : List V} {i : Nat} {j0 : Option Nat} {s : Strm} (S : Stt Γ G H env σ ts vs) (hi : env[i]? = some (.st j0 s)) :
    ∃ u z, σ[i]? = some (some u) ∧ ZRep H s u z ∧ (∀ a, z.count a ≤ 1) ∧ (∀ a ∈ z, G a = none) ∧ (∀ a ∈ z, Fre Γ.H0 a ∨ a ∈ Γ.fz) ∧
      ∀ (us : List V) (G' H' : Hp) (s' : Strm) (as' : List Sl) (σ' : L2.St) (o : O) (v : V) (tb : ∀ p ∈ Γ.tabs, G p.1 = some (tmk p.2)), us[0]? = some u → Stt ⟨G, H, z, [], us, Γ.tabs, tb⟩ G' H' (.st (some 0) s' :: as') σ' [.o o] [v] → Stt Γ G' H' (env.set i (.st j0 s')) σ (.o o :: ts) (v :: vs) := by
  obtain ⟨fO, fZ, fT, q⟩ := S
  obtain ⟨w, fi, zi, fr, zr, h1, h2, h3, h4, h5⟩ := q.sl.at hi
  obtain ⟨e0, u, ev, ea, zrep⟩ := h2
  subst e0 ev
  have sub : ∀ a, a ∈ zi → a ∈ fZ := fun a m => mem_count.mpr (by have := mem_count.mp m; have := h4 a; omega)
  refine ⟨u, zi, h1, zrep, fun a => by have := q.one a; have := h4 a; omega, fun a m => q.off a (.inr (.inr (sub a m))), fun a m => q.nwZ a (sub a m), fun us G' H' s' as' σ' o v tb hu S' => ?_⟩
  obtain ⟨gO, gZ, gT, p⟩ := S'
  obtain ⟨v', vr, f1, f2, e1, e2, k1, k2⟩ := p.tm
  injection e1 with e3 e4
  subst e3 e2
  obtain ⟨w', σ2, g1, g2, z1, z2, e5, e6, e7, k3, k4⟩ := p.sl
  obtain ⟨e8, u', ev', ea', zrep'⟩ := k3
  have eu : u' = u := Option.some.inj ((ea' 0 rfl).symm.trans hu)
  subst eu ev'
  have sH : ∀ a o, H a = some o → NT o → a ∉ zi → H' a = some o := fun a o h nt n => p.fr a o h nt n (fun m => nomatch m)
  have on : ∀ {f : List Addr}, Trk f H → (∀ a ∈ f, a ∉ zi) → On f H H' := fun t h a m o e => by
    obtain ⟨o', e', w⟩ := t a m
    rw [e] at e'
    have := Option.some.inj e'
    subst this
    exact sH a o e w.nt (h a m)
  have tO : Trk fr H := fun a m => q.sl.trkF a (mem_count.mpr (by have := mem_count.mp m; have := h3 a; omega))
  have tZ : Trk zr H := fun a m => q.sl.trkZ a (mem_count.mpr (by have := mem_count.mp m; have := h4 a; omega))
  have dO : ∀ a ∈ fr, a ∉ zi := fun a m m2 => by have := mem_count.mp m; have := mem_count.mp m2; have := q.one a; have := h3 a; have := h4 a; omega
  have dZ : ∀ a ∈ zr, a ∉ zi := fun a m m2 => by have := mem_count.mp m; have := mem_count.mp m2; have := q.one a; have := h3 a; have := h4 a; omega
  have dT : ∀ a ∈ fT, a ∉ zi := fun a m m2 => by have := mem_count.mp m; have := mem_count.mp m2; have := q.one a; have := h3 a; have := h4 a; omega
  obtain ⟨f', z', r1, r2, r3⟩ := h5 G' H' (.st j0 s') (some u') [] z1 p.g0 (on tO dO) (on tZ dZ) ⟨rfl, u', rfl, ea, zrep'⟩
  rw [set_same h1] at r1
  have nnew : ∀ a, Fre H a → fO.count a = 0 ∧ fT.count a = 0 ∧ fZ.count a = 0 := fun a h => ⟨not_mem_count.mpr fun m => q.sl.trkF.fre a m h, not_mem_count.mpr fun m => q.tm.trk.fre a m h, not_mem_count.mpr fun m => q.sl.trkZ.fre a m h⟩
  have nn : ∀ a, Fre H a → Fre Γ.H0 a := fun a k => q.fre k
  have cf : ∀ a, a ∈ f1 → Fre H a := fun a m => by
    rcases p.nwO a (.inr (List.mem_append_left _ m)) with k | k
    · exact k
    · cases k
  have cz : ∀ a, a ∈ z1 → Fre H a ∨ a ∈ zi := fun a m => p.nwZ a (by rw [e7]; exact List.mem_append_left _ m)
  have c1 : ∀ a, f1.count a + z1.count a ≤ 1 := fun a => by have := p.one a; rw [e7] at this; simp only [List.count_append] at this; omega
  refine ⟨f', z', f1 ++ fT, r1, ⟨v, vs, f1, fT, rfl, rfl, k1, q.tm.mono p.g0 (on q.tm.trk dT)⟩, fun a => ?_, fun a m => ?_, fun a m => ?_, fun a m => ?_, p.le, q.g0.trans p.g0, fun a o h nt n1 n2 => ?_, fun a h => ?_, fun a o h nt => (let ⟨o1, e1, nt1⟩ := q.keep a o h nt; p.keep a o1 e1 nt1)⟩
  · have x1 := q.one a; have x2 := r2 a; have x3 := r3 a; have x4 := h3 a; have x5 := h4 a; have x6 := c1 a
    rw [List.count_append]
    simp only [List.count_nil] at x2 x4
    by_cases m1 : a ∈ f1
    · obtain ⟨y1, y2, y3⟩ := nnew a (cf a m1)
      omega
    · have := not_mem_count.mpr m1
      by_cases m2 : a ∈ z1
      · rcases cz a m2 with k | k
        · obtain ⟨y1, y2, y3⟩ := nnew a k
          omega
        · have := mem_count.mp k
          omega
      · have := not_mem_count.mpr m2
        omega
  · rcases m with m | m
    · have := mem_count.mp m; have := r2 a; have := h3 a
      simp only [List.count_nil] at *
      exact q.nwO a (.inl (mem_count.mpr (by omega)))
    · rcases List.mem_append.mp m with m | m
      · exact .inl (nn a (cf a m))
      · exact q.nwO a (.inr m)
  · have x := mem_count.mp m; have x3 := r3 a; have x5 := h4 a
    by_cases m2 : a ∈ z1
    · rcases cz a m2 with k | k
      · exact .inl (nn a k)
      · exact q.nwZ a (sub a k)
    · have := not_mem_count.mpr m2
      exact q.nwZ a (mem_count.mpr (by omega))
  · have old : (a ∈ fO ∨ a ∈ fT ∨ a ∈ fZ) → G' a = none := fun m => by
      cases e : G' a with
      | none => rfl
      | some o =>
        rcases p.nw a (by rw [e]; exact fun z => nomatch z) with k | k | k
        · exact absurd (q.off a m) k
        · rcases m with m | m | m
          · exact absurd k (q.sl.trkF.fre a m)
          · exact absurd k (q.tm.trk.fre a m)
          · exact absurd k (q.sl.trkZ.fre a m)
        · cases k
    rcases m with m | m | m
    · have := mem_count.mp m; have := r2 a; have := h3 a
      simp only [List.count_nil] at *
      exact old (.inl (mem_count.mpr (by omega)))
    · rcases List.mem_append.mp m with m | m
      · exact p.off a (.inr (.inl (List.mem_append_left _ m)))
      · exact old (.inr (.inl m))
    · by_cases m2 : a ∈ z1
      · exact p.off a (.inr (.inr (by rw [e7]; exact List.mem_append_left _ m2)))
      · have := not_mem_count.mpr m2; have := mem_count.mp m; have := r3 a; have := h4 a
        exact old (.inr (.inr (mem_count.mpr (by omega))))
  · refine sH a o (q.fr a o h nt n1 n2) nt fun m => ?_
    rcases q.nwZ a (sub a m) with k | k
    · exact absurd nt (k _ h)
    · exact n1 k
  · rcases p.nw a h with k | k | k
    · exact q.nw a k
    · exact .inr (.inl (nn a k))
    · cases k
/-! ### arguments -/
def pArgs : Nat → List O → List Sl
  | _, [] => []
  | j, o :: os => .p j o.toD :: pArgs (j + 1) os
theorem pArgs_len : ∀ (j : Nat) (os : List O), (pArgs j os).length = os.length
  | _, [] => rfl
  | j, o :: os => by rw [pArgs, List.length_cons, pArgs_len (j + 1) os, List.length_cons]
theorem Stt.plains {Γ : Gr} {H : Hp} {env : EnvS} {σ : L2.St} {ts : List T} {vs : List V} : ∀ {os : List O} {us : List V} {G : Hp}, Stt Γ G H env σ (os.map T.o ++ ts) (us ++ vs) → os.length = us.length →
    ∃ G', Same G G' ∧ Stt Γ G' H env σ ts vs ∧ Reps G' (os.map O.toD) us
  | [], [], G, S, _ => ⟨G, Same.refl _, S, rfl⟩
  | [], _ :: _, _, _, e => by simp at e
  | _ :: _, [], _, _, e => by simp at e
  | o :: os, u :: us, G, S, hl => by
    obtain ⟨G1, s1, S1⟩ := Stt.freeze (o := o) (ts := os.map T.o ++ ts) S
    obtain ⟨f, r⟩ := S1.top
    obtain ⟨G2, s2, S2, rs⟩ := Stt.plains (os := os) (us := us) S1.pop (by simpa using hl)
    exact ⟨G2, s1.trans s2, S2, u, us, rfl, r.2.mono s2, rs⟩
theorem pArgs_rep {all : List V} {G H : Hp} : ∀ {os : List O} {us : List V} {j : Nat}, Reps G (os.map O.toD) us → (∀ k v, us[k]? = some v → all[j + k]? = some v) → SReps all G H (pArgs j os) (us.map some) [] []
  | [], us, j, r, _ => by
    have e : us = [] := r
    subst e; exact ⟨rfl, rfl, rfl⟩
  | o :: os, us, j, ⟨v, r, e, h, t⟩, k => by
    subst e
    exact ⟨some v, r.map some, [], [], [], [], rfl, rfl, rfl, ⟨rfl, rfl, v, rfl, k 0 v rfl, h⟩, pArgs_rep t fun i w hw => by rw [show j + 1 + i = j + (i + 1) by omega]; exact k (i + 1) w (by simpa using hw)⟩
/-- which of our own arguments is handed on -/
def idAt (l : List T) (e : EnvS) (j : Nat) : Option Nat := match l[j]? with
  | some (.al i) => match e[i]? with
    | some (.p k _) => some k
    | _ => none
  | _ => none
theorem TReps.atJ {G H : Hp} {σ : L2.St} : ∀ {l : List T} {us : List V} {f : List Addr}, TReps G H σ l us f → ∀ {j i : Nat}, l[j]? = some (.al i) → ∃ v, us[j]? = some v ∧ σ[i]? = some (some v)
  | [], _, _, _, j, i, e => by simp at e
  | t :: l, _, _, ⟨v, r, f1, f2, e, ef, h, t'⟩, 0, i, q => by
    have q : t = .al i := by simpa using q
    subst q e
    exact ⟨v, rfl, h.2⟩
  | t :: l, _, _, ⟨v, r, f1, f2, e, ef, h, t'⟩, j + 1, i, q => by
    subst e
    obtain ⟨w, h1, h2⟩ := TReps.atJ t' (j := j) (i := i) (by simpa using q)
    exact ⟨w, by simpa using h1, h2⟩
theorem Stt.ids {Γ : Gr} {G H : Hp} {env : EnvS} {σ : L2.St} {ts l : List T} {vs us : List V} (S : Stt Γ G H env σ (l ++ ts) (us ++ vs)) (hl : l.length = us.length) : ∀ (j i : Nat) (v : V), idAt l env j = some i → us[j]? = some v → Γ.args[i]? = some v := fun j i v h hv => by
  unfold idAt at h
  split at h
  · rename_i i2 hi2
    split at h
    · rename_i k d hk
      injection h with h
      subst h
      have S' := S
      obtain ⟨fO, fZ, fT, q⟩ := S'
      obtain ⟨x, y, f1, f2, e1, e2, h1, h2⟩ := q.tm.split
      obtain ⟨e3, e4⟩ := List.append_inj e1 (by rw [← hl, h1.len])
      subst e3
      obtain ⟨w, h5, h6⟩ := h1.atJ hi2
      rw [hv] at h5
      have := Option.some.inj h5
      subst this
      obtain ⟨w2, h7, h8, _⟩ := S.arg hk
      rw [h6] at h7
      have := Option.some.inj (Option.some.inj h7)
      subst this
      exact h8
    · cases h
  · cases h
def stHead (l : List T) (e : EnvS) : Option (Nat × List T) := match l with
  | .al i :: r => match e[i]? with
    | some (.st _ _) => some (i, r)
    | _ => none
  | _ => none
def callK (F : FM) (l : List T) : M T := fun e => match stHead l e with
  | some (i, r) => match strongL r e with
    | some (os, e1) => match e1[i]? with
      | some (.st j s) => match F (.st (some 0) s :: pArgs 1 os) with
        | .ok (o, .st (some 0) s' :: _) => .ok (.o o, e1.set i (.st j s'))
        | .err c fs => .err c (reid (idAt l e) fs)
        | _ => .stuck
      | _ => .stuck
    | none => .stuck
  | none => match strongL l e with
    | some (os, e1) => match F (pArgs 0 os) with
      | .ok (o, _) => .ok (.o o, e1)
      | .err c fs => .err c (reid (idAt l e) fs)
      | .stuck => .stuck
    | none => .stuck
def M.call (n : Nat) (F : FM) (fa : M (List T)) : M T := M.bind fa fun l => if l.length = n then callK F l else fun _ => .stuck
theorem call_reads {nd : Nd} {mg : Str → Option Value} {E : XK} {Γ : Gr} {G H : Hp} {env : EnvS} {σ : L2.St} {ts l : List T} {vs us : List V} {F : FM} {n : Nat} {Q : VK} (hnd : ∀ p ∈ nd, p ∈ Γ.tabs) (hn : us.length = n) (S : Stt Γ G H env σ (l ++ ts) (us ++ vs)) (hl : l.length = us.length)
    (q : post mg E Γ (fun t e => ∀ v G' H', Stt Γ G' H' e σ (t :: ts) (v :: vs) → Q v H') (callK F l env)) : spM nd mg n F us H Q E := by
  have ids := S.ids hl
  unfold callK at q
  split at q
  · rename_i i r hh
    have hr : ∃ l0, l = .al i :: r ∧ l0 = l := by
      unfold stHead at hh
      split at hh
      · split at hh
        · injection hh with hh
          injection hh with h1 h2
          subst h1 h2
          exact ⟨_, rfl, rfl⟩
        · cases hh
      · cases hh
    obtain ⟨_, e0, _⟩ := hr
    subst e0
    match us, hl with
    | u0 :: us, hl =>
      have hl : r.length = us.length := by simpa using hl
      split at q
      · rename_i os e1 hs
        obtain ⟨G1, s1, S1, hos⟩ := Stt.strongs (P := [.al i]) (vP := [u0]) (l := r) (us := us) S rfl hl hs
        have S1 : Stt Γ G1 H e1 σ (.al i :: (os.map T.o ++ ts)) (u0 :: (us ++ vs)) := S1
        have hx := S1.topA
        obtain ⟨G2, s2, S2, rs⟩ := Stt.plains S1.pop hos
        split at q
        · rename_i j s hi
          obtain ⟨u, z, hu, zr, z1, z2, z3, back⟩ := S2.spring hi
          rw [hx] at hu
          have := Option.some.inj (Option.some.inj hu)
          subst this
          refine ⟨G2, .st (some 0) s :: pArgs 1 os, z, Γ.tabs, S2.marks, hnd, by rw [List.length_cons, pArgs_len, hos, ← hn, List.length_cons], ⟨some u0, us.map some, [], [], z, [], rfl, rfl, by simp, ⟨rfl, u0, rfl, fun i e => by injection e with e; subst e; rfl, zr⟩, pArgs_rep rs fun k v hv => by rw [Nat.add_comm]; simpa using hv⟩, z1, z2, S2.le, ?_⟩
          split at q
          · rename_i o s' rest hF
            rw [hF]
            exact fun v G' H' S' => q v G' H' (back _ _ _ _ _ _ _ _ S2.marks rfl S')
          · rename_i c fs hF
            rw [hF]
            exact fun C d G' H' hC he => q C d G' H' hC (he.up S2 z3 fun ys => FRep.re ids)
          · exact q.elim
        · exact q.elim
      · exact q.elim
  · split at q
    · rename_i os e1 hs
      obtain ⟨G1, s1, S1, hos⟩ := Stt.strongs (P := []) (vP := []) (l := l) (us := us) S rfl hl hs
      obtain ⟨G2, s2, S2, rs⟩ := Stt.plains (os := os) (us := us) S1 hos
      refine ⟨G2, pArgs 0 os, [], Γ.tabs, S2.marks, hnd, by rw [pArgs_len, hos, hn], pArgs_rep rs fun k v hv => by simpa using hv, fun a => by simp, fun a m => (nomatch m), S2.le, ?_⟩
      split at q
      · rename_i o rest hF
        rw [hF]
        exact fun v G' H' S' => q v G' H' (S2.after0 S')
      · rename_i c fs hF
        rw [hF]
        exact fun C d G' H' hC he => q C d G' H' hC (he.up S2 (fun a m => by cases m) fun ys => FRep.re ids)
      · exact q.elim
    · exact q.elim
/-! ### by names -/
def permL {α : Type} (π : List Nat) (l : List α) : List α := π.filterMap fun i => l[i]?
theorem permL_len {α β : Type} {l : List α} {l' : List β} (h : l.length = l'.length) : ∀ (π : List Nat), (permL π l).length = (permL π l').length
  | [] => rfl
  | i :: π => by
    have ih := permL_len h π
    unfold permL at ih ⊢
    rw [List.filterMap_cons, List.filterMap_cons]
    by_cases c : i < l.length
    · have c' : i < l'.length := by omega
      simp only [List.getElem?_eq_getElem c, List.getElem?_eq_getElem c', List.length_cons, ih]
    · simp only [List.getElem?_eq_none (Nat.le_of_not_lt c), List.getElem?_eq_none (show l'.length ≤ i by omega), ih]
theorem permL_vals {vs : List V} {us : List Value} (h : Vals vs us) : ∀ (π : List Nat), Vals (permL π vs) (permL π us)
  | [] => .nil
  | i :: π => by
    have ih := permL_vals h π
    have hl := h.length
    unfold permL at ih ⊢
    rw [List.filterMap_cons, List.filterMap_cons]
    by_cases c : i < vs.length
    · have e : vs[i]? = some vs[i] := List.getElem?_eq_getElem c
      obtain ⟨u, hu, ru⟩ := h.get e
      simp only [e, hu]
      exact .cons ru ih
    · simp only [List.getElem?_eq_none (Nat.le_of_not_lt c), List.getElem?_eq_none (show us.length ≤ i by omega)]
      exact ih
theorem permL_reps {G : Hp} {ds : List O} {vs : List V} (h : Reps G (ds.map O.toD) vs) : ∀ (π : List Nat), Reps G ((permL π ds).map O.toD) (permL π vs)
  | [] => rfl
  | i :: π => by
    have ih := permL_reps h π
    have hl := h.length
    rw [List.length_map] at hl
    unfold permL at ih ⊢
    rw [List.filterMap_cons, List.filterMap_cons]
    by_cases c : i < ds.length
    · have e : (ds.map O.toD)[i]? = some (ds[i].toD) := by rw [List.getElem?_map, List.getElem?_eq_getElem c]; rfl
      obtain ⟨u, hu, ru⟩ := h.get e
      simp only [List.getElem?_eq_getElem c, hu]
      exact ⟨u, _, rfl, ru, ih⟩
    · simp only [List.getElem?_eq_none (Nat.le_of_not_lt c), List.getElem?_eq_none (show vs.length ≤ i by omega)]
      exact ih
theorem permL_get {α : Type} {l : List α} : ∀ {π : List Nat}, (∀ i ∈ π, i < l.length) → ∀ {j : Nat} {v : α}, (permL π l)[j]? = some v → ∃ i, π[j]? = some i ∧ l[i]? = some v
  | [], _, j, v, e => by simp [permL] at e
  | i :: π, h, j, v, e => by
    have hi := h i List.mem_cons_self
    have e1 : l[i]? = some l[i] := List.getElem?_eq_getElem hi
    unfold permL at e
    rw [List.filterMap_cons] at e
    simp only [e1] at e
    cases j with
    | zero => exact ⟨i, rfl, by rw [e1]; simpa using e⟩
    | succ j =>
      have e : (permL π l)[j]? = some v := by unfold permL; simpa using e
      exact permL_get (fun k m => h k (List.mem_cons_of_mem _ m)) (π := π) e
def M.callN (n : Nat) (π : List Nat) (F : FM) (fa : M (List T)) : M T := M.bind fa fun l e => if l.length = n then match strongL l e with
    | some (os, e1) => match F (pArgs 0 (permL π os)) with
      | .ok (o, _) => .ok (.o o, e1)
      | .err c fs => .err c (reid (fun j => (π[j]?).bind (idAt l e)) fs)
      | .stuck => .stuck
    | none => .stuck
  else .stuck
section
variable {X : Cx} {E : XK} {k : Nat} {f : Addr} {fd : FuncData} {ps : List Str} {F : FM} {x : Str} {p pos : Pos} {e : Expr} {es : List Expr} {fa : M (List T)} {ks : List Str}
theorem ev_call (hx : Passes (L2.CX X.prog X.w) X E) (Fn : FnOk X.prog X.w X.K X.mg X.base (L2.CX X.prog X.w) k f fd ps (spM [] X.mg ps.length F)) (hr : Room k X.A) (hm : X.mg x = some (.ref f)) (hk : PySem.W.keepIn X.K (.ref f) = true) (hb : Binds X.K fd ps [])
    (ha : PAv X E (e :: es) fa) (hg : Gl X x := by rfl) (hdb : (x == ("__debug__" : Str)) = false := by decide) (he : starEach (e :: es) X.env = (false, eval e X.env) :: starEach es X.env := by rfl) (hpl : (backTo pos (starEach es X.env)).any (·.1) = false := by rfl) :
    PEv X E (.Call (.Name x p) (e :: es) [] pos) (M.call ps.length F fa) := PE.imp (pe_call Fn hr hg hm hk hb .nil hx ha hdb he hpl) fun σ H Q ⟨Γ, G, env, ts, vs, S, q⟩ => by
  refine ⟨Γ, G, env, ts, vs, S, post_mono (post_bind q) fun l e1 q us G1 H1 hl S1 => ?_⟩
  show spM [] X.mg ps.length F (us ++ []) H1 Q E
  rw [List.append_nil]
  split at q
  · rename_i hn
    exact call_reads (fun _ m => by cases m) (hl.symm.trans hn) S1 hl q
  · exact q.elim
abbrev PKv (X : Cx) (E : XK) (ks : List Keyword) (f : M (List T)) : Prop := PK X ks (tAs X.mg E f)
theorem PK.imp {X : Cx} {e : List Keyword} {t t' : TA} (h : PK X e t) (k : ∀ σ H Q, t' σ H Q → t σ H Q) : PK X e t' := ⟨fun p pins s σ H Q I q => h.run p pins s σ H Q I (k _ _ _ q)⟩
theorem ek_nil : PKv X E [] (M.pure []) := PK.imp pk_nil fun σ H Q ⟨Γ, G, env, ts, vs, S, q⟩ => q [] G H rfl S
theorem ek_cons {a : Expr} {f1 : M T} {f2 : M (List T)} {nm : Option Str} {kpos : Pos} {kws : List Keyword} (ha : PEv X E a f1) (hr : PKv X E kws f2) : PKv X E (⟨nm, a, kpos⟩ :: kws) (M.consA f1 f2) := PK.imp (pk_cons ha hr) fun σ H Q ⟨Γ, G, env, ts, vs, S, q⟩ => by
  refine ⟨Γ, G, env, ts, vs, S, post_mono (post_bind q) fun t e1 q1 v1 G1 H1 S1 => ?_⟩
  refine ⟨Γ, G1, e1, t :: ts, v1 :: vs, S1, post_mono (post_bind q1) fun l e2 q2 us G2 H2 hl S2 => ?_⟩
  exact q2 (v1 :: us) G2 H2 (by simp [hl]) (S2.rot hl)
/-- how a call by names binds -/
def NBinds (K : PySem.W.Frag) (fd : FuncData) (ps ks : List Str) (π : List Nat) : Prop := ∀ (s : Shared) (ws : List Value), K.In s.heap → ws.length = ps.length → BindsTo s fd ⟨[], ks.zip ws⟩ (ps.zip (permL π ws))
def tCallN0 (sp : Sp) (n : Nat) (π : List Nat) (E : XK) (tk : TA) : TE := fun σ H Q => tk σ H fun zs H2 => zs.length = n ∧ sp (permL π zs) H2 Q E
/-- the arguments in the parameters' order; out of all measure where they are too many or too few -/
def order {α : Type} (π : List Nat) (n : Nat) (z : α) (us ws : List α) : List α := if us.length = 0 ∧ ws.length = n then permL π ws else List.replicate (n + 1) z
theorem vals_same {v : V} {u : Value} (r : RelV v u) : ∀ n : Nat, Vals (List.replicate n v) (List.replicate n u)
  | 0 => .nil
  | n + 1 => .cons r (vals_same r n)
theorem nbinds_k {ps : List Str} {π : List Nat} (hb : NBinds X.K fd ps ks π) : KBinds X.K fd ps ks (order π ps.length .none) (order π ps.length .non) where
  to := fun s us ws I len => by
    unfold order at len ⊢
    by_cases c : us.length = 0 ∧ ws.length = ps.length
    · rw [if_pos c, List.eq_nil_of_length_eq_zero c.1]
      exact hb s ws I c.2
    · rw [if_neg c, List.length_replicate] at len
      omega
  rel := fun {vs us zs ws} r rz => by
    unfold order
    rw [r.length, rz.length]
    by_cases c : us.length = 0 ∧ ws.length = ps.length
    · rw [if_pos c, if_pos c]; exact permL_vals rz π
    · rw [if_neg c, if_neg c]; exact vals_same (v := V.non) (u := Value.none) (show RelV V.non Value.none from rfl) _
/-- f(k = v, ..) -/
theorem pe_callN0 {sp : Sp} {CX : CXT} {kws : List Keyword} {tk : TA} {π : List Nat} (F : FnOk X.prog X.w X.K X.mg X.base CX k f fd ps sp) (hr : Room k X.A) (hg : Gl X x) (hm : X.mg x = some (.ref f)) (hk : PySem.W.keepIn X.K (.ref f) = true) (hb : NBinds X.K fd ps ks π) (hx : Passes CX X E)
    (hkw : PK X kws tk) (named : (backToKw pos (keywordEach kws X.env)).all (·.1.isSome) = true) (names : (backToKw pos (keywordEach kws X.env)).filterMap (·.1) = ks) (own : (x == ("__debug__" : Str)) = false)
    (free : ((backTo pos (starEach [] X.env)).any (·.1) || (backToKw pos (keywordEach kws X.env)).any (·.1.isNone)) = false) : PE X (.Call (.Name x p) [] kws pos) (tCallN0 sp ps.length π E tk) := by
  refine ⟨fun kept s σ H Q I wish => wpAny_Call_Name_kw (ld_glob I hg hm (PySem.W.callWith_KW0 (h₀ := X.base) I.ok.mod.kin hk named (wpAny_mono (hkw.run pos kept s σ H _ I wish) (fun ws t got => ?_) fun _ _ z => z) free) own)⟩
  obtain ⟨zs, H2, J, rel, many, q⟩ := got
  refine ⟨J.kIn, ?_⟩
  rw [names]
  refine run_fnk F hr (nbinds_k hb) hx J .nil rel ?_
  unfold order
  rw [if_pos ⟨rfl, many⟩]
  exact q
theorem ev_callN {kws : List Keyword} {π : List Nat} (hx : Passes (L2.CX X.prog X.w) X E) (Fn : FnOk X.prog X.w X.K X.mg X.base (L2.CX X.prog X.w) k f fd ps (spM [] X.mg ps.length F)) (hr : Room k X.A) (hm : X.mg x = some (.ref f)) (hk : PySem.W.keepIn X.K (.ref f) = true) (hb : NBinds X.K fd ps ks π)
    (ha : PKv X E kws fa) (hπ : (π.all (fun i => decide (i < ps.length)) && decide (π.length = ps.length)) = true := by decide) (hg : Gl X x := by rfl) (hall : (backToKw pos (keywordEach kws X.env)).all (·.1.isSome) = true := by rfl) (hks : (backToKw pos (keywordEach kws X.env)).filterMap (·.1) = ks := by rfl)
    (hdb : (x == ("__debug__" : Str)) = false := by decide)
    (free : ((backTo pos (starEach [] X.env)).any (·.1) || (backToKw pos (keywordEach kws X.env)).any (·.1.isNone)) = false := by rfl) :
    PEv X E (.Call (.Name x p) [] kws pos) (M.callN ps.length π F fa) := PE.imp (pe_callN0 Fn hr hg hm hk hb hx ha hall hks hdb free) fun σ H Q ⟨Γ, G, env, ts, vs, S, q⟩ => by
  rw [Bool.and_eq_true] at hπ
  refine ⟨Γ, G, env, ts, vs, S, post_mono (post_bind q) fun l e1 q us G1 H1 hl S1 => ?_⟩
  split at q
  · rename_i hn
    have hus : us.length = ps.length := hl.symm.trans hn
    refine ⟨hus, ?_⟩
    have ids := S1.ids hl
    split at q
    · rename_i os e2 hs
      obtain ⟨G2, s2, S2, hos⟩ := Stt.strongs (P := []) (vP := []) (l := l) (us := us) S1 rfl hl hs
      obtain ⟨G3, s3, S3, rs⟩ := Stt.plains (os := os) (us := us) S2 hos
      have rp := permL_reps rs π
      have lπ : ∀ i ∈ π, i < us.length := fun i m => by have := List.all_eq_true.mp hπ.1 i m; have := of_decide_eq_true this; omega
      have lp : (permL π os).length = ps.length := by
        have h1 : ∀ (π : List Nat), (∀ i ∈ π, i < os.length) → (permL π os).length = π.length := fun π => by
          induction π with
          | nil => intro _; rfl
          | cons i π ih =>
            intro h
            have hi := h i List.mem_cons_self
            have := ih fun j m => h j (List.mem_cons_of_mem _ m)
            unfold permL at this ⊢
            rw [List.filterMap_cons]
            simp only [List.getElem?_eq_getElem hi, List.length_cons, this]
        rw [h1 π fun i m => by have := lπ i m; omega]
        exact of_decide_eq_true hπ.2
      refine ⟨G3, pArgs 0 (permL π os), [], Γ.tabs, S3.marks, (fun _ m => by cases m), by rw [pArgs_len, lp], pArgs_rep rp fun k v hv => by simpa using hv, fun a => by simp, fun a m => (by cases m), S3.le, ?_⟩
      split at q
      · rename_i o rest hF
        rw [hF]
        exact fun v G' H' S' => q v G' H' (S3.after0 S')
      · rename_i c fs hF
        rw [hF]
        refine fun C d G' H' hC he => q C d G' H' hC (he.up S3 (fun a m => by cases m) fun ys => FRep.re fun j i v hj hv => ?_)
        obtain ⟨i2, h1, h2⟩ := permL_get lπ hv
        rw [h1] at hj
        exact ids i2 i v hj h2
      · exact q.elim
    · exact q.elim
  · exact q.elim
end
end Mw
namespace Mw
open PySem PyProof.Rows L2
/-! ### an expression that only looks: what is ours is plain inside, and ours again behind it -/
def frzSl : Sl → Sl
  | .o o => .o (.val o.toD)
  | s => s
def mergeSl : Sl → Sl → Sl
  | .st _ _, .st j s => .st j s
  | .st _ _, _ => .no
  | s, _ => s
def mergeE : EnvS → EnvS → EnvS
  | s :: r, s' :: r' => mergeSl s s' :: mergeE r r'
  | _, _ => []
def M.box (f : M T) : M T := fun e => match f (e.map frzSl) with
  | .ok (.o (.val d), e') => if d.isSc then .ok (.o (.val d), mergeE e e') else .stuck
  | .err c fs => .err c fs
  | _ => .stuck
theorem SReps.frz {args : List V} {G G' H : Hp} (s : Same G G') : ∀ {l : List Sl} {σ : L2.St} {f z : List Addr}, SReps args G H l σ f z → On f H G' → SReps args G' H (l.map frzSl) σ [] z
  | [], _, _, _, ⟨e1, e2, e3⟩, _ => ⟨e1, rfl, e3⟩
  | sl :: r, _, _, _, ⟨w, σ', f1, f2, z1, z2, e, ef, ez, h, t⟩, on => by
    subst ef
    refine ⟨w, σ', [], [], z1, z2, e, rfl, ez, ?_, SReps.frz s t on.r⟩
    cases sl with
    | no => exact ⟨rfl, h.2⟩
    | o o => obtain ⟨e1, u, ev, r⟩ := h; exact ⟨e1, u, ev, rfl, ORep.rep s on.l r⟩
    | p j d => obtain ⟨e1, e2, u, ev, ea, r⟩ := h; exact ⟨rfl, e2, u, ev, ea, r.mono s⟩
    | st j d => obtain ⟨e1, u, ev, ea, r⟩ := h; exact ⟨rfl, u, ev, ea, r⟩
theorem SReps.merge {args : List V} {G H G' H' : Hp} : ∀ {l l' : List Sl} {σ : L2.St} {f z f' z' : List Addr}, SReps args G H l σ f z → SReps args G' H' l' σ f' z' → On f H H' → ∃ z'', SReps args G H' (mergeE l l') σ f z'' ∧ ∀ a, z''.count a ≤ z'.count a
  | [], [], σ, f, z, f', z', ⟨e1, e2, e3⟩, h', on => ⟨[], ⟨e1, e2, rfl⟩, fun a => by simp⟩
  | [], _ :: _, σ, f, z, f', z', ⟨e1, e2, e3⟩, ⟨w, σ', f1, f2, z1, z2, e, _⟩, on => by rw [e1] at e; cases e
  | _ :: _, [], σ, f, z, f', z', ⟨w, σ', f1, f2, z1, z2, e, _⟩, ⟨e1, e2, e3⟩, on => by rw [e1] at e; cases e
  | s :: r, s' :: r', σ, f, z, f', z', ⟨w, σ1, f1, f2, z1, z2, e, ef, ez, h, t⟩, ⟨w', σ2, g1, g2, y1, y2, e', eg, ey, h', t'⟩, on => by
    subst e ef eg ey
    injection e' with e1 e2
    subst e1 e2
    obtain ⟨z3, k1, k2⟩ := SReps.merge t t' on.r
    have keep : ∀ (sl : Sl), SRep args G H sl w f1 [] → (∀ j s, sl ≠ .st j s) → SRep args G H' sl w f1 [] := fun sl k _ => k.mono (Same.refl _) on.l (fun a m => by cases m)
    cases s with
    | no => exact ⟨z3, ⟨w, σ1, f1, f2, [], z3, rfl, rfl, rfl, ⟨h.1, rfl⟩, k1⟩, fun a => by have := k2 a; rw [List.count_append]; omega⟩
    | o o => exact ⟨z3, ⟨w, σ1, f1, f2, [], z3, rfl, rfl, rfl, keep (.o o) (by obtain ⟨q1, q2⟩ := h; exact ⟨rfl, q2⟩) (fun j s z => nomatch z), k1⟩, fun a => by have := k2 a; rw [List.count_append]; omega⟩
    | p j d => exact ⟨z3, ⟨w, σ1, f1, f2, [], z3, rfl, rfl, rfl, keep (.p j d) (by obtain ⟨q1, q2, q3⟩ := h; exact ⟨q1, rfl, q3⟩) (fun j s z => nomatch z), k1⟩, fun a => by have := k2 a; rw [List.count_append]; omega⟩
    | st j d =>
      have ef1 : f1 = [] := h.1
      subst ef1
      cases s' with
      | st j' d' =>
        obtain ⟨q1, u, ev, ea, q2⟩ := h'
        exact ⟨y1 ++ z3, ⟨w, σ1, [], f2, y1, z3, rfl, rfl, rfl, ⟨rfl, u, ev, ea, q2⟩, k1⟩, fun a => by have := k2 a; rw [List.count_append, List.count_append]; omega⟩
      | no => exact ⟨z3, ⟨w, σ1, [], f2, [], z3, rfl, rfl, rfl, ⟨rfl, rfl⟩, k1⟩, fun a => by have := k2 a; rw [List.count_append]; omega⟩
      | o o => exact ⟨z3, ⟨w, σ1, [], f2, [], z3, rfl, rfl, rfl, ⟨rfl, rfl⟩, k1⟩, fun a => by have := k2 a; rw [List.count_append]; omega⟩
      | p j o => exact ⟨z3, ⟨w, σ1, [], f2, [], z3, rfl, rfl, rfl, ⟨rfl, rfl⟩, k1⟩, fun a => by have := k2 a; rw [List.count_append]; omega⟩
theorem Stt.boxed {Γ : Gr} {G H : Hp} {env : EnvS} {σ : L2.St} {ts : List T} {vs : List V} (S : Stt Γ G H env σ ts vs) : ∃ Γ' G', Γ'.args = Γ.args ∧ Stt Γ' G' H (env.map frzSl) σ [] [] ∧
    (∀ {G2 H2 fs d}, ErrSt Γ' G2 H2 fs d → ErrSt Γ G2 H2 fs d) ∧
    ∀ {G2 H2 : Hp} {env2 : EnvS} {d : D} {v : V}, d.isSc = true → Stt Γ' G2 H2 env2 σ [.o (.val d)] [v] → Stt Γ G H2 (mergeE env env2) σ (.o (.val d) :: ts) (v :: vs) := by
  obtain ⟨fO, fZ, fT, q⟩ := S
  let G' : Hp := fun a => if a ∈ fO then H a else G a
  have gn : ∀ a, a ∈ fO → G a = none := fun a m => q.off a (.inl m)
  have sG : Same G G' := fun a o h => by
    show (if a ∈ fO then H a else G a) = some o
    by_cases m : a ∈ fO
    · rw [gn a m] at h; cases h
    · rw [if_neg m]; exact h
  have on : On fO H G' := fun a m o h => by
    show (if a ∈ fO then H a else G a) = some o
    rw [if_pos m]; exact h
  have offG : ∀ a, a ∉ fO → G a = none → G' a = none := fun a m h => by
    show (if a ∈ fO then H a else G a) = none
    rw [if_neg m]; exact h
  have nO : ∀ a, a ∈ fZ → a ∉ fO := fun a m m2 => by have := q.one a; have := mem_count.mp m; have := mem_count.mp m2; omega
  have nT : ∀ a, a ∈ fT → a ∉ fO ∧ a ∉ fZ := fun a m => ⟨fun m2 => by have := q.one a; have := mem_count.mp m; have := mem_count.mp m2; omega, fun m2 => by have := q.one a; have := mem_count.mp m; have := mem_count.mp m2; omega⟩
  have le' : Le Γ.tabs G' H := q.le.add fun a o h => by
    have h : (if a ∈ fO then H a else G a) = some o := h
    by_cases m : a ∈ fO
    · rw [if_pos m] at h
      obtain ⟨o', e', w⟩ := q.sl.trkF a m
      rw [h] at e'
      have := Option.some.inj e'
      subst this
      exact .inr ⟨h, w.nt⟩
    · rw [if_neg m] at h; exact .inl h
  have nn : ∀ a, Fre H a → Fre Γ.H0 a := fun a k => q.fre k
  have up : ∀ a, G' a ≠ none → G a ≠ none ∨ a ∈ fO := fun a h => by
    have h : (if a ∈ fO then H a else G a) ≠ none := h
    by_cases m : a ∈ fO
    · exact .inr m
    · rw [if_neg m] at h; exact .inl h
  refine ⟨⟨G', H, fZ, [], Γ.args, Γ.tabs, fun p m => sG _ _ (q.g0 _ _ (Γ.tb p m))⟩, G', rfl, ⟨[], fZ, [], q.sl.frz sG on, ⟨rfl, rfl⟩, fun a => ?_, fun a m => ?_, fun a m => .inr m, fun a m => ?_, le', Same.refl _, fun a o h _ _ _ => h, fun a h => .inl h, fun a o h nt => ⟨o, h, nt⟩⟩, fun {G2 H2 fs d} e => ?_, fun {G2 H2 env2 d v} hd S2 => ?_⟩
  · have := q.one a; simp; omega
  · rcases m with m | m <;> cases m
  · rcases m with m | m | m
    · cases m
    · cases m
    · exact offG a (nO a m) (q.off a (.inr (.inr m)))
  · refine ⟨e.le, (q.g0.trans sG).trans e.g0, fun a o h1 nt n1 n2 => e.fr a o (q.fr a o h1 nt n1 n2) nt (fun m => ?_) (fun m => by cases m), fun a h => ?_, fun a o h nt => (let ⟨o1, e1, nt1⟩ := q.keep a o h nt; e.keep a o1 e1 nt1), nn d e.new, e.off, e.fld⟩
    · rcases q.nwZ a m with k | k
      · exact absurd nt (k _ h1)
      · exact n1 k
    · rcases e.nw a h with k | k | k
      · rcases up a k with k | k
        · exact q.nw a k
        · exact .inr (q.nwO a (.inl k))
      · exact .inr (.inl (nn a k))
      · cases k
  · obtain ⟨gO, gZ, gT, p⟩ := S2
    obtain ⟨v', vr, f1, f2, e1, e2, h1, h2⟩ := p.tm
    injection e1 with e3 e4
    subst e3
    have ev : v = d.toV := sc_rep hd h1.2
    have sH : ∀ a o, H a = some o → NT o → a ∉ fZ → H2 a = some o := fun a o h nt n => p.fr a o h nt n (fun m => by cases m)
    have ntr : ∀ {f : List Addr}, Trk f H → ∀ a ∈ f, ∀ o, H a = some o → NT o := fun t a m o e => by
      obtain ⟨o', e', w⟩ := t a m
      rw [e] at e'
      have := Option.some.inj e'
      subst this
      exact w.nt
    have onO : On fO H H2 := fun a m o h => sH a o h (ntr q.sl.trkF a m o h) fun m2 => nO a m2 m
    have onT : On fT H H2 := fun a m o h => sH a o h (ntr q.tm.trk a m o h) (nT a m).2
    obtain ⟨z3, k1, k2⟩ := q.sl.merge p.sl onO
    have nw2 : ∀ a, G a = none → G' a = none → H a ≠ none → True := fun _ _ _ _ => trivial
    have zin : ∀ a, a ∈ z3 → a ∈ gZ := fun a m => mem_count.mpr (Nat.lt_of_lt_of_le (mem_count.mp m) (k2 a))
    have zz : ∀ a, a ∈ gZ → Fre H a ∨ a ∈ fZ := fun a m => p.nwZ a m
    refine ⟨fO, z3, fT, k1, ⟨v, vs, [], fT, rfl, rfl, ⟨rfl, by rw [ev]; exact rep_sc hd G⟩, q.tm.mono (Same.refl _) onT⟩, fun a => ?_, q.nwO, fun a m => ?_, fun a m => ?_, ?_, q.g0, fun a o h nt n1 n2 => ?_, q.nw, fun a o h nt => (let ⟨o1, e1, nt1⟩ := q.keep a o h nt; p.keep a o1 e1 nt1)⟩
    · have x1 := q.one a; have x2 := p.one a; have x3 := k2 a
      by_cases m : a ∈ gZ
      · rcases zz a m with k | k
        · have := not_mem_count.mpr fun m => q.sl.trkF.fre a m k
          have := not_mem_count.mpr fun m => q.tm.trk.fre a m k
          omega
        · have := mem_count.mp k
          omega
      · have := not_mem_count.mpr m
        omega
    · rcases zz a (zin a m) with k | k
      · exact .inl (nn a k)
      · exact q.nwZ a k
    · rcases m with m | m | m
      · exact q.off a (.inl m)
      · exact q.off a (.inr (.inl m))
      · rcases zz a (zin a m) with k | k
        · cases e : G a with
          | none => rfl
          | some o => exact absurd (p.g0 a o (sG a o e)) (by rw [p.off a (.inr (.inr (zin a m)))]; exact fun z => nomatch z)
        · exact q.off a (.inr (.inr k))
    · intro a o h
      exact p.le a o (p.g0 a o (sG a o h))
    · refine sH a o (q.fr a o h nt n1 n2) nt fun m => ?_
      rcases q.nwZ a m with k | k
      · exact absurd nt (k _ h)
      · exact n1 k
theorem ev_box {X : Cx} {E : XK} {e : Expr} {f : M T} (h : PEv X E e f) : PEv X E e (M.box f) := PE.imp h fun σ H Q ⟨Γ, G, env, ts, vs, S, q⟩ => by
  obtain ⟨Γ', G', ea, S1, er, back⟩ := S.boxed
  refine ⟨Γ', G', _, [], [], S1, ?_⟩
  unfold M.box at q
  split at q
  · rename_i d e' hf
    rw [hf]
    split at q
    · rename_i hd
      exact fun v G2 H2 S2 => q v G H2 (back hd S2)
    · exact q.elim
  · rename_i c fs hf
    rw [hf]
    exact fun C d G2 H2 hC he => q C d G2 H2 hC (er he)
  · exact q.elim
end Mw
namespace Mw
open PySem PyProof.Rows L2
/-! ### the items of what is read, made plain -/
def itemsO : O → Option (Bool × List D)
  | .val (.lst ds) => some (true, ds) | .val (.tup ds) => some (false, ds)
  | .lst os => some (true, O.toDs os) | .tup os => some (false, O.toDs os)
  | _ => none
def itemsP (t : T) (e : EnvS) : Option (Bool × List D × EnvS) := match t with
  | .o o => match itemsO o with
    | some (b, ds) => some (b, ds, e)
    | none => none
  | .al i => match e[i]? with
    | some (.o o) => match itemsO o with
      | some (b, ds) => some (b, ds, e.set i (.o o.flat))
      | none => none
    | some (.p _ d) => match itemsO (.val d) with
      | some (b, ds) => some (b, ds, e)
      | none => none
    | _ => none
def seqH (b : Bool) (xs : List V) : HO := if b then .lst xs else .tup xs
theorem itemsO_flat {Γ : Gr} {G H : Hp} {env : EnvS} {σ : L2.St} {ts : List T} {vs : List V} {o : O} {v : V} {b : Bool} {ds : List D} (S : Stt Γ G H env σ (.o o.flat :: ts) (v :: vs)) (h : itemsO o = some (b, ds)) :
    ∃ a xs, v = .ref a ∧ H a = some (seqH b xs) ∧ Reps G ds xs := by
  obtain ⟨f, r⟩ := S.top
  have vals : ∀ {ds : List D} {xs : List V} {f : List Addr}, OReps G H (ds.map O.val) xs f → Reps G ds xs := fun {ds xs f} r => by
    have := OReps.reps (G' := G) (Same.refl _) (H := H) (f := f) (os := ds.map O.val) (vs := xs)
    induction ds generalizing xs f with
    | nil => exact r.1
    | cons d ds ih => obtain ⟨v, s, f1, f2, e, ef, h, t⟩ := r; exact ⟨v, s, e, h.2, ih t (fun _ _ => by
        have : Reps G ds s := ih t (by intro a b; exact (OReps.reps (G' := G) (Same.refl _) a b))
        rw [toDs_vals]; exact this)⟩
  cases o with
  | val d =>
    have r : ORep G H (.val d) v f := r
    cases d with
    | lst ds' => injection h with h; injection h with h1 h2; subst h1 h2; obtain ⟨a, xs, e, hG, rs⟩ := r.2; exact ⟨a, xs, e, S.le.lst hG, rs⟩
    | tup ds' => injection h with h; injection h with h1 h2; subst h1 h2; obtain ⟨a, xs, e, hG, rs⟩ := r.2; exact ⟨a, xs, e, S.le.tup hG, rs⟩
    | _ => cases h
  | lst os =>
    injection h with h; injection h with h1 h2; subst h1 h2
    obtain ⟨a, xs, g, e, ef, hH, rs⟩ := r
    exact ⟨a, xs, e, hH, vals rs⟩
  | tup os =>
    injection h with h; injection h with h1 h2; subst h1 h2
    obtain ⟨a, xs, g, e, ef, hH, rs⟩ := r
    exact ⟨a, xs, e, hH, vals rs⟩
  | dct os => cases h
theorem Stt.itemsP {Γ : Gr} {G H : Hp} {env env' : EnvS} {σ : L2.St} {ts : List T} {vs : List V} {t : T} {v : V} {b : Bool} {ds : List D} (S : Stt Γ G H env σ (t :: ts) (v :: vs)) (h : itemsP t env = some (b, ds, env')) :
    ∃ G' a xs, Same G G' ∧ v = .ref a ∧ H a = some (seqH b xs) ∧ Reps G' ds xs ∧ Stt Γ G' H env' σ ts vs := by
  unfold Mw.itemsP at h
  cases t with
  | o o =>
    simp only at h
    split at h
    · rename_i b' ds' ho
      injection h with h; injection h with h1 h2; injection h2 with h2 h3; subst h1 h2 h3
      obtain ⟨G1, s1, S1⟩ := S.flat
      obtain ⟨a, xs, e1, e2, e3⟩ := itemsO_flat S1 ho
      exact ⟨G1, a, xs, s1, e1, e2, e3, S1.pop⟩
    · cases h
  | al i =>
    have ha := S.topA
    simp only at h
    split at h
    · rename_i o hi
      split at h
      · rename_i b' ds' ho
        injection h with h; injection h with h1 h2; injection h2 with h2 h3; subst h1 h2 h3
        obtain ⟨v', hv, S1⟩ := S.pop.out hi
        rw [ha] at hv
        have := Option.some.inj (Option.some.inj hv)
        subst this
        obtain ⟨G1, s1, S2⟩ := S1.flat
        obtain ⟨a, xs, e1, e2, e3⟩ := itemsO_flat S2 ho
        have hl : i < (env.set i Sl.no).length := by rw [List.length_set]; exact (List.getElem?_eq_some_iff.mp hi).1
        have S3 := S2.back hl ha
        rw [List.set_set] at S3
        exact ⟨G1, a, xs, s1, e1, e2, e3, S3⟩
      · cases h
    · rename_i j d hi
      split at h
      · rename_i b' ds' ho
        injection h with h; injection h with h1 h2; injection h2 with h2 h3; subst h1 h2 h3
        obtain ⟨u, h1, r⟩ := S.read hi (.inr ⟨j, rfl⟩)
        rw [ha] at h1
        have := Option.some.inj (Option.some.inj h1)
        subst this
        have S1 := S.pop.val r
        obtain ⟨a, xs, e1, e2, e3⟩ := itemsO_flat (o := .val d) S1 ho
        exact ⟨G, a, xs, Same.refl _, e1, e2, e3, S.pop⟩
      · cases h
    · cases h
/-! ### slices -/
def tO (mg : Str → Option Value) (E : XK) (f : M (Option Int)) : TO := fun σ H Q => ∃ Γ G env ts vs, Stt Γ G H env σ ts vs ∧ post mg E Γ (fun o e => ∀ G' H', Stt Γ G' H' e σ ts vs → Q o H') (f env)
abbrev POv (X : Cx) (E : XK) (e : Option Expr) (f : M (Option Int)) : Prop := PO X e (tO X.mg E f)
theorem PO.imp {X : Cx} {e : Option Expr} {t t' : TO} (h : PO X e t) (k : ∀ σ H Q, t' σ H Q → t σ H Q) : PO X e t' := ⟨fun pins s σ H Q I q => h.run pins s σ H Q I (k _ _ _ q)⟩
def M.part (f : M T) : M (Option Int) := M.bind f fun t => match t with
  | .o (.val (.int i)) => M.pure (some i)
  | _ => fun _ => .stuck
def cutD (xs : List D) (lo hi : Option Int) : List D := (xs.drop (HT.sIx xs.length 0 lo)).take (HT.sIx xs.length xs.length hi - HT.sIx xs.length 0 lo)
theorem cutV_reps {G : Hp} {ds : List D} {xs : List V} (h : Reps G ds xs) (lo hi : Option Int) : Reps G (cutD ds lo hi) (cutV xs lo hi) := by
  have hl := h.length
  have dr : ∀ (n : Nat) {ds : List D} {xs : List V}, Reps G ds xs → Reps G (ds.drop n) (xs.drop n) := fun n => by
    induction n with
    | zero => intro ds xs h; exact h
    | succ n ih =>
      intro ds xs h
      cases ds with
      | nil => have e : xs = [] := h; subst e; exact rfl
      | cons d ds => obtain ⟨v, r, e, h1, h2⟩ := h; subst e; exact ih h2
  have tk : ∀ (n : Nat) {ds : List D} {xs : List V}, Reps G ds xs → Reps G (ds.take n) (xs.take n) := fun n => by
    induction n with
    | zero => intro ds xs h; rw [List.take_zero, List.take_zero]; exact rfl
    | succ n ih =>
      intro ds xs h
      cases ds with
      | nil => have e : xs = [] := h; subst e; exact rfl
      | cons d ds => obtain ⟨v, r, e, h1, h2⟩ := h; subst e; exact ⟨v, _, rfl, h1, ih h2⟩
  unfold cutV cutD
  rw [hl]
  exact tk _ (dr _ h)
def M.slice (f : M T) (lo hi : M (Option Int)) : M T := M.bind f fun t => M.bind lo fun l => M.bind hi fun h => fun e => match t with
  | .o (.val (.str z)) => if z.length ≤ sizeLine then .ok (.o (.val (.str (Txt.slice z l h))), e) else .stuck
  | _ => match itemsP t e with
    | some (true, ds, e') => .ok (.o (.lst ((cutD ds l h).map O.val)), e')
    | _ => match plain1 t e with
      | some (.tup ds, e') => if HT.sIx ds.length 0 l = 0 ∧ HT.sIx ds.length ds.length h = ds.length then .ok (.o (.val (.tup ds)), e') else .ok (.o (.tup ((cutD ds l h).map O.val)), e')
      | _ => .stuck
def M.revL (f : M T) : M T := M.bind f fun t => fun e => match itemsP t e with
  | some (true, ds, e') => .ok (.o (.lst (ds.reverse.map O.val)), e')
  | _ => .stuck
theorem Reps.app {G : Hp} : ∀ {a b : List D} {x y : List V}, Reps G a x → Reps G b y → Reps G (a ++ b) (x ++ y)
  | [], b, x, y, h, k => by have e : x = [] := h; subst e; exact k
  | d :: a, b, x, y, ⟨v, r, e, h1, h2⟩, k => by subst e; exact ⟨v, _, rfl, h1, Reps.app h2 k⟩
theorem Reps.rev {G : Hp} : ∀ {a : List D} {x : List V}, Reps G a x → Reps G a.reverse x.reverse
  | [], x, h => by have e : x = [] := h; subst e; exact rfl
  | d :: a, x, ⟨v, r, e, h1, h2⟩ => by subst e; rw [List.reverse_cons, List.reverse_cons]; exact Reps.app (Reps.rev h2) ⟨v, [], rfl, h1, rfl⟩
theorem Stt.newSeq {Γ : Gr} {G H : Hp} {env : EnvS} {σ : L2.St} {ts : List T} {vs : List V} {ds : List D} {xs : List V} (S : Stt Γ G H env σ ts vs) (r : Reps G ds xs) {p : Addr} (hp : H p = none) : Stt Γ G (upd H p (.lst xs)) env σ (.o (.lst (ds.map O.val)) :: ts) (.ref p :: vs) :=
  Stt.fresh kL (tp := []) (vp := []) S rfl hp fun fp _ => ⟨[], OReps.vals r, fun _ => Nat.zero_le _⟩
theorem Stt.newTup {Γ : Gr} {G H : Hp} {env : EnvS} {σ : L2.St} {ts : List T} {vs : List V} {ds : List D} {xs : List V} (S : Stt Γ G H env σ ts vs) (r : Reps G ds xs) {p : Addr} (hp : H p = none) : Stt Γ G (upd H p (.tup xs)) env σ (.o (.tup (ds.map O.val)) :: ts) (.ref p :: vs) :=
  Stt.fresh kT (tp := []) (vp := []) S rfl hp fun fp _ => ⟨[], OReps.vals r, fun _ => Nat.zero_le _⟩
section
variable {X : Cx} {E : XK} {pos p1 p2 p3 : Pos} {a : Expr} {fa : M T} {lo hi : Option Expr} {fl fh : M (Option Int)}
theorem eo_none : POv X E none (M.pure none) := PO.imp po_none fun σ H Q ⟨Γ, G, env, ts, vs, S, q⟩ => q _ _ S
theorem eo_some (h : PEv X E a fa) : POv X E (some a) (M.part fa) := PO.imp (po_some h) fun σ H Q ⟨Γ, G, env, ts, vs, S, q⟩ => by
  refine ⟨Γ, G, env, ts, vs, S, post_mono (post_bind q) fun t e1 q1 v G1 H1 S1 => ?_⟩
  split at q1
  · rename_i i
    obtain ⟨f, r⟩ := S1.top
    have ev : v = .int i := r.2
    exact ⟨i, ev, q1 _ _ S1.pop⟩
  · exact q1.elim
theorem ev_slice (ha : PEv X E a fa) (hl : POv X E lo fl) (hh : POv X E hi fh) : PEv X E (.Subscript a (.Slice lo hi none p2) pos) (M.slice fa fl fh) := PE.imp (pe_slice (SlR.or sl_list (SlR.or sl_tupA C8.sl_txt)) ha hl hh) fun σ H Q ⟨Γ, G, env, ts, vs, S, q⟩ => by
  refine ⟨Γ, G, env, ts, vs, S, post_mono (post_bind q) fun t e1 q1 v G1 H1 S1 => ?_⟩
  refine ⟨Γ, G1, e1, t :: ts, v :: vs, S1, post_mono (post_bind q1) fun l e2 q2 G2 H2 S2 => ?_⟩
  refine ⟨Γ, G2, e2, t :: ts, v :: vs, S2, post_mono (post_bind q2) fun h e3 q3 G3 H3 S3 => ?_⟩
  split at q3
  · rename_i z
    split at q3
    · rename_i hz
      obtain ⟨f, r⟩ := S3.top
      have ev : v = .str z := r.2
      subst ev
      exact .inr (.inr ⟨z, rfl, hz, q3 _ _ _ (S3.pop.val rfl)⟩)
    · exact q3.elim
  · split at q3
    · rename_i ds e' he
      obtain ⟨G4, a, xs, s4, ev, hH, rs, S4⟩ := S3.itemsP he
      exact .inl ⟨a, xs, ev, .inl (.inl hH), fun p hp => q3 _ _ _ (S4.newSeq (cutV_reps rs l h) hp)⟩
    · split at q3
      · rename_i ds e' he
        obtain ⟨G4, s4, ⟨a, xs, ev, hG, rs⟩, S4⟩ := S3.plain1 he
        have hl := rs.length
        refine .inr (.inl ⟨a, xs, ev, .inl (.inl (S4.le.tup hG)), fun hw => ?_, fun hw p hp => ?_⟩)
        · rw [← hl] at hw
          rw [if_pos hw] at q3
          exact q3 _ _ _ (S4.val ⟨a, xs, rfl, hG, rs⟩)
        · rw [← hl] at hw
          rw [if_neg hw] at q3
          exact q3 _ _ _ (S4.newTup (cutV_reps rs l h) hp)
      · exact q3.elim
theorem ev_rev {k : Nat} (ha : PEv X E a fa) : PEv X E (.Subscript a (.Slice none none (some (.UnaryOp .USub (.Constant (.int 1) k p1) p2)) p3) pos) (M.revL fa) := PE.imp (pe_revL ha) fun σ H Q ⟨Γ, G, env, ts, vs, S, q⟩ => by
  refine ⟨Γ, G, env, ts, vs, S, post_mono (post_bind q) fun t e1 q1 v G1 H1 S1 => ?_⟩
  split at q1
  · rename_i ds e' he
    obtain ⟨G4, a, xs, s4, ev, hH, rs, S4⟩ := S1.itemsP he
    exact ⟨a, xs, ev, .inl (.inl hH), fun p hp => q1 _ _ _ (S4.newSeq rs.rev hp)⟩
  · exact q1.elim
end
end Mw
namespace Mw
open PySem PyProof.Rows L2
/-! ### statements, more -/
theorem ps_unl {X : Cx} {st : Stmt} {t : TS} (h : PS X st t) : PS X st (fun D σ H => t { D with nx := fun σ' H' => ∃ H3, Unl X H' H3 ∧ D.nx σ' H3 } σ H) := by
  refine ⟨fun pins s σ H D I hw => ?_⟩
  refine thn (h.run pins s σ H _ I hw) fun f s1 q => ?_
  cases f with
  | next =>
    obtain ⟨σ', H', I1, H3, u, q⟩ := q
    rcases u with e | ⟨d, od, u, hd, nf, e⟩
    · subst e; exact ⟨σ', _, I1, q⟩
    · subst e; exact ⟨σ', _, I1.unlock hd nf, q⟩
  | brk => exact q
  | cont => exact q
  | ret v => exact q
theorem ets_nil {X : Cx} : PTs X [] (tBo X.mg E0 (M.pure true)) := ⟨fun pins s σ H Q I ⟨Γ, G, env, ts, vs, S, q⟩ => pts_nil.run pins s σ H Q I (q _ _ S)⟩
theorem ets_one {X : Cx} {c : Expr} {f : M Bool} (h : PTv X E0 c f) : PTs X [c] (tBo X.mg E0 f) := pts_one h
section
variable {X : Cx} {E : XK} {pos spos : Pos} {tg elt iter a b : Expr} {ifs : List Expr} {scope : Scope} {own : List (Str × Nat)} {fs : M (List O × Bool)} {g : TG} {A : AsF} {L : List Nat} {ft : M Bool} {fe : M T} {fa : M (List T)}
/-- y = [a comprehension], written on one line -/
theorem ps_setLcv {i : Nat} {y : Str} {py : Pos} (c : Ctx X E) (hy : X.N[i]? = some y) (hsw : swapsWith (.ListComp elt [⟨tg, iter, ifs, 0⟩] scope pos) (some (.Name y py)) spos.line X.env = pure true) (hi : PIv X E tg iter fs) (ok : BlkOk X.N X.env.scope scope own)
    (hg : ∀ (s : Shared) (H : Hp) (C : Addr) (cl : List (Str × Addr)) (fp : List Addr), PG (X.blk s H scope (compEnvC scope cl C X.env) fp) tg g) (hA : Asg g A L) (hL : ∀ i ∈ L, i ∈ own.map (·.2))
    (ht : ∀ (s : Shared) (H : Hp) (C : Addr) (cl : List (Str × Addr)) (fp : List Addr), PTs (X.blk s H scope (compEnvC scope cl C X.env) fp) ifs (tBo X.mg E0 ft))
    (he : ∀ (s : Shared) (H : Hp) (C : Addr) (cl : List (Str × Addr)) (fp : List Addr), PE (X.blk s H scope (compEnvC scope cl C X.env) fp) elt (tV X.mg E0 fe)) (hyl : X.env.scope.names.lookup y = some .local := by rfl) (hs : ∀ x, foldedSetIterable iter X.env x = pure x := by intro _; rfl) :
    PSv X E (.Assign [.Name y py] (.ListComp elt [⟨tg, iter, ifs, 0⟩] scope pos) spos) (M.asg (M.lc fs A (own.map (·.2)) ft fe) (aFlat (aName i))) := PS.imp (ps_unl (ps_setLc c.calm c.nd hy hyl hsw hi ok hg ht he hs)) fun D σ H ⟨Γ, G, env, S, q⟩ => by
  refine lc_reads (E := E) (Q := fun v H3 => gName i v σ H3 D.nx) hA hL ⟨Γ, G, env, [], [], S, post_mono (post_bind q) fun t e1 q1 v G1 H1 S1 => ?_⟩
  split at q1
  · rename_i o e2 hm
    obtain ⟨G2, s2, S2⟩ := Stt.strong1 (P := []) (vP := []) S1 rfl hm
    split at q1
    · rename_i e3 ha
      exact asg_flat asg_name (fun i _ => by simp) S2 ha _ fun σ' G' H' _ _ S3 => q1 _ _ _ S3
    · exact q1.elim
  · exact q1.elim
/-- x, y = a, b -/
def M.par (i j : Nat) (fa : M (List T)) : M Fl := M.bind fa fun l e => match strongL l e with
  | some ([o1, o2], e1) => match aFlat (aName i) o1 e1 with
    | some e2 => match aFlat (aName j) o2 e2 with
      | some e3 => .ok (.nx, e3)
      | none => .stuck
    | none => .stuck
  | _ => .stuck
theorem ps_parv {i j : Nat} {x y : Str} {px py pt : Pos} {kt k2 pt2} (c : Ctx X E) (hi : X.N[i]? = some x) (hj : X.N[j]? = some y) (ha : PAv X E [a, b] fa)
    (hij : i ≠ j := by decide) (hx : X.env.scope.names.lookup x = some .local := by rfl) (hy : X.env.scope.names.lookup y = some .local := by rfl)
    (hw : swappedStores [.Tuple [.Name x px, .Name y py] kt pt] (.Tuple [a, b] k2 pt2) X.env = pure (some [x, y]) := by rfl)
    (hs : swapsWithSole [.Tuple [.Name x px, .Name y py] kt pt] (.Tuple [a, b] k2 pt2) pos.line X.env = pure false := by rfl) :
    PSv X E (.Assign [.Tuple [.Name x px, .Name y py] kt pt] (.Tuple [a, b] k2 pt2) pos) (M.par i j fa) := PS.imp (ps_par c.calm c.nd hi hj hij hx hy ha hw hs) fun D σ H ⟨Γ, G, env, S, q⟩ => by
  refine ⟨Γ, G, env, [], [], S, post_mono (post_bind q) fun l e1 q1 us G1 H1 hl S1 => ?_⟩
  split at q1
  · rename_i o1 o2 e2 hm
    obtain ⟨G2, s2, S2, hos⟩ := Stt.strongs (P := []) (vP := []) (l := l) (us := us) S1 rfl hl hm
    match us, hos with
    | [v, w], _ =>
      split at q1
      · rename_i e3 h3
        split at q1
        · rename_i e4 h4
          refine ⟨v, w, rfl, ?_⟩
          have S2 : Stt Γ G2 H1 e2 σ ([T.o o1, .o o2] ++ []) [v, w] := S2
          exact asg_flat (asg_name (i := i)) (ts := [.o o2]) (vs := [w]) (fun i _ => by simp) S2 h3 (fun σ' H' => D.nx (σ'.set j (some w)) H') fun σ' G' H' _ _ S3 =>
            asg_flat (asg_name (i := j)) (ts := []) (vs := []) (fun i _ => by simp) S3 h4 D.nx fun σ'' G'' H'' _ _ S4 => q1 _ _ _ S4
        · exact q1.elim
      · exact q1.elim
  · exact q1.elim
/-- x = e -/
theorem ps_setF {i : Nat} {x : Str} {pos' : Pos} {e : Expr} {f1 : M T} (c : Ctx X E) (hi : X.N[i]? = some x) (hx : Loc X.env.scope x) (he : PEv X E e f1) (hs : swapsWith e (some (.Name x pos')) pos.line X.env = pure false := by rfl) (hf : X.fn x = true ∨ X.env.scope.names.lookup x = some .local := by first | exact .inl rfl | exact .inr rfl | assumption) :
    PSv X E (.Assign [.Name x pos'] e pos) (M.asg f1 (aFlat (aName i))) := PS.imp (ps_set c.nd hi hx he hs hf) fun D σ H q => asg_imp (asg_flat asg_name) q
end
/-! ### calls by name -/
structure Cal (P : Program) (w : World) (K : PySem.W.Frag) (mg : Str → Option Value) (base : Heap) (k : Nat) (x : Str) (ps : List Str) (F : FM) : Prop where
  ex : ∃ (f : Addr) (fd : FuncData), FnOk P w K mg base (L2.CX P w) k f fd ps (spM [] mg ps.length F) ∧ mg x = some (.ref f) ∧ PySem.W.keepIn K (.ref f) = true ∧ L2.Binds K fd ps []
structure CalN (P : Program) (w : World) (K : PySem.W.Frag) (mg : Str → Option Value) (base : Heap) (k : Nat) (x : Str) (ps ks : List Str) (π : List Nat) (F : FM) : Prop where
  ex : ∃ (f : Addr) (fd : FuncData), FnOk P w K mg base (L2.CX P w) k f fd ps (spM [] mg ps.length F) ∧ mg x = some (.ref f) ∧ PySem.W.keepIn K (.ref f) = true ∧ NBinds K fd ps ks π
theorem Ctx.px {X : Cx} {E : XK} (c : Ctx X E) : Passes (L2.CX X.prog X.w) X E := passes_call c.tk fun _ _ _ _ h => h
section
variable {X : Cx} {E : XK} {j k : Nat} {ps ks : List Str} {π : List Nat} {F : FM} {x : Str} {p pos : Pos} {e : Expr} {es : List Expr} {kws : List Keyword} {fa : M (List T)}
theorem ev_cal (c : Ctx X E) (hr : Room j X.A) (C : Cal X.prog X.w X.K X.mg X.base k x ps F) (ha : PAv X E (e :: es) fa) (hk : k ≤ j := by decide) (hg : Gl X x := by rfl) (hdb : (x == ("__debug__" : Str)) = false := by decide) (he : starEach (e :: es) X.env = (false, eval e X.env) :: starEach es X.env := by rfl) (hpl : (backTo pos (starEach es X.env)).any (·.1) = false := by rfl) :
    PEv X E (.Call (.Name x p) (e :: es) [] pos) (M.call ps.length F fa) :=
  let ⟨f, fd, h1, h2, h3, h4⟩ := C.ex
  ev_call c.px h1 (hr.mono hk) h2 h3 h4 ha hg hdb he hpl
theorem ev_calN (c : Ctx X E) (hr : Room j X.A) (C : CalN X.prog X.w X.K X.mg X.base k x ps ks π F) (ha : PKv X E kws fa) (hk : k ≤ j := by decide) (hπ : (π.all (fun i => decide (i < ps.length)) && decide (π.length = ps.length)) = true := by decide) (hg : Gl X x := by rfl) (hall : (backToKw pos (keywordEach kws X.env)).all (·.1.isSome) = true := by rfl) (hks : (backToKw pos (keywordEach kws X.env)).filterMap (·.1) = ks := by rfl)
    (hdb : (x == ("__debug__" : Str)) = false := by decide) (hpl : ((backTo pos (starEach [] X.env)).any (·.1) || (backToKw pos (keywordEach kws X.env)).any (·.1.isNone)) = false := by rfl) :
    PEv X E (.Call (.Name x p) [] kws pos) (M.callN ps.length π F fa) :=
  let ⟨f, fd, h1, h2, h3, h4⟩ := C.ex
  ev_callN c.px h1 (hr.mono hk) h2 h3 h4 ha hπ hg hall hks hdb hpl
end
end Mw
namespace Mw
open PySem PyProof.Rows L2
section
variable {X : Cx} {E : XK} {p pos : Pos} {a : Expr} {fa : M T}
theorem ev_len (hm : X.mg "len" = none) (ha : PEv X E a fa) (hg : Gl X "len" := by rfl) (hs : starEach [a] X.env = (false, eval a X.env) :: starEach [] X.env := by rfl) : PEv X E (.Call (.Name "len" p) [a] [] pos) (M.call1 gLen fa) :=
  ev_callB1 call_lenA Sp1.len ha hm boot_len hg (by decide) (by decide) hs
theorem ev_list (c : Ctx X E) (hm : X.mg "list" = none) (ha : PEv X E a fa) (hg : Gl X "list" := by rfl) (hs : starEach [a] X.env = (false, eval a X.env) :: starEach [] X.env := by rfl) : PEv X E (.Call (.Name "list" p) [a] [] pos) (M.call1 gList fa) :=
  ev_callT1 (call_listA c) Sp1.list ha hm boot_list hg (by decide) (by decide) hs
theorem ev_tuple (hm : X.mg "tuple" = none) (ha : PEv X E a fa) (hg : Gl X "tuple" := by rfl) (hs : starEach [a] X.env = (false, eval a X.env) :: starEach [] X.env := by rfl) : PEv X E (.Call (.Name "tuple" p) [a] [] pos) (M.call1 gTuple fa) :=
  ev_callT1 call_tuple_of Sp1.tuple ha hm boot_tuple hg (by decide) (by decide) hs
theorem ev_int1 (hm : X.mg "int" = none) (ha : PEv X E a fa) (hg : Gl X "int" := by rfl) (hs : starEach [a] X.env = (false, eval a X.env) :: starEach [] X.env := by rfl) : PEv X E (.Call (.Name "int" p) [a] [] pos) (M.call1 gInt1 fa) :=
  ev_callT1 call_int1 Sp1.int ha hm boot_int hg (by decide) (by decide) hs
theorem ev_sum (c : Ctx X E) (hm : X.mg "sum" = none) (ha : PEv X E a fa) (hg : Gl X "sum" := by rfl) (hs : starEach [a] X.env = (false, eval a X.env) :: starEach [] X.env := by rfl) : PEv X E (.Call (.Name "sum" p) [a] [] pos) (M.call1 gSum fa) :=
  ev_callB1 (cr_sum c.calm) Sp1.sum ha hm (by decide +kernel) hg (by decide) (by decide) hs
theorem ev_any (c : Ctx X E) (hm : X.mg "any" = none) (ha : PEv X E a fa) (hg : Gl X "any" := by rfl) (hs : starEach [a] X.env = (false, eval a X.env) :: starEach [] X.env := by rfl) : PEv X E (.Call (.Name "any" p) [a] [] pos) (M.call1 gAny fa) :=
  ev_callB1 (cr_any c.calm) Sp1.any ha hm (by decide +kernel) hg (by decide) (by decide) hs
theorem ev_all (c : Ctx X E) (hm : X.mg "all" = none) (ha : PEv X E a fa) (hg : Gl X "all" := by rfl) (hs : starEach [a] X.env = (false, eval a X.env) :: starEach [] X.env := by rfl) : PEv X E (.Call (.Name "all" p) [a] [] pos) (M.call1 gAll fa) :=
  ev_callB1 (cr_all c.calm) Sp1.all ha hm (by decide +kernel) hg (by decide) (by decide) hs
theorem pe_ty {x : Str} (c : Ty) (hx : X.mg x = none) (hv : bootBuiltins x = some (.type c.name) := by decide +kernel) (hgx : Gl X x := by rfl) (hn : x ≠ "__name__" := by decide) (hdb : (x == ("__debug__" : Str)) = false := by decide) : PE X (.Name x pos) (tC (V.ty c.name)) := pe_bltn (v := .ty c.name) hgx hx hv rfl hn hdb
theorem ps_raiseE {nm qn : Str} {k : Nat} {pos2 : Pos} (c : Ctx X E) (hT : ∃ C fI, PySem.MwLow.LowTxt X.K X.mg nm qn C fI) (hr : Room k X.A) (ha : PEv X E a fa) (hg : Gl X nm := by rfl)
    (he : starEach (a :: []) X.env = (false, eval a X.env) :: starEach [] X.env := by rfl) (hpl : (backTo pos (starEach [] X.env)).any (·.1) = false := by rfl) (hdb : (nm == ("__debug__" : Str)) = false := by decide) :
    PSv X E (.Raise (some (.Call (.Name nm p) [a] [] pos)) none pos2) (M.raise nm fa) := let ⟨_, _, T⟩ := hT; ps_raisev c T hr ha hg he hpl hdb
end
end Mw
set_option maxHeartbeats 2000000
namespace Mw
open PySem PySem.Spec PyProof.Rows L2
/-! ### try, and clauses each of which names what it caught and returns -/
abbrev Suite := Addr → Value → Option Addr → TS
/-- a suite that may do nothing but return -/
def onlyRt (R : VK) : Ends := { nx := fun _ _ => False, rt := R }
/-- the first clause that fits must have its wish; that one fits -/
def picks (K : PySem.W.Frag) (i : Nat) (R : VK) : List (Value × Suite) → WX
  | [] => fun _ _ _ _ => False
  | (c, ts) :: more => fun kl d τ G => ∃ fits, PySem.W.exmOne K kl c = some fits ∧
      match fits with
      | true => i < τ.length → ∀ e, G e = none → ts e kl d (onlyRt R) (τ.set i (some (.ref e))) G
      | false => picks K i R more kl d τ G
/-- the clauses as they are written, each with its class and its suite's promise -/
def Clauses (X : Cx) (n : Str) : List ExceptHandler → List (Value × Suite) → Prop
  | [], [] => True
  | .ExceptHandler (some (.Name x _)) (some m) (b :: bs) _ :: hs, (c, ts) :: more => m = n ∧ Names X x c ∧
      (∀ (e : Addr) (oe : Obj) (kl : Value) (d : Option Addr) (kept : List (Addr × Obj)), Zc kl d oe → (∃ vs, oe.data = .fields vs) → PSs (X.suite e ((e, oe) :: kept)) (b :: bs) (ts e kl d)) ∧ Clauses X n hs more
  | _, _ => False
/-- an exception has come down in X's own frame: it lies at e -/
structure Down (X : Cx) (ps : List (Addr × Obj)) (τ : L2.St) (G : Hp) (kl : Value) (d : Option Addr) (e : Addr) (t : Shared) : Prop where
  ground : ∃ B, HandSPX.FlyingZ B (X.env :: X.outer) e (Zc kl d) t.heap ∧ ∀ h, HandSPX.FlyingZ B (X.env :: X.outer) e (Zc kl d) h → t.heap.UpToSlots h → Inv X ps τ G { t with heap := h }
  new : G e = none
section
variable {X : Cx} {ps : List (Addr × Obj)} {τ : L2.St} {G : Hp} {kl : Value} {d : Option Addr} {e : Addr} {t : Shared}
theorem Down.inv (w : Down X ps τ G kl d e t) : Inv X ps τ G t := let ⟨_, fl, k⟩ := w.ground; k t.heap fl (Heap.UpToSlots.refl _)
/-- it is no frame of the stack -/
theorem Down.apart (w : Down X ps τ G kl d e t) (hf : X.env.frame = some X.env.locals) : e ≠ X.env.locals ∧ e ∉ X.fs := by
  obtain ⟨B, ⟨_, _, frames, oe, vs, _, _, _, at_, _, flds, _⟩, _⟩ := w.ground
  have out : e ∉ frs (X.env :: X.outer) := fun m => by
    obtain ⟨_, o, same, other⟩ := frames.mem m
    rw [at_] at same
    exact other vs (by rw [← Option.some.inj same]; exact flds)
  have head : X.env.locals ∈ frs (X.env :: X.outer) := List.mem_filterMap.mpr ⟨X.env, .head _, hf⟩
  refine ⟨fun z => out (z ▸ head), fun m => out ?_⟩
  obtain ⟨f, mem, fr⟩ := List.mem_filterMap.mp m
  exact List.mem_filterMap.mpr ⟨f, .tail _ mem, fr⟩
/-- .. and the suite's own view of the state -/
theorem Down.view (w : Down X ps τ G kl d e t) (hf : X.env.frame = some X.env.locals) : ∃ oe, Zc kl d oe ∧ (∃ vs, oe.data = .fields vs) ∧ t.heap.get? e = some oe ∧ Inv (X.suite e ((e, oe) :: (X.pn ++ ps))) [] τ G t := by
  obtain ⟨a1, a2⟩ := w.apart hf
  obtain ⟨B, fl, _⟩ := w.ground
  obtain ⟨oe, vs, at_, z, flds⟩ := fl.there
  exact ⟨oe, z, ⟨vs, flds⟩, at_, w.inv.suite at_ flds w.new a1 a2⟩
/-- one clause is asked -/
theorem Down.asked (w : Down X ps τ G kl d e t) (hf : X.env.frame = some X.env.locals) {x n : Str} {c : Value} {fits : Bool} {b : Stmt} {bs : List Stmt} {np pos : Pos} {hs : List ExceptHandler} {D : Ends} (hc : Names X x c) (hx : PySem.W.exmOne X.K kl c = some fits)
    (yes : fits = true → codeAny (model X.prog X.w) (X.A.mark (some (.ref e))) (.handlers (.ref e) [.ExceptHandler none (some n) (b :: bs) pos] X.env) (fun r s₂ => match r with
      | .ok f => wpAny (model X.prog X.w) X.A (do bindName X.env n .none; unbindBehindTheSuite X.env n pos) (fun _ s₃ => SP X ps D f s₃) X.xe s₂
      | .error z => cameBackBy (model X.prog X.w) X.A X.env X.xe z s₂) t)
    (no : fits = false → wpAny (model X.prog X.w) X.A (handleBy (.ref e) X.env hs) (SP X ps D) X.xe t) :
    wpAny (model X.prog X.w) X.A (handleBy (.ref e) X.env (.ExceptHandler (some (.Name x np)) (some n) (b :: bs) pos :: hs)) (SP X ps D) X.xe t := by
  obtain ⟨oe, z, _, at_, V⟩ := w.view hf
  have kind : PySem.W.Looks (model X.prog X.w) t.heap (typeOf (.ref e)) kl := fun _ _ _ _ k q => wpAny_typeOf_ref (k _ _ at_) (by rw [z.1]; exact q)
  have match_ := PySem.W.exm_one (M := model X.prog X.w) w.inv.kIn kind hx
  obtain ⟨gl, nd, named⟩ := hc
  refine wpAny_handleBy_cons (codeAny_handlers_test ?_) (fun z => nomatch z)
  have look : ∀ {Q E}, Q c t → wpAny (model X.prog X.w) (X.A.mark (some (.ref e))) (eval (.Name x np) X.env) Q E t := fun {Q E} q => named.elim
    (fun m => ld_glob (X := X.suite e ((e, oe) :: (X.pn ++ ps))) V gl m q nd) fun ⟨m, v, nn⟩ => ld_blt (X := X.suite e ((e, oe) :: (X.pn ++ ps))) V gl m v q nn nd
  refine look (match_.here ?_)
  cases fits
  · exact no rfl
  · exact yes rfl
/-- the suite of the clause that fits: its name is bound, it returns, the name goes -/
theorem Down.suited (w : Down X ps τ G kl d e t) (hf : X.env.frame = some X.env.locals) {i : Nat} {n : Str} {ts : Suite} {b : Stmt} {bs : List Stmt} {pos : Pos} {D : Ends} (hN : X.N.Nodup) (hi : X.N[i]? = some n) (hl : X.env.kindOf n = some .local)
    (does : ∀ (e : Addr) (oe : Obj) (kl : Value) (d : Option Addr) (kept : List (Addr × Obj)), Zc kl d oe → (∃ vs, oe.data = .fields vs) → PSs (X.suite e ((e, oe) :: kept)) (b :: bs) (ts e kl d))
    (q : i < τ.length → ∀ e, G e = none → ts e kl d (onlyRt D.rt) (τ.set i (some (.ref e))) G) :
    codeAny (model X.prog X.w) (X.A.mark (some (.ref e))) (.handlers (.ref e) [.ExceptHandler none (some n) (b :: bs) pos] X.env) (fun r s₂ => match r with
      | .ok f => wpAny (model X.prog X.w) X.A (do bindName X.env n .none; unbindBehindTheSuite X.env n pos) (fun _ s₃ => SP X ps D f s₃) X.xe s₂
      | .error z => cameBackBy (model X.prog X.w) X.A X.env X.xe z s₂) t := by
  obtain ⟨B, fl, again⟩ := w.ground
  have room : i < τ.length := by rw [w.inv.len]; exact (List.getElem?_eq_some_iff.mp hi).1
  have plain := w.inv.ok
  refine codeAny_handlers_suite_as (HandSPX.lands_againZ fl fun h fl2 up2 => ?_)
  have w2 : Down X ps τ G kl d e { t with heap := h } := ⟨⟨B, fl2, fun h3 fl3 up3 => again h3 fl3 (up2.trans up3)⟩, w.new⟩
  obtain ⟨oe, z, flds, _, V⟩ := w2.view hf
  refine store_ok (X := X.suite e ((e, oe) :: (X.pn ++ ps))) (v := .ref e) V hN hi (.inl hl) rfl (fun s5 I5 => ?_) (.inr hl)
  refine wpAny_mono ((does e oe kl d (X.pn ++ ps) z flds).run [] s5 _ G (onlyRt D.rt) I5 (q room e w.new)) (fun f s6 got => ?_) fun _ _ never => never.elim
  cases f
  case ret u =>
    obtain ⟨v, τ6, G6, I6, rel, told⟩ := got
    exact gone_ok (I6.unsuite plain) hN hi hl fun s7 I7 => ⟨v, _, G6, I7, rel, told⟩
  all_goals
    obtain ⟨_, _, _, never⟩ := got
    exact never.elim
/-- all clauses, one behind another -/
theorem Down.handled (w : Down X ps τ G kl d e t) (hf : X.env.frame = some X.env.locals) {i : Nat} {n : Str} {D : Ends} (hN : X.N.Nodup) (hi : X.N[i]? = some n) (hl : X.env.kindOf n = some .local) :
    ∀ {hs : List ExceptHandler} {more : List (Value × Suite)}, Clauses X n hs more → picks X.K i D.rt more kl d τ G → wpAny (model X.prog X.w) X.A (handleBy (.ref e) X.env hs) (SP X ps D) X.xe t := by
  intro hs
  induction hs with
  | nil =>
    intro more c q
    cases more
    · exact False.elim q
    · exact False.elim c
  | cons h0 hs ih =>
    intro more c q
    unfold Clauses at c
    split at c
    · rename_i heq
      cases heq
    · rename_i x np m b bs pos hs2 c0 ts more2 heq
      injection heq with h1 h2
      subst h1 h2
      obtain ⟨em, named, does, rest⟩ := c
      subst em
      obtain ⟨fits, hx, wish⟩ := q
      refine w.asked hf named hx (fun y => ?_) fun no => ?_
      · subst y; exact w.suited hf hN hi hl does wish
      · subst no; exact ih rest wish
    · exact c.elim
/-- try: body, and such clauses -/
theorem ps_try_ret {i : Nat} {n : Str} {body : List Stmt} {h0 : ExceptHandler} {hs : List ExceptHandler} {more : List (Value × Suite)} {pos : Pos} {tb : WX → TS} (hN : X.N.Nodup) (hi : X.N[i]? = some n) (hl : X.env.kindOf n = some .local) (hst : X.stack = X.env :: X.outer) (hf : X.env.frame = some X.env.locals)
    (hb : ∀ (W : WX) (kept : List (Addr × Obj)) (out : Value → Shared → Prop), Takes (X.tr kept out) W → PassesOwn (model X.prog X.w) X.A X.env out → PSs (X.tr kept out) body (tb W))
    (hc : Clauses X n (h0 :: hs) more) : PS X (.Try body (h0 :: hs) [] [] pos) (fun D σ H => tb (picks X.K i D.rt more) D σ H) := by
  refine ⟨fun kept s σ H D I h => wpAny_Try_except ?_⟩
  have plain := I.ok
  have frames : X.A.frames = some (X.env :: X.outer) := by rw [plain.frames, hst]
  refine wpAny_mono ((hb (picks X.K i D.rt more) (X.pn ++ kept) _ (fun u t hit => ?_) PassesOwn.looking).run [] s σ H D (I.toTry _) h) (fun f t went => ?_) fun _ _ caught => caught
  · obtain ⟨e, B, t0, kept', τ, G, kl, d, eu, J, same, slots, sky, new, os, bare, wish⟩ := hit
    subst eu
    rw [show (X.tr (X.pn ++ kept) _).stack = X.env :: X.outer from hst] at sky
    refine Sky.land Zc.steady frames hf sky fun h2 fl up2 => ?_
    have w : Down X kept τ G kl d e { t with heap := h2 } := ⟨⟨B, fl, fun h3 fl3 up3 => (J.ofTry plain).landed same fl3.1 ((slots.trans up2).trans up3) os bare⟩, new⟩
    exact w.handled hf hN hi hl hc wish
  · cases f
    case next => obtain ⟨σ2, H2, J, q⟩ := went; exact wpAny_execs_nil ⟨σ2, H2, J.ofTry plain, q⟩
    case ret u => obtain ⟨v, σ2, H2, J, rel, q⟩ := went; exact ⟨v, σ2, H2, J.ofTry plain, rel, q⟩
    all_goals
      obtain ⟨σ2, H2, J, q⟩ := went
      exact ⟨σ2, H2, J.ofTry plain, q⟩
end
end Mw
set_option maxHeartbeats 2000000
namespace L2
open PySem PySem.Spec PyProof.Rows
section
variable {X : Cx}
/-- e.thing, e the exception that the suite holds (at a; its class cls, its dict d) -/
def tThing (K : PySem.W.Frag) (mg : Str → Option Value) (a : Addr) (cls : Value) (d : Option Addr) (te : TE) : TE := fun σ H Q => te σ H fun x H1 => x = .ref a ∧ ∃ (C fI : Addr) (nm qn : Str), PySem.MwLow.LowTxt K mg nm qn C fI ∧ cls = .ref C ∧
  ∃ (dd : Addr) (v : V), d = some dd ∧ H1 dd = some (.xd [(("thing" : Str), v)]) ∧ Q v H1
theorem pe_thing {a : Addr} {oe : Obj} {cls : Value} {d : Option Addr} {pn : List (Addr × Obj)} {e : Expr} {te : TE} {pos : Pos} (hz : Zc cls d oe) (hf : ∃ vs, oe.data = .fields vs) (he : PE (X.suite a ((a, oe) :: pn)) e te)
    (hb : attributeBase e "thing" X.env (eval e X.env) = eval e X.env := by rfl) :
    PE (X.suite a ((a, oe) :: pn)) (.Attribute e "thing" pos) (tThing X.K X.mg a cls d te) := by
  refine ⟨fun pins s σ H Q I h => ?_⟩
  refine attr_of hb (thn (he.run pins s σ H _ I h) fun u s1 hh => ?_)
  obtain ⟨x, H1, I1, rx, ex, C, fI, nm, qn, T, ec, dd, v, ed, ea, q⟩ := hh
  subst ex
  obtain rfl : u = Value.ref a := rx
  subst ec
  subst ed
  obtain ⟨ha, _⟩ := I1.pin (a, oe) (List.mem_append_left _ List.mem_cons_self)
  obtain ⟨vs, hd⟩ := hf
  have hx : ObjOk X.prog X.w H1 s1.heap dd (.xd [(("thing" : Str), v)]) := I1.hok dd _ ea
  obtain ⟨mA, hns, hr⟩ := hx
  obtain ⟨od, ho, hl⟩ := lookIn_ns hns
  have l : List.lookup ("thing" : Str) [(("thing" : Str), v)] = some v := by simp [List.lookup]
  obtain ⟨u, hu, ru⟩ := RelO.some_of (v := v) (o := mA "thing") (by rw [← l]; exact hr "thing")
  have J : PySem.W.InstAt s1.heap a oe C (some od) := ⟨ha, hz.1, by unfold PySem.W.notCls; rw [hd] <;> rfl, by rw [hz.2]; exact ho⟩
  exact HandSPX.exc_get I1.kIn J T.ga T.gg T.exC (PySem.W.findObj_own T.hdC T.noN rfl (by rw [hl, hu])) (handed_of ru) ⟨v, H1, I1.tok _, ru, q⟩
/-- except C as e: return (tag, e.thing) -/
def tMetS (K : PySem.W.Frag) (mg : Str → Option Value) (tag : Str) : Addr → Value → Option Addr → TS := fun a cls d =>
  tRet (tTup (tCons (tC (.str tag)) (tCons (tThing K mg a cls d (tVar 1)) tNil)))
theorem met_suite {a : Addr} {oe : Obj} {cls : Value} {d : Option Addr} {pn : List (Addr × Obj)} {tag : Str} {j k : Nat} {p1 p2 p3 p4 p5 : Pos} (hz : Zc cls d oe) (hf : ∃ vs, oe.data = .fields vs) (hN : X.N[1]? = some ("e" : Str)) (hv : Vis X.env.scope "e") :
    PSs (X.suite a ((a, oe) :: pn)) [.Return (some (.Tuple [.Constant (.str tag) j p1, .Attribute (.Name "e" p2) "thing" p3] k p4)) p5] (tMetS X.K X.mg tag a cls d) :=
  pss_one (ps_ret (pe_tup (pa_cons pe_str (pa_cons (pe_thing (X := X) hz hf (pe_var hN hv)) pa_nil))))
/-- what is made of an exception -/
def metEx (K : PySem.W.Frag) (mg : Str → Option Value) (Q : VK) : List (Addr × Str) → XK
  | [] => fun _ _ _ => False
  | (C, tag) :: r => fun cls d H => ∃ b, PySem.W.exmOne K cls (.ref C) = some b ∧
    (b = true → ∃ (C' fI : Addr) (nm qn : Str), PySem.MwLow.LowTxt K mg nm qn C' fI ∧ cls = .ref C' ∧ ∃ (dd : Addr) (v : V), d = some dd ∧ H dd = some (.xd [(("thing" : Str), v)]) ∧ ∀ p, H p = none → Q (.ref p) (upd H p (.tup [.str tag, v]))) ∧
    (b = false → metEx K mg Q r cls d H)
def TTmet (K : PySem.W.Frag) (mg : Str → Option Value) (told : Str) (hs : List (Addr × Str)) : (XK → Hp → VK → Prop) → Hp → VK → Prop := fun tl H Q =>
  tl (metEx K mg Q hs) H fun x H' => [V.str told, x].length ≤ sizeLine ∧ ∀ p, H' p = none → Q (.ref p) (upd H' p (.tup [.str told, x]))
theorem metEx_w {K : PySem.W.Frag} {mg : Str → Option Value} {R : VK} : ∀ {hs : List (Addr × Str)} {cls : Value} {d : Option Addr} {σ : St} {H : Hp}, metEx K mg R hs cls d H →
    Mw.picks K 1 R (hs.map fun p => (Value.ref p.1, tMetS K mg p.2)) cls d σ H
  | [], _, _, _, _, h => h
  | (C, tag) :: r, cls, d, σ, H, ⟨b, h1, h2, h3⟩ => by
    refine ⟨b, h1, ?_⟩
    cases b
    · exact metEx_w (h3 rfl)
    · intro hl a _
      obtain ⟨C', fI, nm, qn, T, ec, dd, v, ed, hd, q⟩ := h2 rfl
      exact ⟨.ref a, List.getElem?_set_self hl, rfl, C', fI, nm, qn, T, ec, dd, v, ed, hd, (by show 2 ≤ sizeLine; decide), q⟩
open LamX in
theorem met_gives {x q told : Str} {sg : Scope} {g : Addr} {cdg : Value} {j k : Nat} {p1 p2 p3 p4 p5 p8 : Pos} {h₀ : ExceptHandler} {hds : List ExceptHandler} {hs : List (Addr × Str)}
    (hln : ∀ (s : Shared) (H : Hp), (cxOf C8.CX0 X.prog X.w X.K X.mg X.base ["ask", "e"] x sg g cdg X.A X.stack s H C8.E0).nox.env.kindOf "e" = some .local)
    (hh : ∀ (s : Shared) (H : Hp), Mw.Clauses (cxOf C8.CX0 X.prog X.w X.K X.mg X.base ["ask", "e"] x sg g cdg X.A X.stack s H C8.E0).nox "e" (h₀ :: hds) (hs.map fun p => (Value.ref p.1, tMetS X.K X.mg p.2))) :
    GivesTo X ["ask", "e"] x sg g cdg [.Try [.Return (some (.Tuple [.Constant (.str told) j p1, .Call (.Name "ask" p2) [] [] p3] k p4)) p5] (h₀ :: hds) [] [] p8] "ask" q (TTmet X.K X.mg told hs) := by
  intro f c' s H Q tl act hc h
  refine ⟨_, pss_one (Mw.ps_try_ret (i := 1) (n := "e") (X := (cxOf C8.CX0 X.prog X.w X.K X.mg X.base ["ask", "e"] x sg g cdg X.A X.stack s H C8.E0).nox)
      (tb := fun W D σ H => ∃ Ech : XK, (∀ cls d σ' H', Ech cls d H' → W cls d σ' H') ∧ σ[0]? = some (some (.ref f)) ∧ H c' = some (CodeO c' q) ∧ tl Ech H fun x H' => [V.str told, x].length ≤ sizeLine ∧ ∀ p, H' p = none → D.rt (.ref p) (upd H' p (.tup [.str told, x])))
      (by show (["ask", "e"] : List Str).Nodup; decide) rfl (hln s H) rfl rfl (fun W pn xe tk _ => ?_) (hh s H)), ?_⟩
  · refine ⟨fun kept t σ H' D I ⟨Ech, hW, h1, h2, h3⟩ => ?_⟩
    have hp := act W pn xe Ech p2 p3 tk hW
    have hq : PSs ((cxOf C8.CX0 X.prog X.w X.K X.mg X.base ["ask", "e"] x sg g cdg X.A X.stack s H C8.E0).tr pn xe) [.Return (some (.Tuple [.Constant (.str told) j p1, .Call (.Name "ask" p2) [] [] p3] k p4)) p5] _ := pss_one (ps_ret (pe_tup (pa_cons pe_str (pa_cons hp pa_nil))))
    exact hq.run kept t σ H' D I ⟨h1, h2, h3⟩
  · exact ⟨metEx X.K X.mg Q hs, fun cls d σ' H' m => metEx_w m, rfl, hc, h⟩
end
end L2
set_option maxHeartbeats 2000000
namespace Mw
open PySem PyProof.Rows L2
/-! ### a lambda handed to a def: the tables change -/
theorem Stt.retab {Γ : Gr} {G H H1 : Hp} {env : EnvS} {σ : L2.St} {ts : List T} {vs : List V} (S : Stt Γ G H env σ ts vs) (e : LamX.ExtN H H1) (t : LamX.Tabs Γ.tabs H1) : Stt Γ G H1 env σ ts vs := by
  obtain ⟨fO, fZ, fT, q⟩ := S
  have s : SameT H H1 := fun a o h nt => e a o h nt
  refine ⟨fO, fZ, fT, q.sl.mono (Same.refl _) (.of_sameT q.sl.trkF s) (.of_sameT q.sl.trkZ s), q.tm.mono (Same.refl _) (.of_sameT q.tm.trk s), q.one, q.nwO, q.nwZ, q.off, fun a o h => ?_, q.g0, fun a o h nt n1 n2 => s a o (q.fr a o h nt n1 n2) nt, q.nw, fun a o h nt => ?_⟩
  · rcases q.le a o h with ⟨h1, nt⟩ | ⟨ob, kvs, e1, h1⟩ | ⟨q', m', e1, h1⟩
    · exact .inl ⟨s _ _ h1 nt, nt⟩
    · exact .inr (.inl ⟨ob, kvs, e1, s _ _ h1 fun _ z => nomatch z⟩)
    · exact .inr (.inr ⟨q', m', e1, t (a, q') m'⟩)
  · obtain ⟨o', e', nt'⟩ := q.keep a o h nt
    exact ⟨o', s a o' e' nt', nt'⟩
theorem tmk_inj {a b : Str} (h : tmk a = tmk b) : a = b := by
  unfold tmk at h
  injection h with h
  have h := congrArg Array.toList h
  simp at h
  exact h
theorem Stt.tabs {Γ : Gr} {G H : Hp} {env : EnvS} {σ : L2.St} {ts : List T} {vs : List V} (S : Stt Γ G H env σ ts vs) : LamX.Tabs Γ.tabs H := fun p m => by
  rcases S.le p.1 _ (S.marks p m) with ⟨_, nt⟩ | ⟨ob, kvs, e1, h1⟩ | ⟨q', m', e1, h1⟩
  · exact absurd rfl (nt _)
  · cases e1
  · rw [tmk_inj e1]; exact h1
theorem tabs_one {Γ : Gr} {P : Addr} {q : Str} (m : (P, q) ∈ Γ.tabs) : ∀ p ∈ Γ.tabs, p.1 = P → p.2 = q := fun p mp e => by
  have h1 := Γ.tb p mp
  have h2 := Γ.tb (P, q) m
  rw [e, h2] at h1
  exact (tmk_inj (Option.some.inj h1)).symm
/-- what the captured names hold becomes plain -/
def frzL : List Nat → EnvS → EnvS
  | [], e => e
  | i :: r, e => frzL r (match e[i]? with | some (.o o) => e.set i (.o (.val o.toD)) | _ => e)
theorem Stt.frzL {Γ : Gr} {H : Hp} {σ : L2.St} {ts : List T} {vs : List V} : ∀ (cs : List Nat) {G : Hp} {env : EnvS}, Stt Γ G H env σ ts vs → ∃ G', Same G G' ∧ Stt Γ G' H (frzL cs env) σ ts vs
  | [], G, env, S => ⟨G, Same.refl _, S⟩
  | i :: r, G, env, S => by
    unfold Mw.frzL
    split
    · rename_i o hi
      obtain ⟨G1, s1, S1⟩ := S.freezeS hi
      obtain ⟨G2, s2, S2⟩ := Stt.frzL r S1
      exact ⟨G2, s1.trans s2, S2⟩
    · exact Stt.frzL r S
def plainSl (k : Nat) : Sl → Sl
  | .o (.val d) => .p k d
  | .p _ d => .p k d
  | _ => .no
/-- what a lambda's body sees: the captured names, each known by its place -/
def hideE (cs : List Nat) : Nat → EnvS → EnvS
  | _, [] => []
  | k, s :: r => (if k ∈ cs then plainSl k s else .no) :: hideE cs (k + 1) r
def valsOf (σ : L2.St) : List V := σ.map fun w => w.getD .non
theorem SReps.hide {args us : List V} {G H : Hp} {cs : List Nat} : ∀ {k : Nat} {l : List Sl} {σ : L2.St} {f z : List Addr}, SReps args G H l σ f z → (∀ i u, σ[i]? = some (some u) → us[k + i]? = some u) → SReps us G H (hideE cs k l) σ [] []
  | k, [], σ, f, z, ⟨e, _, _⟩, _ => ⟨e, rfl, rfl⟩
  | k, s :: r, σ, f, z, ⟨w, σ', f1, f2, z1, z2, e, ef, ez, h, t⟩, hu => by
    subst e
    refine ⟨w, σ', [], [], [], [], rfl, rfl, rfl, ?_, SReps.hide t fun i u hi => by rw [show k + 1 + i = k + (i + 1) by omega]; exact hu (i + 1) u (by simpa using hi)⟩
    split
    · unfold plainSl
      split
      · obtain ⟨_, u, ev, r⟩ := h; exact ⟨rfl, rfl, u, ev, hu 0 u (by rw [ev]; rfl), r.2⟩
      · obtain ⟨_, _, u, ev, ea, r⟩ := h; exact ⟨rfl, rfl, u, ev, hu 0 u (by rw [ev]; rfl), r⟩
      · exact ⟨rfl, rfl⟩
    · exact ⟨rfl, rfl⟩
theorem Stt.inner {Γ : Gr} {G H : Hp} {env : EnvS} {σ : L2.St} {ts : List T} {vs : List V} (S : Stt Γ G H env σ ts vs) (cs : List Nat) : Stt ⟨G, H, [], [], valsOf σ, Γ.tabs, S.marks⟩ G H (hideE cs 0 env) σ [] [] := by
  obtain ⟨fO, fZ, fT, q⟩ := S
  refine ⟨[], [], [], q.sl.hide fun i u hi => ?_, ⟨rfl, rfl⟩, fun a => by simp, fun a m => ?_, fun a m => ?_, fun a m => ?_, q.le, Same.refl _, fun a o h _ _ _ => h, fun a h => .inl h, fun a o h nt => ⟨o, h, nt⟩⟩
  · unfold valsOf
    rw [Nat.zero_add, List.getElem?_map, hi]; rfl
  · rcases m with m | m <;> cases m
  · cases m
  · rcases m with m | m | m <;> cases m
/-- an exception lies there: its field is put beside a word into a new tuple -/
theorem Stt.caught {Γ : Gr} {G H G' H' : Hp} {env : EnvS} {σ : L2.St} {ts : List T} {vs : List V} (S : Stt Γ G H env σ ts vs) {d p : Addr} {x tag : Str} {j : Option Nat} {dd : D} {tb : ∀ p ∈ Γ.tabs, G p.1 = some (tmk p.2)} {us : List V} (e : ErrSt ⟨G, H, [], [], us, Γ.tabs, tb⟩ G' H' [(x, j, dd)] d) (hp : H' p = none) :
    ∃ v, H' d = some (.xd [(x, v)]) ∧ Stt Γ G' (upd H' p (.tup [.str tag, v])) env σ (.o (.tup [.val (.str tag), .val dd]) :: ts) (.ref p :: vs) := by
  obtain ⟨ys, h1, v, s, ey, rv, _, es⟩ := e.fld
  subst ey
  have es : s = [] := es
  subst es
  obtain ⟨fO, fZ, fT, q⟩ := S
  have su := Same.upd (u := .tup [.str tag, v]) hp
  refine ⟨v, h1, fO, fZ, _, q.push (f := [p]) e.g0 (fun a o h nt => su a o (e.fr a o h nt (fun z => nomatch z) (fun z => nomatch z))) ⟨p, [.str tag, v], [], rfl, rfl, upd_same, .str tag, [v], [], [], rfl, rfl, ⟨rfl, rfl⟩, v, [], [], [], rfl, rfl, ⟨rfl, rv⟩, rfl, rfl⟩ (fun a m => ?_) (fun a => ?_) (fun a m => ?_) (fun a h => ?_) (e.le.same su)⟩
  · rw [List.mem_singleton.mp m]; exact keep_fre e.keep (fre_none hp)
  · rw [List.count_cons, List.count_nil]; split <;> omega
  · rw [List.mem_singleton.mp m]; exact e.le.none hp
  · rcases e.nw a h with k | k | k
    · exact .inl k
    · exact .inr k
    · cases k
/-! ### .. where a table is at hand -/
def tVT (mg : Str → Option Value) (E : XK) (nd : Nd) (f : M T) : TE := fun σ H Q => ∃ Γ G env ts vs, (∀ p ∈ nd, p ∈ Γ.tabs) ∧ Stt Γ G H env σ ts vs ∧ post mg E Γ (fun t e => ∀ v G' H', Stt Γ G' H' e σ (t :: ts) (v :: vs) → Q v H') (f env)
def tAsT (mg : Str → Option Value) (E : XK) (nd : Nd) (f : M (List T)) : TA := fun σ H Q => ∃ Γ G env ts vs, (∀ p ∈ nd, p ∈ Γ.tabs) ∧ Stt Γ G H env σ ts vs ∧
  post mg E Γ (fun l e => ∀ us G' H', l.length = us.length → Stt Γ G' H' e σ (l ++ ts) (us ++ vs) → Q us H') (f env)
def tST (mg : Str → Option Value) (E : XK) (nd : Nd) (f : M Fl) : TS := fun D σ H => ∃ Γ G env, (∀ p ∈ nd, p ∈ Γ.tabs) ∧ Stt Γ G H env σ [] [] ∧ post mg E Γ (ends D Γ) (f env)
abbrev PEvT (X : Cx) (E : XK) (nd : Nd) (e : Expr) (f : M T) : Prop := PE X e (tVT X.mg E nd f)
abbrev PAvT (X : Cx) (E : XK) (nd : Nd) (es : List Expr) (f : M (List T)) : Prop := PA X es (tAsT X.mg E nd f)
abbrev PSvT (X : Cx) (E : XK) (nd : Nd) (st : Stmt) (f : M Fl) : Prop := PS X st (tST X.mg E nd f)
abbrev PSsvT (X : Cx) (E : XK) (nd : Nd) (st : List Stmt) (f : M Fl) : Prop := PSs X st (tST X.mg E nd f)
/-- which clause takes an exception of this class -/
def metSel (K : PySem.W.Frag) (cls : Value) (tag : Str) : List (Addr × Str) → Prop
  | [] => False
  | (C, t) :: r => (PySem.W.exmOne K cls (.ref C) = some true ∧ t = tag) ∨ (PySem.W.exmOne K cls (.ref C) = some false ∧ metSel K cls tag r)
theorem metSel_ex {K : PySem.W.Frag} {mg : Str → Option Value} {Q : VK} {C fI dd : Addr} {nm qn tag : Str} (T : PySem.MwLow.LowTxt K mg nm qn C fI) {H : Hp} {v : V} (hd : H dd = some (.xd [(("thing" : Str), v)])) (hq : ∀ p, H p = none → Q (.ref p) (upd H p (.tup [.str tag, v]))) :
    ∀ {hs : List (Addr × Str)}, metSel K (.ref C) tag hs → metEx K mg Q hs (.ref C) (some dd) H
  | [], h => h.elim
  | (C', t) :: r, .inl ⟨h1, h2⟩ => by
    subst h2
    exact ⟨true, h1, fun _ => ⟨C, fI, nm, qn, T, rfl, dd, v, rfl, hd, hq⟩, fun z => nomatch z⟩
  | (C', t) :: r, .inr ⟨h1, h2⟩ => ⟨false, h1, (fun z => nomatch z), fun _ => metSel_ex T hd hq h2⟩
def M.met (told : Str) (tagOf : Str → Option Str) (cs : List Nat) (f : M T) : M T := fun e => match f (hideE cs 0 (frzL cs e)) with
  | .ok (t, e1) => match move1 t e1 with
    | some (o, _) => .ok (.o (.tup [.val (.str told), o]), frzL cs e)
    | none => .stuck
  | .err c [(x, _, d)] => if x = "thing" then match tagOf c with
      | some tag => .ok (.o (.tup [.val (.str tag), .val d]), frzL cs e)
      | none => .stuck
    else .stuck
  | _ => .stuck
theorem tV_met {K : PySem.W.Frag} {mg : Str → Option Value} {E : XK} {told : Str} {tagOf : Str → Option Str} {cs : List Nat} {hs : List (Addr × Str)} {f : M T} {nd : Nd} {p0 : Addr × Str} {σ : L2.St} {H : Hp} {Q : VK}
    (hx : ∀ c tag, tagOf c = some tag → ∀ C, mg c = some (.ref C) → ∃ fI nm qn, PySem.MwLow.LowTxt K mg nm qn C fI ∧ metSel K (.ref C) tag hs)
    (h0 : p0 ∈ nd) (h : tVT mg E nd (M.met told tagOf cs f) σ H Q) : ∃ tl : Nd, p0 ∈ tl ∧ (∀ p ∈ tl, p.1 = p0.1 → p.2 = p0.2) ∧ LamX.tLam tl (TTmet K mg told hs) (fun E' => tV mg E' f) σ H Q := by
  obtain ⟨Γ, G, env, ts, vs, m, S, q⟩ := h
  refine ⟨Γ.tabs, m p0 h0, tabs_one (m p0 h0), S.tabs, fun H1 hE hT => ?_⟩
  obtain ⟨G1, s1, S1⟩ := (S.retab hE hT).frzL cs
  refine ⟨_, G1, _, [], [], S1.inner cs, ?_⟩
  unfold M.met at q
  split at q
  · rename_i t e1 hf
    rw [hf]
    split at q
    · rename_i o e2 hm
      intro v G2 H2 S2
      refine ⟨by show 2 ≤ sizeLine; decide, fun p hp => ?_⟩
      have S3 := S1.after0 (S2.move1 hm)
      refine q (.ref p) G2 _ ?_
      refine Stt.fresh kT (tp := [.o o]) (vp := [v]) (os := [.val (.str told), o]) (xs := [.str told, v]) S3 rfl hp fun fp r => ?_
      have r2 : OReps G2 H2 [o] [v] fp := TReps.os.mp r
      exact ⟨[] ++ fp, ⟨.str told, [v], [], fp, rfl, rfl, ⟨rfl, rfl⟩, r2⟩, fun b => by simp⟩
    · exact q.elim
  · rename_i c x j d hf
    rw [hf]
    split at q
    · rename_i ex
      subst ex
      split at q
      · rename_i tag ht
        intro C dx G2 H2 hC he
        obtain ⟨fI, nm, qn, T, sel⟩ := hx c tag ht C hC
        obtain ⟨ys, h1, v, s, ey, rv, _, es⟩ := he.fld
        subst ey
        have es : s = [] := es
        subst es
        refine metSel_ex T h1 (fun p hp => ?_) sel
        obtain ⟨v', h2, S3⟩ := S1.caught (tag := tag) he hp
        rw [h1] at h2
        have := Option.some.inj h2
        injection this with this
        injection this with this _
        injection this with _ this
        subst this
        exact q (.ref p) G2 _ S3
      · exact q.elim
    · exact q.elim
  · exact q.elim
end Mw
set_option maxHeartbeats 2000000
namespace Mw
open PySem PyProof.Rows L2
section
variable {X : Cx} {E : XK}
theorem ctx_lam (c : Ctx X E) {A : Around} {outer : List Env} {s : Shared} {H : Hp} {E' : XK} {scope : Scope} {f c' : Addr} {k : Nat} (hr : Room k (A.deeper (LamX.lamEnv X scope s.heap.objs.size f c'))) : Ctx (LamX.lamCx X A outer s H E' scope f c') E' where
  hu := by have := hr.un; show (A.deeper (LamX.lamEnv X scope s.heap.objs.size f c')).units + 66 < cLine; omega
  calm := rfl
  nd := c.nd
  tk := takes_of rfl rfl rfl rfl
theorem ev_met {k : Nat} {st : Stmt} {g cc P : Addr} {fd : FuncData} {told : Str} {hs : List (Addr × Str)} {tagOf : Str → Option Str} {cs : List Nat} {fb : M T} {nd : Nd} {params : Arguments} {body : Expr} {scope : Scope} {p lpos pos : Pos}
    (hr : Room (k + 2) X.A) (F : Fun X.K "_law_met" "_law_met" st g fd) (hb : L2.Binds X.K fd ["ask"] []) (hm : X.mg "_law_met" = some (.ref g)) (Sg : FnScope ["ask", "e"] ["ask"] (defScope st)) (hva : Vis (defScope st) "ask")
    (hG : ∀ cdv q, LamX.GivesTo X ["ask", "e"] "_law_met" (defScope st) g cdv (defBody st) "ask" q (TTmet X.K X.mg told hs)) (TB : LamX.TabB X.base X.mg cc P) (hcode : X.env.code = .ref cc) (hnd : (P, X.env.qual ++ "<lambda>") ∈ nd)
    (hx : ∀ c tag, tagOf c = some tag → ∀ C, X.mg c = some (.ref C) → ∃ fI nm qn, PySem.MwLow.LowTxt X.K X.mg nm qn C fI ∧ metSel X.K (.ref C) tag hs) (L : LamX.LamS X.env.scope scope)
    (hbody : ∀ (A : Around) (outer : List Env) (s : Shared) (H : Hp) (E' : XK) (f c' : Addr), Room k (A.deeper (LamX.lamEnv X scope s.heap.objs.size f c')) → PEv (LamX.lamCx X A outer s H E' scope f c') E' body fb)
    (hg : Gl X "_law_met" := by rfl) (hdef : defaultsOf params X.env = ([], []) := by rfl)
    (hbind : ∀ (q : Str) (cl : List (Str × Addr)) (pm cv ctv : Value), bindArgs (PySem.W.kla_fn "<lambda>" q params body scope cl pm cv ctv) ⟨[], []⟩ = pure [] := by intros; rfl) :
    PEvT X E nd (.Call (.Name "_law_met" p) [.Lambda params body scope lpos] [] pos) (M.met told tagOf cs fb) := by
  obtain ⟨oc, od, kV, doc, pm, an, cdv, ct, osl, rfl, lk, hcd⟩ := F.ex
  refine ⟨fun pins s σ H Q I h => ?_⟩
  obtain ⟨tl, m, u, h2⟩ := tV_met hx hnd h
  exact (LamX.pe_lamcall (T := tl) (t := fun E' => tV X.mg E' fb) hg hm F.kp lk hcd hb Sg rfl hva (hG cdv _) TB hcode m u hr L hdef hbind hbody).run pins s σ H Q I h2
/-! ### rules where a table is at hand -/
variable {nd : Nd} {pos cpos apos : Pos} {st : Stmt} {rest body a b : List Stmt} {e tg iter o : Expr} {es : List Expr} {c : Expr} {f g : M Fl} {fe fo : M T} {fs : M (List T)} {fi : M (List O × Bool)} {fc : M Bool}
theorem evT_of (h : PEv X E e fe) : PEvT X E nd e fe := PE.imp h fun σ H Q ⟨Γ, G, env, ts, vs, _, S, q⟩ => ⟨Γ, G, env, ts, vs, S, q⟩
theorem eaT_nil : PAvT X E nd [] (M.pure []) := PA.imp pa_nil fun σ H Q ⟨Γ, G, env, ts, vs, _, S, q⟩ => q [] G H rfl S
theorem eaT_cons (ha : PEvT X E nd e fe) (hr : PAvT X E nd es fs) (hs : starEach (e :: es) X.env = (false, eval e X.env) :: starEach es X.env := by rfl) : PAvT X E nd (e :: es) (M.consA fe fs) := PA.imp (pa_cons ha hr hs) fun σ H Q ⟨Γ, G, env, ts, vs, m, S, q⟩ => by
  refine ⟨Γ, G, env, ts, vs, m, S, post_mono (post_bind q) fun t e1 q1 v1 G1 H1 S1 => ?_⟩
  refine ⟨Γ, G1, e1, t :: ts, v1 :: vs, m, S1, post_mono (post_bind q1) fun l e2 q2 us G2 H2 hl S2 => ?_⟩
  exact q2 (v1 :: us) G2 H2 (by simp [hl]) (S2.rot hl)
theorem psT_of (h : PSv X E st f) : PSvT X E nd st f := PS.imp h fun D σ H ⟨Γ, G, env, _, S, q⟩ => ⟨Γ, G, env, S, q⟩
theorem pssT_nil : PSsvT X E nd [] M.nx := PSs.imp pss_nil fun D σ H ⟨Γ, G, env, _, S, q⟩ => q σ G H S
theorem pssT_cons (h1 : PSvT X E nd st f) (h2 : PSsvT X E nd rest g) : PSsvT X E nd (st :: rest) (M.seq f g) := PSs.imp (pss_cons h1 h2) fun D σ H ⟨Γ, G, env, m, S, q⟩ => by
  refine ⟨Γ, G, env, m, S, post_mono (post_bind q) fun fl e1 q1 => ?_⟩
  cases fl with
  | nx => exact fun σ1 G1 H1 S1 => ⟨Γ, G1, e1, m, S1, q1⟩
  | rt o => exact q1
  | bk => exact q1
  | ct => exact q1
theorem psT_drop (he : PEvT X E nd e fe) (hs : swapsWith e none pos.line X.env = pure false := by rfl) : PSvT X E nd (.Expr e pos) (M.drop fe) := PS.imp (ps_expr he hs) fun D σ H ⟨Γ, G, env, m, S, q⟩ =>
  ⟨Γ, G, env, [], [], m, S, post_mono (post_bind q) fun t e1 q1 v G1 H1 S1 => q1 _ _ _ S1.pop⟩
theorem psT_setF {i : Nat} {x : Str} {pos' : Pos} (c : Ctx X E) (hi : X.N[i]? = some x) (hx : Loc X.env.scope x) (he : PEvT X E nd e fe) (hs : swapsWith e (some (.Name x pos')) pos.line X.env = pure false := by rfl) (hf : X.fn x = true ∨ X.env.scope.names.lookup x = some .local := by first | exact .inl rfl | exact .inr rfl | assumption) :
    PSvT X E nd (.Assign [.Name x pos'] e pos) (M.asg fe (aFlat (aName i))) := PS.imp (ps_set c.nd hi hx he hs hf) fun D σ H ⟨Γ, G, env, m, S, q⟩ => by
  refine ⟨Γ, G, env, [], [], m, S, post_mono (post_bind q) fun t e1 q1 v G1 H1 S1 => ?_⟩
  split at q1
  · rename_i o e2 hm
    obtain ⟨G2, s2, S2⟩ := Stt.strong1 (P := []) (vP := []) S1 rfl hm
    split at q1
    · rename_i e3 ha
      exact asg_flat asg_name (fun i _ => by simp) S2 ha _ fun σ' G' H' _ _ S3 => q1 _ _ _ S3
    · exact q1.elim
  · exact q1.elim
theorem evT_lst (hr : PAvT X E nd es fs) : PEvT X E nd (.List es pos) (M.lst fs) := PE.imp (pe_lst hr) fun σ H Q ⟨Γ, G, env, ts, vs, m, S, q⟩ => by
  refine ⟨Γ, G, env, ts, vs, m, S, ?_⟩
  have q := post_bind q
  have q := post_bind (show post X.mg E Γ _ (M.bind fs _ env) from by
    cases h : M.strongA fs env with
    | ok p => rw [h] at q; exact (by rw [show M.bind fs _ env = M.strongA fs env from rfl, h]; exact q)
    | err c l => rw [h] at q; exact (by rw [show M.bind fs _ env = M.strongA fs env from rfl, h]; exact q)
    | stuck => rw [h] at q; exact q.elim)
  refine post_mono q fun l e1 q1 us G1 H1 hl S1 => ?_
  split at q1
  · rename_i os e2 hm
    obtain ⟨G2, s2, S2, hos⟩ := Stt.strongs (P := []) (vP := []) (l := l) (us := us) S1 rfl hl hm
    have q1 : post X.mg E Γ _ (if os.length ≤ sizeLine then R.ok (T.o (.lst os), e2) else .stuck) := q1
    split at q1
    · rename_i hz
      exact ⟨by omega, fun p hp => q1 (.ref p) G2 _ (Stt.fresh kL (tp := os.map T.o) (vp := us) S2 (by simp [hos]) hp fun fp r => ⟨fp, TReps.os.mp r, fun _ => Nat.le_refl _⟩)⟩
    · exact q1.elim
  · exact q1.elim
theorem evT_meth {k : Nat → List T → M T} {fa : M (List T)} {name : Str} {r : V → List V → Hp → VK → Prop} (K : LOp X.mg E r k) (rule : ∀ {t : TE} {u : TA}, PE X o t → PA X (e :: es) u → PE X (.Call (.Attribute o name apos) (e :: es) [] cpos) (tBM X.K "list" r t u)) (ho : PEvT X E nd o fo) (ha : PAvT X E nd (e :: es) fa) :
    PEvT X E nd (.Call (.Attribute o name apos) (e :: es) [] cpos) (M.meth fo fa k) := PE.imp (rule ho ha) fun σ H Q ⟨Γ, G, env, ts, vs, m, S, q⟩ => by
  refine ⟨Γ, G, env, ts, vs, m, S, post_mono (post_bind q) fun t e1 q1 v G1 H1 S1 => ?_⟩
  split at q1
  · rename_i i
    split at q1
    · rename_i os hi
      obtain ⟨p, xs, hv, hH, hl⟩ := S1.slotL hi
      have hx := S1.topA
      rw [hv] at hx
      have := Option.some.inj (Option.some.inj hx)
      subst this
      refine ⟨.inl ⟨rfl, xs, .inl (.inl hH)⟩, Γ, G1, e1, ts, vs, m, S1.pop, post_mono (post_bind q1) fun l e2 q2 us G2 H2 hl2 S2 => ?_⟩
      exact K S2 hl2 hv q2
    · exact q1.elim
  · exact q1.elim
theorem psT_if (hc : PTv X E c fc) (ha : PSsvT X E nd a f) (hb : PSsvT X E nd b g) : PSvT X E nd (.If c a b pos) (M.ifS fc f g) := PS.imp (ps_if hc ha hb) fun D σ H ⟨Γ, G, env, m, S, q⟩ => by
  refine ⟨Γ, G, env, [], [], S, post_mono (post_bind q) fun t e1 q1 G1 H1 S1 => ?_⟩
  cases t with
  | true => rw [if_pos rfl] at q1 ⊢; exact ⟨Γ, G1, e1, m, S1, q1⟩
  | false => rw [if_neg Bool.false_ne_true] at q1 ⊢; exact ⟨Γ, G1, e1, m, S1, q1⟩
theorem psT_for {gt : TG} {A : AsF} {L : List Nat} (cx : Ctx X E) (hp : PassesOwn (model X.prog X.w) X.A X.env X.xe) (hi : PIv X E tg iter fi) (hg : PG X tg gt) (hA : Asg gt A L) (hb : PSsvT X E nd body f)
    (hs : ∀ x, foldedSetIterable iter X.env x = pure x := by intro _; rfl) : PSvT X E nd (.For tg iter body [] pos) (M.forS fi A f) := PS.imp (ps_for hp cx.calm hi hg hb hs) fun D σ H ⟨Γ, G, env, m, S, q⟩ => by
  refine ⟨Γ, G, env, [], [], S, post_mono (post_bind q) fun p e1 q1 J Γ' G1 H1 eG S1 src fr fru => ?_⟩
  obtain ⟨os, lk⟩ := p
  cases lk with
  | true => rw [if_pos rfl] at q1; exact q1.elim
  | false =>
    rw [if_neg Bool.false_ne_true] at q1
    have q1 := post_base (fru rfl) q1
    have m' : ∀ p ∈ nd, p ∈ Γ'.tabs := fun p mp => fr.tabs ▸ m p mp
    refine ⟨fun i m σ H => m = os.length - i ∧ i ≤ os.length ∧ ∃ G e, Stt Γ' G H e σ [] [] ∧ post X.mg E Γ' (ends D Γ') (forLoop A f (os.drop i) e), ⟨_, rfl, Nat.zero_le _, G1, e1, S1, q1⟩, ?_⟩
    rintro i m σ2 H2 ⟨rfl, hi, G2, e2, S2, q2⟩
    have sG : Same G1 G2 := by
      obtain ⟨_, _, _, q2⟩ := S2
      have := q2.g0
      rwa [eG] at this
    obtain ⟨sgo, sstop, sy⟩ := src S2 sG
    by_cases hlt : i < os.length
    · right
      refine ⟨sgo i hlt, fun σ' H' => ∃ G e, Stt Γ' G H' e σ' [] [] ∧ post X.mg E Γ' (ends D Γ') (forLoop A f (os.drop (i + 1)) e), fun σ' H' z => ⟨os.length - (i + 1), by omega, rfl, hlt, z⟩, fun x H' hy => ?_⟩
      have ho : os[i]? = some os[i] := by simp [hlt]
      have S5 := S2.pushY (sy i x H' _ ho hy)
      rw [List.drop_eq_getElem_cons hlt] at q2
      unfold forLoop at q2
      split at q2
      · exact q2.elim
      · rename_i e3 hA3
        refine hA (fun i _ => by simp) S5 hA3 _ fun σ' G3 H3 _ _ S6 => ?_
        exact ⟨Γ', G3, e3, m', S6, post_mono (post_bind q2) fun fl e4 q4 => ends_loop q4 fun z σ G H S => ⟨G, e4, S, z⟩⟩
    · have ei : i = os.length := by omega
      subst ei
      left
      rw [List.drop_length] at q2
      exact ⟨sstop, q2 _ _ _ S2⟩
theorem evT_call {k : Nat} {f : Addr} {fd : FuncData} {ps : List Str} {F : FM} {x : Str} {p : Pos} {need : Nd} {fa : M (List T)} (hx : Passes (L2.CX X.prog X.w) X E) (Fn : FnOk X.prog X.w X.K X.mg X.base (L2.CX X.prog X.w) k f fd ps (spM need X.mg ps.length F)) (hnd : ∀ p ∈ need, p ∈ nd) (hr : Room k X.A) (hm : X.mg x = some (.ref f)) (hk : PySem.W.keepIn X.K (.ref f) = true) (hb : L2.Binds X.K fd ps [])
    (ha : PAvT X E nd (e :: es) fa) (hg : Gl X x := by rfl) (hdb : (x == ("__debug__" : Str)) = false := by decide) (he : starEach (e :: es) X.env = (false, eval e X.env) :: starEach es X.env := by rfl) (hpl : (backTo pos (starEach es X.env)).any (·.1) = false := by rfl) :
    PEvT X E nd (.Call (.Name x p) (e :: es) [] pos) (M.call ps.length F fa) := PE.imp (pe_call Fn hr hg hm hk hb .nil hx ha hdb he hpl) fun σ H Q ⟨Γ, G, env, ts, vs, m, S, q⟩ => by
  refine ⟨Γ, G, env, ts, vs, m, S, post_mono (post_bind q) fun l e1 q us G1 H1 hl S1 => ?_⟩
  show spM need X.mg ps.length F (us ++ []) H1 Q E
  rw [List.append_nil]
  split at q
  · rename_i hn
    exact call_reads (fun p mp => m p (hnd p mp)) (hl.symm.trans hn) S1 hl q
  · exact q.elim
end
section
variable {P : Program} {w : World} {K : PySem.W.Frag} {mg : Str → Option Value} {base : Heap}
/-- .. for a def whose code object has a table -/
theorem Fun.okMT {nd : Nd} {x qual : Str} {st : Stmt} {f cc : Addr} {oc : Value} {od : Option Addr} {kV doc pm : Value} {an : Option Addr} {ct : Value} {osl : Array (Option Value)} {N ps : List Str} {k : Nat} {fb : M Fl}
    (l : K.lookup f = some ⟨oc, od, .func (PySem.W.fnOf x qual (defArgs st) (defBody st) (defScope st) .none kV doc pm an (.ref cc) ct), osl⟩) (hcd : PySem.W.codeIn K (.ref cc) qual = true) (S : FnScope N ps (defScope st))
    (hbody : ∀ (A : Around) (outer : List Env) (s : Shared) (H : Hp) (E : XK), Room k (A.deeper (envOfC qual (defScope st) s.heap.objs.size f (.ref cc))) →
      PSsvT (cxOf (L2.CX P w) P w K mg base N qual (defScope st) f (.ref cc) A outer s H E) E nd (defBody st) fb) :
    FnOk P w K mg base (L2.CX P w) (k + 1) f (PySem.W.fnOf x qual (defArgs st) (defBody st) (defScope st) .none kV doc pm an (.ref cc) ct) ps (spM nd mg ps.length (M.fn ps.length N.length fb)) := by
  refine fn_of l hcd S (fun vs H Q E h => ?_) fun A outer s H vs Q E hr h => ⟨_, hbody A outer s H E hr, ?_⟩
  · obtain ⟨G, as, z, tl, tb, _, hl, hs, _⟩ := h
    have := hs.len
    rw [hl, List.length_map] at this
    exact this.symm
  · have hpl : ps.length ≤ N.length := by have := congrArg List.length S.pre; rw [List.length_take] at this; omega
    exact fn_readsT hpl h rfl
end
end Mw
set_option maxHeartbeats 2000000
namespace Mw
open PySem PyProof.Rows L2
section
variable {X : Cx} {E : XK} {pos p apos cpos : Pos} {a e : Expr} {fa : M T}
/-- {} -/
def M.dnew : M T := fun e => .ok (.o (.dct []), e)
theorem ev_dnew : PEv X E (.Dict [] [] pos) M.dnew := PE.imp pe_dnewK fun σ H Q ⟨Γ, G, env, ts, vs, S, q⟩ => fun p hp =>
  q (.ref p) G _ (Stt.node (tp := []) (vp := []) S rfl hp fun fp r => ⟨[], ⟨p, [], [], rfl, rfl, upd_same, rfl, rfl⟩, fun b => Nat.zero_le _⟩)
/-! ### list(d.items()), d as it is or looked at -/
/-- behind d.items(): the view stands last in the heap -/
def sight (s : Shared) (d : Addr) : Shared := { s with heap := s.heap.push { cls := .type "dict_items", data := .fields #[.ref d] } }
theorem rd_dict {ps : List (Addr × Obj)} {σ : L2.St} {H : Hp} {s : Shared} {d : Addr} {kvs : List (Key × V)} (I : Inv X ps σ H s) (r : Rd H d (.dK kvs)) : ObjOk X.prog X.w H s.heap d (.dK kvs) := r.elim (I.hok d _) fun ⟨_, h⟩ => (I.hok d _ h).2
theorem sight_inv {ps : List (Addr × Obj)} {σ : L2.St} {H : Hp} {s : Shared} (I : Inv X ps σ H s) (d : Addr) : Inv X ps σ H (sight s d) := I.kept (t' := s.toks) fun _ _ there => Heap.get?_push_of_some _ there
theorem sight_made {ps : List (Addr × Obj)} {σ : L2.St} {H : Hp} {s : Shared} {d : Addr} {kvs : List (Key × V)} {Q : Value → Shared → Prop} {E : Value → Shared → Prop} (I : Inv X ps σ H s) (r : Rd H d (.dK kvs)) (q : Q (.ref s.heap.objs.size) (sight s d)) :
    s.TypeIs (.ref d) "dict" ∧ (∀ a, Value.ref d = .ref a → ∃ ob, s.heap.get? a = some ob ∧ ob.dict = none) ∧ wpAny (model X.prog X.w) X.A (callWith cpos (.builtin "dict.items") [.ref d] [] []) Q E s := by
  obtain ⟨_, apart, vs, _, is⟩ := rd_dict I r
  exact ⟨is.typeIs, is.mapOf.noDict, method_meetsIn F.slot_dict_items F.entry_dict_items rfl (PySem.evalArgs_none ⟨rfl, is.typeIs, F.args_dict_items_1 _, _, meets_dict_items (mixKind X.prog X.w) d apart, ⟨vs, is⟩, q⟩)⟩
/-- what list makes of the view: a new list of new pairs -/
def Listed (H : Hp) (kvs : List (Key × V)) (Q : VK) : Prop := ∀ (H2 : Hp) (l : Addr) (pairs : List Addr), Same H H2 → H l = none → (∀ t ∈ pairs, H t = none) → l ∉ pairs → H2 l = some (.lst (pairs.map V.ref)) → Paired (fun (t : Addr) (kv : Key × V) => H2 t = some (.tup [kV kv.1, kv.2])) pairs kvs → Q (.ref l) H2
theorem sight_listed {ps : List (Addr × Obj)} {σ : L2.St} {H : Hp} {s : Shared} {d : Addr} {kvs : List (Key × V)} {Q : VK} (calm : X.calm = true) (I : Inv X ps σ H s) (r : Rd H d (.dK kvs)) (q : Listed H kvs Q) :
    wpAny (model X.prog X.w) X.A (call (.type "list") [.ref s.heap.objs.size]) (EP X ps σ Q) X.xe (sight s d) := by
  obtain ⟨small, _, vs, kv, is⟩ := rd_dict I r
  obtain ⟨ep, table⟩ := is.dictAt
  have many := Paired.length kv
  refine PySem.W.kdx_call (I.ok.hd calm) ⟨_, Heap.get?_push_size _ rfl, rfl, rfl⟩ (table.push _) (by omega) fun h2 tk acc c pairs old new len made items => ?_
  obtain ⟨H2, g1, g2, g3, g4, g5, g6, J⟩ := LiI.items_laid (tk := tk) (sight_inv I d) small kv old new len made items
  exact ⟨V.ref _, H2, J, rfl, q H2 _ pairs g1 g2 g3 g4 g5 g6⟩
theorem pe_listed {te : TE} (calm : X.calm = true) (he : PE X e te) (hg : Gl X "list") (hm : X.mg "list" = none) (base : attributeBase e "items" X.env (eval e X.env) = eval e X.env) (line : (apos.endLine == cpos.line) = true)
    (one : starEach [.Call (.Attribute e "items" apos) [] [] cpos] X.env = [(false, eval (.Call (.Attribute e "items" apos) [] [] cpos) X.env)]) :
    PE X (.Call (.Name "list" p) [.Call (.Attribute e "items" apos) [] [] cpos] [] pos) (fun σ H Q => te σ H fun x H1 => ∃ d kvs, x = .ref d ∧ Rd H1 d (.dK kvs) ∧ Listed H1 kvs Q) := by
  refine ⟨fun ps s σ H Q I wish => wpAny_Call_Name_kw (ld_blt I hg hm boot_list (PyProof.Rows.callWith_type1 ?_ one rfl))⟩
  rw [one]
  have told := he.run ps s σ H _ I wish
  refine Calls.spliced_cons (wpAny_Call_method (T := "dict") (id := "dict.items") base rfl line F.plainAttrs_dict F.slot_dict_items F.type_dict_items (wpAny_mono told (fun u s1 got => ?_) fun _ _ z => z))
  obtain ⟨x, H1, I1, rel, d, kvs, ex, r, q⟩ := got
  subst ex
  cases rel
  exact sight_made I1 r (Calls.spliced_nil (sight_listed calm I1 r q))
def M.listItems (f : M T) : M T := M.bind f fun t => fun e => match plain1 t e with
  | some (.dct kvs, e1) => .ok (.o (.val (.lst (kvs.map fun p => .tup [keyD p.1, p.2]))), e1)
  | _ => .stuck
theorem items_reps {G H' : Hp} : ∀ {kvs : List (Key × D)} {ys : List (Key × V)} {ts : List Addr}, RepKs G kvs ys → Paired (fun (t : Addr) (q : Key × V) => H' t = some (.tup [kV q.1, q.2])) ts ys → (∀ t ∈ ts, G t = none) →
    Reps (fun a => if a ∈ ts then H' a else G a) (kvs.map fun p => .tup [keyD p.1, p.2]) (ts.map V.ref) := fun {kvs ys ts} r pr off => by
  have go : ∀ {kvs : List (Key × D)} {ys : List (Key × V)} {us : List Addr}, RepKs G kvs ys → Paired (fun (t : Addr) (q : Key × V) => H' t = some (.tup [kV q.1, q.2])) us ys → (∀ t ∈ us, t ∈ ts) → Reps (fun a => if a ∈ ts then H' a else G a) (kvs.map fun p => .tup [keyD p.1, p.2]) (us.map V.ref) := by
    have s : Same G (fun a => if a ∈ ts then H' a else G a) := fun a o h => by
      show (if a ∈ ts then H' a else G a) = some o
      by_cases m : a ∈ ts
      · rw [off a m] at h; cases h
      · rw [if_neg m]; exact h
    intro kvs
    induction kvs with
    | nil =>
      intro ys us r pr _
      have e : ys = [] := r
      subst e
      cases pr
      exact rfl
    | cons kv kvs ih =>
      intro ys us r pr hm
      obtain ⟨k, d⟩ := kv
      obtain ⟨v, s', e, h, t⟩ := r
      subst e
      cases pr with
      | cons h1 t1 =>
        rename_i t0 us'
        refine ⟨.ref t0, us'.map V.ref, rfl, ⟨t0, [kV k, v], rfl, ?_, kV k, [v], rfl, key_rep _ k, v, [], rfl, h.mono s, rfl⟩, ih t t1 fun x m => hm x (List.mem_cons_of_mem _ m)⟩
        show (if t0 ∈ ts then H' t0 else G t0) = _
        rw [if_pos (hm t0 List.mem_cons_self)]
        exact h1
  exact go r pr fun _ m => m
theorem ev_listItems (c : Ctx X E) (hm : X.mg "list" = none) (ha : PEv X E e fa) (hg : Gl X "list" := by rfl) (base : attributeBase e "items" X.env (eval e X.env) = eval e X.env := by rfl) (line : (apos.endLine == cpos.line) = true := by rfl)
    (one : starEach [.Call (.Attribute e "items" apos) [] [] cpos] X.env = [(false, eval (.Call (.Attribute e "items" apos) [] [] cpos) X.env)] := by rfl) : PEv X E (.Call (.Name "list" p) [.Call (.Attribute e "items" apos) [] [] cpos] [] pos) (M.listItems fa) := PE.imp (pe_listed c.calm ha hg hm base line one) fun σ H Q ⟨Γ, G, env, ts, vs, S, q⟩ => by
  refine ⟨Γ, G, env, ts, vs, S, post_mono (post_bind q) fun t e1 q1 v G1 H1 S1 => ?_⟩
  split at q1
  · rename_i kvs e2 hp
    obtain ⟨G2, s2, ⟨d, ys, ev, hG, rs⟩, S2⟩ := S1.plain1 hp
    refine ⟨d, ys, ev, S2.le.rdD hG, fun H' l us hs hl hn nm hL pr => ?_⟩
    obtain ⟨fO, fZ, fT, q2⟩ := S2
    have gl : G2 l = none := q2.le.none hl
    have gu : ∀ t ∈ us, G2 t = none := fun t m => q2.le.none (hn t m)
    have r1 := items_reps rs pr gu
    have hH : Same H1 H' := hs
    let G3 : Hp := fun a => if a = l then some (.lst (us.map V.ref)) else if a ∈ us then H' a else G2 a
    have s12 : Same (fun a => if a ∈ us then H' a else G2 a) G3 := fun a o h => by
      show (if a = l then _ else if a ∈ us then H' a else G2 a) = some o
      by_cases e : a = l
      · subst e
        have h : (if a ∈ us then H' a else G2 a) = some o := h
        rw [if_neg nm, gl] at h; cases h
      · rw [if_neg e]; exact h
    have s23 : Same G2 G3 := fun a o h => by
      show (if a = l then _ else if a ∈ us then H' a else G2 a) = some o
      by_cases e : a = l
      · subst e; rw [gl] at h; cases h
      · by_cases m : a ∈ us
        · rw [gu a m] at h; cases h
        · rw [if_neg e, if_neg m]; exact h
    have tup : ∀ a ∈ us, ∃ xs, H' a = some (.tup xs) := fun a m => by
      have go : ∀ {us : List Addr} {ys : List (Key × V)}, Paired (fun (t : Addr) (q : Key × V) => H' t = some (.tup [kV q.1, q.2])) us ys → a ∈ us → ∃ xs, H' a = some (.tup xs) := by
        intro us ys pr
        induction pr with
        | nil => intro m; cases m
        | cons h t ih =>
          intro m
          rcases List.mem_cons.mp m with e | m
          · rw [e]; exact ⟨_, h⟩
          · exact ih m
      exact go pr m
    have S3 : Stt Γ G3 H' e2 σ (.o (.val (.lst (kvs.map fun p => .tup [keyD p.1, p.2]))) :: ts) (.ref l :: vs) := by
      refine ⟨fO, fZ, _, q2.push (f := []) s23 (same_t hH) ⟨rfl, l, us.map V.ref, rfl, ?_, Reps.mono s12 r1⟩ (fun a m => by cases m) (fun a => by simp) (fun a m => by cases m) (fun a h => ?_) (fun a o h => ?_)⟩
      · show (if l = l then some (HO.lst (us.map V.ref)) else _) = _
        rw [if_pos rfl]
      · have h : (if a = l then some (HO.lst (us.map V.ref)) else if a ∈ us then H' a else G2 a) ≠ none := h
        by_cases e : a = l
        · exact .inr (fre_none (e ▸ hl))
        · by_cases m : a ∈ us
          · exact .inr (fre_none (hn a m))
          · rw [if_neg e, if_neg m] at h; exact .inl h
      · have h : (if a = l then some (HO.lst (us.map V.ref)) else if a ∈ us then H' a else G2 a) = some o := h
        by_cases e : a = l
        · subst e
          rw [if_pos rfl] at h
          exact .inl ⟨by rw [← h]; exact hL, fun ps z => by rw [z] at h; cases h⟩
        · by_cases m : a ∈ us
          · rw [if_neg e, if_pos m] at h
            obtain ⟨xs, hx⟩ := tup a m
            exact .inl ⟨h, fun ps z => by rw [hx, z] at h; cases h⟩
          · rw [if_neg e, if_neg m] at h
            exact q2.le.same hH a o h
    exact q1 _ G3 H' S3
  · exact q1.elim
/-! ### dict(a list of pairs) -/
def putD (kvs : List (Key × D)) (k : Key) (v : D) : List (Key × D) := match kvs.any fun p => decide (p.1 = k) with
  | true => kvs.map fun p => (p.1, if p.1 = k then v else p.2)
  | false => kvs ++ [(k, v)]
def mergeD (kvs more : List (Key × D)) : List (Key × D) := more.foldl (fun acc kv => putD acc kv.1 kv.2) kvs
theorem RepKs.app {G : Hp} : ∀ {a b : List (Key × D)} {x y : List (Key × V)}, RepKs G a x → RepKs G b y → RepKs G (a ++ b) (x ++ y)
  | [], b, x, y, h, k => by have e : x = [] := h; subst e; exact k
  | (k0, d) :: a, b, x, y, ⟨v, r, e, h1, h2⟩, k => by subst e; exact ⟨v, _, rfl, h1, RepKs.app h2 k⟩
theorem RepKs.anyK {G : Hp} {k : Key} : ∀ {a : List (Key × D)} {x : List (Key × V)}, RepKs G a x → (a.any fun kv => decide (kv.1 = k)) = (x.any fun kv => decide (kv.1 = k))
  | [], x, h => by have e : x = [] := h; subst e; rfl
  | (k0, d) :: a, x, ⟨v, r, e, h1, h2⟩ => by subst e; rw [List.any_cons, List.any_cons, RepKs.anyK h2]
theorem RepKs.mapK {G : Hp} {k : Key} {dn : D} {vn : V} (rn : Rep G dn vn) : ∀ {a : List (Key × D)} {x : List (Key × V)}, RepKs G a x → RepKs G (a.map fun p => (p.1, if p.1 = k then dn else p.2)) (x.map fun kv => if kv.1 = k then (kv.1, vn) else kv)
  | [], x, h => by have e : x = [] := h; subst e; exact rfl
  | (k0, d) :: a, x, ⟨v, r, e, h1, h2⟩ => by
    subst e
    by_cases c : k0 = k
    · refine ⟨vn, _, by rw [List.map_cons, if_pos c], ?_, RepKs.mapK rn h2⟩
      show Rep G (if k0 = k then dn else d) vn
      rw [if_pos c]; exact rn
    · refine ⟨v, _, by rw [List.map_cons, if_neg c], ?_, RepKs.mapK rn h2⟩
      show Rep G (if k0 = k then dn else d) v
      rw [if_neg c]; exact h1
theorem RepKs.put {G : Hp} {k : Key} {dn : D} {vn : V} (rn : Rep G dn vn) {a : List (Key × D)} {x : List (Key × V)} (r : RepKs G a x) : RepKs G (putD a k dn) (putK x k vn) := by
  unfold putD putK
  rw [r.anyK]
  cases x.any fun p => decide (p.1 = k)
  · exact r.app ⟨vn, [], rfl, rn, rfl⟩
  · exact r.mapK rn
theorem RepKs.merge {G : Hp} : ∀ {b a : List (Key × D)} {y x : List (Key × V)}, RepKs G a x → RepKs G b y → RepKs G (mergeD a b) (mergeK x y)
  | [], a, y, x, h, k => by have e : y = [] := k; subst e; exact h
  | (k0, d) :: b, a, y, x, h, ⟨v, r, e, h1, h2⟩ => by
    subst e
    show RepKs G (mergeD (putD a k0 d) b) (mergeK (putK x k0 v) r)
    exact RepKs.merge (h.put h1) h2
def keyOf : D → Option Key
  | .int i => some (.inl i)
  | .str s => some (.inr s)
  | _ => none
def pairsD : List D → Option (List (Key × D))
  | [] => some []
  | .tup [k, v] :: r => match keyOf k, pairsD r with
    | some kk, some l => some ((kk, v) :: l)
    | _, _ => none
  | _ => none
theorem pairs_rep {tl : List (Addr × Str)} {G H : Hp} {K : PySem.W.Frag} (l : Le tl G H) : ∀ {ds : List D} {xs : List V} {kvs : List (Key × D)}, Reps G ds xs → pairsD ds = some kvs →
    ∃ (ps : List Addr) (ys : List (Key × V)), xs = ps.map V.ref ∧ RepKs G kvs ys ∧ Paired (fun p (kv : Key × V) => SqT K H p [kV kv.1, kv.2]) ps ys
  | [], xs, kvs, r, h => by
    have e : xs = [] := r
    have h := Option.some.inj h
    subst e h
    exact ⟨[], [], rfl, rfl, .nil⟩
  | d :: ds, xs, kvs, r, h => by
    unfold pairsD at h
    split at h
    · rename_i e0; cases e0
    · rename_i k v r' e0
      injection e0 with e1 e2
      subst e1 e2
      split at h
      · rename_i kk l' hk hl
        have h := Option.some.inj h
        subst h
        obtain ⟨x, xr, ex, hx, rx⟩ := r
        subst ex
        obtain ⟨ps, ys, e3, r3, p3⟩ := pairs_rep l rx hl
        obtain ⟨a, zs, e4, hG, rz⟩ := hx
        obtain ⟨u1, z1, e5, r5, u2, z2, e6, r6, e7⟩ := rz
        have e7 : z2 = [] := e7
        subst e7 e6 e5 e4 e3
        have ek : u1 = kV kk := by
          cases k with
          | int i => injection hk with hk; subst hk; exact r5
          | str i => injection hk with hk; subst hk; exact r5
          | _ => cases hk
        subst ek
        exact ⟨a :: ps, (kk, u2) :: ys, rfl, ⟨u2, ys, rfl, r6, r3⟩, .cons (.inl (.inl (l.tup hG))) p3⟩
      · cases h
    · cases h
def M.dictP (f : M T) : M T := M.bind f fun t => fun e => match plain1 t e with
  | some (.lst ds, e1) => match pairsD ds with
    | some kvs => .ok (.o (.dct ((mergeD [] kvs).map fun p => (p.1, .val p.2))), e1)
    | none => .stuck
  | _ => .stuck
theorem ev_dictP (c : Ctx X E) (hm : X.mg "dict" = none) (ha : PEv X E a fa) (hg : Gl X "dict" := by rfl) (hs : starEach [a] X.env = (false, eval a X.env) :: starEach [] X.env := by rfl) : PEv X E (.Call (.Name "dict" p) [a] [] pos) (M.dictP fa) :=
  PE.imp (pe_callTy (call_dictP c.calm) hg hm (by decide +kernel) (pa_cons ha pa_nil hs) (by decide) (by decide) hs rfl) fun σ H Q ⟨Γ, G, env, ts, vs, S, q⟩ => by
    refine ⟨Γ, G, env, ts, vs, S, post_mono (post_bind q) fun t e1 q1 v G1 H1 S1 => ?_⟩
    split at q1
    · rename_i ds e2 hp
      split at q1
      · rename_i kvs hk
        obtain ⟨G2, s2, ⟨b, xs, ev, hG, rs⟩, S2⟩ := S1.plain1 hp
        obtain ⟨ps, ys, ex, rk, pr⟩ := pairs_rep (K := X.K) S2.le rs hk
        refine ⟨b, ps, ys, by rw [ev], by rw [← ex]; exact .inl (.inl (S2.le.lst hG)), pr, fun p hp2 => q1 _ G2 _ (Stt.node (tp := []) (vp := []) S2 rfl hp2 fun fp _ => ⟨[], ⟨p, mergeK [] ys, [], rfl, rfl, upd_same, OKs.valsK (RepKs.merge (a := []) (x := []) rfl rk)⟩, fun b => Nat.zero_le _⟩)⟩
      · exact q1.elim
    · exact q1.elim
end
end Mw
set_option maxHeartbeats 2000000
namespace Mw
open PySem PyProof.Rows L2
theorem fnOk_stuck {P : Program} {w : World} {K : PySem.W.Frag} {mg : Str → Option Value} {base : Heap} {CX : CXT} {k : Nat} {f : Addr} {fd : FuncData} {ps : List Str} {nd : Nd} : FnOk P w K mg base CX k f fd ps (spM nd mg ps.length fun _ => .stuck) where
  len := fun vs H Q E h => by
    obtain ⟨G, as, z, tl, tb, _, hl, hs, _, _, _, q⟩ := h
    exact q.elim
  run := fun A outer s H args us vs Q E _ _ _ _ h => by
    obtain ⟨G, as, z, tl, tb, _, hl, hs, _, _, _, q⟩ := h
    exact q.elim
structure CalT (P : Program) (w : World) (K : PySem.W.Frag) (mg : Str → Option Value) (base : Heap) (k : Nat) (x : Str) (ps : List Str) (need : Nd) (F : FM) : Prop where
  ex : ∃ (f : Addr) (fd : FuncData), FnOk P w K mg base (L2.CX P w) k f fd ps (spM need mg ps.length F) ∧ mg x = some (.ref f) ∧ PySem.W.keepIn K (.ref f) = true ∧ L2.Binds K fd ps []
section
variable {X : Cx} {E : XK} {nd need : Nd} {j k : Nat} {ps : List Str} {F : FM} {x : Str} {p pos : Pos} {e : Expr} {es : List Expr} {fa : M (List T)} {fe : M T} {a b : List Stmt} {c : Expr} {f g : M Fl} {fc : M Bool}
theorem evT_cal (c : Ctx X E) (hr : Room j X.A) (C : CalT X.prog X.w X.K X.mg X.base k x ps need F) (hnd : ∀ p ∈ need, p ∈ nd) (ha : PAvT X E nd (e :: es) fa) (hk : k ≤ j := by decide) (hg : Gl X x := by rfl) (hdb : (x == ("__debug__" : Str)) = false := by decide) (he : starEach (e :: es) X.env = (false, eval e X.env) :: starEach es X.env := by rfl) (hpl : (backTo pos (starEach es X.env)).any (·.1) = false := by rfl) :
    PEvT X E nd (.Call (.Name x p) (e :: es) [] pos) (M.call ps.length F fa) :=
  let ⟨f, fd, h1, h2, h3, h4⟩ := C.ex
  evT_call c.px h1 hnd (hr.mono hk) h2 h3 h4 ha hg hdb he hpl
abbrev PTvT (X : Cx) (E : XK) (nd : Nd) (e : Expr) (f : M Bool) : Prop := PT X e (fun σ H Q => ∃ Γ G env ts vs, (∀ p ∈ nd, p ∈ Γ.tabs) ∧ Stt Γ G H env σ ts vs ∧ post X.mg E Γ (fun b e => ∀ G' H', Stt Γ G' H' e σ ts vs → Q b H') (f env))
theorem etT_truth (ha : PEvT X E nd e fe) (he : ∀ whole, isTrue e X.env whole = (do let v ← whole; standAt e.pos; holding [v] (truthy v)) := by intro _; rfl) : PTvT X E nd e (M.tst fe) :=
  PT.imp (pt_truth ha he) fun σ H Q ⟨Γ, G, env, ts, vs, m, S, q⟩ => by
    refine ⟨Γ, G, env, ts, vs, m, S, post_mono (post_bind q) fun t e1 q1 v G1 H1 S1 => ?_⟩
    split at q1
    · rename_i k hk
      exact ⟨k, truth_ok S1 hk, q1 G1 H1 S1.pop⟩
    · exact q1.elim
theorem etT_not (ha : PTvT X E nd e fc) : PTvT X E nd (.UnaryOp .Not e pos) (M.notB fc) := PT.imp (pt_not ha) fun σ H Q ⟨Γ, G, env, ts, vs, m, S, q⟩ =>
  ⟨Γ, G, env, ts, vs, m, S, post_mono (post_bind q) fun b e1 q1 G1 H1 S1 => q1 G1 H1 S1⟩
theorem psT_ifT (hc : PTvT X E nd c fc) (ha : PSsvT X E nd a f) (hb : PSsvT X E nd b g) : PSvT X E nd (.If c a b pos) (M.ifS fc f g) := PS.imp (ps_if hc ha hb) fun D σ H ⟨Γ, G, env, m, S, q⟩ => by
  refine ⟨Γ, G, env, [], [], m, S, post_mono (post_bind q) fun t e1 q1 G1 H1 S1 => ?_⟩
  cases t with
  | true => rw [if_pos rfl] at q1 ⊢; exact ⟨Γ, G1, e1, m, S1, q1⟩
  | false => rw [if_neg Bool.false_ne_true] at q1 ⊢; exact ⟨Γ, G1, e1, m, S1, q1⟩
theorem eaT_of {es : List Expr} {fs : M (List T)} (h : PAv X E es fs) : PAvT X E nd es fs := PA.imp h fun σ H Q ⟨Γ, G, env, ts, vs, _, S, q⟩ => ⟨Γ, G, env, ts, vs, S, q⟩
end
end Mw
set_option maxHeartbeats 2000000
namespace Mw
open PySem PyProof.Rows L2
/-! ### a spring of draws, looked into and turned -/
theorem Stt.wst {Γ : Gr} {G H H' : Hp} {env : EnvS} {σ : L2.St} {ts : List T} {vs : List V} {i : Nat} {j : Option Nat} {s s' : Strm} {u : V} {z : List Addr} {p : Addr} (S : Stt Γ G H env σ ts vs) (hi : env[i]? = some (.st j s)) (hu : σ[i]? = some (some u))
    (hz : ZRep H s u z) (hp : p ∈ z) (hH : ∀ b, b ≠ p → H' b = H b) (ow : ∃ o, H' p = some o ∧ Own o) (hz' : ZRep H' s' u z) : Stt Γ G H' (env.set i (.st j s')) σ ts vs := by
  obtain ⟨fO, fZ, fT, q⟩ := S
  obtain ⟨w, fi, zi, fr, zr, h1, h2, h3, h4, h5⟩ := q.sl.at hi
  obtain ⟨e0, u', ev, ea, zrep⟩ := h2
  subst e0 ev
  have eu : u' = u := Option.some.inj (Option.some.inj (h1.symm.trans hu))
  subst eu
  have ez : zi = z := by
    obtain ⟨a1, b1, e1, e2, e3, e4⟩ := zrep
    obtain ⟨a2, b2, f1, f2, f3, f4⟩ := hz
    rw [e2] at f2
    injection f2 with f2
    subst f2
    rw [e3] at f3
    have f3 := HO.lst.inj (Option.some.inj f3)
    injection f3 with f3 _
    injection f3 with f3
    subst f3
    rw [e1, f1]
  subst ez
  have am : 0 < zi.count p := mem_count.mp hp
  have oa := q.one p
  have hp4 := h4 p
  have hp3 := h3 p
  have out : ∀ {f : List Addr}, f.count p = 0 → On f H H' := fun z b m o h => by
    rw [hH b fun e => by subst e; exact absurd (mem_count.mp m) (by omega)]
    exact h
  have pz : p ∈ fZ := mem_count.mpr (by omega)
  have gp : G p = none := q.off p (.inr (.inr pz))
  obtain ⟨f', z', r1, r2, r3⟩ := h5 G H' (.st j s') (some u') [] zi (Same.refl _) (out (by omega)) (out (by omega)) ⟨rfl, u', rfl, ea, hz'⟩
  rw [set_same h1] at r1
  refine ⟨f', z', fT, r1, q.tm.mono (Same.refl _) (out (by omega)), fun a => ?_, fun a m => ?_, fun a m => q.nwZ a ?_, fun a m => ?_, q.le.write hH (q.sl.trkZ p pz) gp, q.g0, fun a o h nt n1 n2 => ?_, q.nw, fun a o h nt => ?_⟩
  · have := q.one a; have := r2 a; have := r3 a; have := h3 a; have := h4 a
    simp only [List.count_nil] at *
    omega
  · refine q.nwO a (m.imp (fun m => ?_) id)
    have := mem_count.mp m; have := r2 a; have := h3 a
    simp only [List.count_nil] at *
    exact mem_count.mpr (by omega)
  · have := mem_count.mp m; have := r3 a; have := h4 a
    exact mem_count.mpr (by omega)
  · refine q.off a (m.imp (fun m => ?_) fun m => m.imp id fun m => ?_)
    · have := mem_count.mp m; have := r2 a; have := h3 a
      simp only [List.count_nil] at *
      exact mem_count.mpr (by omega)
    · have := mem_count.mp m; have := r3 a; have := h4 a
      exact mem_count.mpr (by omega)
  · have z := q.fr a o h nt n1 n2
    have ne : a ≠ p := fun e => by
      subst e
      rcases q.nwZ a pz with k | k
      · exact absurd nt (k _ h)
      · exact n1 k
    rw [hH a ne]; exact z
  · by_cases e : a = p
    · subst e
      obtain ⟨o', e', w⟩ := ow
      exact ⟨o', e', w.nt⟩
    · rw [hH a e]; exact q.keep a o h nt
theorem Stt.springZ {Γ : Gr} {G H : Hp} {env : EnvS} {σ : L2.St} {ts : List T} {vs : List V} {i : Nat} {j : Option Nat} {s : Strm} (S : Stt Γ G H env σ ts vs) (hi : env[i]? = some (.st j s)) :
    ∃ a b, σ[i]? = some (some (.ref a)) ∧ a ≠ b ∧ H a = some (.lst [.ref b, .int s.left, .int s.cnt, .int s.mix]) ∧ H b = some (.lst (s.cells.map V.int)) ∧ ZRep H s (.ref a) [a, b] := by
  obtain ⟨u, z, h1, h2, h3, _⟩ := S.spring hi
  obtain ⟨a, b, e, ev, ha, hb⟩ := h2
  subst e ev
  refine ⟨a, b, h1, fun e => ?_, ha, hb, a, b, rfl, rfl, ha, hb⟩
  subst e
  have := h3 a
  simp at this
def stGet (s : Strm) : Int → Option Int
  | 1 => some s.left | 2 => some s.cnt | 3 => some s.mix
  | _ => none
def stSet (s : Strm) (v : Int) : Int → Option Strm
  | 1 => some { s with left := v } | 2 => some { s with cnt := v } | 3 => some { s with mix := v }
  | _ => none
def M.stGet (i : Nat) (k : Int) : M T := fun e => match e[i]? with
  | some (.st _ s) => match Mw.stGet s k with
    | some v => .ok (.o (.val (.int v)), e)
    | none => .stuck
  | _ => .stuck
def M.stSet (i : Nat) (k : Int) (f : M T) : M Fl := M.bind f fun t e => match t with
  | .o (.val (.int v)) => match e[i]? with
    | some (.st j s) => match Mw.stSet s v k with
      | some s' => .ok (.nx, e.set i (.st j s'))
      | none => .stuck
    | _ => .stuck
  | _ => .stuck
def M.stMore (i : Nat) : M Bool := fun e => match e[i]? with
  | some (.st _ s) => .ok (!s.cells.isEmpty, e)
  | _ => .stuck
def M.stPop (i : Nat) : M T := fun e => match e[i]? with
  | some (.st j s) => match s.cells with
    | c :: r => .ok (.o (.val (.int c)), e.set i (.st j { s with cells := r }))
    | [] => .stuck
  | _ => .stuck
section
variable {X : Cx} {E : XK} {x : Str} {i : Nat} {k : Int} {kk k0 k1 : Nat} {px pi pos apos cpos p1 p2 p3 : Pos} {e : Expr} {fe : M T}
theorem stGet_at {s : Strm} {b : Addr} {v : Int} (h : stGet s k = some v) : atI [V.ref b, .int s.left, .int s.cnt, .int s.mix] k = some (.int v) := by
  unfold stGet at h
  split at h
  · cases h; rfl
  · cases h; rfl
  · cases h; rfl
  · cases h
theorem ev_stGet (hN : X.N[i]? = some x := by rfl) (hv : Vis X.env.scope x := by first | exact Or.inl rfl | exact Or.inr (Or.inl rfl) | exact Or.inr (Or.inr rfl)) (hd : (x == ("__debug__" : Str)) = false := by decide) (hcd : (x == ("__classdict__" : Str)) = false := by decide)
    (hs : PlainIx (.Constant (.int k) kk pi) := by intro _ _; rfl) : PEv X E (.Subscript (.Name x px) (.Constant (.int k) kk pi) pos) (M.stGet i k) :=
  PE.imp (pe_ix ix_seq (pe_var hN hv hd hcd) pe_int hs) fun σ H Q ⟨Γ, G, env, ts, vs, S, q⟩ => by
    unfold M.stGet at q
    split at q
    · rename_i j s hi
      split at q
      · rename_i v hg
        obtain ⟨a, b, hu, ne, ha, hb, hz⟩ := S.springZ hi
        exact ⟨.ref a, hu, .inl ⟨a, _, k, .int v, rfl, rfl, .inl (.inl ha), stGet_at hg, q _ G H (S.val rfl)⟩⟩
      · exact q.elim
    · exact q.elim
theorem stSet_set {s s' : Strm} {b : Addr} {v : Int} (h : stSet s v k = some s') : ∃ n, ixN 4 k = some n ∧ [V.ref b, .int s.left, .int s.cnt, .int s.mix].set n (.int v) = [V.ref b, .int s'.left, .int s'.cnt, .int s'.mix] ∧ s'.cells = s.cells := by
  unfold stSet at h
  split at h
  · cases h; exact ⟨1, rfl, rfl, rfl⟩
  · cases h; exact ⟨2, rfl, rfl, rfl⟩
  · cases h; exact ⟨3, rfl, rfl, rfl⟩
  · cases h
theorem ps_stSet (he : PEv X E e fe) (hN : X.N[i]? = some x := by rfl) (hv : Vis X.env.scope x := by first | exact Or.inl rfl | exact Or.inr (Or.inl rfl) | exact Or.inr (Or.inr rfl)) (hd : (x == ("__debug__" : Str)) = false := by decide) (hcd : (x == ("__classdict__" : Str)) = false := by decide)
    (rule : ∀ {t u : TE}, PE X (.Name x px) t → PE X (.Constant (.int k) kk pi) u → PG X (.Subscript (.Name x px) (.Constant (.int k) kk pi) pos) (L2.gSub t u rSetL) := by intro _ _ h h2; exact pg_sub h h2 set_list)
    (hs : swapsWithSole [.Subscript (.Name x px) (.Constant (.int k) kk pi) pos] e cpos.line X.env = pure false := by rfl) (hw : swappedStores [.Subscript (.Name x px) (.Constant (.int k) kk pi) pos] e X.env = pure none := by rfl)
    (h1 : (assignEach [.Subscript (.Name x px) (.Constant (.int k) kk pi) pos] X.env).map (·.2) = [assign (.Subscript (.Name x px) (.Constant (.int k) kk pi) pos) X.env] := by rfl) :
    PSv X E (.Assign [.Subscript (.Name x px) (.Constant (.int k) kk pi) pos] e cpos) (M.stSet i k fe) :=
  PS.imp (ps_asg he (rule (pe_var hN hv hd hcd) pe_int) hs hw h1) fun D σ H ⟨Γ, G, env, S, q⟩ => by
    refine ⟨Γ, G, env, [], [], S, post_mono (post_bind q) fun t e1 q1 v G1 H1 S1 => ?_⟩
    split at q1
    · rename_i z
      split at q1
      · rename_i j s hi
        split at q1
        · rename_i s' hs'
          obtain ⟨f, r⟩ := S1.top
          have ev : v = .int z := r.2
          subst ev
          obtain ⟨a, b, hu, ne, hA, hB, hz⟩ := S1.springZ hi
          obtain ⟨n, hn, hset, hc⟩ := stSet_set (b := b) hs'
          refine ⟨.ref a, hu, a, _, k, n, rfl, rfl, hA, hn, q1 σ G1 _ ?_⟩
          refine (S1.pop).wst (p := a) hi hu hz (by simp) (fun b' h' => upd_ne h') ⟨_, upd_same, .inl ⟨_, rfl⟩⟩ ⟨a, b, rfl, rfl, by rw [upd_same, hset], by rw [upd_ne (Ne.symm ne), hc]; exact hB⟩
        · exact q1.elim
      · exact q1.elim
    · exact q1.elim
theorem ev_stPop (hN : X.N[i]? = some x := by rfl) (hv : Vis X.env.scope x := by first | exact Or.inl rfl | exact Or.inr (Or.inl rfl) | exact Or.inr (Or.inr rfl)) (hd : (x == ("__debug__" : Str)) = false := by decide) (hcd : (x == ("__classdict__" : Str)) = false := by decide)
    (hs : PlainIx (.Constant (.int 0) kk pi) := by intro _ _; rfl)
    (hbase : attributeBase (.Subscript (.Name x px) (.Constant (.int 0) kk pi) pos) "pop" X.env (eval (.Subscript (.Name x px) (.Constant (.int 0) kk pi) pos) X.env) = eval (.Subscript (.Name x px) (.Constant (.int 0) kk pi) pos) X.env := by rfl)
    (hfew : ((backTo cpos (starEach [.Constant (.int 0) k0 p1] X.env)).all (fun x => !x.1) && (backToKw cpos (keywordEach [] X.env)).all (fun x => x.1.isSome)
      && decide (([.Constant (.int 0) k0 p1] : List Expr).length + ([] : List Keyword).length + (if ([] : List Keyword).isEmpty then 0 else 1) < 30)) = true := by rfl)
    (hline : (apos.endLine == cpos.line) = true := by rfl) (hs1 : starEach [.Constant (.int 0) k0 p1] X.env = (false, eval (.Constant (.int 0) k0 p1) X.env) :: starEach [] X.env := by rfl) (hplain : (backTo cpos (starEach [] X.env)).any (·.1) = false := by rfl) :
    PEv X E (.Call (.Attribute (.Subscript (.Name x px) (.Constant (.int 0) kk pi) pos) "pop" apos) [.Constant (.int 0) k0 p1] [] cpos) (M.stPop i) :=
  PE.imp (pe_bm PySem.F.plainAttrs_list PySem.F.slot_list_pop PySem.F.type_list_pop mt_popAt (pe_ix ix_seq (pe_var hN hv hd hcd) pe_int hs) (pa_cons pe_int pa_nil hs1) hbase hfew hline hs1 hplain) fun σ H Q ⟨Γ, G, env, ts, vs, S, q⟩ => by
    unfold M.stPop at q
    split at q
    · rename_i j s hi
      split at q
      · rename_i c r hc
        obtain ⟨a, b, hu, ne, hA, hB, hz⟩ := S.springZ hi
        refine ⟨.ref a, hu, .inl ⟨a, _, 0, .ref b, rfl, rfl, .inl (.inl hA), rfl, .inl ⟨rfl, _, .inl (.inl hB)⟩, b, s.cells.map V.int, 0, 0, .int c, rfl, rfl, hB, by decide, by decide, ?_, by rw [hc]; rfl, q _ G _ (Stt.val ?_ rfl)⟩⟩
        · exact (ixN_seq (n := (s.cells.map V.int).length) (i := 0) (j := 0) (by rw [hc]; simp [ixN])).1
        · refine S.wst (p := b) hi hu hz (by simp) (fun b' h' => upd_ne h') ⟨_, upd_same, .inl ⟨_, rfl⟩⟩ ⟨a, b, rfl, rfl, by rw [upd_ne ne]; exact hA, by rw [upd_same, hc]; rfl⟩
      · exact q.elim
    · exact q.elim
theorem ints_dp {K : PySem.W.Frag} {H : Hp} : ∀ (l : List Int), DpAll K H (l.map V.int) (l.map PyData.int)
  | [] => .nil
  | i :: r => .cons (.int i) (ints_dp r)
theorem ints_lay : ∀ (l : List Int), PyData.canLayAll0 (l.map PyData.int) = true
  | [] => by simp [PyData.canLayAll0]
  | i :: r => by simp [PyData.canLayAll0, PyData.canLay0, ints_lay r]
theorem ints_depth : ∀ (l : List Int), PyData.depthAll (l.map PyData.int) ≤ 1
  | [] => by simp [PyData.depthAll]
  | i :: r => by
    have := ints_depth r
    simp [PyData.depthAll, PyData.depth]
    omega
theorem ints_shaped (l : List Int) : SeqAt.shaped (.list (l.map PyData.int)) = true := by
  unfold SeqAt.shaped
  rw [Bool.and_eq_true]
  refine ⟨by simp [PyData.canLay0, ints_lay], decide_eq_true ?_⟩
  have := ints_depth l
  simp [PyData.depth]
  omega
theorem et_stMore (c : Ctx X E) (hN : X.N[i]? = some x := by rfl) (hv : Vis X.env.scope x := by first | exact Or.inl rfl | exact Or.inr (Or.inl rfl) | exact Or.inr (Or.inr rfl)) (hd : (x == ("__debug__" : Str)) = false := by decide) (hcd : (x == ("__classdict__" : Str)) = false := by decide)
    (hs : PlainIx (.Constant (.int 0) kk pi) := by intro _ _; rfl) : PTv X E (.Compare (.Subscript (.Name x px) (.Constant (.int 0) kk pi) pos) [.NotEq] [.List [] p1] p2) (M.stMore i) :=
  PT.imp (pt_cmpR (one c) (pe_ix ix_seq (pe_var hN hv hd hcd) pe_int hs) (pe_lst pa_nil) (nomark _)) fun σ H Q ⟨Γ, G, env, ts, vs, S, q⟩ => by
    unfold M.stMore at q
    split at q
    · rename_i j s hi
      obtain ⟨a, b, hu, ne, hA, hB, hz⟩ := S.springZ hi
      refine ⟨.ref a, hu, ?_⟩
      refine .inl ⟨a, _, 0, .ref b, rfl, rfl, .inl (.inl hA), rfl, ?_⟩
      refine ⟨by show 0 ≤ sizeLine; exact Nat.zero_le _, fun p hp => ?_⟩
      have nb : b ≠ p := fun e => by subst e; rw [hp] at hB; cases hB
      refine .inr ⟨.list (s.cells.map PyData.int), .list [], .lst (.inl (.inl (by rw [upd_ne nb]; exact hB))) (ints_dp _), .lst (.inl (.inl upd_same)) .nil, ints_shaped _, ints_shaped [], ?_⟩
      have ee : PyData.eqv (.list (s.cells.map PyData.int)) (.list []) = s.cells.isEmpty := by
        cases s.cells <;> simp [PyData.eqv, PyData.eqvAll]
      rw [ee]
      exact ⟨_, rfl, q G _ (S.same (Same.upd hp))⟩
    · exact q.elim
end
end Mw
namespace Mw
open PySem
def qlam (name : Str) : Str := (name ++ ".<locals>.") ++ "<lambda>"
end Mw
set_option maxHeartbeats 2000000
namespace Mw
open PySem PyProof.Rows L2
/-! ### a part of what is ours is lent -/
theorem OReps.part {G H : Hp} : ∀ {os : List O} {xs : List V} {g : List Addr}, OReps G H os xs g → ∀ {k : Nat} {o : O}, os[k]? = some o →
    ∃ y f gr, xs[k]? = some y ∧ ORep G H o y f ∧ (∀ a, g.count a = f.count a + gr.count a) ∧
      ∀ {G' H' : Hp} {o' : O} {f' : List Addr}, Same G G' → On gr H H' → ORep G' H' o' y f' → ∃ g', OReps G' H' (os.set k o') xs g' ∧ ∀ a, g'.count a = f'.count a + gr.count a
  | [], _, _, _, k, o, e => by simp at e
  | x :: os, _, _, ⟨v, r, f1, f2, e, ef, h, t⟩, 0, o, q => by
    have q : x = o := by simpa using q
    subst q e ef
    exact ⟨v, f1, f2, rfl, h, fun a => List.count_append, fun {G' H' o' f'} s on r' => ⟨f' ++ f2, ⟨v, r, f', f2, rfl, rfl, r', t.mono s on⟩, fun a => List.count_append⟩⟩
  | x :: os, _, _, ⟨v, r, f1, f2, e, ef, h, t⟩, k + 1, o, q => by
    subst e ef
    obtain ⟨y, f, gr, h1, h2, h3, h4⟩ := OReps.part t (k := k) (o := o) (by simpa using q)
    refine ⟨y, f, f1 ++ gr, by simpa using h1, h2, fun a => by rw [List.count_append, List.count_append, h3]; omega, fun {G' H' o' f'} s on r' => ?_⟩
    obtain ⟨g', k1, k2⟩ := h4 s on.r r'
    exact ⟨f1 ++ g', ⟨v, r, f1, g', rfl, rfl, h.mono s on.l, k1⟩, fun a => by rw [List.count_append, List.count_append, k2]; omega⟩
theorem Stt.lend {Γ : Gr} {G H : Hp} {env : EnvS} {σ : L2.St} {ts : List T} {vs : List V} {i k : Nat} {os : List O} {o : O} (S : Stt Γ G H env σ ts vs) (hi : env[i]? = some (.o (.lst os))) (hk : os[k]? = some o) :
    ∃ p xs y f, σ[i]? = some (some (.ref p)) ∧ H p = some (.lst xs) ∧ xs[k]? = some y ∧ ORep G H o y f ∧ (∀ a, f.count a ≤ 1) ∧ (∀ a ∈ f, G a = none) ∧
      ∀ (us : List V) (G' H' : Hp) (o' : O) (as' : List Sl) (σ' : L2.St) (d : D) (v : V) (tb : ∀ p ∈ Γ.tabs, G p.1 = some (tmk p.2)), d.isSc = true →
        Stt ⟨G, H, [], f, us, Γ.tabs, tb⟩ G' H' (.o o' :: as') (some y :: σ') [.o (.val d)] [v] → Stt Γ G' H' (env.set i (.o (.lst (os.set k o')))) σ (.o (.val d) :: ts) (v :: vs) := by
  obtain ⟨fO, fZ, fT, q⟩ := S
  obtain ⟨w, fi, zi, fr, zr, h1, h2, h3, h4, h5⟩ := q.sl.at hi
  obtain ⟨e0, u, ev, p, xs, g, eu, efi, hp, rs⟩ := h2
  subst e0 ev eu efi
  obtain ⟨y, f, gr, hy, ry, cg, back⟩ := rs.part hk
  have cf : ∀ a, (p :: g).count a = (if p = a then 1 else 0) + (f.count a + gr.count a) := fun a => by
    rw [List.count_cons, cg a]
    by_cases e : p = a
    · subst e; simp; omega
    · have : (p == a) = false := by simpa using e
      simp [this, e]
  have sub : ∀ a, a ∈ f → a ∈ fO := fun a m => mem_count.mpr (by have := mem_count.mp m; have := h3 a; have := cf a; omega)
  refine ⟨p, xs, y, f, h1, hp, hy, ry, fun a => by have := q.one a; have := h3 a; have := cf a; omega, fun a m => q.off a (.inl (sub a m)), fun us G' H' o' as' σ' d v tb hd S' => ?_⟩
  obtain ⟨gO, gZ, gT, c⟩ := S'
  obtain ⟨v', vr, f1, f2, e1, e2, k1, k2⟩ := c.tm
  injection e1 with e3 e4
  subst e3 e2
  have ev' : v = d.toV := sc_rep hd k1.2
  obtain ⟨w', σ2, g1, g2, z1, z2, e5, e6, e7, k3, k4⟩ := c.sl
  injection e5 with e5 e8
  obtain ⟨ez, u', ew, r'⟩ := k3
  have eu : u' = y := by rw [← e5] at ew; exact (Option.some.inj ew).symm
  subst eu
  have sH : ∀ a o, H a = some o → NT o → a ∉ f → H' a = some o := fun a o h nt n => c.fr a o h nt (fun m => by cases m) n
  have on : ∀ {l : List Addr}, Trk l H → (∀ a ∈ l, a ∉ f) → On l H H' := fun t h a m o e => by
    obtain ⟨o', e', w⟩ := t a m
    rw [e] at e'
    have := Option.some.inj e'
    subst this
    exact sH a o e w.nt (h a m)
  have cnt : ∀ a, (if p = a then 1 else 0) + f.count a + gr.count a + fr.count a + fT.count a + fZ.count a ≤ 1 := fun a => by have := q.one a; have := h3 a; have := cf a; omega
  have trk : ∀ {l : List Addr}, (∀ a ∈ l, a ∈ fO) → Trk l H := fun h a m => q.sl.trkF a (h a m)
  have tgr : Trk gr H := trk fun a m => mem_count.mpr (by have := mem_count.mp m; have := h3 a; have := cf a; omega)
  have tfr : Trk fr H := trk fun a m => mem_count.mpr (by have := mem_count.mp m; have := h3 a; omega)
  have tzr : Trk zr H := fun a m => q.sl.trkZ a (mem_count.mpr (by have := mem_count.mp m; have := h4 a; omega))
  have dis : ∀ {l : List Addr}, (∀ a, l.count a ≤ gr.count a + fr.count a + fT.count a + fZ.count a) → ∀ a ∈ l, a ∉ f := fun h a m m2 => by have := h a; have := cnt a; have := mem_count.mp m; have := mem_count.mp m2; omega
  obtain ⟨g', r1, r2⟩ := back c.g0 (on tgr (dis fun a => by omega)) r'
  have hp' : H' p = some (.lst xs) := sH p _ hp (fun _ z => nomatch z) fun m => by have h9 := cnt p; have := mem_count.mp m; rw [if_pos rfl] at h9; omega
  obtain ⟨f', z', s1, s2, s3⟩ := h5 G' H' (.o (.lst (os.set k o'))) (some (.ref p)) (p :: g') [] c.g0 (on tfr (dis fun a => by omega)) (on tzr (dis fun a => by have := h4 a; omega)) ⟨rfl, .ref p, rfl, p, xs, g', rfl, rfl, hp', r1⟩
  rw [set_same h1] at s1
  have cg' : ∀ a, (p :: g').count a = (if p = a then 1 else 0) + (g1.count a + gr.count a) := fun a => by
    rw [List.count_cons, r2 a]
    by_cases e : p = a
    · subst e; simp; omega
    · have : (p == a) = false := by simpa using e
      simp [this, e]
  have c1 : ∀ a, g1.count a ≤ 1 := fun a => by have := c.one a; rw [e6] at this; simp only [List.count_append] at this; omega
  have cn : ∀ a, a ∈ g1 → Fre H a ∨ a ∈ f := fun a m => c.nwO a (.inl (by rw [e6]; exact List.mem_append_left _ m))
  have nnew : ∀ a, Fre H a → fO.count a = 0 ∧ fT.count a = 0 ∧ fZ.count a = 0 := fun a h => ⟨not_mem_count.mpr fun m => q.sl.trkF.fre a m h, not_mem_count.mpr fun m => q.tm.trk.fre a m h, not_mem_count.mpr fun m => q.sl.trkZ.fre a m h⟩
  have old : ∀ a, (a ∈ fO ∨ a ∈ fT ∨ a ∈ fZ) → a ∉ f → G' a = none := fun a m nf => by
    cases e : G' a with
    | none => rfl
    | some o =>
      rcases c.nw a (by rw [e]; exact fun z => nomatch z) with k | k | k
      · exact absurd (q.off a m) k
      · rcases m with m | m | m
        · exact absurd k (q.sl.trkF.fre a m)
        · exact absurd k (q.tm.trk.fre a m)
        · exact absurd k (q.sl.trkZ.fre a m)
      · exact absurd k nf
  have z0 : ∀ a, z'.count a = zr.count a := fun a => by have := s3 a; simpa using this
  have zz : ∀ a, a ∈ z' → a ∈ fZ := fun a m => mem_count.mpr (by have := mem_count.mp m; have := z0 a; have := h4 a; omega)
  refine ⟨f', z', fT, s1, ⟨v, vs, [], fT, rfl, rfl, ⟨rfl, by rw [ev']; exact rep_sc hd G'⟩, q.tm.mono c.g0 (on q.tm.trk (dis fun a => by omega))⟩, fun a => ?_, fun a m => ?_, fun a m => q.nwZ a (zz a m), fun a m => ?_, c.le, q.g0.trans c.g0, fun a o h nt n1 n2 => ?_, fun a h => ?_, fun a o h nt => (let ⟨o1, x1, nt1⟩ := q.keep a o h nt; c.keep a o1 x1 nt1)⟩
  · have x1 := cnt a; have x2 := s2 a; have x3 := cg' a; have x4 := z0 a; have x5 := h4 a; have x6 := c1 a
    by_cases m : a ∈ g1
    · rcases cn a m with k | k
      · obtain ⟨y1, y2, y3⟩ := nnew a k
        have := h3 a; have := cf a
        omega
      · have := mem_count.mp k
        omega
    · have := not_mem_count.mpr m
      omega
  · rcases m with m | m
    · by_cases m1 : a ∈ g1
      · rcases cn a m1 with k | k
        · exact .inl (q.fre k)
        · exact q.nwO a (.inl (sub a k))
      · refine q.nwO a (.inl (mem_count.mpr ?_))
        have := mem_count.mp m; have := not_mem_count.mpr m1; have := s2 a; have := cg' a; have := h3 a; have := cf a
        omega
    · exact q.nwO a (.inr m)
  · rcases m with m | m | m
    · by_cases m1 : a ∈ g1
      · exact c.off a (.inl (by rw [e6]; exact List.mem_append_left _ m1))
      · have h6 := mem_count.mp m; have := not_mem_count.mpr m1; have := s2 a; have := cg' a; have := h3 a; have := cf a; have := cnt a
        refine old a (.inl (mem_count.mpr (by omega))) fun mf => ?_
        have := mem_count.mp mf
        omega
    · refine old a (.inr (.inl m)) fun mf => ?_
      have := mem_count.mp m; have := mem_count.mp mf; have := cnt a
      omega
    · refine old a (.inr (.inr (zz a m))) fun mf => ?_
      have := mem_count.mp (zz a m); have := mem_count.mp mf; have := cnt a
      omega
  · refine sH a o (q.fr a o h nt n1 n2) nt fun mf => ?_
    rcases q.nwO a (.inl (sub a mf)) with k | k
    · exact absurd nt (k _ h)
    · exact n2 k
  · rcases c.nw a h with k | k | k
    · exact q.nw a k
    · exact .inr (.inl (q.fre k))
    · exact .inr (q.nwO a (.inl (sub a k)))
end Mw
set_option maxHeartbeats 2000000
namespace Mw
open PySem PyProof.Rows L2
/-! ### a def that changes the owned tree it is lent -/
def spB (F : O → Option O) : Sp := fun vs H Q _ => ∃ (G : Hp) (y : V) (o o' : O) (f : List Addr) (tl : Nd) (tb : ∀ p ∈ tl, G p.1 = some (tmk p.2)), vs = [y] ∧ ORep G H o y f ∧ (∀ a, f.count a ≤ 1) ∧ (∀ a ∈ f, G a = none) ∧ Le tl G H ∧ F o = some o' ∧
  ∀ v G' H' as' σ', Stt ⟨G, H, [], f, vs, tl, tb⟩ G' H' (.o o' :: as') (some y :: σ') [.o (.val .non)] [v] → Q v H'
def mapO (F : O → Option O) : List O → Option (List O)
  | [] => some []
  | o :: r => match F o, mapO F r with
    | some o', some r' => some (o' :: r')
    | _, _ => none
def spoilF : Nat → O → Option O
  | 0, _ => none
  | n + 1, .lst os => match mapO (spoilF n) os with
    | some os' => if os'.length < sizeLine then some (.lst (os' ++ [.val (.str "late9")])) else none
    | none => none
  | n + 1, .val d => if d.isSc then some (.val d) else none
  | _, _ => none
theorem mapO_len {F : O → Option O} : ∀ {os os' : List O}, mapO F os = some os' → os'.length = os.length
  | [], os', h => by injection h with h; subst h; rfl
  | o :: r, os', h => by
    unfold mapO at h
    split at h
    · rename_i o1 r1 h1 h2
      have h := Option.some.inj h
      subst h
      simp [mapO_len h2]
    · cases h
theorem mapO_at {F : O → Option O} : ∀ {os os' : List O}, mapO F os = some os' → ∀ {i : Nat} {o : O}, os[i]? = some o → ∃ o', F o = some o' ∧ os'[i]? = some o'
  | [], os', h, i, o, e => by simp at e
  | x :: r, os', h, i, o, e => by
    unfold mapO at h
    split at h
    · rename_i o1 r1 h1 h2
      have h := Option.some.inj h
      subst h
      cases i with
      | zero => have e : x = o := by simpa using e
                subst e; exact ⟨o1, h1, rfl⟩
      | succ i => obtain ⟨o', k1, k2⟩ := mapO_at h2 (i := i) (o := o) (by simpa using e); exact ⟨o', k1, by simpa using k2⟩
    · cases h
theorem Stt.lentB {G H : Hp} {y : V} {o : O} {f : List Addr} {tl : Nd} {tb : ∀ p ∈ tl, G p.1 = some (tmk p.2)} (r : ORep G H o y f) (h1 : ∀ a, f.count a ≤ 1) (h2 : ∀ a ∈ f, G a = none) (le : Le tl G H) (m : Nat) :
    Stt ⟨G, H, [], f, [y], tl, tb⟩ G H (.o o :: List.replicate m .no) (some y :: List.replicate m none) [] [] := by
  have e0 : SReps [y] G H [] [] [] [] := ⟨rfl, rfl, rfl⟩
  have e1 := e0.app m
  refine ⟨f, [], [], ⟨some y, _, f, [], [], [], rfl, by simp, rfl, ⟨rfl, y, rfl, r⟩, by simpa using e1⟩, ⟨rfl, rfl⟩, fun a => by have := h1 a; simp; omega, fun a mm => ?_, (fun a mm => by cases mm), fun a mm => ?_, le, Same.refl _, fun a o e _ _ _ => e, fun a e => .inl e, fun a o e nt => ⟨o, e, nt⟩⟩
  · rcases mm with mm | mm
    · exact .inr mm
    · cases mm
  · rcases mm with mm | mm | mm
    · exact h2 a mm
    · cases mm
    · cases mm
/-- one turn: the i-th child is lent to the def itself -/
theorem lend_turn {Γ : Gr} {G H : Hp} {env : EnvS} {σ : L2.St} {i k : Nat} {os : List O} {o o' : O} {F : O → Option O} {p : Addr} {xs : List V} {y : V} {Q : VK} {E : XK} (S : Stt Γ G H env σ [] []) (hi : env[i]? = some (.o (.lst os))) (hk : os[k]? = some o) (hF : F o = some o')
    (hp : σ[i]? = some (some (.ref p))) (hH : H p = some (.lst xs)) (hy : xs[k]? = some y) (q : ∀ v G' H', Stt Γ G' H' (env.set i (.o (.lst (os.set k o')))) σ [.o (.val .non)] [v] → Q v H') : spB F [y] H Q E := by
  obtain ⟨p', xs', y', f, h1, h2, h3, h4, h5, h6, back⟩ := S.lend hi hk
  rw [hp] at h1
  have e1 := Option.some.inj (Option.some.inj h1)
  injection e1 with e1
  subst e1
  rw [hH] at h2
  have e2 := HO.lst.inj (Option.some.inj h2)
  subst e2
  rw [hy] at h3
  have e3 := Option.some.inj h3
  subst e3
  exact ⟨G, y, o, o', f, Γ.tabs, S.marks, rfl, h4, h5, h6, S.le, hF, fun v G' H' as' σ' S' => q v G' H' (back [y] G' H' o' as' σ' .non v S.marks rfl S')⟩
end Mw
set_option maxHeartbeats 2000000
namespace Mw
open PySem PyProof.Rows L2
/-! ### list.count, by what the items are -/
def rCountD (X : Cx) : V → List V → Hp → VK → Prop := fun x xs H Q => ∃ (a : Addr) (y : V) (d : PyData) (ds : List PyData), x = V.ref a ∧ xs = [y] ∧ Dp X.K H (V.ref a) (.list ds) ∧ Dp X.K H y d ∧ PyData.plainAll ds = true ∧ d.plain = true ∧
  X.A.units + 1 + min (PyData.depthAll ds) d.depth < cLine ∧ Q (.int ((ds.countP fun z => PyData.eqv z d : Nat) : Int)) H
theorem mt_countD {X : Cx} : MtR X "list.count" (rCountD X) := by
  rintro ps s σ H _ _ _ us Q I own args ⟨l, y, d, ds, rfl, rfl, whole, part, plain1, plain2, room, told⟩
  cases own
  match us, args with
  | [w], .cons rel .nil =>
    cases whole with
    | lst at_ each =>
      obtain ⟨_, read1⟩ := Dp.reads I d y w part rel
      obtain ⟨its, vals, ⟨o, n, there, cls, _, data⟩, _⟩ := I.list at_
      obtain ⟨_, readAll⟩ := Dp.readsAll I ds _ its each vals
      exact PySem.SeqAt.count_list_data ⟨o, there, cls, n, data⟩ (by rw [List.toList_toArray]; exact readAll) read1 plain1 plain2 room ⟨.int _, H, I.tok _, ⟨_, rfl⟩, told⟩
def M.count (fo fa : M T) : M T := M.bind fo fun t => fun e => match view e t with
  | some (_, x) => match x.lstOf with
    | some _ => M.bind fa (fun s e1 => match view e1 t, view e1 s with
      | some (_, x), some (_, y) => match x.toD with
        | .lst ds => if SeqAt.shaped (.list (D.pys ds)) && SeqAt.shaped y.toD.py && (PyData.plainAll (D.pys ds) && y.toD.py.plain) then .ok (.o (.val (.int (((D.pys ds).countP fun z => PyData.eqv z y.toD.py : Nat) : Int))), e1) else .stuck
        | _ => .stuck
      | _, _ => .stuck) e
    | none => .stuck
  | none => .stuck
section
variable {X : Cx} {E : XK} {o e : Expr} {fo fa : M T} {apos cpos : Pos}
theorem ev_count (c : Ctx X E) (ho : PEv X E o fo) (he : PEv X E e fa) (rule : ∀ {t u : TE}, PE X o t → PE X e u → PE X (.Call (.Attribute o "count" apos) [e] [] cpos) (tBM X.K "list" (rCountD X) t (tCons u tNil)) := by intro _ _ h h2; exact pe_bm PySem.F.plainAttrs_list PySem.F.slot_list_count PySem.F.type_list_count mt_countD h (pa_cons h2 pa_nil)) :
    PEv X E (.Call (.Attribute o "count" apos) [e] [] cpos) (M.count fo fa) := PE.imp (rule ho he) fun σ H Q ⟨Γ, G, env, ts, vs, S, q⟩ => by
  refine ⟨Γ, G, env, ts, vs, S, post_mono (post_bind q) fun t e1 q1 v G1 H1 S1 => ?_⟩
  split at q1
  · rename_i b0 x hx
    split at q1
    · rename_i os0 hos
      obtain ⟨f0, r0⟩ := S1.see0 hx
      obtain ⟨a, xs, f', ev, hH, rs, _⟩ := r0.lstOf S1.le hos
      refine ⟨by rw [ev]; exact .inl ⟨rfl, xs, .inl (.inl hH)⟩, Γ, G1, e1, _, _, S1, post_mono (post_bind q1) fun s e2 q2 u G2 H2 S2 => ?_⟩
      split at q2
      · rename_i b1 x1 b2 y1 hx1 hy1
        split at q2
        · rename_i ds hds
          split at q2
          · rename_i c1
            rw [Bool.and_eq_true, Bool.and_eq_true, Bool.and_eq_true] at c1
            obtain ⟨⟨sh1, sh2⟩, pl1, pl2⟩ := c1
            obtain ⟨f2, r2, g2⟩ := Stt.seeG (A := [s]) (vA := [u]) S2 rfl hx1
            obtain ⟨f3, r3, g3⟩ := Stt.seeG (A := []) (vA := []) S2 rfl hy1
            have epy : x1.toD.py = .list (D.pys ds) := by rw [hds]; rfl
            have d1 := ORep.dp (K := X.K) S2.le r2 g2 (by rw [epy]; exact SeqAt.canLay_of_shaped sh1)
            have d2 := ORep.dp (K := X.K) S2.le r3 g3 (SeqAt.canLay_of_shaped sh2)
            rw [epy, ev] at d1
            have hd := SeqAt.depth_of_shaped sh2
            have hu := c.hu
            refine ⟨a, u, _, _, ev, rfl, d1, d2, pl1, pl2, by omega, q2 _ G2 _ (S2.pop2.val rfl)⟩
          · exact q2.elim
        · exact q2.elim
      · exact q2.elim
    · exact q1.elim
  · exact q1.elim
end
end Mw
set_option maxHeartbeats 2000000
namespace Mw
open PySem PyProof.Rows L2
/-! ### what was laid by is given to a def that changes it -/
theorem Stt.gave {Γ : Gr} {G H : Hp} {env : EnvS} {σ : L2.St} {ts : List T} {vs : List V} {o : O} {y : V} (S : Stt Γ G H env σ (.o o :: ts) (y :: vs)) :
    ∃ f, ORep G H o y f ∧ (∀ a, f.count a ≤ 1) ∧ (∀ a ∈ f, G a = none) ∧
      ∀ (us : List V) (G' H' : Hp) (env' : EnvS) (σ' : L2.St) (os : List O) (ws : List V) (tb : ∀ p ∈ Γ.tabs, G p.1 = some (tmk p.2)),
        Stt ⟨G, H, [], f, us, Γ.tabs, tb⟩ G' H' env' σ' (os.map T.o) ws → Stt Γ G' H' env σ (os.map T.o ++ ts) (ws ++ vs) := by
  obtain ⟨fO, fZ, fT, q⟩ := S
  obtain ⟨y', vs', f, ft, e1, e2, ry, rt⟩ := q.tm
  injection e1 with e3 e4
  subst e3 e4 e2
  have cnt : ∀ a, fO.count a + (f.count a + ft.count a) + fZ.count a ≤ 1 := fun a => by have := q.one a; rw [List.count_append] at this; omega
  refine ⟨f, ry, fun a => by have := cnt a; omega, fun a m => q.off a (.inr (.inl (List.mem_append_left _ m))), fun us G' H' env' σ' os ws tb S' => ?_⟩
  obtain ⟨gO, gZ, gT, c⟩ := S'
  have sH : ∀ a o, H a = some o → NT o → a ∉ f → H' a = some o := fun a o h nt n => c.fr a o h nt (fun m => by cases m) n
  have on : ∀ {l : List Addr}, Trk l H → (∀ a ∈ l, a ∉ f) → On l H H' := fun t h a m o e => by
    obtain ⟨o', e', w⟩ := t a m
    rw [e] at e'
    have := Option.some.inj e'
    subst this
    exact sH a o e w.nt (h a m)
  have dis : ∀ {l : List Addr}, (∀ a, l.count a ≤ fO.count a + ft.count a + fZ.count a) → ∀ a ∈ l, a ∉ f := fun h a m m2 => by have := h a; have := cnt a; have := mem_count.mp m; have := mem_count.mp m2; omega
  have trkT : Trk ft H := fun a m => q.tm.trk a (List.mem_append_right _ m)
  have nnew : ∀ a, Fre H a → fO.count a = 0 ∧ ft.count a = 0 ∧ fZ.count a = 0 := fun a h => ⟨not_mem_count.mpr fun m => q.sl.trkF.fre a m h, not_mem_count.mpr fun m => trkT.fre a m h, not_mem_count.mpr fun m => q.sl.trkZ.fre a m h⟩
  have cn : ∀ a, a ∈ gT → Fre H a ∨ a ∈ f := fun a m => c.nwO a (.inr m)
  have c1 : ∀ a, gT.count a ≤ 1 := fun a => by have := c.one a; omega
  have old : ∀ a, (a ∈ fO ∨ a ∈ ft ∨ a ∈ fZ) → a ∉ f → G' a = none := fun a m nf => by
    cases e : G' a with
    | none => rfl
    | some o =>
      rcases c.nw a (by rw [e]; exact fun z => nomatch z) with k | k | k
      · exact absurd (q.off a (m.imp id fun m => m.imp (fun m => List.mem_append_right _ m) id)) k
      · rcases m with m | m | m
        · exact absurd k (q.sl.trkF.fre a m)
        · exact absurd k (trkT.fre a m)
        · exact absurd k (q.sl.trkZ.fre a m)
      · exact absurd k nf
  refine ⟨fO, fZ, gT ++ ft, q.sl.mono c.g0 (on q.sl.trkF (dis fun a => by omega)) (on q.sl.trkZ (dis fun a => by omega)), c.tm.noal.append (rt.mono c.g0 (on trkT (dis fun a => by omega))), fun a => ?_, fun a m => ?_, q.nwZ, fun a m => ?_, c.le, q.g0.trans c.g0, fun a o h nt n1 n2 => ?_, fun a h => ?_, fun a o h nt => (let ⟨o1, x1, nt1⟩ := q.keep a o h nt; c.keep a o1 x1 nt1)⟩
  · have x1 := cnt a; have x2 := c1 a
    rw [List.count_append]
    by_cases m : a ∈ gT
    · rcases cn a m with k | k
      · obtain ⟨y1, y2, y3⟩ := nnew a k
        omega
      · have := mem_count.mp k
        omega
    · have := not_mem_count.mpr m
      omega
  · rcases m with m | m
    · exact q.nwO a (.inl m)
    · rcases List.mem_append.mp m with m | m
      · rcases cn a m with k | k
        · exact .inl (q.fre k)
        · exact q.nwO a (.inr (List.mem_append_left _ k))
      · exact q.nwO a (.inr (List.mem_append_right _ m))
  · have far : ∀ {l : List Addr}, a ∈ l → (∀ b, l.count b ≤ fO.count b + ft.count b + fZ.count b) → a ∉ f := fun m h => dis h a m
    rcases m with m | m | m
    · exact old a (.inl m) (far m fun b => by omega)
    · rcases List.mem_append.mp m with m | m
      · exact c.off a (.inr (.inl m))
      · exact old a (.inr (.inl m)) (far m fun b => by omega)
    · exact old a (.inr (.inr m)) (far m fun b => by omega)
  · refine sH a o (q.fr a o h nt n1 n2) nt fun mf => ?_
    rcases q.nwO a (.inr (List.mem_append_left _ mf)) with k | k
    · exact absurd nt (k _ h)
    · exact n2 k
  · rcases c.nw a h with k | k | k
    · exact q.nw a k
    · exact .inr (.inl (q.fre k))
    · exact .inr (q.nwO a (.inr (List.mem_append_left _ k)))
/-- a def that eats the owned tree it is given, and tells a thing without parts -/
def spA (F : O → Option D) : Sp := fun vs H Q _ => ∃ (G : Hp) (y : V) (o : O) (d : D) (f : List Addr) (tl : Nd) (tb : ∀ p ∈ tl, G p.1 = some (tmk p.2)), vs = [y] ∧ ORep G H o y f ∧ (∀ a, f.count a ≤ 1) ∧ (∀ a ∈ f, G a = none) ∧ Le tl G H ∧ F o = some d ∧
  ∀ v G' H' env' σ', Stt ⟨G, H, [], f, vs, tl, tb⟩ G' H' env' σ' [.o (.val d)] [v] → Q v H'
theorem give_whole {Γ : Gr} {G H : Hp} {env : EnvS} {σ : L2.St} {ts : List T} {vs : List V} {o : O} {y : V} {F : O → Option D} {d : D} {Q : VK} {E : XK} (S : Stt Γ G H env σ (.o o :: ts) (y :: vs)) (hF : F o = some d)
    (q : ∀ v G' H', Stt Γ G' H' env σ (.o (.val d) :: ts) (v :: vs) → Q v H') : spA F [y] H Q E := by
  obtain ⟨f, r, h1, h2, back⟩ := S.gave
  exact ⟨G, y, o, d, f, Γ.tabs, S.marks, rfl, r, h1, h2, S.le, hF, fun v G' H' env' σ' S' => q v G' H' (back [y] G' H' env' σ' [.val d] [v] S.marks S')⟩
/-- a slot's tree is lent whole -/
theorem lend_slot {Γ : Gr} {G H : Hp} {env : EnvS} {σ : L2.St} {i : Nat} {o o' : O} {F : O → Option O} {y : V} {Q : VK} {E : XK} (S : Stt Γ G H env σ [] []) (hi : env[i]? = some (.o o)) (hy : σ[i]? = some (some y)) (hF : F o = some o')
    (q : ∀ v G' H', Stt Γ G' H' (env.set i (.o o')) σ [.o (.val .non)] [v] → Q v H') : spB F [y] H Q E := by
  obtain ⟨y', hy', S1⟩ := S.out hi
  rw [hy] at hy'
  have e := Option.some.inj (Option.some.inj hy')
  subst e
  obtain ⟨f, r, h1, h2, back⟩ := S1.gave
  refine ⟨G, y, o, o', f, Γ.tabs, S.marks, rfl, r, h1, h2, S.le, hF, fun v G' H' as' σ' S' => q v G' H' ?_⟩
  obtain ⟨y2, hy2, S2⟩ := S'.out (i := 0) rfl
  have e2 : y = y2 := Option.some.inj (Option.some.inj hy2)
  subst e2
  have hil : i < (env.set i Sl.no).length := by rw [List.length_set]; exact (List.getElem?_eq_some_iff.mp hi).1
  have S3 := back [y] G' H' _ _ [o', .val .non] [y, v] S.marks S2
  have S4 : Stt Γ G' H' (env.set i .no) σ (.o o' :: .o (.val .non) :: []) (y :: v :: []) := S3
  have S5 := S4.back hil hy
  rwa [List.set_set] at S5
/-! ### parts are moved out of what is ours -/
inductive Pk where
  | all | none | kids (ps : List Pk)
def O.kidsLT (o : O) : Option (List O) := match o.lstOf with
  | some os => some os
  | none => o.tupOf
mutual
def sel : Pk → O → Option (List O)
  | .all, o => some [o]
  | .none, _ => some []
  | .kids ps, o => match o.kidsLT with
    | some os => sels ps os
    | none => none
def sels : List Pk → List O → Option (List O)
  | [], _ => some []
  | p :: ps, o :: os => match sel p o, sels ps os with
    | some a, some b => some (a ++ b)
    | _, _ => none
  | _ :: _, [] => none
end
mutual
def selV (H : Hp) : Pk → V → Option (List V)
  | .all, v => some [v]
  | .none, _ => some []
  | .kids ps, v => match v with
    | .ref a => match H a with
      | some (.lst xs) => selVs H ps xs
      | some (.tup xs) => selVs H ps xs
      | _ => none
    | _ => none
def selVs (H : Hp) : List Pk → List V → Option (List V)
  | [], _ => some []
  | p :: ps, x :: xs => match selV H p x, selVs H ps xs with
    | some a, some b => some (a ++ b)
    | _, _ => none
  | _ :: _, [] => none
end
theorem ORep.kidsLT {tl : List (Addr × Str)} {G H : Hp} (l : Le tl G H) {o : O} {v : V} {f : List Addr} {os : List O} (r : ORep G H o v f) (h : o.kidsLT = some os) : ∃ a xs f', v = .ref a ∧ (H a = some (.lst xs) ∨ H a = some (.tup xs)) ∧ OReps G H os xs f' ∧ ∀ b, f'.count b ≤ f.count b := by
  unfold O.kidsLT at h
  split at h
  · rename_i os' e
    injection h with h; subst h
    obtain ⟨a, xs, f', h1, h2, h3⟩ := r.lstOf l e
    exact ⟨a, xs, f', h1, .inl h2, h3⟩
  · obtain ⟨a, xs, f', h1, h2, h3⟩ := r.tupOf l h
    exact ⟨a, xs, f', h1, .inr h2, h3⟩
mutual
theorem sel_rep {tl : List (Addr × Str)} {G H : Hp} (l : Le tl G H) : ∀ {p : Pk} {o : O} {v : V} {f : List Addr} {os : List O}, ORep G H o v f → sel p o = some os → ∃ vs f', selV H p v = some vs ∧ OReps G H os vs f' ∧ ∀ a, f'.count a ≤ f.count a
  | .all, o, v, f, os, r, h => by
    have e : os = [o] := (Option.some.inj (by simpa [sel] using h)).symm
    subst e
    exact ⟨[v], f, by simp [selV], ⟨v, [], f, [], rfl, by simp, r, rfl, rfl⟩, fun a => Nat.le_refl _⟩
  | .none, o, v, f, os, r, h => by
    have e : os = [] := (Option.some.inj (by simpa [sel] using h)).symm
    subst e
    exact ⟨[], [], by simp [selV], ⟨rfl, rfl⟩, fun a => by simp⟩
  | .kids ps, o, v, f, os, r, h => by
    unfold sel at h
    split at h
    · rename_i ks hk
      obtain ⟨a, xs, f1, e1, h1, h2, n⟩ := r.kidsLT l hk
      subst e1
      obtain ⟨vs, f', k1, k2, k3⟩ := sels_rep l (ps := ps) h2 h
      refine ⟨vs, f', ?_, k2, fun b => Nat.le_trans (k3 b) (n b)⟩
      unfold selV
      rcases h1 with h1 | h1 <;> (simp only [h1]; exact k1)
    · cases h
theorem sels_rep {tl : List (Addr × Str)} {G H : Hp} (l : Le tl G H) : ∀ {ps : List Pk} {ks : List O} {xs : List V} {f : List Addr} {os : List O}, OReps G H ks xs f → sels ps ks = some os → ∃ vs f', selVs H ps xs = some vs ∧ OReps G H os vs f' ∧ ∀ a, f'.count a ≤ f.count a
  | [], ks, xs, f, os, r, h => by
    have e : os = [] := (Option.some.inj (by simpa [sels] using h)).symm
    subst e
    exact ⟨[], [], by simp [selVs], ⟨rfl, rfl⟩, fun a => by simp⟩
  | p :: ps, [], xs, f, os, r, h => by simp [sels] at h
  | p :: ps, k :: ks, xs, f, os, r, h => by
    obtain ⟨v, r', f1, f2, e, ef, h1, h2⟩ := r
    subst e ef
    unfold sels at h
    split at h
    · rename_i a b ha hb
      have h := Option.some.inj h
      subst h
      obtain ⟨va, fa, k1, k2, k3⟩ := sel_rep l h1 ha
      obtain ⟨vb, fb, m1, m2, m3⟩ := sels_rep l h2 hb
      refine ⟨va ++ vb, fa ++ fb, ?_, k2.append m2, fun x => by have := k3 x; have := m3 x; rw [List.count_append, List.count_append]; omega⟩
      unfold selVs
      rw [k1, m1]
    · cases h
end
theorem Stt.sel1 {Γ : Gr} {G H : Hp} {env : EnvS} {σ : L2.St} {ts : List T} {vs : List V} {i : Nat} {o : O} {p : Pk} {os : List O} (S : Stt Γ G H env σ ts vs) (hi : env[i]? = some (.o o)) (hs : sel p o = some os) :
    ∃ v us, σ[i]? = some (some v) ∧ selV H p v = some us ∧ os.length = us.length ∧ Stt Γ G H (env.set i .no) σ (os.map T.o ++ ts) (us ++ vs) := by
  obtain ⟨v, hv, S1⟩ := S.out hi
  obtain ⟨f0, r0⟩ := S1.top
  obtain ⟨us, _, hu, ru, _⟩ := sel_rep S1.le r0 hs
  have hl := ru.length
  refine ⟨v, us, hv, hu, hl, ?_⟩
  have le := S1.le
  obtain ⟨fO, fZ, fT, q⟩ := S1
  obtain ⟨v', vr, f1, f2, e1, e2, h1, h2⟩ := q.tm
  injection e1 with e3 e4
  subst e3 e4 e2
  obtain ⟨us', f', hu', r', n⟩ := sel_rep le h1 hs
  rw [hu] at hu'
  have := Option.some.inj hu'
  subst this
  exact ⟨_, _, _, q.turn (fT' := f' ++ f2) ((TReps.os.mpr r').append h2) fun b => by have := n b; rw [List.count_append, List.count_append]; omega⟩
def Sel (σ : L2.St) (H : Hp) : List (Nat × Pk) → List V → Prop
  | [], us => us = []
  | (i, p) :: L, us => ∃ v u1 u2, σ[i]? = some (some v) ∧ selV H p v = some u1 ∧ Sel σ H L u2 ∧ us = u1 ++ u2
def selE : List (Nat × Pk) → EnvS → Option (List O × EnvS)
  | [], e => some ([], e)
  | (i, p) :: L, e => match e[i]? with
    | some (.o o) => match sel p o with
      | some os => match selE L (e.set i .no) with
        | some (r, e') => some (os ++ r, e')
        | none => none
      | none => none
    | _ => none
theorem Stt.selE {Γ : Gr} {G H : Hp} {σ : L2.St} : ∀ {L : List (Nat × Pk)} {env env' : EnvS} {os : List O} {ts : List T} {vs : List V}, Stt Γ G H env σ ts vs → Mw.selE L env = some (os, env') →
    ∃ us, Sel σ H L us ∧ os.length = us.length ∧ Stt Γ G H env' σ (os.map T.o ++ ts) (us ++ vs)
  | [], env, env', os, ts, vs, S, h => by
    injection h with h; injection h with h1 h2
    subst h1 h2
    exact ⟨[], rfl, rfl, S⟩
  | (i, p) :: L, env, env', os, ts, vs, S, h => by
    unfold Mw.selE at h
    split at h
    · rename_i o hi
      split at h
      · rename_i os1 h1
        split at h
        · rename_i r e1 h2
          injection h with h; injection h with h3 h4
          subst h3 h4
          obtain ⟨v, u1, k1, k2, k3, S1⟩ := S.sel1 hi h1
          obtain ⟨u2, m1, m2, S2⟩ := Stt.selE S1 h2
          refine ⟨u1 ++ u2, ⟨v, u1, u2, k1, k2, m1, rfl⟩, by simp [k3, m2], ?_⟩
          have := S2.swap (by simpa using m2) (by simpa using k3)
          simpa [List.append_assoc] using this
        · cases h
      · cases h
    · cases h
end Mw
set_option maxHeartbeats 2000000
namespace Mw
open PySem PyProof.Rows L2
/-! ### places within what is ours -/
def kid (H : Hp) (v : V) (k : Nat) : Option V := match v with
  | .ref a => match H a with
    | some (.lst xs) => xs[k]?
    | some (.tup xs) => xs[k]?
    | _ => none
  | _ => none
def vAt (H : Hp) : V → List Nat → Option V
  | v, [] => some v
  | v, k :: r => match kid H v k with
    | some u => vAt H u r
    | none => none
theorem vAt_snoc {H : Hp} : ∀ {ks : List Nat} {v u w : V} {k : Nat}, vAt H v (ks ++ [k]) = some w → ∃ u, vAt H v ks = some u ∧ kid H u k = some w
  | [], v, u, w, k, h => by
    have h : vAt H v [k] = some w := h
    unfold vAt at h
    split at h
    · rename_i x hx
      exact ⟨v, rfl, hx.trans h⟩
    · cases h
  | j :: ks, v, u, w, k, h => by
    have h : vAt H v (j :: (ks ++ [k])) = some w := h
    unfold vAt at h ⊢
    split at h
    · rename_i x hx
      exact vAt_snoc (u := u) h
    · cases h
def AtL (H : Hp) (v : V) : List (List Nat) → List V → Prop
  | [], us => us = []
  | p :: r, us => ∃ u s, us = u :: s ∧ vAt H v p = some u ∧ AtL H v r s
theorem AtL.app {H : Hp} {v : V} : ∀ {p q : List (List Nat)} {us ws : List V}, AtL H v p us → AtL H v q ws → AtL H v (p ++ q) (us ++ ws)
  | [], q, us, ws, h, k => by have e : us = [] := h; subst e; exact k
  | p :: r, q, us, ws, ⟨u, s, e, h1, h2⟩, k => by subst e; exact ⟨u, s ++ ws, rfl, h1, h2.app k⟩
theorem AtL.step {H : Hp} {v u : V} {k : Nat} (hk : kid H v k = some u) : ∀ {p : List (List Nat)} {us : List V}, AtL H u p us → AtL H v (p.map (k :: ·)) us
  | [], us, h => h
  | p :: r, us, ⟨w, s, e, h1, h2⟩ => ⟨w, s, e, by
    show vAt H v (k :: p) = some w
    unfold vAt
    rw [hk]; exact h1, AtL.step hk h2⟩
mutual
def pathsOf : Pk → List (List Nat)
  | .all => [[]]
  | .none => []
  | .kids ps => pathsOfs 0 ps
def pathsOfs : Nat → List Pk → List (List Nat)
  | _, [] => []
  | j, p :: ps => (pathsOf p).map (j :: ·) ++ pathsOfs (j + 1) ps
end
mutual
theorem selV_at {H : Hp} : ∀ {p : Pk} {v : V} {us : List V}, selV H p v = some us → AtL H v (pathsOf p) us
  | .all, v, us, h => by
    have e : us = [v] := (Option.some.inj (by simpa [selV] using h)).symm
    subst e
    unfold pathsOf
    exact ⟨v, [], rfl, rfl, rfl⟩
  | .none, v, us, h => by
    have e : us = [] := (Option.some.inj (by simpa [selV] using h)).symm
    subst e
    unfold pathsOf
    exact rfl
  | .kids ps, v, us, h => by
    unfold pathsOf
    unfold selV at h
    split at h
    · rename_i a
      split at h
      · rename_i xs hH
        exact selVs_at (ps := ps) (j := 0) (fun t => by simp [kid, hH]) h
      · rename_i xs hH
        exact selVs_at (ps := ps) (j := 0) (fun t => by simp [kid, hH]) h
      · cases h
    · cases h
theorem selVs_at {H : Hp} : ∀ {ps : List Pk} {j : Nat} {v : V} {xs us : List V}, (∀ t, kid H v (j + t) = xs[t]?) → selVs H ps xs = some us → AtL H v (pathsOfs j ps) us
  | [], j, v, xs, us, hk, h => by
    have e : us = [] := (Option.some.inj (by simpa [selVs] using h)).symm
    subst e
    unfold pathsOfs
    exact rfl
  | p :: ps, j, v, [], us, hk, h => by simp [selVs] at h
  | p :: ps, j, v, x :: xs, us, hk, h => by
    unfold selVs at h
    split at h
    · rename_i a b ha hb
      have h := Option.some.inj h
      subst h
      unfold pathsOfs
      exact (AtL.step (by have := hk 0; simpa using this) (selV_at ha)).app (selVs_at (fun t => by have := hk (t + 1); rw [show j + 1 + t = j + (t + 1) by omega]; simpa using this) hb)
    · cases h
end
def Paths (σ : L2.St) (H : Hp) : List (Nat × List Nat) → List V → Prop
  | [], us => us = []
  | (i, ks) :: L, us => ∃ v u r, σ[i]? = some (some v) ∧ vAt H v ks = some u ∧ Paths σ H L r ∧ us = u :: r
def pathsL (L : List (Nat × Pk)) : List (Nat × List Nat) := L.flatMap fun p => (pathsOf p.2).map (p.1, ·)
theorem Paths.ofAt {σ : L2.St} {H : Hp} {i : Nat} {v : V} (hv : σ[i]? = some (some v)) {L : List (Nat × List Nat)} {r : List V} (k : Paths σ H L r) : ∀ {p : List (List Nat)} {us : List V}, AtL H v p us → Paths σ H (p.map (i, ·) ++ L) (us ++ r)
  | [], us, h => by have e : us = [] := h; subst e; exact k
  | p :: q, us, ⟨u, s, e, h1, h2⟩ => by subst e; exact ⟨v, u, s ++ r, hv, h1, Paths.ofAt hv k h2, rfl⟩
theorem Sel.paths {σ : L2.St} {H : Hp} : ∀ {L : List (Nat × Pk)} {us : List V}, Sel σ H L us → Paths σ H (pathsL L) us
  | [], us, h => h
  | (i, p) :: L, us, ⟨v, u1, u2, h1, h2, h3, e⟩ => by
    subst e
    show Paths σ H ((pathsOf p).map (i, ·) ++ pathsL L) (u1 ++ u2)
    exact Paths.ofAt h1 (Sel.paths h3) (selV_at h2)
section
variable {X : Cx} {E : XK} {pos : Pos} {e : Expr} {es : List Expr}
def tPath (i : Nat) (ks : List Nat) : TE := fun σ H Q => ∃ v u, σ[i]? = some (some v) ∧ vAt H v ks = some u ∧ Q u H
def tPaths (L : List (Nat × List Nat)) : TA := fun σ H Q => ∃ us, Paths σ H L us ∧ Q us H
theorem pp_var {i : Nat} {x : Str} (hN : X.N[i]? = some x := by rfl) (hv : Vis X.env.scope x := by first | exact Or.inl rfl | exact Or.inr (Or.inl rfl) | exact Or.inr (Or.inr rfl)) (hd : (x == ("__debug__" : Str)) = false := by decide)
    (hcd : (x == ("__classdict__" : Str)) = false := by decide) : PE X (.Name x pos) (tPath i []) := PE.imp (pe_var hN hv hd hcd) fun σ H Q ⟨v, u, h1, h2, q⟩ => by
  have e : v = u := Option.some.inj h2
  subst e
  exact ⟨v, h1, q⟩
theorem pp_ix {i : Nat} {ks : List Nat} {k j : Nat} {p2 : Pos} (h : PE X e (tPath i ks)) : PE X (.Subscript e (.Constant (.int (k : Int)) j p2) pos) (tPath i (ks ++ [k])) := PE.imp (pe_ix ix_seq h pe_int (by intro _ _; rfl)) fun σ H Q ⟨v, u, h1, h2, q⟩ => by
  obtain ⟨w, h3, h4⟩ := vAt_snoc (u := v) h2
  refine ⟨v, w, h1, h3, ?_⟩
  unfold kid at h4
  split at h4
  · rename_i a
    split at h4
    · rename_i xs hH
      exact .inl ⟨a, xs, (k : Int), u, rfl, rfl, .inl (.inl hH), atI_nat h4, q⟩
    · rename_i xs hH
      exact .inr (.inl ⟨a, xs, (k : Int), u, rfl, rfl, .inl (.inl hH), atI_nat h4, q⟩)
    · cases h4
  · cases h4
theorem pps_nil : PA X [] (tPaths []) := PA.imp pa_nil fun σ H Q ⟨us, h, q⟩ => by
  have e : us = [] := h
  subst e; exact q
theorem pps_cons {i : Nat} {ks : List Nat} {L : List (Nat × List Nat)} (h : PE X e (tPath i ks)) (t : PA X es (tPaths L)) (hs : starEach (e :: es) X.env = (false, eval e X.env) :: starEach es X.env := by rfl) : PA X (e :: es) (tPaths ((i, ks) :: L)) := PA.imp (pa_cons h t hs) fun σ H Q ⟨us, ⟨v, u, r, h1, h2, h3, e⟩, q⟩ => by
  subst e
  exact ⟨v, u, h1, h2, r, h3, q⟩
def M.selL (L : List (Nat × Pk)) : M T := fun e => match selE L e with
  | some (os, e') => if os.length ≤ sizeLine then .ok (.o (.lst os), e') else .stuck
  | none => .stuck
theorem ev_selL {L : List (Nat × Pk)} {P : List (Nat × List Nat)} (h : PA X es (tPaths P)) (hP : pathsL L = P := by rfl) : PEv X E (.List es pos) (M.selL L) := PE.imp (pe_lst h) fun σ H Q ⟨Γ, G, env, ts, vs, S, q⟩ => by
  unfold M.selL at q
  split at q
  · rename_i os e' hs
    split at q
    · rename_i hz
      obtain ⟨us, h1, h2, S1⟩ := S.selE hs
      refine ⟨us, hP ▸ h1.paths, by rw [← h2]; exact hz, fun p hp => q _ G _ (Stt.fresh kL (tp := os.map T.o) (vp := us) S1 (by simpa using h2) hp fun fp r => ⟨fp, TReps.os.mp r, fun _ => Nat.le_refl _⟩)⟩
    · exact q.elim
  · exact q.elim
/-- a variable gives up what is ours -/
def M.move (i : Nat) : M T := fun e => match e[i]? with
  | some (.o o) => .ok (.o o, e.set i .no)
  | _ => .stuck
theorem ev_move {i : Nat} {x : Str} (hN : X.N[i]? = some x := by rfl) (hv : Vis X.env.scope x := by first | exact Or.inl rfl | exact Or.inr (Or.inl rfl) | exact Or.inr (Or.inr rfl)) (hd : (x == ("__debug__" : Str)) = false := by decide)
    (hcd : (x == ("__classdict__" : Str)) = false := by decide) : PEv X E (.Name x pos) (M.move i) := PE.imp (pe_var hN hv hd hcd) fun σ H Q ⟨Γ, G, env, ts, vs, S, q⟩ => by
  unfold M.move at q
  split at q
  · rename_i o hi
    obtain ⟨v, h1, S1⟩ := S.out hi
    exact ⟨v, h1, q v G H S1⟩
  · exact q.elim
/-! ### given to a def that eats it -/
structure CalA (P : Program) (w : World) (K : PySem.W.Frag) (mg : Str → Option Value) (base : Heap) (k : Nat) (x : Str) (ps : List Str) (F : O → Option D) : Prop where
  ex : ∃ (f : Addr) (fd : FuncData), FnOk P w K mg base (L2.CX P w) k f fd ps (spA F) ∧ mg x = some (.ref f) ∧ PySem.W.keepIn K (.ref f) = true ∧ L2.Binds K fd ps []
def M.eat (F : O → Option D) (f : M T) : M T := M.bind f fun t e => match t with
  | .o o => match F o with
    | some d => .ok (.o (.val d), e)
    | none => .stuck
  | _ => .stuck
theorem ev_eat {j k : Nat} {x : Str} {ps : List Str} {p : Pos} {F : O → Option D} {fa : M T} (c : Ctx X E) (hr : Room j X.A) (C : CalA X.prog X.w X.K X.mg X.base k x ps F) (ha : PEv X E e fa) (hk : k ≤ j := by decide) (hg : Gl X x := by rfl) (hdb : (x == ("__debug__" : Str)) = false := by decide) (he : starEach [e] X.env = (false, eval e X.env) :: starEach [] X.env := by rfl) (hpl : (backTo pos (starEach [] X.env)).any (·.1) = false := by rfl) :
    PEv X E (.Call (.Name x p) [e] [] pos) (M.eat F fa) :=
  let ⟨f, fd, h1, h2, h3, h4⟩ := C.ex
  PE.imp (pe_call h1 (hr.mono hk) hg h2 h3 h4 .nil c.px (pa_cons ha pa_nil he) hdb he hpl) fun σ H Q ⟨Γ, G, env, ts, vs, S, q⟩ => by
    refine ⟨Γ, G, env, ts, vs, S, post_mono (post_bind q) fun t e1 q1 v1 G1 H1 S1 => ?_⟩
    split at q1
    · rename_i o
      split at q1
      · rename_i d hF
        show spA F ([v1] ++ []) H1 Q E
        rw [List.append_nil]
        exact give_whole S1 hF fun v G' H' S' => q1 v G' H' S'
      · exact q1.elim
    · exact q1.elim
end
end Mw
set_option maxHeartbeats 2000000
namespace Mw
open PySem PyProof.Rows L2
/-! ### an error keeps the very list, which is changed behind -/
theorem Stt.regress {Γ : Gr} {G H H' : Hp} {env : EnvS} {σ : L2.St} {ts : List T} {vs : List V} (S : Stt Γ G H env σ ts vs) (sH : ∀ a o, H a = some o → NT o → H' a = some o) (kp : ∀ a o, H a = some o → NT o → ∃ o', H' a = some o' ∧ NT o') (le : Le Γ.tabs G H') : Stt Γ G H' env σ ts vs := by
  obtain ⟨fO, fZ, fT, q⟩ := S
  have on : ∀ {l : List Addr}, Trk l H → On l H H' := fun t a m o e => by
    obtain ⟨o', e', w⟩ := t a m
    rw [e] at e'
    have := Option.some.inj e'
    subst this
    exact sH a o e w.nt
  exact ⟨fO, fZ, fT, q.sl.mono (Same.refl _) (on q.sl.trkF) (on q.sl.trkZ), q.tm.mono (Same.refl _) (on q.tm.trk), q.one, q.nwO, q.nwZ, q.off, le, q.g0, fun a o h nt n1 n2 => sH a o (q.fr a o h nt n1 n2) nt, q.nw, fun a o h nt => (let ⟨o1, e1, nt1⟩ := q.keep a o h nt; kp a o1 e1 nt1)⟩
def M.metK (tagOf : Str → Option Str) (i : Nat) (f : M T) : M T := fun e => match e[i]? with
  | some (.o o) => match f (hideE [i] 0 (frzL [i] e)) with
    | .err c [(x, some j, _)] => if x = "thing" ∧ j = i then match tagOf c with
        | some tag => .ok (.o (.tup [.val (.str tag), o]), e.set i .no)
        | none => .stuck
      else .stuck
    | _ => .stuck
  | _ => .stuck
def tMetK (mg : Str → Option Value) (E : XK) (nd : Nd) (i : Nat) (g : M T) : TE := fun σ H Q => ∃ Γ G env ts vs, (∀ p ∈ nd, p ∈ Γ.tabs) ∧ Stt Γ G H env σ ts vs ∧
  post mg E Γ (fun t e => ∀ p u v G' H', σ[i]? = some (some v) → H' p = some (.tup [u, v]) → Stt Γ G' H' e σ (t :: ts) (.ref p :: vs) → Q (.ref p) H') (g env)
theorem tV_metK {K : PySem.W.Frag} {mg : Str → Option Value} {E : XK} {told : Str} {tagOf : Str → Option Str} {i : Nat} {hs : List (Addr × Str)} {f : M T} {nd : Nd} {p0 : Addr × Str} {σ : L2.St} {H : Hp} {Q : VK}
    (hx : ∀ c tag, tagOf c = some tag → ∀ C, mg c = some (.ref C) → ∃ fI nm qn, PySem.MwLow.LowTxt K mg nm qn C fI ∧ metSel K (.ref C) tag hs)
    (h0 : p0 ∈ nd) (h : tMetK mg E nd i (M.metK tagOf i f) σ H Q) : ∃ tl : Nd, p0 ∈ tl ∧ (∀ p ∈ tl, p.1 = p0.1 → p.2 = p0.2) ∧ LamX.tLam tl (TTmet K mg told hs) (fun E' => tV mg E' f) σ H Q := by
  obtain ⟨Γ, G, env, ts, vs, m, S, q⟩ := h
  refine ⟨Γ.tabs, m p0 h0, tabs_one (m p0 h0), S.tabs, fun H1 hE hT => ?_⟩
  have Sr := S.retab hE hT
  obtain ⟨G1, s1, S1⟩ := Sr.frzL [i]
  refine ⟨_, G1, _, [], [], S1.inner [i], ?_⟩
  unfold M.metK at q
  split at q
  · rename_i o hi
    split at q
    · rename_i c x j d hf
      rw [hf]
      split at q
      · rename_i ex
        obtain ⟨ex, ej⟩ := ex
        subst ex ej
        split at q
        · rename_i tag ht
          intro C dx G2 H2 hC he
          obtain ⟨fI, nm, qn, T, sel⟩ := hx c tag ht C hC
          obtain ⟨ys, h1, v, s, ey, rv, hv, es⟩ := he.fld
          subst ey
          have es : s = [] := es
          subst es
          refine metSel_ex T h1 (fun p hp => ?_) sel
          have hv2 : (valsOf σ)[j]? = some v := hv j rfl
          have hl : env[j]? = some (.o o) := hi
          obtain ⟨w, hw, S3⟩ := Sr.out hl
          have hvw : v = w := by
            unfold valsOf at hv2
            rw [List.getElem?_map, hw] at hv2
            exact (Option.some.inj hv2).symm
          subst hvw
          have sH : ∀ a o, H1 a = some o → NT o → H2 a = some o := fun a o h nt => he.fr a o h nt (fun z => nomatch z) (fun z => nomatch z)
          have le2 : Le Γ.tabs G H2 := fun a o h => he.le a o (he.g0 a o (s1 a o h))
          have S4 := S3.regress sH he.keep le2
          have su := Same.upd (u := .tup [.str tag, v]) hp
          refine q p (.str tag) v G _ hw upd_same (Stt.fresh kT (tp := [.o o]) (vp := [v]) (os := [.val (.str tag), o]) (xs := [.str tag, v]) S4 rfl hp fun fp r => ?_)
          have r2 : OReps G H2 [o] [v] fp := TReps.os.mp r
          exact ⟨[] ++ fp, ⟨.str tag, [v], [], fp, rfl, rfl, ⟨rfl, rfl⟩, r2⟩, fun b => by simp⟩
        · exact q.elim
      · exact q.elim
    · exact q.elim
  · exact q.elim
theorem Stt.wtup {Γ : Gr} {G H : Hp} {env : EnvS} {σ : L2.St} {j : Nat} {a : D} {os : List O} {p q : Addr} {u : V} {xs : List V} {d : D} (S : Stt Γ G H env σ [] []) (hj : env[j]? = some (.o (.tup [.val a, .lst os]))) (hp : σ[j]? = some (some (.ref p))) (hH : H p = some (.tup [u, .ref q])) (hq : H q = some (.lst xs)) (hd : d.isSc = true) :
    Stt Γ G (upd H q (.lst (xs ++ [d.toV]))) (env.set j (.o (.tup [.val a, .lst (os ++ [.val d])]))) σ [] [] := by
  have hjl : j < (env.set j Sl.no).length := by rw [List.length_set]; exact (List.getElem?_eq_some_iff.mp hj).1
  obtain ⟨v, hv, S1⟩ := S.out hj
  rw [hp] at hv
  have e := Option.some.inj (Option.some.inj hv)
  subst e
  have S2 := Stt.wtempL (a := q) (H' := upd H q (.lst (xs ++ [d.toV]))) (tp := [.o (.tup [.val a, .lst os])]) (vp := [.ref p]) (tp' := [.o (.tup [.val a, .lst (os ++ [.val d])])]) (vp' := [.ref p]) (ts := []) (vs := []) S1 rfl (fun b hb => upd_ne hb) ⟨_, upd_same, fun _ z => nomatch z⟩ fun fp r one => by
    have r2 : OReps G H [.tup [.val a, .lst os]] [.ref p] fp := TReps.os.mp r
    obtain ⟨v1, r1, f1, f2, e1, ef, h1, h2⟩ := r2
    injection e1 with e1 e2
    subst e1 e2
    obtain ⟨e3, e4⟩ := h2
    subst e4
    obtain ⟨p', ys, g, ep, eg, hp', hk⟩ := h1
    injection ep with ep
    subst ep
    rw [hH] at hp'
    have e5 := HO.tup.inj (Option.some.inj hp')
    subst e5
    obtain ⟨v2, r2, g1, g2, e6, eg2, k1, k2⟩ := hk
    injection e6 with e6 e7
    subst e6 e7
    obtain ⟨v3, r3, g3, g4, e8, eg4, k3, k4⟩ := k2
    injection e8 with e8 e9
    subst e8 e9
    obtain ⟨e10, e11⟩ := k4
    subst e11
    obtain ⟨q', zs, g5, eq, eg5, hq', ks⟩ := k3
    injection eq with eq
    subst eq
    rw [hq] at hq'
    have e12 := HO.lst.inj (Option.some.inj hq')
    subst e12
    have k1f : g1 = [] := k1.1
    subst k1f eg5 eg4 eg2 eg ef
    have oq := one q
    have op := one p
    have hne : p ≠ q := fun e => by
      subst e
      rw [hH] at hq; cases hq
    have gq : g5.count q = 0 := by
      simp only [List.count_append, List.count_cons, List.count_nil] at oq
      simp at oq
      omega
    have on : On g5 H (upd H q (.lst (xs ++ [d.toV]))) := fun b m o h => by
      rw [upd_ne (fun e => by subst e; exact absurd (mem_count.mp m) (by omega))]; exact h
    have nw : OReps G (upd H q (.lst (xs ++ [d.toV]))) [.val d] [d.toV] [] := ⟨d.toV, [], [], [], rfl, rfl, ⟨rfl, rep_sc hd G⟩, rfl, rfl⟩
    have n1 : OReps G (upd H q (.lst (xs ++ [d.toV]))) (os ++ [.val d]) (xs ++ [d.toV]) (g5 ++ []) := (ks.mono (Same.refl _) on).append nw
    have n2 : ORep G (upd H q (.lst (xs ++ [d.toV]))) (.lst (os ++ [.val d])) (.ref q) (q :: (g5 ++ [])) := ⟨q, _, _, rfl, rfl, upd_same, n1⟩
    have n3 : ORep G (upd H q (.lst (xs ++ [d.toV]))) (.val a) u [] := k1
    have n4 : OReps G (upd H q (.lst (xs ++ [d.toV]))) [.val a, .lst (os ++ [.val d])] [u, .ref q] ([] ++ ((q :: (g5 ++ [])) ++ [])) := ⟨u, _, [], _, rfl, rfl, n3, .ref q, [], _, [], rfl, rfl, n2, rfl, rfl⟩
    have n5 : ORep G (upd H q (.lst (xs ++ [d.toV]))) (.tup [.val a, .lst (os ++ [.val d])]) (.ref p) (p :: ([] ++ ((q :: (g5 ++ [])) ++ []))) := ⟨p, _, _, rfl, rfl, by rw [upd_ne hne]; exact hH, n4⟩
    have n6 : OReps G (upd H q (.lst (xs ++ [d.toV]))) [.tup [.val a, .lst (os ++ [.val d])]] [.ref p] ((p :: ([] ++ ((q :: (g5 ++ [])) ++ []))) ++ []) := ⟨.ref p, [], _, [], rfl, rfl, n5, rfl, rfl⟩
    exact ⟨by simp, _, TReps.os.mpr n6, fun b => by simp⟩
  have S3 := S2.back hjl hp
  rwa [List.set_set] at S3
def M.keepApp (i j : Nat) (d : D) (f : M T) : M Fl := M.bind f fun t e => match t with
  | .o (.tup [.val a, .lst os]) => if os.length < sizeLine ∧ j < e.length ∧ i ≠ j ∧ d.isSc = true then .ok (.nx, e.set j (.o (.tup [.val a, .lst (os ++ [.val d])]))) else .stuck
  | _ => .stuck
section
variable {X : Cx} {E : XK} {nd : Nd}
theorem ev_metK {k i : Nat} {st : Stmt} {g cc P : Addr} {fd : FuncData} {told : Str} {hs : List (Addr × Str)} {tagOf : Str → Option Str} {fb : M T} {params : Arguments} {body : Expr} {scope : Scope} {p lpos pos : Pos}
    (hr : Room (k + 2) X.A) (F : Fun X.K "_law_met" "_law_met" st g fd) (hb : L2.Binds X.K fd ["ask"] []) (hm : X.mg "_law_met" = some (.ref g)) (Sg : FnScope ["ask", "e"] ["ask"] (defScope st)) (hva : Vis (defScope st) "ask")
    (hG : ∀ cdv q, LamX.GivesTo X ["ask", "e"] "_law_met" (defScope st) g cdv (defBody st) "ask" q (TTmet X.K X.mg told hs)) (TB : LamX.TabB X.base X.mg cc P) (hcode : X.env.code = .ref cc) (hnd : (P, X.env.qual ++ "<lambda>") ∈ nd)
    (hx : ∀ c tag, tagOf c = some tag → ∀ C, X.mg c = some (.ref C) → ∃ fI nm qn, PySem.MwLow.LowTxt X.K X.mg nm qn C fI ∧ metSel X.K (.ref C) tag hs) (L : LamX.LamS X.env.scope scope)
    (hbody : ∀ (A : Around) (outer : List Env) (s : Shared) (H : Hp) (E' : XK) (f c' : Addr), Room k (A.deeper (LamX.lamEnv X scope s.heap.objs.size f c')) → PEv (LamX.lamCx X A outer s H E' scope f c') E' body fb)
    (hg : Gl X "_law_met" := by rfl) (hdef : defaultsOf params X.env = ([], []) := by rfl)
    (hbind : ∀ (q : Str) (cl : List (Str × Addr)) (pm cv ctv : Value), bindArgs (PySem.W.kla_fn "<lambda>" q params body scope cl pm cv ctv) ⟨[], []⟩ = pure [] := by intros; rfl) :
    PE X (.Call (.Name "_law_met" p) [.Lambda params body scope lpos] [] pos) (tMetK X.mg E nd i (M.metK tagOf i fb)) := by
  obtain ⟨oc, od, kV, doc, pm, an, cdv, ct, osl, rfl, lk, hcd⟩ := F.ex
  refine ⟨fun pins s σ H Q I h => ?_⟩
  obtain ⟨tl, m, u, h2⟩ := tV_metK (told := told) hx hnd h
  exact (LamX.pe_lamcall (T := tl) (t := fun E' => tV X.mg E' fb) hg hm F.kp lk hcd hb Sg rfl hva (hG cdv _) TB hcode m u hr L hdef hbind hbody).run pins s σ H Q I h2
theorem psT_keepApp {i j : Nat} {x y : Str} {z : Str} {pos' pos p1 ap cp p2 ps : Pos} {kk : Nat} {e : Expr} {rest : List Stmt} {tg : Str → Option Str} {f1 : M T} {g : M Fl} (c : Ctx X E) (hi : X.N[j]? = some y) (hx : Loc X.env.scope y) (he : PE X e (tMetK X.mg E nd i (M.metK tg i f1)))
    (ho : PE X (.Name x p1) (tVar i)) (hr : PSsvT X E nd rest g)
    (hs : swapsWith e (some (.Name y pos')) pos.line X.env = pure false := by rfl) (hf : X.fn y = true ∨ X.env.scope.names.lookup y = some .local := by first | exact .inl rfl | exact .inr rfl | assumption)
    (rule : ∀ {t : TE} {u : TA}, PE X (.Name x p1) t → PA X [Expr.Constant (.str z) kk p2] u → PE X (.Call (.Attribute (.Name x p1) "append" ap) [.Constant (.str z) kk p2] [] cp) (tBM X.K "list" rAppend t u) := by intro _ _ h h2; exact pe_bm PySem.F.plainAttrs_list PySem.F.slot_list_append PySem.F.type_list_append mt_append h h2)
    (hs2 : starEach [Expr.Constant (.str z) kk p2] X.env = (false, eval (Expr.Constant (.str z) kk p2) X.env) :: starEach [] X.env := by rfl)
    (hs3 : swapsWith (.Call (.Attribute (.Name x p1) "append" ap) [.Constant (.str z) kk p2] [] cp) none ps.line X.env = pure false := by rfl) :
    PSsvT X E nd (.Assign [.Name y pos'] e pos :: .Expr (.Call (.Attribute (.Name x p1) "append" ap) [.Constant (.str z) kk p2] [] cp) ps :: rest) (M.seq (M.keepApp i j (.str z) (M.metK tg i f1)) g) :=
  PSs.imp (pss_cons (ps_set c.nd hi hx he hs hf) (pss_cons (ps_expr (rule ho (pa_cons pe_str pa_nil hs2)) hs3) hr)) fun D σ H ⟨Γ, G, env, m, S, q⟩ => by
    refine ⟨Γ, G, env, [], [], m, S, post_mono (post_bind (post_bind q)) fun t e1 q1 p u v G1 H1 hv hH S1 => ?_⟩
    split at q1
    · rename_i a os
      split at q1
      · rename_i hc
        obtain ⟨c1, c2, c3, c4⟩ := hc
        have S2 := S1.assign (i := j) c2 (fun z => nomatch z)
        have hij : (σ.set j (some (.ref p)))[i]? = some (some v) := by rw [List.getElem?_set_ne (Ne.symm c3)]; exact hv
        have hjj : (σ.set j (some (V.ref p)))[j]? = some (some (.ref p)) := List.getElem?_set_self (by rw [← S1.len]; exact c2)
        obtain ⟨vj, fj, k1, k2⟩ := S2.ownS (i := j) (o := .tup [.val a, .lst os]) (List.getElem?_set_self c2)
        rw [hjj] at k1
        have e := Option.some.inj (Option.some.inj k1)
        subst e
        obtain ⟨p', ys, g', ep, eg, hp', hk⟩ := k2
        injection ep with ep
        subst ep
        rw [hH] at hp'
        have e5 := HO.tup.inj (Option.some.inj hp')
        subst e5
        obtain ⟨v2, r2, g1, g2, e6, eg2, k1, k2⟩ := hk
        injection e6 with e6 e7
        subst e6 e7
        obtain ⟨v3, r3, g3, g4, e8, eg4, k3, k4⟩ := k2
        injection e8 with e8 e9
        subst e8 e9
        obtain ⟨q', zs, g5, eq, eg5, hq', ks⟩ := k3
        subst eq
        have hz := ks.length
        have S3 := S2.wtup (d := .str z) (List.getElem?_set_self c2) hjj hH hq' rfl
        rw [List.set_set] at S3
        exact ⟨.ref q', hij, .inl ⟨rfl, zs, .inl (.inl hq')⟩, q', zs, .str z, rfl, rfl, hq', by omega, ⟨Γ, G1, _, m, S3, q1⟩⟩
      · exact q1.elim
    · exact q1.elim
end
end Mw
set_option maxHeartbeats 2000000
namespace Mw
open PySem PyProof.Rows L2
/-! ### the law itself -/
def spStart (K : PySem.W.Frag) : Sp := fun vs H Q _ => ∃ (a : Addr) (ns : List Int), vs = [.ref a] ∧ SqL K H a (ns.map V.int) ∧ ns.length ≤ 63 ∧
  ∀ b c, H b = none → upd H b (.lst (ns.map V.int)) c = none → Q (.ref c) (upd (upd H b (.lst (ns.map V.int))) c (.lst [.ref b, .int 0, .int 0, .int 89]))
def spLaw (nd : Nd) (K : PySem.W.Frag) : Sp := fun vs H Q _ => ∃ (a : Addr) (ns : List Int), vs = [.ref a] ∧ SqL K H a (ns.map V.int) ∧ ns.length ≤ 63 ∧ (∀ p ∈ nd, H p.1 = some (.tbl #[])) ∧ ∀ H', Q (.bl true) H'
def gTab (nd : Nd) : Hp := fun x => (nd.lookup x).map tmk
theorem gTab_mem {nd : Nd} (h : (nd.map (·.1)).Nodup) : ∀ p ∈ nd, gTab nd p.1 = some (tmk p.2) := by
  induction nd with
  | nil => intro p m; cases m
  | cons a r ih =>
    intro p m
    obtain ⟨a1, a2⟩ := a
    obtain ⟨p1, p2⟩ := p
    rw [List.map_cons, List.nodup_cons] at h
    rcases List.mem_cons.mp m with m | m
    · injection m with e1 e2
      subst e1 e2
      simp [gTab, List.lookup]
    · have ne : p1 ≠ a1 := fun e => h.1 (List.mem_map.mpr ⟨_, m, e⟩)
      have := ih h.2 _ m
      unfold gTab at this ⊢
      have hb : (p1 == a1) = false := by simpa using ne
      simp only [List.lookup, hb]
      exact this
theorem lookup_in {nd : Nd} {x : Addr} {q : Str} : nd.lookup x = some q → (x, q) ∈ nd := by
  induction nd with
  | nil => intro h; cases h
  | cons a r ih =>
    obtain ⟨a1, a2⟩ := a
    intro h
    rw [List.lookup] at h
    split at h
    · rename_i e
      have e2 : x = a1 := by simpa using e
      have := Option.some.inj h
      subst this e2
      exact List.mem_cons_self
    · exact List.mem_cons_of_mem _ (ih h)
theorem gTab_some {nd : Nd} {x : Addr} {o : HO} (h : gTab nd x = some o) : ∃ q, (x, q) ∈ nd ∧ o = tmk q := by
  unfold gTab at h
  cases e : nd.lookup x with
  | none => rw [e] at h; cases h
  | some q =>
    rw [e] at h
    exact ⟨q, lookup_in e, (Option.some.inj h).symm⟩
def envL (n : Nat) (ns : List Int) : EnvS := .no :: .st none ⟨ns, 0, 0, 89⟩ :: List.replicate n .no
theorem Stt.first {nd : Nd} (hnd : (nd.map (·.1)).Nodup) {H : Hp} {b c a : Addr} {ns : List Int} {n : Nat} {w : Option V} (ht : ∀ p ∈ nd, H p.1 = some (.tbl #[])) (hb : H b = none) (hc : upd H b (.lst (ns.map V.int)) c = none) {H2 : Hp} (e : H2 = upd (upd H b (.lst (ns.map V.int))) c (.lst [.ref b, .int 0, .int 0, .int 89])) :
    Stt ⟨gTab nd, H2, [c, b], [], [.ref a], nd, gTab_mem hnd⟩ (gTab nd) H2 (envL n ns) (w :: some (.ref c) :: List.replicate n none) [] [] := by
  subst e
  have hcb : c ≠ b := fun e => by subst e; rw [upd_same] at hc; cases hc
  have hc0 : H c = none := by rw [upd_ne hcb] at hc; exact hc
  have e0 : SReps [V.ref a] (gTab nd) (upd (upd H b (.lst (ns.map V.int))) c (.lst [.ref b, .int 0, .int 0, .int 89])) [] [] [] [] := ⟨rfl, rfl, rfl⟩
  have e1 := e0.app n
  have z : ZRep (upd (upd H b (.lst (ns.map V.int))) c (.lst [.ref b, .int 0, .int 0, .int 89])) ⟨ns, 0, 0, 89⟩ (.ref c) [c, b] := ⟨c, b, rfl, rfl, upd_same, by rw [upd_ne (Ne.symm hcb)]; exact upd_same⟩
  have gn : ∀ x, H x = none → gTab nd x = none := fun x hx => by
    cases e : gTab nd x with
    | none => rfl
    | some o =>
      obtain ⟨q, m, _⟩ := gTab_some e
      have := ht _ m
      rw [hx] at this
      cases this
  refine ⟨[], [c, b], [], ⟨w, _, [], [], [], [c, b], rfl, rfl, rfl, ⟨rfl, rfl⟩, some (.ref c), _, [], [], [c, b], [], rfl, rfl, by simp, ⟨rfl, .ref c, rfl, fun i h => (by cases h), z⟩, by simpa using e1⟩, ⟨rfl, rfl⟩, fun x => ?_, fun x m => ?_, fun x m => .inr m, fun x m => ?_, fun x o h => ?_, Same.refl _, fun x o h _ _ _ => h, fun x h => .inl h, fun x o h nt => ⟨o, h, nt⟩⟩
  · simp only [List.count_nil, List.count_cons]
    by_cases e1 : c = x
    · subst e1; have : (b == c) = false := by simpa using Ne.symm hcb
      simp [this]
    · have h1 : (c == x) = false := by simpa using e1
      simp [h1]; split <;> omega
  · rcases m with m | m <;> cases m
  · rcases m with m | m | m
    · cases m
    · cases m
    · rcases List.mem_cons.mp m with m | m
      · subst m; exact gn _ hc0
      · rw [List.mem_singleton.mp m]; exact gn _ hb
  · obtain ⟨q, m, eo⟩ := gTab_some h
    have hx := ht _ m
    have xb : x ≠ b := fun e => by subst e; rw [hb] at hx; cases hx
    have xc : x ≠ c := fun e => by subst e; rw [hc0] at hx; cases hx
    refine .inr (.inr ⟨q, m, eo, #[], by rw [upd_ne xc, upd_ne xb]; exact hx, ?_⟩)
    exact ⟨trivial, fun pos cv hc => by cases hc⟩
section
variable {P : Program} {w : World} {K : PySem.W.Frag} {mg : Str → Option Value} {base : Heap}
/-- the law's body: its first row makes the spring -/
theorem law_okL {nd : Nd} (hndup : (nd.map (·.1)).Nodup) {x : Str} {st : Stmt} {f f2 cc : Addr} {fd2 : FuncData} {oc : Value} {od : Option Addr} {kV doc pm : Value} {an : Option Addr} {ct : Value} {osl : Array (Option Value)} {N : List Str} {k k2 n : Nat} {fb : M Fl} {p1 p2 p3 p4 p5 : Pos} {rest : List Stmt}
    (l : K.lookup f = some ⟨oc, od, .func (PySem.W.fnOf x x (defArgs st) (defBody st) (defScope st) .none kV doc pm an (.ref cc) ct), osl⟩) (hcd : PySem.W.codeIn K (.ref cc) x = true) (S : FnScope ("script" :: "stream" :: N) ["script"] (defScope st)) (hn : N.length = n)
    (hbd : defBody st = .Assign [.Name "stream" p1] (.Call (.Name "_law_start" p2) [.Name "script" p3] [] p4) p5 :: rest)
    (hf2 : FnOk P w K mg base (L2.CX P w) k2 f2 fd2 ["script"] (spStart K)) (hk : k2 ≤ k) (hm2 : mg "_law_start" = some (.ref f2)) (hk2 : PySem.W.keepIn K (.ref f2) = true) (hb2 : L2.Binds K fd2 ["script"] [])
    (hfirst : ∀ (A : Around) (outer : List Env) (s : Shared) (H : Hp) (E : XK) (ta : TE), PE (cxOf (L2.CX P w) P w K mg base ("script" :: "stream" :: N) x (defScope st) f (.ref cc) A outer s H E) (.Call (.Name "_law_start" p2) [.Name "script" p3] [] p4) ta →
      PS (cxOf (L2.CX P w) P w K mg base ("script" :: "stream" :: N) x (defScope st) f (.ref cc) A outer s H E) (.Assign [.Name "stream" p1] (.Call (.Name "_law_start" p2) [.Name "script" p3] [] p4) p5) (tAsg ta (gName 1)))
    (hcall : ∀ (A : Around) (outer : List Env) (s : Shared) (H : Hp) (E : XK), Room k (A.deeper (envOfC x (defScope st) s.heap.objs.size f (.ref cc))) →
      PE (cxOf (L2.CX P w) P w K mg base ("script" :: "stream" :: N) x (defScope st) f (.ref cc) A outer s H E) (.Call (.Name "_law_start" p2) [.Name "script" p3] [] p4) (fun σ H2 Q => ∃ v, σ[0]? = some (some v) ∧ spStart K [v] H2 Q E))
    (hbody : ∀ (A : Around) (outer : List Env) (s : Shared) (H : Hp) (E : XK), Room k (A.deeper (envOfC x (defScope st) s.heap.objs.size f (.ref cc))) →
      PSsvT (cxOf (L2.CX P w) P w K mg base ("script" :: "stream" :: N) x (defScope st) f (.ref cc) A outer s H E) E nd rest fb)
    (hlaw : ∀ ns : List Int, ns.length ≤ 63 → ∃ e, fb (envL n ns) = .ok (.rt (.val (.bl true)), e)) :
    FnOk P w K mg base (L2.CX P w) (k + 1) f (PySem.W.fnOf x x (defArgs st) (defBody st) (defScope st) .none kV doc pm an (.ref cc) ct) ["script"] (spLaw nd K) := by
  refine fn_of l hcd S (fun vs H Q E h => ?_) fun A outer s H vs Q E hr h => ?_
  · obtain ⟨a, ns, e, _⟩ := h
    rw [e]; rfl
  · rw [hbd]
    refine ⟨_, pss_cons (hfirst A outer s H E _ (hcall A outer s H E hr)) (hbody A outer s H E hr), ?_⟩
    obtain ⟨a, ns, ev, hS, hl, ht, q⟩ := h
    subst ev
    refine ⟨.ref a, rfl, a, ns, rfl, hS, hl, fun b c hb hc => ?_⟩
    obtain ⟨e, he⟩ := hlaw ns hl
    refine ⟨⟨gTab nd, upd (upd H b (.lst (ns.map V.int))) c (.lst [.ref b, .int 0, .int 0, .int 89]), [c, b], [], [.ref a], nd, gTab_mem hndup⟩, gTab nd, envL n ns, fun p m => m, ?_, ?_⟩
    · have st : (L2.start ("script" :: "stream" :: N) [.ref a]).set 1 (some (.ref c)) = some (.ref a) :: some (.ref c) :: List.replicate n none := by
        subst hn
        simp [L2.start, List.replicate_succ]
      rw [st]
      exact Stt.first hndup ht hb hc rfl
    · rw [he]
      intro v σ' G' H' S'
      obtain ⟨f0, r⟩ := S'.top
      have e2 : v = .bl true := r.2
      subst e2
      exact q _
end
end Mw
set_option maxHeartbeats 2000000
namespace Mw
open PySem PyProof.Rows L2
/-! ### the parts of a value laid by become plain -/
def M.flt (f : M T) : M T := M.bind f fun t e => match t with
  | .o o => .ok (.o o.flat, e)
  | t => .ok (t, e)
theorem ev_flt {X : Cx} {E : XK} {e : Expr} {f : M T} (h : PEv X E e f) : PEv X E e (M.flt f) := PE.imp h fun σ H Q ⟨Γ, G, env, ts, vs, S, q⟩ => by
  refine ⟨Γ, G, env, ts, vs, S, post_mono (post_bind q) fun t e1 q1 v G1 H1 S1 => ?_⟩
  cases t with
  | o o =>
    obtain ⟨G2, s2, S2⟩ := S1.flat
    exact q1 v G2 H1 S2
  | al i => exact q1 v G1 H1 S1
end Mw
set_option maxHeartbeats 2000000
namespace Mw
open PySem PySem.Spec PyProof.Rows L2 He
/-! ### what the head tells of an own error class -/
def classInit : Stmt → Stmt
  | .ClassDef _ _ _ body _ _ _ _ _ _ _ => body.getD 0 (.Pass ⟨0, 0, 0, 0⟩)
  | s => s
def clsB (K : PySem.W.Frag) (C : Addr) : Bool := match K.lookup C with
  | some ⟨.type t, _, .cls cd, sl⟩ => (match cd.mro, sl.toList with
    | .ref C' :: bm, [_, _, _, _, some (.builtin n), _] => decide (t = "type") && (decide (C' = C) && (decide (n = "ValueError.__new__") && (!cd.hasDel && (cd.hasDict && PySem.HandSPX.refsVE bm))))
    | _, _ => false)
  | _ => false
theorem clsB_ok {K : PySem.W.Frag} {C : Addr} (h : clsB K C = true) : ∃ nm0 q N bs bm sn sub ab col dd k0 k1 k2 k3 k5, K.lookup C = some (excClassObj nm0 q C N bs bm true sn sub ab col dd k0 k1 k2 k3 k5 "ValueError.__new__") ∧ PySem.HandSPX.refsVE bm = true := by
  unfold clsB at h
  split at h
  case h_2 => exact absurd h Bool.false_ne_true
  case h_1 kind own body slots found =>
    split at h
    case h_2 => exact absurd h Bool.false_ne_true
    case h_1 self chain s0 s1 s2 s3 maker s5 order filled =>
      simp only [Bool.and_eq_true, decide_eq_true_eq, Bool.not_eq_true'] at h
      obtain ⟨isType, isSelf, isMaker, noDel, withDict, ends⟩ := h
      have all6 : slots = #[s0, s1, s2, s3, some (.builtin maker), s5] := by rw [← filled]
      have whole : body = { name := body.name, bases := body.bases, mro := .ref C :: chain, ns := body.ns, qualname := body.qualname, hasDict := true, slotNames := body.slotNames, subclasses := body.subclasses, abstract := body.abstract, collection := body.collection, hasDel := false } := by
        rw [← isSelf, ← order, ← withDict, ← noDel]
      refine ⟨body.name, body.qualname, body.ns, body.bases, chain, body.slotNames, body.subclasses, body.abstract, body.collection, own, s0, s1, s2, s3, s5, ?_, ends⟩
      rw [found, isType, all6, isMaker]
      exact congrArg (fun b => some (⟨.type "type", own, .cls b, #[s0, s1, s2, s3, some (.builtin "ValueError.__new__"), s5]⟩ : Obj)) whole
def lowB (K : PySem.W.Frag) (x : Str) : Bool :=
  clsB K (ga K x) && (eqO (PySem.W.findIn K (.ref (ga K x)) "__setattr__") (some (some (.builtin "object.__setattr__"))) && (eqO (PySem.W.findIn K (.ref (ga K x)) "__getattribute__") (some (some (.builtin "BaseException.__getattribute__"))) &&
  (eqO (PySem.W.findIn K (.ref (ga K x)) "__getattr__") (some none) && (eqO (PySem.W.findIn K (.ref (ga K x)) "thing") (some none) && (eqO (PySem.W.findIn K (.ref (ga K x)) "__init__") (some (some (.ref (ma K (ga K x) "__init__")))) &&
  (decide (PySem.W.typeIn K (.ref (ma K (ga K x) "__init__")) = some (.type "function")) && (PySem.W.keepIn K (.ref (ga K x)) && (decide (PySem.W.subIn K (.ref (ga K x)) (.type "BaseException") = some true) && (decide (PySem.W.typeIn K (.ref (ga K x)) = some (.type "type")) &&
  (PySem.W.hasDictIn K (ga K x) && (decide (PySem.W.exmOne K (.ref (ga K x)) (.ref (ga K x)) = some true) && (match K.lookup (ma K (ga K x) "__init__") with
    | some ⟨_, _, .func fd, _⟩ => decide (fd.kwdefaults = .none)
    | _ => false))))))))))))
theorem low_of {K : PySem.W.Frag} {h : Heap} {mg : Str → Option Value} (X : K.In h) (G : h.Ns mainGlobals mg) {x qn : Str} (g : (Fa.glo x).ok K = true) (c : lowB K x = true) {p1 p2 q1 q2 q3 q4 : Pos}
    (F : ∃ fd, FunD K "__init__" qn (PySem.MwLow.iA p1 p2) (PySem.MwLow.iB q1 q2 q3 q4) PySem.MwLow.iS [] [] (fAd K (x, some "__init__")) fd) : PySem.MwLow.LowTxt K mg x qn (ga K x) (ma K (ga K x) "__init__") := by
  unfold lowB at c
  obtain ⟨c1, c⟩ := ba c
  obtain ⟨c2, c⟩ := ba c
  obtain ⟨c3, c⟩ := ba c
  obtain ⟨c4, c⟩ := ba c
  obtain ⟨c5, c⟩ := ba c
  obtain ⟨c6, c⟩ := ba c
  obtain ⟨c7, c⟩ := ba c
  obtain ⟨c8, c⟩ := ba c
  obtain ⟨c9, c⟩ := ba c
  obtain ⟨c10, c⟩ := ba c
  obtain ⟨c11, c⟩ := ba c
  obtain ⟨c12, c13⟩ := ba c
  refine { gC := glo_ok X G g, cls := clsB_ok c1, sa := eqO_ok c2, ga := eqO_ok c3, gg := eqO_ok c4, noN := eqO_ok c5, iC := eqO_ok c6, tC := of_decide_eq_true c7, kC := c8, exC := of_decide_eq_true c9, tyC := of_decide_eq_true c10, hdC := c11, te := of_decide_eq_true c12, fn := ?_ }
  obtain ⟨fd, F⟩ := F
  obtain ⟨oc, od, dV, kV, doc, pm, an, cdv, ct, osl, e, lk, hcd, dfl, _⟩ := F.ex
  have lk : K.lookup (ma K (ga K x) "__init__") = some ⟨oc, od, .func fd, osl⟩ := lk
  rw [lk] at c13
  have ek : fd.kwdefaults = .none := of_decide_eq_true c13
  subst e
  have ek : kV = .none := ek
  rcases dfl with ⟨_, ed⟩ | ⟨n, _⟩
  · subst ek ed
    exact ⟨oc, od, doc, pm, an, cdv, ct, osl, p1, p2, q1, q2, q3, q4, lk, hcd⟩
  · exact absurd rfl n
/-- a def without defaults -/
theorem fun_of {K : PySem.W.Frag} {x qual : Str} {st : Stmt} {f : Addr} {fd : FuncData} (F : FunD K x qual (defArgs st) (defBody st) (defScope st) [] [] f fd) : Fun K x qual st f fd := by
  obtain ⟨oc, od, dV, kV, doc, pm, an, cdv, ct, osl, e, lk, hcd, dfl, _⟩ := F.ex
  rcases dfl with ⟨_, ed⟩ | ⟨n, _⟩
  · subst ed
    exact ⟨⟨oc, od, kV, doc, pm, an, cdv, ct, osl, e, lk, hcd⟩, F.kp⟩
  · exact absurd rfl n
/-- .. and its code object -/
theorem fun_code {K : PySem.W.Frag} {x qual : Str} {st : Stmt} {p : Defn} {fd : FuncData} (F : FunD K x qual (defArgs st) (defBody st) (defScope st) [] [] (fAd K p) fd) :
    ∃ (oc : Value) (od : Option Addr) (kV doc pm : Value) (an : Option Addr) (ct : Value) (osl : Array (Option Value)), fd = PySem.W.fnOf x qual (defArgs st) (defBody st) (defScope st) .none kV doc pm an (.ref (cT K p).1) ct ∧
      K.lookup (fAd K p) = some ⟨oc, od, .func (PySem.W.fnOf x qual (defArgs st) (defBody st) (defScope st) .none kV doc pm an (.ref (cT K p).1) ct), osl⟩ ∧ PySem.W.codeIn K (.ref (cT K p).1) qual = true := by
  obtain ⟨oc, od, dV, kV, doc, pm, an, cdv, ct, osl, e, lk, hcd, dfl, _⟩ := F.ex
  rcases dfl with ⟨_, ed⟩ | ⟨n, _⟩
  · subst ed
    obtain ⟨c, ec⟩ := codeIn_ref hcd
    subst ec
    have e2 : (cT K p).1 = c := codeOf_eq (lk := lk) (by rw [e])
    rw [e2]
    subst e
    exact ⟨oc, od, kV, doc, pm, an, ct, osl, rfl, lk, hcd⟩
  · exact absurd rfl n
theorem cx_false {P : Program} {w : World} {H : Hp} {s : Shared} {e : Value} {s' : Shared} (h : L2.CX P w [] H s (fun _ _ _ => False) e s') : False := by
  unfold L2.CX at h
  obtain ⟨_, _, h⟩ := h
  simp_all
end Mw
set_option maxHeartbeats 2000000
namespace Mw
open PySem L2
/-! ### steps of the mirror -/
section
variable {α β : Type} {e e1 e2 e3 : EnvS} {f : M α} {g : α → M β} {a : α} {r : R (β × EnvS)}
theorem s_bind (h : f e = .ok (a, e1)) (k : g a e1 = r) : M.bind f g e = r := by unfold M.bind; rw [h]; exact k
variable {p q : M Fl} {c c2 : M Bool} {rf : R (Fl × EnvS)} {rb : R (Bool × EnvS)} {o o2 : O} {t s : T} {ft gt : M T}
theorem s_seq (h : p e = .ok (.nx, e1)) (k : q e1 = rf) : M.seq p q e = rf := s_bind h k
theorem s_rt (h : p e = .ok (.rt o, e1)) : M.seq p q e = .ok (.rt o, e1) := s_bind h rfl
theorem s_if1 (h : c e = .ok (true, e1)) (k : p e1 = rf) : M.ifS c p q e = rf := s_bind h k
theorem s_if0 (h : c e = .ok (false, e1)) (k : q e1 = rf) : M.ifS c p q e = rf := s_bind h k
theorem s_or0 (h : c e = .ok (false, e1)) (k : c2 e1 = rb) : M.orB c c2 e = rb := s_bind h k
theorem s_or1 (h : c e = .ok (true, e1)) : M.orB c c2 e = .ok (true, e1) := s_bind h rfl
theorem s_and1 (h : c e = .ok (true, e1)) (k : c2 e1 = rb) : M.andB c c2 e = rb := s_bind h k
theorem s_and0 (h : c e = .ok (false, e1)) : M.andB c c2 e = .ok (false, e1) := s_bind h rfl
theorem s_not {k : Bool} (h : c e = .ok (k, e1)) : M.notB c e = .ok (!k, e1) := s_bind h rfl
theorem s_tst {k : Bool} (h : ft e = .ok (t, e1)) (ht : truth e1 t = some k) : M.tst ft e = .ok (k, e1) := s_bind h (by simp only [ht])
theorem s_bB {k : Bool} (h : ft e = .ok (.o (.val (.bl k)), e1)) : M.bB ft e = .ok (k, e1) := s_bind h rfl
theorem s_asg {A : AsF} (h : ft e = .ok (t, e1)) (h1 : strong1 t e1 = some (o, e2)) (h2 : A o e2 = some e3) : M.asg ft A e = .ok (.nx, e3) := s_bind h (by simp only [h1, h2])
theorem s_ret (h : ft e = .ok (t, e1)) (h1 : move1 t e1 = some (o, e2)) : M.ret ft e = .ok (.rt o, e2) := s_bind h (by simp only [h1])
theorem s_drop (h : ft e = .ok (t, e1)) : M.drop ft e = .ok (.nx, e1) := s_bind h rfl
theorem s_op2 {G : EnvS → T → T → Option O} (h : ft e = .ok (s, e1)) (k : gt e1 = .ok (t, e2)) (hg : G e2 s t = some o) : M.op2 G ft gt e = .ok (.o o, e2) := s_bind h (s_bind k (by simp only [hg]))
theorem s_op2b {G : EnvS → T → T → Option O} {b : Bool} (h : ft e = .ok (s, e1)) (k : gt e1 = .ok (t, e2)) (hg : G e2 s t = some (.val (.bl b))) : M.op2b G ft gt e = .ok (b, e2) := s_bind h (s_bind k (by simp only [hg]))
theorem s_andV1 {rt : R (T × EnvS)} (h : ft e = .ok (t, e1)) (ht : truth e1 t = some true) (k : gt e1 = rt) : M.andV ft gt e = rt := s_bind h (by simp only [ht]; exact k)
theorem s_andV0 (h : ft e = .ok (t, e1)) (ht : truth e1 t = some false) : M.andV ft gt e = .ok (t, e1) := s_bind h (by simp only [ht])
theorem s_ite1 {rt : R (T × EnvS)} (h : c e = .ok (true, e1)) (k : ft e1 = rt) : M.ite c ft gt e = rt := s_bind h k
theorem s_ite0 {rt : R (T × EnvS)} (h : c e = .ok (false, e1)) (k : gt e1 = rt) : M.ite c ft gt e = rt := s_bind h k
theorem s_call1 {G : EnvS → T → Option O} (h : ft e = .ok (t, e1)) (hg : G e1 t = some o) : M.call1 G ft e = .ok (.o o, e1) := s_bind h (by simp only [hg])
theorem s_chain {G G' : EnvS → T → T → Option O} {ht : M T} {u : T} (h : ft e = .ok (s, e1)) (k : gt e1 = .ok (t, e2)) (hg : G e2 s t = some (.val (.bl true))) (h3 : ht e2 = .ok (u, e3)) (hg' : G' e3 t u = some o) : M.chain G G' ft gt ht e = .ok (.o o, e3) :=
  s_bind h (s_bind k (by simp only [hg]; exact s_bind h3 (by simp only [hg'])))
theorem s_fn {n m : Nat} {fb : M Fl} {as : List Sl} (h : fb (as ++ List.replicate (m - n) .no) = .ok (.rt o, e)) : M.fn n m fb as = .ok (o, argSl n e) := by unfold M.fn; rw [h]
theorem s_fnE {n m : Nat} {fb : M Fl} {as : List Sl} {x : Str} {fs : List (Str × Option Nat × D)} (h : fb (as ++ List.replicate (m - n) .no) = .err x fs) : M.fn n m fb as = .err x fs := by unfold M.fn; rw [h]
theorem s_call {n : Nat} {F : FM} {fa : M (List T)} {l : List T} {os : List O} {x : List Sl} (h : fa e = .ok (l, e1)) (h1 : stHead l e1 = none) (h2 : strongL l e1 = some (os, e2)) (h3 : l.length = n) (h4 : F (pArgs 0 os) = .ok (o, x)) : M.call n F fa e = .ok (.o o, e2) :=
  s_bind h (by rw [if_pos h3]; unfold callK; simp only [h1, h2, h4])
theorem s_callN {n : Nat} {F : FM} {fa : M (List T)} {l : List T} {os : List O} {π : List Nat} {x : List Sl} (h : fa e = .ok (l, e1)) (h2 : strongL l e1 = some (os, e2)) (h3 : l.length = n) (h4 : F (pArgs 0 (permL π os)) = .ok (o, x)) : M.callN n π F fa e = .ok (.o o, e2) :=
  s_bind h (by simp only [h3, if_true, h2, h4])
theorem s_callS {n i : Nat} {F : FM} {fa : M (List T)} {l r : List T} {os : List O} {x : List Sl} {j : Option Nat} {st st' : Strm} (h : fa e = .ok (l, e1)) (h1 : stHead l e1 = some (i, r)) (h2 : strongL r e1 = some (os, e2)) (h5 : e2[i]? = some (.st j st)) (h3 : l.length = n) (h4 : F (.st (some 0) st :: pArgs 1 os) = .ok (o, .st (some 0) st' :: x)) : M.call n F fa e = .ok (.o o, e2.set i (.st j st')) :=
  s_bind h (by rw [if_pos h3]; unfold callK; simp only [h1, h2, h5, h4])
theorem s_box {d : D} (h : ft (e.map frzSl) = .ok (.o (.val d), e1)) (hd : d.isSc = true) : M.box ft e = .ok (.o (.val d), mergeE e e1) := by unfold M.box; rw [h]; simp only [hd, if_true]
theorem s_consA {fa : M (List T)} {l : List T} (h : ft e = .ok (t, e1)) (k : fa e1 = .ok (l, e2)) : M.consA ft fa e = .ok (t :: l, e2) := s_bind h (s_bind k rfl)
theorem s_lst {fa : M (List T)} {l : List T} {os : List O} (h : fa e = .ok (l, e1)) (h1 : strongL l e1 = some (os, e2)) (hz : os.length ≤ sizeLine) : M.lst fa e = .ok (.o (.lst os), e2) :=
  s_bind (f := M.strongA fa) (a := os) (e1 := e2) (s_bind h (by simp only [h1])) (by simp only [hz, if_true])
theorem s_tup {fa : M (List T)} {l : List T} {os : List O} (h : fa e = .ok (l, e1)) (h1 : strongL l e1 = some (os, e2)) (hz : os.length ≤ sizeLine) : M.tup fa e = .ok (.o (.tup os), e2) :=
  s_bind (f := M.strongA fa) (a := os) (e1 := e2) (s_bind h (by simp only [h1])) (by simp only [hz, if_true])
theorem s_lc {src : M (List O × Bool)} {A : AsF} {own : List Nat} {tt : M Bool} {te : M T} {os res : List O} {b : Bool} (h : src e = .ok ((os, b), e1)) (h1 : lcLoop A own tt te os (wipeE e1 own) = .ok (res, e2)) (hz : res.length ≤ sizeLine) : M.lc src A own tt te e = .ok (.o (.lst res), wipeE e2 own) :=
  s_bind h (by simp only [h1, hz, if_true])
theorem s_while0 {n : Nat} (h : c e = .ok (false, e1)) : M.whileN c p (n + 1) e = .ok (.nx, e1) := s_bind h rfl
theorem s_while1 {n : Nat} (h : c e = .ok (true, e1)) (h1 : p e1 = .ok (.nx, e2)) (k : M.whileN c p n e2 = rf) : M.whileN c p (n + 1) e = rf := s_bind h (s_bind h1 k)
theorem s_forS {src : M (List O × Bool)} {A : AsF} {os : List O} (h : src e = .ok ((os, false), e1)) (k : forLoop A p os e1 = rf) : M.forS src A p e = rf := s_bind h (by exact k)
theorem s_for1 {A : AsF} {os : List O} (h : A o e = some e1) (h1 : p e1 = .ok (.nx, e2)) (k : forLoop A p os e2 = rf) : forLoop A p (o :: os) e = rf := by
  show (match A o e with | none => R.stuck | some e1 => M.bind p (M.loopK (forLoop A p os)) e1) = rf
  rw [h]
  exact s_bind h1 k
/-- a comprehension whose turns leave all as it was -/
theorem lc_pure {A : AsF} {own : List Nat} {tt : M Bool} {te : M T} {e0 : EnvS} {ok : O → Bool} {res : O → O} : ∀ {os : List O},
    (∀ o ∈ os, ∃ e1 e2, A o e0 = some e1 ∧ tt e1 = .ok (ok o, e2) ∧ (ok o = false → wipeE e2 own = e0) ∧ (ok o = true → ∃ t e3 e4, te e2 = .ok (t, e3) ∧ strong1 t e3 = some (res o, e4) ∧ wipeE e4 own = e0)) →
    lcLoop A own tt te os e0 = .ok ((os.filter ok).map res, e0)
  | [], _ => rfl
  | o :: os, h => by
    obtain ⟨e1, e2, h1, h2, h3, h4⟩ := h o List.mem_cons_self
    have ih := lc_pure (os := os) (ok := ok) (res := res) fun x m => h x (List.mem_cons_of_mem _ m)
    unfold lcLoop
    rw [h1]
    simp only [h2]
    cases hk : ok o with
    | false =>
      rw [List.filter_cons_of_neg (by simp [hk])]
      simp only [h3 hk]
      exact ih
    | true =>
      rw [List.filter_cons_of_pos hk]
      obtain ⟨t, e3, e4, k1, k2, k3⟩ := h4 hk
      simp only [k1, k2, k3, ih]
      rfl
end
/-! ### numbers -/
def vI (i : Int) : O := .val (.int i)
theorem toDs_vI (l : List Int) : O.toDs (l.map vI) = l.map D.int := by
  induction l with
  | nil => rfl
  | cons a l ih => show (O.val (.int a)).toD :: O.toDs (l.map vI) = _; rw [ih]; rfl
theorem int_in (h : Int) (l : List Int) : inO (.int h) (.lst (l.map vI)) = some (l.any (fun x => x == h)) := by
  have h1 : (l.map vI).all (fun o => o.toD.isSc) = true := by
    rw [List.all_map]; exact List.all_eq_true.mpr fun x _ => rfl
  have h2 : (l.map vI).any (fun o => eqV o.toD.toV (D.int h).toV) = l.any fun x => x == h := by
    rw [List.any_map]; rfl
  show (if ((D.int h).isSc && (l.map vI).all (fun o => o.toD.isSc)) = true then some ((l.map vI).any fun o => eqV o.toD.toV (D.int h).toV) else none) = _
  rw [h1, h2]; rfl
end Mw
set_option maxHeartbeats 2000000
namespace Mw
open PySem L2
/-! ### numbers in the mirror -/
abbrev iT (i : Int) : T := .o (.val (.int i))
theorem g_add {e : EnvS} {i j : Int} : gAdd e (iT i) (iT j) = some (vI (i + j)) := rfl
theorem g_sub {e : EnvS} {i j : Int} : gSub e (iT i) (iT j) = some (vI (i - j)) := rfl
theorem g_mulR {e : EnvS} {i j : Int} (h : j.natAbs < 2 ^ 64) : gMul e (iT i) (iT j) = some (vI (i * j)) := by
  have hc : cMul i j = true := by unfold cMul; rw [decide_eq_true h, Bool.or_true]
  unfold gMul sc2 gInt
  simp only [hc, if_true]
  rfl
theorem g_mulL {e : EnvS} {i j : Int} (h : i.natAbs < 2 ^ 64) : gMul e (iT i) (iT j) = some (vI (i * j)) := by
  have hc : cMul i j = true := by unfold cMul; rw [decide_eq_true h, Bool.true_or]
  unfold gMul sc2 gInt
  simp only [hc, if_true]
  rfl
theorem g_mod {e : EnvS} {i j : Int} (h : 0 < j) : gMod e (iT i) (iT j) = some (vI (i % j)) := by
  have hc : cPos i j = true := decide_eq_true h
  unfold gMod sc2 gInt
  simp only [hc, if_true]
  rfl
theorem g_fdiv {e : EnvS} {i j : Int} (h : 0 < j) (h2 : j < 1073741824) : gFdiv e (iT i) (iT j) = some (vI (i / j)) := by
  have hc : cDiv i j = true := decide_eq_true ⟨h, h2⟩
  unfold gFdiv sc2 gInt
  simp only [hc, if_true]
  rfl
theorem g_pow {e : EnvS} {i j : Int} (h : 0 ≤ j) (h2 : j ≤ 1000000) (h3 : i.natAbs < 2 ^ 64) : gPow e (iT i) (iT j) = some (vI (i ^ j.toNat)) := by
  have hc : cPow i j = true := decide_eq_true ⟨h, h2, h3⟩
  unfold gPow sc2 gInt
  simp only [hc, if_true]
  rfl
theorem g_int1 {e : EnvS} {i : Int} : gInt1 e (iT i) = some (vI i) := rfl
theorem g_eq {e : EnvS} {i j : Int} : gEq false e (iT i) (iT j) = some (.val (.bl (i == j))) := rfl
theorem g_ne {e : EnvS} {i j : Int} : gEq true e (iT i) (iT j) = some (.val (.bl (!(i == j)))) := rfl
theorem g_lt {e : EnvS} {i j : Int} : gLt e (iT i) (iT j) = some (.val (.bl (decide (i < j)))) := rfl
theorem g_gt {e : EnvS} {i j : Int} : gGt e (iT i) (iT j) = some (.val (.bl (decide (j < i)))) := rfl
theorem g_ge {e : EnvS} {i j : Int} : gGe e (iT i) (iT j) = some (.val (.bl (decide (j ≤ i)))) := rfl
theorem g_le {e : EnvS} {i j : Int} : gLe e (iT i) (iT j) = some (.val (.bl (decide (i ≤ j)))) := rfl
/-- a spring in good order, at most k draws made -/
structure Good (k : Int) (s : Strm) : Prop where
  l0 : 0 ≤ s.left
  m0 : 0 ≤ s.mix
  m1 : s.mix < 2147483647
  c0 : 0 ≤ s.cnt
  c1 : s.cnt ≤ k
  n : s.cells.length ≤ 63
theorem good_first {ns : List Int} (h : ns.length ≤ 63) {m : Int} (h0 : 0 ≤ m) (h1 : m < 2147483647) : Good 0 ⟨ns, 0, 0, m⟩ := ⟨Int.le_refl _, h0, h1, Int.le_refl _, Int.le_refl _, h⟩
theorem Good.mono {k k' : Int} {s : Strm} (g : Good k s) (h : k ≤ k') : Good k' s := ⟨g.l0, g.m0, g.m1, g.c0, Int.le_trans g.c1 h, g.n⟩
theorem size_of {n : Nat} (h : n ≤ 16777216) : n ≤ sizeLine := h
end Mw
set_option maxHeartbeats 2000000
namespace Kk03
open PySem PyProof.Rows L2 Mw
def top (i : Nat) : Stmt := PySem.Challenge.pw_mixedways_k03_whole_elements.main.body.getD i (.Pass ⟨0, 0, 0, 0⟩)
structure Txt (K : PySem.W.Frag) (mg : Str → Option Value) : Prop where
  z_all : mg "all" = none
  z_any : mg "any" = none
  z_bool : mg "bool" = none
  z_dict : mg "dict" = none
  z_enumerate : mg "enumerate" = none
  z_int : mg "int" = none
  z_isinstance : mg "isinstance" = none
  z_len : mg "len" = none
  z_list : mg "list" = none
  z_range : mg "range" = none
  z_str : mg "str" = none
  z_tuple : mg "tuple" = none
  z_zip : mg "zip" = none
  X_BadElement : ∃ C fI, PySem.MwLow.LowTxt K mg "BadElement" "BadElement.__init__" C fI
  X_BadField : ∃ C fI, PySem.MwLow.LowTxt K mg "BadField" "BadField.__init__" C fI
  X_BadRows : ∃ C fI, PySem.MwLow.LowTxt K mg "BadRows" "BadRows.__init__" C fI
  X_BadSums : ∃ C fI, PySem.MwLow.LowTxt K mg "BadSums" "BadSums.__init__" C fI
abbrev s__law_met : Stmt := top 38
theorem sc__law_met : FnScope ["ask", "e"] ["ask"] (defScope s__law_met) := ⟨rfl, rfl, rfl, by decide +kernel, rfl, by decide +kernel, by decide +kernel⟩
def metTag : Str → Option Str := fun c => if c = "BadField" then some "field" else if c = "BadElement" then some "element" else none
abbrev s_is_list : Stmt := top 7
theorem sc_is_list : FnScope ["thing"] ["thing"] (defScope s_is_list) := ⟨rfl, rfl, rfl, by decide +kernel, rfl, by decide +kernel, by decide +kernel⟩
def B_is_list : M Fl := (M.seq (M.ret (M.isi [.lst, .tup] (M.var 0))) M.nx)
def F_is_list : FM := M.fn 1 1 B_is_list
theorem ok_is_list {P : Program} {w : World} {K : PySem.W.Frag} {mg : Str → Option Value} {base : Heap} {f : Addr} {fd : FuncData} (T : Txt K mg) (F : Fun K "is_list" "is_list" s_is_list f fd) : FnOk P w K mg base (L2.CX P w) 1 f fd ["thing"] (spM [] mg 1 F_is_list) :=
  Fun.okM (k := 0) F sc_is_list fun cdv A outer s H E hr => by
    have c := ctx_of (P := P) (w := w) (K := K) (mg := mg) (base := base) (f := f) (cdv := cdv) (outer := outer) (H := H) (E := E) sc_is_list hr
    exact (pss_consv (ps_retv (ev_isiT [.lst, .tup] (pe_tup (pa_cons (pe_ty .lst T.z_list) (pa_cons (pe_ty .tup T.z_tuple) pa_nil))) (fun _ _ _ h => h) (by decide) (by decide) ev_var T.z_isinstance))
    pss_nilv)
abbrev s_is_integer : Stmt := top 8
theorem sc_is_integer : FnScope ["thing"] ["thing"] (defScope s_is_integer) := ⟨rfl, rfl, rfl, by decide +kernel, rfl, by decide +kernel, by decide +kernel⟩
def B_is_integer : M Fl := (M.seq (M.ret (M.andV (M.isi [.int] (M.var 0)) (M.notV (M.isi [.bl] (M.var 0))))) M.nx)
def F_is_integer : FM := M.fn 1 1 B_is_integer
theorem ok_is_integer {P : Program} {w : World} {K : PySem.W.Frag} {mg : Str → Option Value} {base : Heap} {f : Addr} {fd : FuncData} (T : Txt K mg) (F : Fun K "is_integer" "is_integer" s_is_integer f fd) : FnOk P w K mg base (L2.CX P w) 1 f fd ["thing"] (spM [] mg 1 F_is_integer) :=
  Fun.okM (k := 0) F sc_is_integer fun cdv A outer s H E hr => by
    have c := ctx_of (P := P) (w := w) (K := K) (mg := mg) (base := base) (f := f) (cdv := cdv) (outer := outer) (H := H) (E := E) sc_is_integer hr
    exact (pss_consv (ps_retv (ev_and (ev_isi1 .int (by decide) ev_var T.z_isinstance T.z_int) (ev_one (ev_not (ev_isi1 .bl (by decide) ev_var T.z_isinstance T.z_bool)))))
    pss_nilv)
abbrev s_is_number : Stmt := top 9
theorem sc_is_number : FnScope ["thing"] ["thing"] (defScope s_is_number) := ⟨rfl, rfl, rfl, by decide +kernel, rfl, by decide +kernel, by decide +kernel⟩
def B_is_number : M Fl := (M.seq (M.ret (M.andV (M.box (M.call 1 F_is_integer (M.consA (M.var 0) (M.pure [])))) (M.op2 gGe (M.var 0) (M.con (.int 0))))) M.nx)
def F_is_number : FM := M.fn 1 1 B_is_number
theorem ok_is_number {P : Program} {w : World} {K : PySem.W.Frag} {mg : Str → Option Value} {base : Heap} {f : Addr} {fd : FuncData} (T : Txt K mg) (c_is_integer : Cal P w K mg base 1 "is_integer" ["thing"] F_is_integer) (F : Fun K "is_number" "is_number" s_is_number f fd) : FnOk P w K mg base (L2.CX P w) 2 f fd ["thing"] (spM [] mg 1 F_is_number) :=
  Fun.okM (k := 1) F sc_is_number fun cdv A outer s H E hr => by
    have c := ctx_of (P := P) (w := w) (K := K) (mg := mg) (base := base) (f := f) (cdv := cdv) (outer := outer) (H := H) (E := E) sc_is_number hr
    exact (pss_consv (ps_retv (ev_and (ev_box (ev_cal c hr c_is_integer (ea_cons ev_var ea_nil))) (ev_one (ev_ge ev_var ev_int))))
    pss_nilv)
abbrev s_checked_field : Stmt := top 11
theorem sc_checked_field : FnScope ["field", "one"] ["field"] (defScope s_checked_field) := ⟨rfl, rfl, rfl, by decide +kernel, rfl, by decide +kernel, by decide +kernel⟩
def B_checked_field : M Fl := (M.seq (M.ifS (M.orB (M.notB (M.tst (M.box (M.call 1 F_is_number (M.consA (M.var 0) (M.pure [])))))) (M.orB (M.notB (M.bB (M.chain gLt gLt (M.con (.int 1)) (M.var 0) (M.con (.int 98))))) (M.tst (M.call1 gAny (M.lc (M.rg2 (M.con (.int 2)) (M.var 0)) (aFlat (aName 1)) [1] (M.pure true) (M.op2 (gEq false) (M.op2 gMod (M.var 0) (M.var 1)) (M.con (.int 0)))))))) (M.seq (M.raise "BadField" (M.var 0)) M.nx) M.nx) (M.seq (M.ret (M.var 0)) M.nx))
def F_checked_field : FM := M.fn 1 2 B_checked_field
theorem ok_checked_field {P : Program} {w : World} {K : PySem.W.Frag} {mg : Str → Option Value} {base : Heap} {f : Addr} {fd : FuncData} (T : Txt K mg) (c_is_number : Cal P w K mg base 2 "is_number" ["thing"] F_is_number) (F : Fun K "checked_field" "checked_field" s_checked_field f fd) : FnOk P w K mg base (L2.CX P w) 3 f fd ["field"] (spM [] mg 1 F_checked_field) :=
  Fun.okM (k := 2) F sc_checked_field fun cdv A outer s H E hr => by
    have c := ctx_of (P := P) (w := w) (K := K) (mg := mg) (base := base) (f := f) (cdv := cdv) (outer := outer) (H := H) (E := E) sc_checked_field hr
    exact (pss_consv (ps_ifv (et_w (ew_or (et_not (et_truth (ev_box (ev_cal c hr c_is_number (ea_cons ev_var ea_nil))))) (ew_or (et_not (et_chain olt olt Op2k.cmp Op2.cmp ev_int ev_var ev_int)) (ew_or1 (et_truth (ev_any c T.z_any (ev_lc c (ei_range2 T.z_range ev_int ev_var) (own := [("one", 1)]) (blkOk_by (by kernel_rfl)) (fun _ _ _ _ _ => (pg_name (i := 1) (c.blk).nd rfl (by first | exact Or.inl rfl | exact Or.inr rfl))) (asg_flat asg_name) (by decide) (fun _ _ _ _ _ => ets_nil) (fun _ _ _ _ _ => (ev_eq (c.blk) (ev_mod ev_var ev_var) ev_int))))))))) (pss_consv (ps_raiseE c T.X_BadField hr ev_var)
    pss_nilv) pss_nilv)
    (pss_consv (ps_retv ev_var)
    pss_nilv))
abbrev s_turned_of : Stmt := top 13
theorem sc_turned_of : FnScope ["field", "number", "one"] ["field", "number"] (defScope s_turned_of) := ⟨rfl, rfl, rfl, by decide +kernel, rfl, by decide +kernel, by decide +kernel⟩
def B_turned_of : M Fl := (M.seq (M.ret (M.op2 gIx (M.lc (M.rg2 (M.con (.int 1)) (M.var 0)) (aFlat (aName 2)) [2] (M.op2b (gEq false) (M.op2 gMod (M.op2 gMul (M.var 2) (M.var 1)) (M.var 0)) (M.con (.int 1))) (M.var 2)) (M.con (.int 0)))) M.nx)
def F_turned_of : FM := M.fn 2 3 B_turned_of
theorem ok_turned_of {P : Program} {w : World} {K : PySem.W.Frag} {mg : Str → Option Value} {base : Heap} {f : Addr} {fd : FuncData} (T : Txt K mg) (F : Fun K "turned_of" "turned_of" s_turned_of f fd) : FnOk P w K mg base (L2.CX P w) 1 f fd ["field", "number"] (spM [] mg 2 F_turned_of) :=
  Fun.okM (k := 0) F sc_turned_of fun cdv A outer s H E hr => by
    have c := ctx_of (P := P) (w := w) (K := K) (mg := mg) (base := base) (f := f) (cdv := cdv) (outer := outer) (H := H) (E := E) sc_turned_of hr
    exact (pss_consv (ps_retv (ev_ix c (ev_lc c (ei_range2 T.z_range ev_int ev_var) (own := [("one", 2)]) (blkOk_by (by kernel_rfl)) (fun _ _ _ _ _ => (pg_name (i := 2) (c.blk).nd rfl (by first | exact Or.inl rfl | exact Or.inr rfl))) (asg_flat asg_name) (by decide) (fun _ _ _ _ _ => (ets_one (et_eq (c.blk) (ev_mod (ev_mul ev_var ev_var) ev_var) ev_int))) (fun _ _ _ _ _ => ev_var)) ev_int))
    pss_nilv)
abbrev s_scaled : Stmt := top 14
theorem sc_scaled : FnScope ["field", "row", "many", "one"] ["field", "row", "many"] (defScope s_scaled) := ⟨rfl, rfl, rfl, by decide +kernel, rfl, by decide +kernel, by decide +kernel⟩
def B_scaled : M Fl := (M.seq (M.ret (M.lc (M.srcD (M.var 1)) (aFlat (aName 3)) [3] (M.pure true) (M.op2 gMod (M.op2 gMul (M.var 3) (M.var 2)) (M.var 0)))) M.nx)
def F_scaled : FM := M.fn 3 4 B_scaled
theorem ok_scaled {P : Program} {w : World} {K : PySem.W.Frag} {mg : Str → Option Value} {base : Heap} {f : Addr} {fd : FuncData} (T : Txt K mg) (F : Fun K "scaled" "scaled" s_scaled f fd) : FnOk P w K mg base (L2.CX P w) 1 f fd ["field", "row", "many"] (spM [] mg 3 F_scaled) :=
  Fun.okM (k := 0) F sc_scaled fun cdv A outer s H E hr => by
    have c := ctx_of (P := P) (w := w) (K := K) (mg := mg) (base := base) (f := f) (cdv := cdv) (outer := outer) (H := H) (E := E) sc_scaled hr
    exact (pss_consv (ps_retv (ev_lc c (ei_seq ev_var) (own := [("one", 3)]) (blkOk_by (by kernel_rfl)) (fun _ _ _ _ _ => (pg_name (i := 3) (c.blk).nd rfl (by first | exact Or.inl rfl | exact Or.inr rfl))) (asg_flat asg_name) (by decide) (fun _ _ _ _ _ => ets_nil) (fun _ _ _ _ _ => (ev_mod (ev_mul ev_var ev_var) ev_var))))
    pss_nilv)
abbrev s_added : Stmt := top 15
theorem sc_added : FnScope ["field", "row", "other", "one", "two"] ["field", "row", "other"] (defScope s_added) := ⟨rfl, rfl, rfl, by decide +kernel, rfl, by decide +kernel, by decide +kernel⟩
def B_added : M Fl := (M.seq (M.ret (M.lc (M.zip (M.var 1) (M.var 2)) (aTup (aCons (aFlat (aName 3)) (aCons (aFlat (aName 4)) aNil))) [3, 4] (M.pure true) (M.op2 gMod (M.op2 gAdd (M.var 3) (M.var 4)) (M.var 0)))) M.nx)
def F_added : FM := M.fn 3 5 B_added
theorem ok_added {P : Program} {w : World} {K : PySem.W.Frag} {mg : Str → Option Value} {base : Heap} {f : Addr} {fd : FuncData} (T : Txt K mg) (F : Fun K "added" "added" s_added f fd) : FnOk P w K mg base (L2.CX P w) 1 f fd ["field", "row", "other"] (spM [] mg 3 F_added) :=
  Fun.okM (k := 0) F sc_added fun cdv A outer s H E hr => by
    have c := ctx_of (P := P) (w := w) (K := K) (mg := mg) (base := base) (f := f) (cdv := cdv) (outer := outer) (H := H) (E := E) sc_added hr
    exact (pss_consv (ps_retv (ev_lc c (ei_zip T.z_zip ev_var ev_var) (own := [("one", 3), ("two", 4)]) (blkOk_by (by kernel_rfl)) (fun _ _ _ _ _ => (pg_any (c.blk).calm (pgs_cons (pg_name (i := 3) (c.blk).nd rfl (by first | exact Or.inl rfl | exact Or.inr rfl)) (pgs_cons (pg_name (i := 4) (c.blk).nd rfl (by first | exact Or.inl rfl | exact Or.inr rfl)) pgs_nil)))) (asg_tup (asg_cons (asg_flat asg_name) (asg_cons (asg_flat asg_name) asg_nil)) (aCons_len (aCons_len aNil_len))) (by decide) (fun _ _ _ _ _ => ets_nil) (fun _ _ _ _ _ => (ev_mod (ev_add ev_var ev_var) ev_var))))
    pss_nilv)
abbrev s_led_rows : Stmt := top 16
theorem sc_led_rows : FnScope ["field", "rows", "wide", "left", "columns", "row", "column", "at", "able", "index", "lead", "rest"] ["field", "rows", "wide"] (defScope s_led_rows) := ⟨rfl, rfl, rfl, by decide +kernel, rfl, by decide +kernel, by decide +kernel⟩
def B_led_rows : M Fl := (M.seq (M.asg (M.tup (M.consA (M.lc (M.srcD (M.var 1)) (aFlat (aName 5)) [5] (M.pure true) (M.call1 gList (M.var 5))) (M.consA (M.lst (M.pure [])) (M.pure [])))) (aTup (aCons (aFlat (aName 3)) (aCons (aFlat (aName 4)) aNil)))) (M.seq (M.forS (M.rg1 (M.var 2)) (aFlat (aName 6)) (M.seq (M.asg (M.call1 gLen (M.var 4)) (aFlat (aName 7))) (M.seq (M.asg (M.lc (M.rg2 (M.var 7) (M.call1 gLen (M.var 3))) (aFlat (aName 9)) [9] (M.op2b (gEq true) (M.op2 gIx (M.op2 gIx (M.var 3) (M.var 9)) (M.var 6)) (M.con (.int 0))) (M.var 9)) (aFlat (aName 8))) (M.seq (M.ifS (M.op2b (gEq true) (M.var 8) (M.lst (M.pure []))) (M.seq (M.asg (M.tup (M.consA (M.op2 gIx (M.var 3) (M.op2 gIx (M.var 8) (M.con (.int 0)))) (M.consA (M.op2 gIx (M.var 3) (M.var 7)) (M.pure [])))) (aTup (aCons (aSub (M.var 3) (M.var 7)) (aCons (aSub (M.var 3) (M.op2 gIx (M.var 8) (M.con (.int 0)))) aNil)))) (M.seq (M.asg (M.call 3 F_scaled (M.consA (M.var 0) (M.consA (M.op2 gIx (M.var 3) (M.var 7)) (M.consA (M.call 2 F_turned_of (M.consA (M.var 0) (M.consA (M.op2 gIx (M.op2 gIx (M.var 3) (M.var 7)) (M.var 6)) (M.pure [])))) (M.pure []))))) (aFlat (aName 10))) (M.seq (M.forS (M.enum (M.call1 gList (M.var 3))) (aTup (aCons (aFlat (aName 9)) (aCons (aFlat (aName 5)) aNil))) (M.seq (M.asg (M.call 3 F_added (M.consA (M.var 0) (M.consA (M.var 5) (M.consA (M.call 3 F_scaled (M.consA (M.var 0) (M.consA (M.var 10) (M.consA (M.op2 gSub (M.var 0) (M.op2 gIx (M.var 5) (M.var 6))) (M.pure []))))) (M.pure []))))) (aFlat (aName 11))) (M.seq (M.asg (M.ite (M.op2b (gEq false) (M.var 9) (M.var 7)) (M.var 10) (M.var 11)) (aSub (M.var 3) (M.var 9))) M.nx))) (M.seq (M.drop (M.meth (M.var 4) (M.consA (M.var 6) (M.pure [])) kApp)) M.nx)))) M.nx) M.nx)))) (M.seq (M.ret (M.tup (M.consA (M.var 3) (M.consA (M.var 4) (M.pure []))))) M.nx)))
def F_led_rows : FM := M.fn 3 12 B_led_rows
theorem ok_led_rows {P : Program} {w : World} {K : PySem.W.Frag} {mg : Str → Option Value} {base : Heap} {f : Addr} {fd : FuncData} (T : Txt K mg) (c_added : Cal P w K mg base 1 "added" ["field", "row", "other"] F_added) (c_scaled : Cal P w K mg base 1 "scaled" ["field", "row", "many"] F_scaled) (c_turned_of : Cal P w K mg base 1 "turned_of" ["field", "number"] F_turned_of) (F : Fun K "led_rows" "led_rows" s_led_rows f fd) : FnOk P w K mg base (L2.CX P w) 2 f fd ["field", "rows", "wide"] (spM [] mg 3 F_led_rows) :=
  Fun.okM (k := 1) F sc_led_rows fun cdv A outer s H E hr => by
    have c := ctx_of (P := P) (w := w) (K := K) (mg := mg) (base := base) (f := f) (cdv := cdv) (outer := outer) (H := H) (E := E) sc_led_rows hr
    exact (pss_consv (ps_asgv (asg_tup (asg_cons (asg_flat asg_name) (asg_cons (asg_flat asg_name) asg_nil)) (aCons_len (aCons_len aNil_len))) (ev_tup (ea_cons (ev_lc c (ei_seq ev_var) (own := [("row", 5)]) (blkOk_by (by kernel_rfl)) (fun _ _ _ _ _ => (pg_name (i := 5) (c.blk).nd rfl (by first | exact Or.inl rfl | exact Or.inr rfl))) (asg_flat asg_name) (by decide) (fun _ _ _ _ _ => ets_nil) (fun _ _ _ _ _ => (ev_list (c.blk) T.z_list ev_var))) (ea_cons (ev_lst ea_nil) ea_nil))) (pg_any c.calm (pgs_cons (pg_name (i := 3) c.nd rfl (by first | exact Or.inl rfl | exact Or.inr rfl)) (pgs_cons (pg_name (i := 4) c.nd rfl (by first | exact Or.inl rfl | exact Or.inr rfl)) pgs_nil))))
    (pss_consv (ps_forv c (passes_of rfl) (ei_range1 T.z_range ev_var) (pg_name (i := 6) c.nd rfl (by first | exact Or.inl rfl | exact Or.inr rfl)) (asg_flat asg_name) (pss_consv (ps_setF c (i := 7) rfl (by first | exact Or.inl rfl | exact Or.inr rfl) (ev_len T.z_len ev_var))
    (pss_consv (ps_setLcv c (i := 8) rfl (sw_true rfl rfl rfl rfl) (ei_range2 T.z_range ev_var (ev_len T.z_len ev_var)) (own := [("index", 9)]) (blkOk_by (by kernel_rfl)) (fun _ _ _ _ _ => (pg_name (i := 9) (c.blk).nd rfl (by first | exact Or.inl rfl | exact Or.inr rfl))) (asg_flat asg_name) (by decide) (fun _ _ _ _ _ => (ets_one (et_ne (c.blk) (ev_ix (c.blk) (ev_ix (c.blk) ev_var ev_var) ev_var) ev_int))) (fun _ _ _ _ _ => ev_var))
    (pss_consv (ps_ifv (et_ne c ev_var (ev_lst ea_nil)) (pss_consv (ps_asgv (asg_tup (asg_cons (asg_sub (mg := mg) (E := E) (fo := (M.var 3)) (fi := (M.var 7))) (asg_cons (asg_sub (mg := mg) (E := E) (fo := (M.var 3)) (fi := (M.op2 gIx (M.var 8) (M.con (.int 0))))) asg_nil)) (aCons_len (aCons_len aNil_len))) (ev_tup (ea_cons (ev_ix c ev_var (ev_ix c ev_var ev_int)) (ea_cons (ev_ix c ev_var ev_var) ea_nil))) (pg_any c.calm (pgs_cons (pg_subv ev_var ev_var) (pgs_cons (pg_subv ev_var (ev_ix c ev_var ev_int)) pgs_nil))))
    (pss_consv (ps_setF c (i := 10) rfl (by first | exact Or.inl rfl | exact Or.inr rfl) (ev_cal c hr c_scaled (ea_cons ev_var (ea_cons (ev_ix c ev_var ev_var) (ea_cons (ev_cal c hr c_turned_of (ea_cons ev_var (ea_cons (ev_ix c (ev_ix c ev_var ev_var) ev_var) ea_nil))) ea_nil)))))
    (pss_consv (ps_forv c (passes_of rfl) (ei_enum T.z_enumerate (ev_list c T.z_list ev_var)) (pg_any c.calm (pgs_cons (pg_name (i := 9) c.nd rfl (by first | exact Or.inl rfl | exact Or.inr rfl)) (pgs_cons (pg_name (i := 5) c.nd rfl (by first | exact Or.inl rfl | exact Or.inr rfl)) pgs_nil))) (asg_tup (asg_cons (asg_flat asg_name) (asg_cons (asg_flat asg_name) asg_nil)) (aCons_len (aCons_len aNil_len))) (pss_consv (ps_setF c (i := 11) rfl (by first | exact Or.inl rfl | exact Or.inr rfl) (ev_cal c hr c_added (ea_cons ev_var (ea_cons ev_var (ea_cons (ev_cal c hr c_scaled (ea_cons ev_var (ea_cons ev_var (ea_cons (ev_sub ev_var (ev_ix c ev_var ev_var)) ea_nil)))) ea_nil)))))
    (pss_consv (ps_asgv (asg_sub (mg := mg) (E := E) (fo := (M.var 3)) (fi := (M.var 9))) (ev_ite (et_eq c ev_var ev_var) ev_var ev_var) (pg_subv ev_var ev_var))
    pss_nilv)))
    (pss_consv (ps_dropv (ev_meth lop_app (fun h h2 => pe_bm PySem.F.plainAttrs_list PySem.F.slot_list_append PySem.F.type_list_append mt_append h h2) ev_var (ea_cons ev_var ea_nil)))
    pss_nilv)))) pss_nilv)
    pss_nilv))))
    (pss_consv (ps_retv (ev_tup (ea_cons ev_var (ea_cons ev_var ea_nil))))
    pss_nilv)))
abbrev s_checked_element : Stmt := top 18
theorem sc_checked_element : FnScope ["field", "element"] ["field", "element"] (defScope s_checked_element) := ⟨rfl, rfl, rfl, by decide +kernel, rfl, by decide +kernel, by decide +kernel⟩
def B_checked_element : M Fl := (M.seq (M.ifS (M.orB (M.notB (M.tst (M.box (M.call 1 F_is_number (M.consA (M.var 1) (M.pure [])))))) (M.notB (M.bB (M.chain gLt gLt (M.con (.int 0)) (M.var 1) (M.var 0))))) (M.seq (M.raise "BadElement" (M.var 1)) M.nx) M.nx) (M.seq (M.ret (M.var 1)) M.nx))
def F_checked_element : FM := M.fn 2 2 B_checked_element
theorem ok_checked_element {P : Program} {w : World} {K : PySem.W.Frag} {mg : Str → Option Value} {base : Heap} {f : Addr} {fd : FuncData} (T : Txt K mg) (c_is_number : Cal P w K mg base 2 "is_number" ["thing"] F_is_number) (F : Fun K "checked_element" "checked_element" s_checked_element f fd) : FnOk P w K mg base (L2.CX P w) 3 f fd ["field", "element"] (spM [] mg 2 F_checked_element) :=
  Fun.okM (k := 2) F sc_checked_element fun cdv A outer s H E hr => by
    have c := ctx_of (P := P) (w := w) (K := K) (mg := mg) (base := base) (f := f) (cdv := cdv) (outer := outer) (H := H) (E := E) sc_checked_element hr
    exact (pss_consv (ps_ifv (et_w (ew_or (et_not (et_truth (ev_box (ev_cal c hr c_is_number (ea_cons ev_var ea_nil))))) (ew_or1 (et_not (et_chain olt olt Op2k.cmp Op2.cmp ev_int ev_var ev_var))))) (pss_consv (ps_raiseE c T.X_BadElement hr ev_var)
    pss_nilv) pss_nilv)
    (pss_consv (ps_retv ev_var)
    pss_nilv))
abbrev s_turned_element : Stmt := top 19
theorem sc_turned_element : FnScope ["field", "element", "known"] ["field", "element"] (defScope s_turned_element) := ⟨rfl, rfl, rfl, by decide +kernel, rfl, by decide +kernel, by decide +kernel⟩
def B_turned_element : M Fl := (M.seq (M.asg (M.call 1 F_checked_field (M.consA (M.var 0) (M.pure []))) (aFlat (aName 2))) (M.seq (M.ret (M.call 2 F_turned_of (M.consA (M.var 2) (M.consA (M.call 2 F_checked_element (M.consA (M.var 2) (M.consA (M.var 1) (M.pure [])))) (M.pure []))))) M.nx))
def F_turned_element : FM := M.fn 2 3 B_turned_element
theorem ok_turned_element {P : Program} {w : World} {K : PySem.W.Frag} {mg : Str → Option Value} {base : Heap} {f : Addr} {fd : FuncData} (T : Txt K mg) (c_checked_element : Cal P w K mg base 3 "checked_element" ["field", "element"] F_checked_element) (c_checked_field : Cal P w K mg base 3 "checked_field" ["field"] F_checked_field) (c_turned_of : Cal P w K mg base 1 "turned_of" ["field", "number"] F_turned_of) (F : Fun K "turned_element" "turned_element" s_turned_element f fd) : FnOk P w K mg base (L2.CX P w) 4 f fd ["field", "element"] (spM [] mg 2 F_turned_element) :=
  Fun.okM (k := 3) F sc_turned_element fun cdv A outer s H E hr => by
    have c := ctx_of (P := P) (w := w) (K := K) (mg := mg) (base := base) (f := f) (cdv := cdv) (outer := outer) (H := H) (E := E) sc_turned_element hr
    exact (pss_consv (ps_setF c (i := 2) rfl (by first | exact Or.inl rfl | exact Or.inr rfl) (ev_cal c hr c_checked_field (ea_cons ev_var ea_nil)))
    (pss_consv (ps_retv (ev_cal c hr c_turned_of (ea_cons ev_var (ea_cons (ev_cal c hr c_checked_element (ea_cons ev_var (ea_cons ev_var ea_nil))) ea_nil))))
    pss_nilv))
abbrev s_element_powers : Stmt := top 20
theorem sc_element_powers : FnScope ["field", "element", "known", "found", "here", "one"] ["field", "element"] (defScope s_element_powers) := ⟨rfl, rfl, rfl, by decide +kernel, rfl, by decide +kernel, by decide +kernel⟩
def B_element_powers : M Fl := (M.seq (M.asg (M.call 1 F_checked_field (M.consA (M.var 0) (M.pure []))) (aFlat (aName 2))) (M.seq (M.par 3 4 (M.consA (M.lst (M.pure [])) (M.consA (M.con (.int 1)) (M.pure [])))) (M.seq (M.asg (M.call 2 F_checked_element (M.consA (M.var 2) (M.consA (M.var 1) (M.pure [])))) (aFlat (aName 5))) (M.seq (M.whileN (M.op2b (gIn true) (M.var 4) (M.var 3)) (M.seq (M.drop (M.meth (M.var 3) (M.consA (M.var 4) (M.pure [])) kApp)) (M.seq (M.asg (M.op2 gMod (M.op2 gMul (M.var 4) (M.var 5)) (M.var 2)) (aFlat (aName 4))) M.nx)) 1000) (M.seq (M.ret (M.var 3)) M.nx)))))
def F_element_powers : FM := M.fn 2 6 B_element_powers
theorem ok_element_powers {P : Program} {w : World} {K : PySem.W.Frag} {mg : Str → Option Value} {base : Heap} {f : Addr} {fd : FuncData} (T : Txt K mg) (c_checked_element : Cal P w K mg base 3 "checked_element" ["field", "element"] F_checked_element) (c_checked_field : Cal P w K mg base 3 "checked_field" ["field"] F_checked_field) (F : Fun K "element_powers" "element_powers" s_element_powers f fd) : FnOk P w K mg base (L2.CX P w) 4 f fd ["field", "element"] (spM [] mg 2 F_element_powers) :=
  Fun.okM (k := 3) F sc_element_powers fun cdv A outer s H E hr => by
    have c := ctx_of (P := P) (w := w) (K := K) (mg := mg) (base := base) (f := f) (cdv := cdv) (outer := outer) (H := H) (E := E) sc_element_powers hr
    exact (pss_consv (ps_setF c (i := 2) rfl (by first | exact Or.inl rfl | exact Or.inr rfl) (ev_cal c hr c_checked_field (ea_cons ev_var ea_nil)))
    (pss_consv (ps_parv c (i := 3) (j := 4) rfl rfl (ea_cons (ev_lst ea_nil) (ea_cons ev_int ea_nil)))
    (pss_consv (ps_setF c (i := 5) rfl (by first | exact Or.inl rfl | exact Or.inr rfl) (ev_cal c hr c_checked_element (ea_cons ev_var (ea_cons ev_var ea_nil))))
    (pss_consv (ps_whilev 1000 (passes_of rfl) (et_notin c ev_var ev_var) (pss_consv (ps_dropv (ev_meth lop_app (fun h h2 => pe_bm PySem.F.plainAttrs_list PySem.F.slot_list_append PySem.F.type_list_append mt_append h h2) ev_var (ea_cons ev_var ea_nil)))
    (pss_consv (ps_setF c (i := 4) rfl (by first | exact Or.inl rfl | exact Or.inr rfl) (ev_mod (ev_mul ev_var ev_var) ev_var))
    pss_nilv)))
    (pss_consv (ps_retv ev_var)
    pss_nilv)))))
abbrev s_field_root : Stmt := top 21
theorem sc_field_root : FnScope ["field", "known", "one"] ["field"] (defScope s_field_root) := ⟨rfl, rfl, rfl, by decide +kernel, rfl, by decide +kernel, by decide +kernel⟩
def B_field_root : M Fl := (M.seq (M.asg (M.call 1 F_checked_field (M.consA (M.var 0) (M.pure []))) (aFlat (aName 1))) (M.seq (M.ret (M.op2 gIx (M.lc (M.rg2 (M.con (.int 1)) (M.var 1)) (aFlat (aName 2)) [2] (M.op2b (gEq false) (M.call1 gLen (M.call 2 F_element_powers (M.consA (M.var 1) (M.consA (M.var 2) (M.pure []))))) (M.op2 gSub (M.var 1) (M.con (.int 1)))) (M.var 2)) (M.con (.int 0)))) M.nx))
def F_field_root : FM := M.fn 1 3 B_field_root
theorem ok_field_root {P : Program} {w : World} {K : PySem.W.Frag} {mg : Str → Option Value} {base : Heap} {f : Addr} {fd : FuncData} (T : Txt K mg) (c_checked_field : Cal P w K mg base 3 "checked_field" ["field"] F_checked_field) (c_element_powers : Cal P w K mg base 4 "element_powers" ["field", "element"] F_element_powers) (F : Fun K "field_root" "field_root" s_field_root f fd) : FnOk P w K mg base (L2.CX P w) 5 f fd ["field"] (spM [] mg 1 F_field_root) :=
  Fun.okM (k := 4) F sc_field_root fun cdv A outer s H E hr => by
    have c := ctx_of (P := P) (w := w) (K := K) (mg := mg) (base := base) (f := f) (cdv := cdv) (outer := outer) (H := H) (E := E) sc_field_root hr
    exact (pss_consv (ps_setF c (i := 1) rfl (by first | exact Or.inl rfl | exact Or.inr rfl) (ev_cal c hr c_checked_field (ea_cons ev_var ea_nil)))
    (pss_consv (ps_retv (ev_ix c (ev_lc c (ei_range2 T.z_range ev_int ev_var) (own := [("one", 2)]) (blkOk_by (by kernel_rfl)) (fun _ _ _ _ _ => (pg_name (i := 2) (c.blk).nd rfl (by first | exact Or.inl rfl | exact Or.inr rfl))) (asg_flat asg_name) (by decide) (fun _ _ _ _ _ => (ets_one (et_eq (c.blk) (ev_len T.z_len (ev_cal (c.blk) hr c_element_powers (ea_cons ev_var (ea_cons ev_var ea_nil)))) (ev_sub ev_var ev_int)))) (fun _ _ _ _ _ => ev_var)) ev_int))
    pss_nilv))
abbrev s_is_element_row : Stmt := top 22
theorem sc_is_element_row : FnScope ["field", "thing", "one"] ["field", "thing"] (defScope s_is_element_row) := ⟨rfl, rfl, rfl, by decide +kernel, rfl, by decide +kernel, by decide +kernel⟩
def B_is_element_row : M Fl := (M.seq (M.ret (M.andV (M.box (M.call 1 F_is_list (M.consA (M.var 1) (M.pure [])))) (M.call1 gAll (M.lc (M.srcD (M.var 1)) (aFlat (aName 2)) [2] (M.pure true) (M.andV (M.box (M.call 1 F_is_number (M.consA (M.var 2) (M.pure [])))) (M.op2 gLt (M.var 2) (M.var 0))))))) M.nx)
def F_is_element_row : FM := M.fn 2 3 B_is_element_row
theorem ok_is_element_row {P : Program} {w : World} {K : PySem.W.Frag} {mg : Str → Option Value} {base : Heap} {f : Addr} {fd : FuncData} (T : Txt K mg) (c_is_list : Cal P w K mg base 1 "is_list" ["thing"] F_is_list) (c_is_number : Cal P w K mg base 2 "is_number" ["thing"] F_is_number) (F : Fun K "is_element_row" "is_element_row" s_is_element_row f fd) : FnOk P w K mg base (L2.CX P w) 3 f fd ["field", "thing"] (spM [] mg 2 F_is_element_row) :=
  Fun.okM (k := 2) F sc_is_element_row fun cdv A outer s H E hr => by
    have c := ctx_of (P := P) (w := w) (K := K) (mg := mg) (base := base) (f := f) (cdv := cdv) (outer := outer) (H := H) (E := E) sc_is_element_row hr
    exact (pss_consv (ps_retv (ev_and (ev_box (ev_cal c hr c_is_list (ea_cons ev_var ea_nil))) (ev_one (ev_all c T.z_all (ev_lc c (ei_seq ev_var) (own := [("one", 2)]) (blkOk_by (by kernel_rfl)) (fun _ _ _ _ _ => (pg_name (i := 2) (c.blk).nd rfl (by first | exact Or.inl rfl | exact Or.inr rfl))) (asg_flat asg_name) (by decide) (fun _ _ _ _ _ => ets_nil) (fun _ _ _ _ _ => (ev_and (ev_box (ev_cal (c.blk) hr c_is_number (ea_cons ev_var ea_nil))) (ev_one (ev_lt ev_var ev_var)))))))))
    pss_nilv)
abbrev s_are_rows : Stmt := top 23
theorem sc_are_rows : FnScope ["field", "thing", "row"] ["field", "thing"] (defScope s_are_rows) := ⟨rfl, rfl, rfl, by decide +kernel, rfl, by decide +kernel, by decide +kernel⟩
def B_are_rows : M Fl := (M.seq (M.ifS (M.orB (M.notB (M.tst (M.box (M.call 1 F_is_list (M.consA (M.var 1) (M.pure [])))))) (M.orB (M.op2b (gEq false) (M.call1 gLen (M.var 1)) (M.con (.int 0))) (M.notB (M.tst (M.call1 gAll (M.lc (M.srcD (M.var 1)) (aFlat (aName 2)) [2] (M.pure true) (M.box (M.call 2 F_is_element_row (M.consA (M.var 0) (M.consA (M.var 2) (M.pure []))))))))))) (M.seq (M.ret (M.con (.bl false))) M.nx) M.nx) (M.seq (M.ret (M.andV (M.op2 gGt (M.call1 gLen (M.op2 gIx (M.var 1) (M.con (.int 0)))) (M.con (.int 0))) (M.call1 gAll (M.lc (M.srcD (M.var 1)) (aFlat (aName 2)) [2] (M.pure true) (M.op2 (gEq false) (M.call1 gLen (M.var 2)) (M.call1 gLen (M.op2 gIx (M.var 1) (M.con (.int 0))))))))) M.nx))
def F_are_rows : FM := M.fn 2 3 B_are_rows
theorem ok_are_rows {P : Program} {w : World} {K : PySem.W.Frag} {mg : Str → Option Value} {base : Heap} {f : Addr} {fd : FuncData} (T : Txt K mg) (c_is_element_row : Cal P w K mg base 3 "is_element_row" ["field", "thing"] F_is_element_row) (c_is_list : Cal P w K mg base 1 "is_list" ["thing"] F_is_list) (F : Fun K "are_rows" "are_rows" s_are_rows f fd) : FnOk P w K mg base (L2.CX P w) 4 f fd ["field", "thing"] (spM [] mg 2 F_are_rows) :=
  Fun.okM (k := 3) F sc_are_rows fun cdv A outer s H E hr => by
    have c := ctx_of (P := P) (w := w) (K := K) (mg := mg) (base := base) (f := f) (cdv := cdv) (outer := outer) (H := H) (E := E) sc_are_rows hr
    exact (pss_consv (ps_ifv (et_w (ew_or (et_not (et_truth (ev_box (ev_cal c hr c_is_list (ea_cons ev_var ea_nil))))) (ew_or (et_eq c (ev_len T.z_len ev_var) ev_int) (ew_or1 (et_not (et_truth (ev_all c T.z_all (ev_lc c (ei_seq ev_var) (own := [("row", 2)]) (blkOk_by (by kernel_rfl)) (fun _ _ _ _ _ => (pg_name (i := 2) (c.blk).nd rfl (by first | exact Or.inl rfl | exact Or.inr rfl))) (asg_flat asg_name) (by decide) (fun _ _ _ _ _ => ets_nil) (fun _ _ _ _ _ => (ev_box (ev_cal (c.blk) hr c_is_element_row (ea_cons ev_var (ea_cons ev_var ea_nil))))))))))))) (pss_consv (ps_retv ev_bl)
    pss_nilv) pss_nilv)
    (pss_consv (ps_retv (ev_and (ev_gt (ev_len T.z_len (ev_ix c ev_var ev_int)) ev_int) (ev_one (ev_all c T.z_all (ev_lc c (ei_seq ev_var) (own := [("row", 2)]) (blkOk_by (by kernel_rfl)) (fun _ _ _ _ _ => (pg_name (i := 2) (c.blk).nd rfl (by first | exact Or.inl rfl | exact Or.inr rfl))) (asg_flat asg_name) (by decide) (fun _ _ _ _ _ => ets_nil) (fun _ _ _ _ _ => (ev_eq (c.blk) (ev_len T.z_len ev_var) (ev_len T.z_len (ev_ix (c.blk) ev_var ev_int)))))))))
    pss_nilv))
abbrev s_checked_rows : Stmt := top 24
theorem sc_checked_rows : FnScope ["field", "rows", "sums", "known", "row"] ["field", "rows", "sums"] (defScope s_checked_rows) := ⟨rfl, rfl, rfl, by decide +kernel, rfl, by decide +kernel, by decide +kernel⟩
def B_checked_rows : M Fl := (M.seq (M.asg (M.call 1 F_checked_field (M.consA (M.var 0) (M.pure []))) (aFlat (aName 3))) (M.seq (M.ifS (M.notB (M.tst (M.box (M.call 2 F_are_rows (M.consA (M.var 3) (M.consA (M.var 1) (M.pure []))))))) (M.seq (M.raise "BadRows" (M.var 1)) M.nx) M.nx) (M.seq (M.ifS (M.orB (M.notB (M.tst (M.box (M.call 2 F_is_element_row (M.consA (M.var 3) (M.consA (M.var 2) (M.pure []))))))) (M.op2b (gEq true) (M.call1 gLen (M.var 2)) (M.call1 gLen (M.var 1)))) (M.seq (M.raise "BadSums" (M.var 2)) M.nx) M.nx) (M.seq (M.ret (M.tup (M.consA (M.var 3) (M.consA (M.lc (M.srcD (M.var 1)) (aFlat (aName 4)) [4] (M.pure true) (M.call1 gList (M.var 4))) (M.consA (M.call1 gList (M.var 2)) (M.pure [])))))) M.nx))))
def F_checked_rows : FM := M.fn 3 5 B_checked_rows
theorem ok_checked_rows {P : Program} {w : World} {K : PySem.W.Frag} {mg : Str → Option Value} {base : Heap} {f : Addr} {fd : FuncData} (T : Txt K mg) (c_are_rows : Cal P w K mg base 4 "are_rows" ["field", "thing"] F_are_rows) (c_checked_field : Cal P w K mg base 3 "checked_field" ["field"] F_checked_field) (c_is_element_row : Cal P w K mg base 3 "is_element_row" ["field", "thing"] F_is_element_row) (F : Fun K "checked_rows" "checked_rows" s_checked_rows f fd) : FnOk P w K mg base (L2.CX P w) 5 f fd ["field", "rows", "sums"] (spM [] mg 3 F_checked_rows) :=
  Fun.okM (k := 4) F sc_checked_rows fun cdv A outer s H E hr => by
    have c := ctx_of (P := P) (w := w) (K := K) (mg := mg) (base := base) (f := f) (cdv := cdv) (outer := outer) (H := H) (E := E) sc_checked_rows hr
    exact (pss_consv (ps_setF c (i := 3) rfl (by first | exact Or.inl rfl | exact Or.inr rfl) (ev_cal c hr c_checked_field (ea_cons ev_var ea_nil)))
    (pss_consv (ps_ifv (et_not (et_truth (ev_box (ev_cal c hr c_are_rows (ea_cons ev_var (ea_cons ev_var ea_nil)))))) (pss_consv (ps_raiseE c T.X_BadRows hr ev_var)
    pss_nilv) pss_nilv)
    (pss_consv (ps_ifv (et_w (ew_or (et_not (et_truth (ev_box (ev_cal c hr c_is_element_row (ea_cons ev_var (ea_cons ev_var ea_nil)))))) (ew_or1 (et_ne c (ev_len T.z_len ev_var) (ev_len T.z_len ev_var))))) (pss_consv (ps_raiseE c T.X_BadSums hr ev_var)
    pss_nilv) pss_nilv)
    (pss_consv (ps_retv (ev_tup (ea_cons ev_var (ea_cons (ev_lc c (ei_seq ev_var) (own := [("row", 4)]) (blkOk_by (by kernel_rfl)) (fun _ _ _ _ _ => (pg_name (i := 4) (c.blk).nd rfl (by first | exact Or.inl rfl | exact Or.inr rfl))) (asg_flat asg_name) (by decide) (fun _ _ _ _ _ => ets_nil) (fun _ _ _ _ _ => (ev_list (c.blk) T.z_list ev_var))) (ea_cons (ev_list c T.z_list ev_var) ea_nil)))))
    pss_nilv))))
abbrev s_led_with_sums : Stmt := top 25
theorem sc_led_with_sums : FnScope ["field", "rows", "sums", "many", "wide", "both", "index", "at", "row"] ["field", "rows", "sums"] (defScope s_led_with_sums) := ⟨rfl, rfl, rfl, by decide +kernel, rfl, by decide +kernel, by decide +kernel⟩
def B_led_with_sums : M Fl := (M.seq (M.asg (M.tup (M.consA (M.call1 gLen (M.var 1)) (M.consA (M.call1 gLen (M.op2 gIx (M.var 1) (M.con (.int 0)))) (M.pure [])))) (aTup (aCons (aFlat (aName 3)) (aCons (aFlat (aName 4)) aNil)))) (M.seq (M.asg (M.lc (M.enum (M.var 1)) (aTup (aCons (aFlat (aName 7)) (aCons (aFlat (aName 8)) aNil))) [7, 8] (M.pure true) (M.lst (M.starA (M.var 8) (M.consA (M.op2 gIx (M.var 2) (M.var 7)) (M.starA (M.lc (M.rg1 (M.var 3)) (aFlat (aName 6)) [6] (M.pure true) (M.call1 gInt1 (M.op2 (gEq false) (M.var 7) (M.var 6)))) (M.pure [])))))) (aFlat (aName 5))) (M.seq (M.ret (M.call 3 F_led_rows (M.consA (M.var 0) (M.consA (M.var 5) (M.consA (M.op2 gAdd (M.var 4) (M.con (.int 1))) (M.pure [])))))) M.nx)))
def F_led_with_sums : FM := M.fn 3 9 B_led_with_sums
theorem ok_led_with_sums {P : Program} {w : World} {K : PySem.W.Frag} {mg : Str → Option Value} {base : Heap} {f : Addr} {fd : FuncData} (T : Txt K mg) (c_led_rows : Cal P w K mg base 2 "led_rows" ["field", "rows", "wide"] F_led_rows) (F : Fun K "led_with_sums" "led_with_sums" s_led_with_sums f fd) : FnOk P w K mg base (L2.CX P w) 3 f fd ["field", "rows", "sums"] (spM [] mg 3 F_led_with_sums) :=
  Fun.okM (k := 2) F sc_led_with_sums fun cdv A outer s H E hr => by
    have c := ctx_of (P := P) (w := w) (K := K) (mg := mg) (base := base) (f := f) (cdv := cdv) (outer := outer) (H := H) (E := E) sc_led_with_sums hr
    exact (pss_consv (ps_asgv (asg_tup (asg_cons (asg_flat asg_name) (asg_cons (asg_flat asg_name) asg_nil)) (aCons_len (aCons_len aNil_len))) (ev_tup (ea_cons (ev_len T.z_len ev_var) (ea_cons (ev_len T.z_len (ev_ix c ev_var ev_int)) ea_nil))) (pg_any c.calm (pgs_cons (pg_name (i := 3) c.nd rfl (by first | exact Or.inl rfl | exact Or.inr rfl)) (pgs_cons (pg_name (i := 4) c.nd rfl (by first | exact Or.inl rfl | exact Or.inr rfl)) pgs_nil))))
    (pss_consv (ps_setLcv c (i := 5) rfl (sw_true rfl rfl rfl rfl) (ei_enum T.z_enumerate ev_var) (own := [("at", 7), ("row", 8)]) (blkOk_by (by kernel_rfl)) (fun _ _ _ _ _ => (pg_any (c.blk).calm (pgs_cons (pg_name (i := 7) (c.blk).nd rfl (by first | exact Or.inl rfl | exact Or.inr rfl)) (pgs_cons (pg_name (i := 8) (c.blk).nd rfl (by first | exact Or.inl rfl | exact Or.inr rfl)) pgs_nil)))) (asg_tup (asg_cons (asg_flat asg_name) (asg_cons (asg_flat asg_name) asg_nil)) (aCons_len (aCons_len aNil_len))) (by decide) (fun _ _ _ _ _ => ets_nil) (fun _ _ _ _ _ => (ev_lst (ea_star ev_var (ea_cons (ev_ix (c.blk) ev_var ev_var) (ea_star (ev_lc (c.blk) (ei_range1 T.z_range ev_var) (own := [("index", 6)]) (blkOk_by (by kernel_rfl)) (fun _ _ _ _ _ => (pg_name (i := 6) ((c.blk).blk).nd rfl (by first | exact Or.inl rfl | exact Or.inr rfl))) (asg_flat asg_name) (by decide) (fun _ _ _ _ _ => ets_nil) (fun _ _ _ _ _ => (ev_int1 T.z_int (ev_eq ((c.blk).blk) ev_var ev_var)))) ea_nil))))))
    (pss_consv (ps_retv (ev_cal c hr c_led_rows (ea_cons ev_var (ea_cons ev_var (ea_cons (ev_add ev_var ev_int) ea_nil)))))
    pss_nilv)))
abbrev s_first_solution : Stmt := top 26
theorem sc_first_solution : FnScope ["field", "rows", "sums", "wide", "left", "columns", "found", "one", "at", "column"] ["field", "rows", "sums"] (defScope s_first_solution) := ⟨rfl, rfl, rfl, by decide +kernel, rfl, by decide +kernel, by decide +kernel⟩
def B_first_solution : M Fl := (M.seq (M.asg (M.call1 gLen (M.op2 gIx (M.var 1) (M.con (.int 0)))) (aFlat (aName 3))) (M.seq (M.asg (M.call 3 F_led_with_sums (M.consA (M.var 0) (M.consA (M.var 1) (M.consA (M.var 2) (M.pure []))))) (aTup (aCons (aFlat (aName 4)) (aCons (aFlat (aName 5)) aNil)))) (M.seq (M.ifS (M.op2b (gIn false) (M.var 3) (M.var 5)) (M.seq (M.ret (M.tup (M.consA (M.con (.str "bar")) (M.consA (M.slice (M.op2 gIx (M.var 4) (M.index (M.var 5) (M.var 3))) (M.part (M.op2 gAdd (M.var 3) (M.con (.int 1)))) (M.pure none)) (M.pure []))))) M.nx) M.nx) (M.seq (M.asg (M.lc (M.rg1 (M.var 3)) (aFlat (aName 7)) [7] (M.pure true) (M.con (.int 0))) (aFlat (aName 6))) (M.seq (M.forS (M.enum (M.var 5)) (aTup (aCons (aFlat (aName 8)) (aCons (aFlat (aName 9)) aNil))) (M.seq (M.asg (M.op2 gIx (M.op2 gIx (M.var 4) (M.var 8)) (M.var 3)) (aSub (M.var 6) (M.var 9))) M.nx)) (M.seq (M.ret (M.tup (M.consA (M.con (.str "solution")) (M.consA (M.var 6) (M.pure []))))) M.nx))))))
def F_first_solution : FM := M.fn 3 10 B_first_solution
theorem ok_first_solution {P : Program} {w : World} {K : PySem.W.Frag} {mg : Str → Option Value} {base : Heap} {f : Addr} {fd : FuncData} (T : Txt K mg) (c_led_with_sums : Cal P w K mg base 3 "led_with_sums" ["field", "rows", "sums"] F_led_with_sums) (F : Fun K "first_solution" "first_solution" s_first_solution f fd) : FnOk P w K mg base (L2.CX P w) 4 f fd ["field", "rows", "sums"] (spM [] mg 3 F_first_solution) :=
  Fun.okM (k := 3) F sc_first_solution fun cdv A outer s H E hr => by
    have c := ctx_of (P := P) (w := w) (K := K) (mg := mg) (base := base) (f := f) (cdv := cdv) (outer := outer) (H := H) (E := E) sc_first_solution hr
    exact (pss_consv (ps_setF c (i := 3) rfl (by first | exact Or.inl rfl | exact Or.inr rfl) (ev_len T.z_len (ev_ix c ev_var ev_int)))
    (pss_consv (ps_asgv (asg_tup (asg_cons (asg_flat asg_name) (asg_cons (asg_flat asg_name) asg_nil)) (aCons_len (aCons_len aNil_len))) (ev_cal c hr c_led_with_sums (ea_cons ev_var (ea_cons ev_var (ea_cons ev_var ea_nil)))) (pg_any c.calm (pgs_cons (pg_name (i := 4) c.nd rfl (by first | exact Or.inl rfl | exact Or.inr rfl)) (pgs_cons (pg_name (i := 5) c.nd rfl (by first | exact Or.inl rfl | exact Or.inr rfl)) pgs_nil))))
    (pss_consv (ps_ifv (et_in c ev_var ev_var) (pss_consv (ps_retv (ev_tup (ea_cons ev_str (ea_cons (ev_slice (ev_ix c ev_var (ev_index ev_var ev_var)) (eo_some (ev_add ev_var ev_int)) eo_none) ea_nil))))
    pss_nilv) pss_nilv)
    (pss_consv (ps_setLcv c (i := 6) rfl (sw_true rfl rfl rfl rfl) (ei_range1 T.z_range ev_var) (own := [("one", 7)]) (blkOk_by (by kernel_rfl)) (fun _ _ _ _ _ => (pg_name (i := 7) (c.blk).nd rfl (by first | exact Or.inl rfl | exact Or.inr rfl))) (asg_flat asg_name) (by decide) (fun _ _ _ _ _ => ets_nil) (fun _ _ _ _ _ => ev_int))
    (pss_consv (ps_forv c (passes_of rfl) (ei_enum T.z_enumerate ev_var) (pg_any c.calm (pgs_cons (pg_name (i := 8) c.nd rfl (by first | exact Or.inl rfl | exact Or.inr rfl)) (pgs_cons (pg_name (i := 9) c.nd rfl (by first | exact Or.inl rfl | exact Or.inr rfl)) pgs_nil))) (asg_tup (asg_cons (asg_flat asg_name) (asg_cons (asg_flat asg_name) asg_nil)) (aCons_len (aCons_len aNil_len))) (pss_consv (ps_asgv (asg_sub (mg := mg) (E := E) (fo := (M.var 6)) (fi := (M.var 9))) (ev_ix c (ev_ix c ev_var ev_var) ev_var) (pg_subv ev_var ev_var))
    pss_nilv))
    (pss_consv (ps_retv (ev_tup (ea_cons ev_str (ea_cons ev_var ea_nil))))
    pss_nilv))))))
abbrev s_solution_or_bar : Stmt := top 27
theorem sc_solution_or_bar : FnScope ["field", "rows", "sums", "known", "left", "due"] ["field", "rows", "sums"] (defScope s_solution_or_bar) := ⟨rfl, rfl, rfl, by decide +kernel, rfl, by decide +kernel, by decide +kernel⟩
def B_solution_or_bar : M Fl := (M.seq (M.asg (M.call 3 F_checked_rows (M.consA (M.var 0) (M.consA (M.var 1) (M.consA (M.var 2) (M.pure []))))) (aTup (aCons (aFlat (aName 3)) (aCons (aFlat (aName 4)) (aCons (aFlat (aName 5)) aNil))))) (M.seq (M.ret (M.call 3 F_first_solution (M.consA (M.var 3) (M.consA (M.var 4) (M.consA (M.var 5) (M.pure [])))))) M.nx))
def F_solution_or_bar : FM := M.fn 3 6 B_solution_or_bar
theorem ok_solution_or_bar {P : Program} {w : World} {K : PySem.W.Frag} {mg : Str → Option Value} {base : Heap} {f : Addr} {fd : FuncData} (T : Txt K mg) (c_checked_rows : Cal P w K mg base 5 "checked_rows" ["field", "rows", "sums"] F_checked_rows) (c_first_solution : Cal P w K mg base 4 "first_solution" ["field", "rows", "sums"] F_first_solution) (F : Fun K "solution_or_bar" "solution_or_bar" s_solution_or_bar f fd) : FnOk P w K mg base (L2.CX P w) 6 f fd ["field", "rows", "sums"] (spM [] mg 3 F_solution_or_bar) :=
  Fun.okM (k := 5) F sc_solution_or_bar fun cdv A outer s H E hr => by
    have c := ctx_of (P := P) (w := w) (K := K) (mg := mg) (base := base) (f := f) (cdv := cdv) (outer := outer) (H := H) (E := E) sc_solution_or_bar hr
    exact (pss_consv (ps_asgv (asg_tup (asg_cons (asg_flat asg_name) (asg_cons (asg_flat asg_name) (asg_cons (asg_flat asg_name) asg_nil))) (aCons_len (aCons_len (aCons_len aNil_len)))) (ev_cal c hr c_checked_rows (ea_cons ev_var (ea_cons ev_var (ea_cons ev_var ea_nil)))) (pg_any c.calm (pgs_cons (pg_name (i := 3) c.nd rfl (by first | exact Or.inl rfl | exact Or.inr rfl)) (pgs_cons (pg_name (i := 4) c.nd rfl (by first | exact Or.inl rfl | exact Or.inr rfl)) (pgs_cons (pg_name (i := 5) c.nd rfl (by first | exact Or.inl rfl | exact Or.inr rfl)) pgs_nil)))))
    (pss_consv (ps_retv (ev_cal c hr c_first_solution (ea_cons ev_var (ea_cons ev_var (ea_cons ev_var ea_nil)))))
    pss_nilv))
abbrev s_solutions_count : Stmt := top 28
theorem sc_solutions_count : FnScope ["field", "rows", "sums", "known", "left", "due", "wide", "columns", "many", "free"] ["field", "rows", "sums"] (defScope s_solutions_count) := ⟨rfl, rfl, rfl, by decide +kernel, rfl, by decide +kernel, by decide +kernel⟩
def B_solutions_count : M Fl := (M.seq (M.asg (M.call 3 F_checked_rows (M.consA (M.var 0) (M.consA (M.var 1) (M.consA (M.var 2) (M.pure []))))) (aTup (aCons (aFlat (aName 3)) (aCons (aFlat (aName 4)) (aCons (aFlat (aName 5)) aNil))))) (M.seq (M.asg (M.call1 gLen (M.op2 gIx (M.var 4) (M.con (.int 0)))) (aFlat (aName 6))) (M.seq (M.asg (M.op2 gIx (M.call 3 F_led_with_sums (M.consA (M.var 3) (M.consA (M.var 4) (M.consA (M.var 5) (M.pure []))))) (M.con (.int 1))) (aFlat (aName 7))) (M.seq (M.ifS (M.op2b (gIn false) (M.var 6) (M.var 7)) (M.seq (M.ret (M.con (.int 0))) M.nx) M.nx) (M.seq (M.asg (M.con (.int 1)) (aFlat (aName 8))) (M.seq (M.forS (M.rg1 (M.op2 gSub (M.var 6) (M.call1 gLen (M.var 7)))) (aFlat (aName 9)) (M.seq (M.asg (M.op2 gMul (M.var 8) (M.var 3)) (aFlat (aName 8))) M.nx)) (M.seq (M.ret (M.var 8)) M.nx)))))))
def F_solutions_count : FM := M.fn 3 10 B_solutions_count
theorem ok_solutions_count {P : Program} {w : World} {K : PySem.W.Frag} {mg : Str → Option Value} {base : Heap} {f : Addr} {fd : FuncData} (T : Txt K mg) (c_checked_rows : Cal P w K mg base 5 "checked_rows" ["field", "rows", "sums"] F_checked_rows) (c_led_with_sums : Cal P w K mg base 3 "led_with_sums" ["field", "rows", "sums"] F_led_with_sums) (F : Fun K "solutions_count" "solutions_count" s_solutions_count f fd) : FnOk P w K mg base (L2.CX P w) 6 f fd ["field", "rows", "sums"] (spM [] mg 3 F_solutions_count) :=
  Fun.okM (k := 5) F sc_solutions_count fun cdv A outer s H E hr => by
    have c := ctx_of (P := P) (w := w) (K := K) (mg := mg) (base := base) (f := f) (cdv := cdv) (outer := outer) (H := H) (E := E) sc_solutions_count hr
    exact (pss_consv (ps_asgv (asg_tup (asg_cons (asg_flat asg_name) (asg_cons (asg_flat asg_name) (asg_cons (asg_flat asg_name) asg_nil))) (aCons_len (aCons_len (aCons_len aNil_len)))) (ev_cal c hr c_checked_rows (ea_cons ev_var (ea_cons ev_var (ea_cons ev_var ea_nil)))) (pg_any c.calm (pgs_cons (pg_name (i := 3) c.nd rfl (by first | exact Or.inl rfl | exact Or.inr rfl)) (pgs_cons (pg_name (i := 4) c.nd rfl (by first | exact Or.inl rfl | exact Or.inr rfl)) (pgs_cons (pg_name (i := 5) c.nd rfl (by first | exact Or.inl rfl | exact Or.inr rfl)) pgs_nil)))))
    (pss_consv (ps_setF c (i := 6) rfl (by first | exact Or.inl rfl | exact Or.inr rfl) (ev_len T.z_len (ev_ix c ev_var ev_int)))
    (pss_consv (ps_setF c (i := 7) rfl (by first | exact Or.inl rfl | exact Or.inr rfl) (ev_ix c (ev_cal c hr c_led_with_sums (ea_cons ev_var (ea_cons ev_var (ea_cons ev_var ea_nil)))) ev_int))
    (pss_consv (ps_ifv (et_in c ev_var ev_var) (pss_consv (ps_retv ev_int)
    pss_nilv) pss_nilv)
    (pss_consv (ps_setF c (i := 8) rfl (by first | exact Or.inl rfl | exact Or.inr rfl) ev_int)
    (pss_consv (ps_forv c (passes_of rfl) (ei_range1 T.z_range (ev_sub ev_var (ev_len T.z_len ev_var))) (pg_name (i := 9) c.nd rfl (by first | exact Or.inl rfl | exact Or.inr rfl)) (asg_flat asg_name) (pss_consv (ps_setF c (i := 8) rfl (by first | exact Or.inl rfl | exact Or.inr rfl) (ev_mul ev_var ev_var))
    pss_nilv))
    (pss_consv (ps_retv ev_var)
    pss_nilv)))))))
abbrev s__law_draw : Stmt := top 31
theorem sc__law_draw : FnScope ["stream", "many", "cell", "digit", "mixed"] ["stream", "many"] (defScope s__law_draw) := ⟨rfl, rfl, rfl, by decide +kernel, rfl, by decide +kernel, by decide +kernel⟩
def B__law_draw : M Fl := (M.seq (M.stSet 0 2 (M.op2 gAdd (M.stGet 0 2) (M.con (.int 1)))) (M.seq (M.whileN (M.andB (M.op2b (gEq false) (M.stGet 0 1) (M.con (.int 0))) (M.stMore 0)) (M.seq (M.asg (M.stPop 0) (aFlat (aName 2))) (M.seq (M.stSet 0 3 (M.op2 gMod (M.call1 gInt1 (M.op2 gAdd (M.op2 gAdd (M.op2 gMul (M.stGet 0 3) (M.con (.int 72103))) (M.var 2)) (M.con (.int 43)))) (M.con (.int 2147483647)))) (M.seq (M.stSet 0 1 (M.ite (M.op2b gGe (M.var 2) (M.op2 gPow (M.con (.int 10)) (M.con (.int 18)))) (M.var 2) (M.con (.int 0)))) M.nx))) 1000) (M.seq (M.ifS (M.op2b gGt (M.stGet 0 1) (M.con (.int 0))) (M.seq (M.asg (M.op2 gMod (M.call1 gInt1 (M.stGet 0 1)) (M.var 1)) (aFlat (aName 3))) (M.seq (M.stSet 0 1 (M.op2 gFdiv (M.stGet 0 1) (M.var 1))) (M.seq (M.ret (M.var 3)) M.nx))) M.nx) (M.seq (M.asg (M.op2 gMod (M.call1 gInt1 (M.op2 gPow (M.op2 gAdd (M.op2 gAdd (M.stGet 0 3) (M.op2 gMul (M.con (.int 9161)) (M.stGet 0 2))) (M.con (.int 190027))) (M.con (.int 5)))) (M.con (.int 2147483629))) (aFlat (aName 4))) (M.seq (M.ret (M.op2 gMod (M.op2 gMod (M.call1 gInt1 (M.op2 gPow (M.op2 gAdd (M.op2 gAdd (M.op2 gMul (M.var 4) (M.con (.int 63029))) (M.op2 gMul (M.con (.int 74017)) (M.stGet 0 2))) (M.con (.int 61))) (M.con (.int 3)))) (M.con (.int 1000000007))) (M.var 1))) M.nx)))))
def F__law_draw : FM := M.fn 2 5 B__law_draw
theorem ok__law_draw {P : Program} {w : World} {K : PySem.W.Frag} {mg : Str → Option Value} {base : Heap} {f : Addr} {fd : FuncData} (T : Txt K mg) (F : Fun K "_law_draw" "_law_draw" s__law_draw f fd) : FnOk P w K mg base (L2.CX P w) 1 f fd ["stream", "many"] (spM [] mg 2 F__law_draw) :=
  Fun.okM (k := 0) F sc__law_draw fun cdv A outer s H E hr => by
    have c := ctx_of (P := P) (w := w) (K := K) (mg := mg) (base := base) (f := f) (cdv := cdv) (outer := outer) (H := H) (E := E) sc__law_draw hr
    exact (pss_consv (ps_stSet (ev_add ev_stGet ev_int))
    (pss_consv (ps_whilev 1000 (passes_of rfl) (et_w (ew_and (et_eq c ev_stGet ev_int) (ew_and1 (et_stMore c)))) (pss_consv (ps_setF c (i := 2) rfl (by first | exact Or.inl rfl | exact Or.inr rfl) ev_stPop)
    (pss_consv (ps_stSet (ev_mod (ev_int1 T.z_int (ev_add (ev_add (ev_mul ev_stGet ev_int) ev_var) ev_int)) ev_int))
    (pss_consv (ps_stSet (ev_ite (et_ge ev_var (ev_pow ev_int ev_int)) ev_var ev_int))
    pss_nilv))))
    (pss_consv (ps_ifv (et_gt ev_stGet ev_int) (pss_consv (ps_setF c (i := 3) rfl (by first | exact Or.inl rfl | exact Or.inr rfl) (ev_mod (ev_int1 T.z_int ev_stGet) ev_var))
    (pss_consv (ps_stSet (ev_fdiv ev_stGet ev_var))
    (pss_consv (ps_retv ev_var)
    pss_nilv))) pss_nilv)
    (pss_consv (ps_setF c (i := 4) rfl (by first | exact Or.inl rfl | exact Or.inr rfl) (ev_mod (ev_int1 T.z_int (ev_pow (ev_add (ev_add ev_stGet (ev_mul ev_int ev_stGet)) ev_int) ev_int)) ev_int))
    (pss_consv (ps_retv (ev_mod (ev_mod (ev_int1 T.z_int (ev_pow (ev_add (ev_add (ev_mul ev_var ev_int) (ev_mul ev_int ev_stGet)) ev_int) ev_int)) ev_int) ev_var))
    pss_nilv)))))
abbrev s__law_mixed : Stmt := top 32
theorem sc__law_mixed : FnScope ["stream", "some", "left", "k"] ["stream", "some"] (defScope s__law_mixed) := ⟨rfl, rfl, rfl, by decide +kernel, rfl, by decide +kernel, by decide +kernel⟩
def B__law_mixed : M Fl := (M.seq (M.asg (M.call1 gList (M.var 1)) (aFlat (aName 2))) (M.seq (M.ret (M.lc (M.rg1 (M.call1 gLen (M.var 2))) (aFlat (aName 3)) [3] (M.pure true) (M.meth (M.var 2) (M.consA (M.call 2 F__law_draw (M.consA (M.var 0) (M.consA (M.call1 gLen (M.var 2)) (M.pure [])))) (M.pure [])) kPopAt))) M.nx))
def F__law_mixed : FM := M.fn 2 4 B__law_mixed
theorem ok__law_mixed {P : Program} {w : World} {K : PySem.W.Frag} {mg : Str → Option Value} {base : Heap} {f : Addr} {fd : FuncData} (T : Txt K mg) (c__law_draw : Cal P w K mg base 1 "_law_draw" ["stream", "many"] F__law_draw) (F : Fun K "_law_mixed" "_law_mixed" s__law_mixed f fd) : FnOk P w K mg base (L2.CX P w) 2 f fd ["stream", "some"] (spM [] mg 2 F__law_mixed) :=
  Fun.okM (k := 1) F sc__law_mixed fun cdv A outer s H E hr => by
    have c := ctx_of (P := P) (w := w) (K := K) (mg := mg) (base := base) (f := f) (cdv := cdv) (outer := outer) (H := H) (E := E) sc__law_mixed hr
    exact (pss_consv (ps_setF c (i := 2) rfl (by first | exact Or.inl rfl | exact Or.inr rfl) (ev_list c T.z_list ev_var))
    (pss_consv (ps_retv (ev_lc c (ei_range1 T.z_range (ev_len T.z_len ev_var)) (own := [("k", 3)]) (blkOk_by (by kernel_rfl)) (fun _ _ _ _ _ => (pg_name (i := 3) (c.blk).nd rfl (by first | exact Or.inl rfl | exact Or.inr rfl))) (asg_flat asg_name) (by decide) (fun _ _ _ _ _ => ets_nil) (fun _ _ _ _ _ => (ev_meth lop_popAt (fun h h2 => pe_bm PySem.F.plainAttrs_list PySem.F.slot_list_pop PySem.F.type_list_pop mt_popAt h h2) ev_var (ea_cons (ev_cal (c.blk) hr c__law_draw (ea_cons ev_var (ea_cons (ev_len T.z_len ev_var) ea_nil))) ea_nil)))))
    pss_nilv))
abbrev s__law_copied : Stmt := top 33
theorem sc__law_copied : FnScope ["thing", "key", "found", "part"] ["thing"] (defScope s__law_copied) := ⟨rfl, rfl, rfl, by decide +kernel, rfl, by decide +kernel, by decide +kernel⟩
def B__law_copied (G : FM) : M Fl := (M.seq (M.ifS (M.tst (M.isi [.dct] (M.var 0))) (M.seq (M.ret (M.dictP (M.lc (M.srcD (M.var 0)) (aFlat (aName 1)) [1] (M.pure true) (M.tup (M.consA (M.var 1) (M.consA (M.call 1 G (M.consA (M.op2 gIx (M.var 0) (M.var 1)) (M.pure []))) (M.pure []))))))) M.nx) M.nx) (M.seq (M.ifS (M.notB (M.tst (M.isi [.lst, .tup] (M.var 0)))) (M.seq (M.ret (M.var 0)) M.nx) M.nx) (M.seq (M.asg (M.lc (M.srcD (M.var 0)) (aFlat (aName 3)) [3] (M.pure true) (M.call 1 G (M.consA (M.var 3) (M.pure [])))) (aFlat (aName 2))) (M.seq (M.ret (M.ite (M.tst (M.isi [.lst] (M.var 0))) (M.var 2) (M.call1 gTuple (M.var 2)))) M.nx))))
def F__law_copied : Nat → FM
  | 0 => fun _ => .stuck
  | n + 1 => M.fn 1 4 (B__law_copied (F__law_copied n))
theorem ok__law_copied {P : Program} {w : World} {K : PySem.W.Frag} {mg : Str → Option Value} {base : Heap} {f : Addr} {fd : FuncData} (T : Txt K mg) (hm : mg "_law_copied" = some (.ref f)) (hb : L2.Binds K fd ["thing"] []) (F : Fun K "_law_copied" "_law_copied" s__law_copied f fd) : ∀ n : Nat, FnOk P w K mg base (L2.CX P w) (1 + n) f fd ["thing"] (spM [] mg 1 (F__law_copied n))
  | 0 => fnOk_stuck (ps := ["thing"])
  | n + 1 => Fun.okM (k := 1 + n) F sc__law_copied fun cdv A outer s H E hr => by
    have c := ctx_of (P := P) (w := w) (K := K) (mg := mg) (base := base) (f := f) (cdv := cdv) (outer := outer) (H := H) (E := E) sc__law_copied hr
    have cRec : Cal P w K mg base (1 + n) "_law_copied" ["thing"] (F__law_copied n) := ⟨f, fd, ok__law_copied T  hm hb F n, hm, F.kp, hb⟩
    exact (pss_consv (ps_ifv (et_truth (ev_isi1 .dct (by decide) ev_var T.z_isinstance T.z_dict)) (pss_consv (ps_retv (ev_dictP c T.z_dict (ev_lc c (ei_seq ev_var) (own := [("key", 1)]) (blkOk_by (by kernel_rfl)) (fun _ _ _ _ _ => (pg_name (i := 1) (c.blk).nd rfl (by first | exact Or.inl rfl | exact Or.inr rfl))) (asg_flat asg_name) (by decide) (fun _ _ _ _ _ => ets_nil) (fun _ _ _ _ _ => (ev_tup (ea_cons ev_var (ea_cons (ev_cal (c.blk) hr cRec (ea_cons (ev_ix (c.blk) ev_var ev_var) ea_nil) (hk := by omega)) ea_nil)))))))
    pss_nilv) pss_nilv)
    (pss_consv (ps_ifv (et_not (et_truth (ev_isiT [.lst, .tup] (pe_tup (pa_cons (pe_ty .lst T.z_list) (pa_cons (pe_ty .tup T.z_tuple) pa_nil))) (fun _ _ _ h => h) (by decide) (by decide) ev_var T.z_isinstance))) (pss_consv (ps_retv ev_var)
    pss_nilv) pss_nilv)
    (pss_consv (ps_setLcv c (i := 2) rfl (sw_true rfl rfl rfl rfl) (ei_seq ev_var) (own := [("part", 3)]) (blkOk_by (by kernel_rfl)) (fun _ _ _ _ _ => (pg_name (i := 3) (c.blk).nd rfl (by first | exact Or.inl rfl | exact Or.inr rfl))) (asg_flat asg_name) (by decide) (fun _ _ _ _ _ => ets_nil) (fun _ _ _ _ _ => (ev_cal (c.blk) hr cRec (ea_cons ev_var ea_nil) (hk := by omega))))
    (pss_consv (ps_retv (ev_ite (et_truth (ev_isi1 .lst (by decide) ev_var T.z_isinstance T.z_list)) ev_var (ev_tuple T.z_tuple ev_var)))
    pss_nilv))))
abbrev s__law_same : Stmt := top 34
theorem sc__law_same : FnScope ["found", "due", "x", "y"] ["found", "due"] (defScope s__law_same) := ⟨rfl, rfl, rfl, by decide +kernel, rfl, by decide +kernel, by decide +kernel⟩
def B__law_same (G : FM) : M Fl := (M.seq (M.ifS (M.tst (M.isi [.lst, .tup] (M.var 1))) (M.seq (M.ifS (M.orB (M.op2b (gEq true) (M.isi [.lst] (M.var 0)) (M.isi [.lst] (M.var 1))) (M.op2b (gEq true) (M.isi [.tup] (M.var 0)) (M.isi [.tup] (M.var 1)))) (M.seq (M.ret (M.con (.bl false))) M.nx) M.nx) (M.seq (M.ret (M.andV (M.op2 (gEq false) (M.call1 gLen (M.var 0)) (M.call1 gLen (M.var 1))) (M.call1 gAll (M.lc (M.zip (M.var 0) (M.var 1)) (aTup (aCons (aFlat (aName 2)) (aCons (aFlat (aName 3)) aNil))) [2, 3] (M.pure true) (M.box (M.call 2 G (M.consA (M.var 2) (M.consA (M.var 3) (M.pure []))))))))) M.nx)) M.nx) (M.seq (M.ifS (M.tst (M.isi [.dct] (M.var 1))) (M.seq (M.ret (M.andV (M.isi [.dct] (M.var 0)) (M.box (M.call 2 G (M.consA (M.listItems (M.var 0)) (M.consA (M.listItems (M.var 1)) (M.pure []))))))) M.nx) M.nx) (M.seq (M.ifS (M.tst (M.isi [.int] (M.var 1))) (M.seq (M.ret (M.andV (M.isi [.int] (M.var 0)) (M.andV (M.op2 (gEq false) (M.isi [.bl] (M.var 0)) (M.isi [.bl] (M.var 1))) (M.op2 (gEq false) (M.var 0) (M.var 1))))) M.nx) M.nx) (M.seq (M.ifS (M.isNoneB false (M.var 1)) (M.seq (M.ret (M.isNone false (M.var 0))) M.nx) M.nx) (M.seq (M.ifS (M.tst (M.isi [.str] (M.var 1))) (M.seq (M.ret (M.andV (M.isi [.str] (M.var 0)) (M.op2 (gEq false) (M.var 0) (M.var 1)))) M.nx) M.nx) (M.seq (M.ret (M.andV (M.notV (M.isi [.int, .str, .lst, .tup, .dct] (M.var 0))) (M.op2 (gEq false) (M.var 0) (M.var 1)))) M.nx))))))
def F__law_same : Nat → FM
  | 0 => fun _ => .stuck
  | n + 1 => M.fn 2 4 (B__law_same (F__law_same n))
theorem ok__law_same {P : Program} {w : World} {K : PySem.W.Frag} {mg : Str → Option Value} {base : Heap} {f : Addr} {fd : FuncData} (T : Txt K mg) (hm : mg "_law_same" = some (.ref f)) (hb : L2.Binds K fd ["found", "due"] []) (F : Fun K "_law_same" "_law_same" s__law_same f fd) : ∀ n : Nat, FnOk P w K mg base (L2.CX P w) (1 + n) f fd ["found", "due"] (spM [] mg 2 (F__law_same n))
  | 0 => fnOk_stuck (ps := ["found", "due"])
  | n + 1 => Fun.okM (k := 1 + n) F sc__law_same fun cdv A outer s H E hr => by
    have c := ctx_of (P := P) (w := w) (K := K) (mg := mg) (base := base) (f := f) (cdv := cdv) (outer := outer) (H := H) (E := E) sc__law_same hr
    have cRec : Cal P w K mg base (1 + n) "_law_same" ["found", "due"] (F__law_same n) := ⟨f, fd, ok__law_same T  hm hb F n, hm, F.kp, hb⟩
    exact (pss_consv (ps_ifv (et_truth (ev_isiT [.lst, .tup] (pe_tup (pa_cons (pe_ty .lst T.z_list) (pa_cons (pe_ty .tup T.z_tuple) pa_nil))) (fun _ _ _ h => h) (by decide) (by decide) ev_var T.z_isinstance)) (pss_consv (ps_ifv (et_w (ew_or (et_ne c (ev_isi1 .lst (by decide) ev_var T.z_isinstance T.z_list) (ev_isi1 .lst (by decide) ev_var T.z_isinstance T.z_list)) (ew_or1 (et_ne c (ev_isi1 .tup (by decide) ev_var T.z_isinstance T.z_tuple) (ev_isi1 .tup (by decide) ev_var T.z_isinstance T.z_tuple))))) (pss_consv (ps_retv ev_bl)
    pss_nilv) pss_nilv)
    (pss_consv (ps_retv (ev_and (ev_eq c (ev_len T.z_len ev_var) (ev_len T.z_len ev_var)) (ev_one (ev_all c T.z_all (ev_lc c (ei_zip T.z_zip ev_var ev_var) (own := [("x", 2), ("y", 3)]) (blkOk_by (by kernel_rfl)) (fun _ _ _ _ _ => (pg_any (c.blk).calm (pgs_cons (pg_name (i := 2) (c.blk).nd rfl (by first | exact Or.inl rfl | exact Or.inr rfl)) (pgs_cons (pg_name (i := 3) (c.blk).nd rfl (by first | exact Or.inl rfl | exact Or.inr rfl)) pgs_nil)))) (asg_tup (asg_cons (asg_flat asg_name) (asg_cons (asg_flat asg_name) asg_nil)) (aCons_len (aCons_len aNil_len))) (by decide) (fun _ _ _ _ _ => ets_nil) (fun _ _ _ _ _ => (ev_box (ev_cal (c.blk) hr cRec (ea_cons ev_var (ea_cons ev_var ea_nil)) (hk := by omega)))))))))
    pss_nilv)) pss_nilv)
    (pss_consv (ps_ifv (et_truth (ev_isi1 .dct (by decide) ev_var T.z_isinstance T.z_dict)) (pss_consv (ps_retv (ev_and (ev_isi1 .dct (by decide) ev_var T.z_isinstance T.z_dict) (ev_one (ev_box (ev_cal c hr cRec (ea_cons (ev_listItems c T.z_list ev_var) (ea_cons (ev_listItems c T.z_list ev_var) ea_nil)) (hk := by omega))))))
    pss_nilv) pss_nilv)
    (pss_consv (ps_ifv (et_truth (ev_isi1 .int (by decide) ev_var T.z_isinstance T.z_int)) (pss_consv (ps_retv (ev_and (ev_isi1 .int (by decide) ev_var T.z_isinstance T.z_int) (ev_and (ev_eq c (ev_isi1 .bl (by decide) ev_var T.z_isinstance T.z_bool) (ev_isi1 .bl (by decide) ev_var T.z_isinstance T.z_bool)) (ev_one (ev_eq c ev_var ev_var)))))
    pss_nilv) pss_nilv)
    (pss_consv (ps_ifv (et_isN ev_var) (pss_consv (ps_retv (ev_isN ev_var))
    pss_nilv) pss_nilv)
    (pss_consv (ps_ifv (et_truth (ev_isi1 .str (by decide) ev_var T.z_isinstance T.z_str)) (pss_consv (ps_retv (ev_and (ev_isi1 .str (by decide) ev_var T.z_isinstance T.z_str) (ev_one (ev_eq c ev_var ev_var))))
    pss_nilv) pss_nilv)
    (pss_consv (ps_retv (ev_and (ev_not (ev_isiT [.int, .str, .lst, .tup, .dct] (pe_tup (pa_cons (pe_ty .int T.z_int) (pa_cons (pe_ty .str T.z_str) (pa_cons (pe_ty .lst T.z_list) (pa_cons (pe_ty .tup T.z_tuple) (pa_cons (pe_ty .dct T.z_dict) pa_nil)))))) (fun _ _ _ h => h) (by decide) (by decide) ev_var T.z_isinstance)) (ev_one (ev_eq c ev_var ev_var))))
    pss_nilv))))))
abbrev s__law_is_once : Stmt := top 36
theorem sc__law_is_once : FnScope ["thing", "key", "many", "part"] ["thing"] (defScope s__law_is_once) := ⟨rfl, rfl, rfl, by decide +kernel, rfl, by decide +kernel, by decide +kernel⟩
def B__law_is_once (G : FM) : M Fl := (M.seq (M.ifS (M.tst (M.isi [.dct] (M.var 0))) (M.seq (M.ret (M.andV (M.op2 (gEq false) (M.op2 gIx (M.var 0) (M.con (.str "late9"))) (M.con (.int 1))) (M.call1 gAll (M.lc (M.srcD (M.var 0)) (aFlat (aName 1)) [1] (M.op2b (gEq true) (M.var 1) (M.con (.str "late9"))) (M.box (M.call 1 G (M.consA (M.op2 gIx (M.var 0) (M.var 1)) (M.pure [])))))))) M.nx) M.nx) (M.seq (M.ifS (M.tst (M.isi [.lst, .tup] (M.var 0))) (M.seq (M.asg (M.call1 gInt1 (M.isi [.lst] (M.var 0))) (aFlat (aName 2))) (M.seq (M.ret (M.andV (M.op2 (gEq false) (M.count (M.call1 gList (M.var 0)) (M.con (.str "late9"))) (M.var 2)) (M.call1 gAll (M.lc (M.srcD (M.var 0)) (aFlat (aName 3)) [3] (M.pure true) (M.box (M.call 1 G (M.consA (M.var 3) (M.pure [])))))))) M.nx)) M.nx) (M.seq (M.ret (M.con (.bl true))) M.nx)))
def F__law_is_once : Nat → FM
  | 0 => fun _ => .stuck
  | n + 1 => M.fn 1 4 (B__law_is_once (F__law_is_once n))
theorem ok__law_is_once {P : Program} {w : World} {K : PySem.W.Frag} {mg : Str → Option Value} {base : Heap} {f : Addr} {fd : FuncData} (T : Txt K mg) (hm : mg "_law_is_once" = some (.ref f)) (hb : L2.Binds K fd ["thing"] []) (F : Fun K "_law_is_once" "_law_is_once" s__law_is_once f fd) : ∀ n : Nat, FnOk P w K mg base (L2.CX P w) (1 + n) f fd ["thing"] (spM [] mg 1 (F__law_is_once n))
  | 0 => fnOk_stuck (ps := ["thing"])
  | n + 1 => Fun.okM (k := 1 + n) F sc__law_is_once fun cdv A outer s H E hr => by
    have c := ctx_of (P := P) (w := w) (K := K) (mg := mg) (base := base) (f := f) (cdv := cdv) (outer := outer) (H := H) (E := E) sc__law_is_once hr
    have cRec : Cal P w K mg base (1 + n) "_law_is_once" ["thing"] (F__law_is_once n) := ⟨f, fd, ok__law_is_once T  hm hb F n, hm, F.kp, hb⟩
    exact (pss_consv (ps_ifv (et_truth (ev_isi1 .dct (by decide) ev_var T.z_isinstance T.z_dict)) (pss_consv (ps_retv (ev_and (ev_eq c (ev_ix c ev_var ev_str) ev_int) (ev_one (ev_all c T.z_all (ev_lc c (ei_seq ev_var) (own := [("key", 1)]) (blkOk_by (by kernel_rfl)) (fun _ _ _ _ _ => (pg_name (i := 1) (c.blk).nd rfl (by first | exact Or.inl rfl | exact Or.inr rfl))) (asg_flat asg_name) (by decide) (fun _ _ _ _ _ => (ets_one (et_ne (c.blk) ev_var ev_str))) (fun _ _ _ _ _ => (ev_box (ev_cal (c.blk) hr cRec (ea_cons (ev_ix (c.blk) ev_var ev_var) ea_nil) (hk := by omega)))))))))
    pss_nilv) pss_nilv)
    (pss_consv (ps_ifv (et_truth (ev_isiT [.lst, .tup] (pe_tup (pa_cons (pe_ty .lst T.z_list) (pa_cons (pe_ty .tup T.z_tuple) pa_nil))) (fun _ _ _ h => h) (by decide) (by decide) ev_var T.z_isinstance)) (pss_consv (ps_setF c (i := 2) rfl (by first | exact Or.inl rfl | exact Or.inr rfl) (ev_int1 T.z_int (ev_isi1 .lst (by decide) ev_var T.z_isinstance T.z_list)))
    (pss_consv (ps_retv (ev_and (ev_eq c (ev_count c (ev_list c T.z_list ev_var) ev_str) ev_var) (ev_one (ev_all c T.z_all (ev_lc c (ei_seq ev_var) (own := [("part", 3)]) (blkOk_by (by kernel_rfl)) (fun _ _ _ _ _ => (pg_name (i := 3) (c.blk).nd rfl (by first | exact Or.inl rfl | exact Or.inr rfl))) (asg_flat asg_name) (by decide) (fun _ _ _ _ _ => ets_nil) (fun _ _ _ _ _ => (ev_box (ev_cal (c.blk) hr cRec (ea_cons ev_var ea_nil) (hk := by omega)))))))))
    pss_nilv)) pss_nilv)
    (pss_consv (ps_retv ev_bl)
    pss_nilv)))
abbrev s__law_spoilt : Stmt := top 35
theorem sc__law_spoilt : FnScope ["thing", "key", "part"] ["thing"] (defScope s__law_spoilt) := ⟨rfl, rfl, rfl, by decide +kernel, rfl, by decide +kernel, by decide +kernel⟩
theorem ok__law_spoilt {P : Program} {w : World} {K : PySem.W.Frag} {mg : Str → Option Value} {base : Heap} {f : Addr} {fd : FuncData} (T : Txt K mg) (hm : mg "_law_spoilt" = some (.ref f)) (hb : L2.Binds K fd ["thing"] []) (F : Fun K "_law_spoilt" "_law_spoilt" s__law_spoilt f fd) : ∀ n : Nat, FnOk P w K mg base (L2.CX P w) (2 + n) f fd ["thing"] (spB (spoilF n))
  | 0 => ⟨fun vs H Q E h => (let ⟨_, _, _, _, _, _, _, _, _, _, _, _, h, _⟩ := h; nomatch h), fun _ _ _ _ _ _ _ _ _ _ _ _ _ h => (let ⟨_, _, _, _, _, _, _, _, _, _, _, _, h, _⟩ := h; nomatch h)⟩
  | n + 1 => by
    have ih := ok__law_spoilt (P := P) (w := w) (base := base) T hm hb F n
    refine F.okX (k := 2 + n) sc__law_spoilt (fun vs H Q E h => ?_) fun cdv A outer s H vs Q E hr h => ?_
    · obtain ⟨_, _, _, _, _, _, _, e, _⟩ := h
      rw [e]; rfl
    · have c := ctx_of (P := P) (w := w) (K := K) (mg := mg) (base := base) (f := f) (cdv := cdv) (outer := outer) (H := H) (E := E) sc__law_spoilt hr
      refine ⟨_, pss_cons (ps_if (et_truth (ev_isi1 (E := E) .dct (by decide) (ev_var (i := 0)) T.z_isinstance T.z_dict)) pss_never pss_nil)
        (pss_cons (ps_if (et_truth (ev_isiT (E := E) [.lst, .tup] (pe_tup (pa_cons (pe_ty .lst T.z_list) (pa_cons (pe_ty .tup T.z_tuple) pa_nil))) (fun _ _ _ h => h) (by decide) (by decide) (ev_var (i := 0)) T.z_isinstance))
          (pss_one (ps_for (passes_of rfl) rfl (pi_list (pe_var (i := 0) rfl (.inl rfl))) (pg_name (i := 2) sc__law_spoilt.nd rfl (Or.inl rfl)) (pss_one (ps_expr (pe_call ih (hr.mono (by omega)) rfl hm F.kp hb .nil (E := E) c.px (pa_cons (pe_var (i := 2) rfl (.inl rfl)) pa_nil)))))) pss_nil)
        (pss_one (ps_if (et_truth (ev_isi1 (E := E) .lst (by decide) (ev_var (i := 0)) T.z_isinstance T.z_list)) (pss_one (ps_expr (ev_meth (E := E) lop_app (fun h h2 => pe_bm PySem.F.plainAttrs_list PySem.F.slot_list_append PySem.F.type_list_append mt_append h h2) (ev_var (i := 0)) (ea_cons ev_str ea_nil)))) pss_nil))), ?_⟩
      obtain ⟨G, y, o, o', fp, tl, tb, ev, r, h1, h2, le, hF, q⟩ := h
      subst ev
      have S0 := Stt.lentB (tb := tb) r h1 h2 le 2
      have hst : L2.start ["thing", "key", "part"] [y] = some y :: List.replicate 2 none := rfl
      rw [hst]
      cases o with
      | tup os => cases hF
      | dct os => cases hF
      | val d =>
        have hF : (if d.isSc then some (O.val d) else none) = some o' := hF
        split at hF
        · rename_i hd
          have e := Option.some.inj hF
          subst e
          refine ⟨_, G, _, [], [], S0, ?_⟩
          have e1 : (M.tst (M.isi [.dct] (M.var 0))) (Sl.o (O.val d) :: List.replicate 2 .no) = .ok (false, Sl.o (O.val d) :: List.replicate 2 .no) := by cases d <;> first | rfl | cases hd
          have e2 : (M.tst (M.isi [.lst, .tup] (M.var 0))) (Sl.o (O.val d) :: List.replicate 2 .no) = .ok (false, Sl.o (O.val d) :: List.replicate 2 .no) := by cases d <;> first | rfl | cases hd
          have e3 : (M.tst (M.isi [.lst] (M.var 0))) (Sl.o (O.val d) :: List.replicate 2 .no) = .ok (false, Sl.o (O.val d) :: List.replicate 2 .no) := by cases d <;> first | rfl | cases hd
          rw [e1]
          intro G1 H1 S1
          rw [if_neg Bool.false_ne_true]
          refine ⟨_, G1, _, [], [], S1, ?_⟩
          rw [e2]
          intro G2 H2 S2
          rw [if_neg Bool.false_ne_true]
          refine ⟨_, G2, _, [], [], S2, ?_⟩
          rw [e3]
          intro G3 H3 S3
          rw [if_neg Bool.false_ne_true]
          exact q .non G3 H3 _ _ (S3.val rfl)
        · cases hF
      | lst os =>
        have hF : (match mapO (spoilF n) os with
          | some os' => if os'.length < sizeLine then some (O.lst (os' ++ [.val (.str "late9")])) else none
          | none => none) = some o' := hF
        split at hF
        · rename_i os' hm'
          split at hF
          · rename_i hz
            have e := Option.some.inj hF
            subst e
            refine ⟨_, G, _, [], [], S0, ?_⟩
            show post _ _ _ _ (R.ok (false, Sl.o (O.lst os) :: List.replicate 2 .no))
            intro G1 H1 S1
            rw [if_neg Bool.false_ne_true]
            refine ⟨_, G1, _, [], [], S1, ?_⟩
            show post _ _ _ _ (R.ok (true, Sl.o (O.lst os) :: List.replicate 2 .no))
            intro G2 H2 S2
            rw [if_pos rfl]
            obtain ⟨p, xs, hv, hH, hl⟩ := S2.slotL (i := 0) rfl
            have ey : y = .ref p := Option.some.inj (Option.some.inj hv)
            subst ey
            refine ⟨_, rfl, p, rfl, ⟨xs, .inl (.inl hH)⟩, fun i m σ' H' => m = os.length - i ∧ i ≤ os.length ∧ ∃ G' ww, σ' = [some (.ref p), none, ww] ∧ Stt ⟨G, H, [], fp, [.ref p], tl, tb⟩ G' H' [.o (.lst (os'.take i ++ os.drop i)), .no, .no] σ' [] [],
              ⟨_, rfl, Nat.zero_le _, G2, none, rfl, by simpa using S2⟩, ?_⟩
            have hlen := mapO_len hm'
            rintro i m σ' H' ⟨rfl, hi, G', ww, rfl, S'⟩
            obtain ⟨p', zs, hv', hH', hl'⟩ := S'.slotL (i := 0) rfl
            have ep : p = p' := V.ref.inj (Option.some.inj (Option.some.inj hv'))
            subst ep
            have lz : zs.length = os.length := by rw [← hl']; simp; omega
            by_cases hlt : i < os.length
            · right
              have hz' : zs[i]? = some (zs[i]'(by omega)) := List.getElem?_eq_getElem (by omega)
              refine ⟨⟨zs, _, .inl (.inl hH'), hz'⟩, fun σ'' H'' => ∃ G' ww, σ'' = [some (.ref p), none, ww] ∧ Stt ⟨G, H, [], fp, [.ref p], tl, tb⟩ G' H'' [.o (.lst (os'.take (i + 1) ++ os.drop (i + 1))), .no, .no] σ'' [] [], fun σ'' H'' z => ⟨os.length - (i + 1), by omega, rfl, hlt, z⟩, fun x H'' hyl => ?_⟩
              obtain ⟨eH, hx⟩ := hyl
              subst eH
              have hx := hx zs (.inl (.inl hH'))
              have S3 := S'.dropW (i := 2) (some x) (by simp)
              have ho : (os'.take i ++ os.drop i)[i]? = some os[i] := by
                rw [List.getElem?_append_right (by simp; omega)]
                simp [Nat.min_eq_left (show i ≤ os'.length by omega), hlt]
              obtain ⟨o1, k1, k2⟩ := mapO_at hm' (i := i) (o := os[i]) (by simp [hlt])
              have eset : (os'.take i ++ os.drop i).set i o1 = os'.take (i + 1) ++ os.drop (i + 1) := by
                rw [List.set_append_right _ _ (by simp; omega)]
                have h0 : i - (os'.take i).length = 0 := by simp; omega
                rw [h0, List.drop_eq_getElem_cons hlt, List.set_cons_zero]
                have h5 : os'.take (i + 1) = os'.take i ++ [o1] := by
                  rw [List.take_succ, k2]; rfl
                rw [h5, List.append_assoc]; rfl
              refine ⟨x, rfl, lend_turn (i := 0) (k := i) (E := E) S3 rfl ho k1 rfl hH' hx fun v G4 H4 S4 => ⟨G4, some x, rfl, ?_⟩⟩
              rw [eset] at S4
              exact S4.pop
            · left
              have ei : i = os.length := by omega
              subst ei
              refine ⟨⟨zs, .inl (.inl hH'), by omega⟩, ?_⟩
              have el : os'.take os.length ++ os.drop os.length = os' := by rw [List.drop_length, List.append_nil, ← hlen, List.take_length]
              rw [el] at S'
              refine ⟨_, G', _, [], [], S', ?_⟩
              show post _ _ _ _ (R.ok (true, [Sl.o (O.lst os'), .no, .no]))
              intro G5 H5 S5
              rw [if_pos rfl]
              refine ⟨_, G5, _, [], [], S5, ?_⟩
              have ea : (M.meth (M.var 0) (M.consA (M.con (.str "late9")) (M.pure [])) kApp) [Sl.o (O.lst os'), .no, .no] = .ok (.o (.val .non), [.o (.lst (os' ++ [.val (.str "late9")])), .no, .no]) := by
                show (if os'.length < sizeLine then R.ok (Mw.T.o (.val .non), [Sl.o (O.lst (os' ++ [.val (.str "late9")])), .no, .no]) else .stuck) = _
                rw [if_pos hz]
              rw [ea]
              intro v G6 H6 S6
              exact q .non G6 H6 _ _ (S6.pop.val rfl)
          · cases hF
        · cases hF
abbrev s__law_apart : Stmt := top 37
theorem sc__law_apart : FnScope ["thing"] ["thing"] (defScope s__law_apart) := ⟨rfl, rfl, rfl, by decide +kernel, rfl, by decide +kernel, by decide +kernel⟩
def apartF (o : O) : Option D := match spoilF 10 o with
  | some o' => match F__law_is_once 10 [.p 0 o'.toD] with
    | .ok (.val d, _) => if d.isSc then some d else none
    | _ => none
  | none => none
theorem call_once {F : FM} {o : O} : M.call 1 F (M.consA (M.var 0) (M.pure [])) [Sl.o o] = (match F [.p 0 o.toD] with
    | .ok (o2, _) => .ok (.o o2, [Sl.o (.val o.toD)])
    | .err c fs => .err c (reid (idAt (match o with | .val d => [.o (.val d)] | _ => [.al 0]) [Sl.o o]) fs)
    | .stuck => .stuck) := by
  cases o <;> rfl
theorem ok__law_apart {P : Program} {w : World} {K : PySem.W.Frag} {mg : Str → Option Value} {base : Heap} {f f2 : Addr} {fd fd2 : FuncData} (T : Txt K mg) (hf2 : FnOk P w K mg base (L2.CX P w) 12 f2 fd2 ["thing"] (spB (spoilF 10))) (hm2 : mg "_law_spoilt" = some (.ref f2)) (hk2 : PySem.W.keepIn K (.ref f2) = true) (hb2 : L2.Binds K fd2 ["thing"] []) (c__law_is_once : Cal P w K mg base 11 "_law_is_once" ["thing"] (F__law_is_once 10)) (F : Fun K "_law_apart" "_law_apart" s__law_apart f fd) : FnOk P w K mg base (L2.CX P w) (12 + 1) f fd ["thing"] (spA apartF) := by
  refine F.okX (k := 12) sc__law_apart (fun vs H Q E h => ?_) fun cdv A outer s H vs Q E hr h => ?_
  · obtain ⟨_, _, _, _, _, _, _, e, _⟩ := h
    rw [e]; rfl
  · have c := ctx_of (P := P) (w := w) (K := K) (mg := mg) (base := base) (f := f) (cdv := cdv) (outer := outer) (H := H) (E := E) sc__law_apart hr
    refine ⟨_, pss_cons (ps_expr (pe_call hf2 (hr.mono (by decide)) rfl hm2 hk2 hb2 .nil (E := E) c.px (pa_cons (pe_var (i := 0) rfl (.inl rfl)) pa_nil)))
      (pss_one (ps_retv (E := E) (ev_cal c hr c__law_is_once (ea_cons (ev_var (i := 0)) ea_nil)))), ?_⟩
    obtain ⟨G, y, o, d, fp, tl, tb, ev, r, h1, h2, le, hF, q⟩ := h
    subst ev
    have S0 := Stt.lentB (tb := tb) r h1 h2 le 0
    unfold apartF at hF
    split at hF
    · rename_i o' hs
      refine ⟨y, rfl, lend_slot (E := E) (i := 0) S0 rfl rfl hs fun v G' H' S' => ?_⟩
      refine ⟨_, G', _, S'.pop, ?_⟩
      show post mg E _ _ (M.ret (M.call 1 (F__law_is_once 10) (M.consA (M.var 0) (M.pure []))) [Sl.o o'])
      unfold M.ret M.bind
      rw [call_once]
      split at hF
      · rename_i d' x hi
        split at hF
        · rename_i hd
          have e := Option.some.inj hF
          subst e
          rw [hi]
          exact fun v2 σ2 G2 H2 S2 => q v2 G2 H2 _ _ S2
        · cases hF
      · cases hF
    · cases hF
abbrev s__law_powers : Stmt := top 39
theorem sc__law_powers : FnScope ["field", "element", "found", "here"] ["field", "element"] (defScope s__law_powers) := ⟨rfl, rfl, rfl, by decide +kernel, rfl, by decide +kernel, by decide +kernel⟩
def B__law_powers : M Fl := (M.seq (M.par 2 3 (M.consA (M.lst (M.consA (M.con (.int 1)) (M.pure []))) (M.consA (M.op2 gMod (M.call1 gInt1 (M.var 1)) (M.var 0)) (M.pure [])))) (M.seq (M.whileN (M.op2b (gEq true) (M.var 3) (M.con (.int 1))) (M.seq (M.drop (M.meth (M.var 2) (M.consA (M.var 3) (M.pure [])) kApp)) (M.seq (M.asg (M.op2 gMod (M.call1 gInt1 (M.op2 gMul (M.var 3) (M.var 1))) (M.var 0)) (aFlat (aName 3))) M.nx)) 1000) (M.seq (M.ret (M.var 2)) M.nx)))
def F__law_powers : FM := M.fn 2 4 B__law_powers
theorem ok__law_powers {P : Program} {w : World} {K : PySem.W.Frag} {mg : Str → Option Value} {base : Heap} {f : Addr} {fd : FuncData} (T : Txt K mg) (F : Fun K "_law_powers" "_law_powers" s__law_powers f fd) : FnOk P w K mg base (L2.CX P w) 1 f fd ["field", "element"] (spM [] mg 2 F__law_powers) :=
  Fun.okM (k := 0) F sc__law_powers fun cdv A outer s H E hr => by
    have c := ctx_of (P := P) (w := w) (K := K) (mg := mg) (base := base) (f := f) (cdv := cdv) (outer := outer) (H := H) (E := E) sc__law_powers hr
    exact (pss_consv (ps_parv c (i := 2) (j := 3) rfl rfl (ea_cons (ev_lst (ea_cons ev_int ea_nil)) (ea_cons (ev_mod (ev_int1 T.z_int ev_var) ev_var) ea_nil)))
    (pss_consv (ps_whilev 1000 (passes_of rfl) (et_ne c ev_var ev_int) (pss_consv (ps_dropv (ev_meth lop_app (fun h h2 => pe_bm PySem.F.plainAttrs_list PySem.F.slot_list_append PySem.F.type_list_append mt_append h h2) ev_var (ea_cons ev_var ea_nil)))
    (pss_consv (ps_setF c (i := 3) rfl (by first | exact Or.inl rfl | exact Or.inr rfl) (ev_mod (ev_int1 T.z_int (ev_mul ev_var ev_var)) ev_var))
    pss_nilv)))
    (pss_consv (ps_retv ev_var)
    pss_nilv)))
abbrev s__law_element_right : Stmt := top 40
theorem sc__law_element_right : FnScope ["field", "element", "due", "one", "found", "back"] ["field", "element"] (defScope s__law_element_right) := ⟨rfl, rfl, rfl, by decide +kernel, rfl, by decide +kernel, by decide +kernel⟩
def B__law_element_right : M Fl := (M.seq (M.asg (M.lst (M.consA (M.op2 gIx (M.lc (M.rg2 (M.con (.int 1)) (M.var 0)) (aFlat (aName 3)) [3] (M.op2b (gEq false) (M.op2 gMod (M.call1 gInt1 (M.op2 gMul (M.var 3) (M.var 1))) (M.var 0)) (M.con (.int 1))) (M.var 3)) (M.con (.int 0))) (M.consA (M.call 2 F__law_powers (M.consA (M.var 0) (M.consA (M.var 1) (M.pure [])))) (M.pure [])))) (aFlat (aName 2))) (M.seq (M.asg (M.lst (M.consA (M.call 2 F_turned_element (M.consA (M.var 0) (M.consA (M.var 1) (M.pure [])))) (M.consA (M.call 2 F_element_powers (M.consA (M.var 0) (M.consA (M.var 1) (M.pure [])))) (M.pure [])))) (aName 4)) (M.seq (M.drop (M.meth (M.var 4) (M.consA (M.lst (M.consA (M.callN 2 [1, 0] F_turned_element (M.consA (M.var 1) (M.consA (M.var 0) (M.pure [])))) (M.consA (M.callN 2 [1, 0] F_element_powers (M.consA (M.var 1) (M.consA (M.var 0) (M.pure [])))) (M.pure [])))) (M.pure [])) kExt)) (M.seq (M.ifS (M.orB (M.notB (M.tst (M.box (M.call 2 (F__law_same 10) (M.consA (M.var 4) (M.consA (M.op2 gMul (M.var 2) (M.con (.int 2))) (M.pure []))))))) (M.notB (M.tst (M.eat apartF (M.selL [(4, (.kids [.none, .all, .none, .all]))]))))) (M.seq (M.ret (M.con (.bl false))) M.nx) M.nx) (M.seq (M.asg (M.call 2 F_element_powers (M.consA (M.var 0) (M.consA (M.op2 gIx (M.var 2) (M.con (.int 0))) (M.pure [])))) (aFlat (aName 5))) (M.seq (M.ifS (M.notB (M.tst (M.box (M.call 2 (F__law_same 10) (M.consA (M.var 5) (M.consA (M.op2 gAdd (M.lst (M.consA (M.con (.int 1)) (M.pure []))) (M.revL (M.slice (M.op2 gIx (M.var 2) (M.con (.int 1))) (M.part (M.con (.int 1))) (M.pure none)))) (M.pure []))))))) (M.seq (M.ret (M.con (.bl false))) M.nx) M.nx) (M.seq (M.ret (M.andV (M.op2 (gEq false) (M.op2 gMod (M.call1 gInt1 (M.op2 gSub (M.var 0) (M.con (.int 1)))) (M.call1 gLen (M.op2 gIx (M.var 2) (M.con (.int 1))))) (M.con (.int 0))) (M.op2 (gEq false) (M.call 2 F_turned_element (M.consA (M.var 0) (M.consA (M.op2 gIx (M.var 2) (M.con (.int 0))) (M.pure [])))) (M.var 1)))) M.nx)))))))
def F__law_element_right : FM := M.fn 2 6 B__law_element_right
theorem ok__law_element_right {P : Program} {w : World} {K : PySem.W.Frag} {mg : Str → Option Value} {base : Heap} {f : Addr} {fd : FuncData} (T : Txt K mg) (c__law_powers : Cal P w K mg base 1 "_law_powers" ["field", "element"] F__law_powers) (c__law_same : Cal P w K mg base 11 "_law_same" ["found", "due"] (F__law_same 10)) (c_element_powers : Cal P w K mg base 4 "element_powers" ["field", "element"] F_element_powers) (c_turned_element : Cal P w K mg base 4 "turned_element" ["field", "element"] F_turned_element) (n_element_powers_element_field : CalN P w K mg base 4 "element_powers" ["field", "element"] ["element", "field"] [1, 0] F_element_powers) (n_turned_element_element_field : CalN P w K mg base 4 "turned_element" ["field", "element"] ["element", "field"] [1, 0] F_turned_element) (c__law_apart : CalA P w K mg base 13 "_law_apart" ["thing"] apartF) (F : Fun K "_law_element_right" "_law_element_right" s__law_element_right f fd) : FnOk P w K mg base (L2.CX P w) 14 f fd ["field", "element"] (spM [] mg 2 F__law_element_right) :=
  Fun.okM (k := 13) F sc__law_element_right fun cdv A outer s H E hr => by
    have c := ctx_of (P := P) (w := w) (K := K) (mg := mg) (base := base) (f := f) (cdv := cdv) (outer := outer) (H := H) (E := E) sc__law_element_right hr
    exact (pss_consv (ps_setF c (i := 2) rfl (by first | exact Or.inl rfl | exact Or.inr rfl) (ev_lst (ea_cons (ev_ix c (ev_lc c (ei_range2 T.z_range ev_int ev_var) (own := [("one", 3)]) (blkOk_by (by kernel_rfl)) (fun _ _ _ _ _ => (pg_name (i := 3) (c.blk).nd rfl (by first | exact Or.inl rfl | exact Or.inr rfl))) (asg_flat asg_name) (by decide) (fun _ _ _ _ _ => (ets_one (et_eq (c.blk) (ev_mod (ev_int1 T.z_int (ev_mul ev_var ev_var)) ev_var) ev_int))) (fun _ _ _ _ _ => ev_var)) ev_int) (ea_cons (ev_cal c hr c__law_powers (ea_cons ev_var (ea_cons ev_var ea_nil))) ea_nil))))
    (pss_consv (ps_setv c (i := 4) rfl (by first | exact Or.inl rfl | exact Or.inr rfl) (ev_lst (ea_cons (ev_cal c hr c_turned_element (ea_cons ev_var (ea_cons ev_var ea_nil))) (ea_cons (ev_cal c hr c_element_powers (ea_cons ev_var (ea_cons ev_var ea_nil))) ea_nil))))
    (pss_consv (ps_dropv (ev_meth lop_ext (fun h h2 => pe_bm PySem.F.plainAttrs_list PySem.F.slot_list_extend PySem.F.type_list_extend mt_extend h h2) ev_var (ea_cons (ev_lst (ea_cons (ev_calN c hr n_turned_element_element_field (ek_cons ev_var (ek_cons ev_var ek_nil))) (ea_cons (ev_calN c hr n_element_powers_element_field (ek_cons ev_var (ek_cons ev_var ek_nil))) ea_nil))) ea_nil)))
    (pss_consv (ps_ifv (et_w (ew_or (et_not (et_truth (ev_box (ev_cal c hr c__law_same (ea_cons ev_var (ea_cons (ev_mul ev_var ev_int) ea_nil)))))) (ew_or1 (et_not (et_truth (ev_eat c hr c__law_apart (ev_selL (pps_cons (pp_ix (k := 1) (pp_var (i := 4))) (pps_cons (pp_ix (k := 3) (pp_var (i := 4))) pps_nil))))))))) (pss_consv (ps_retv ev_bl)
    pss_nilv) pss_nilv)
    (pss_consv (ps_setF c (i := 5) rfl (by first | exact Or.inl rfl | exact Or.inr rfl) (ev_cal c hr c_element_powers (ea_cons ev_var (ea_cons (ev_ix c ev_var ev_int) ea_nil))))
    (pss_consv (ps_ifv (et_not (et_truth (ev_box (ev_cal c hr c__law_same (ea_cons ev_var (ea_cons (ev_add (ev_lst (ea_cons ev_int ea_nil)) (ev_rev (ev_slice (ev_ix c ev_var ev_int) (eo_some ev_int) eo_none))) ea_nil)))))) (pss_consv (ps_retv ev_bl)
    pss_nilv) pss_nilv)
    (pss_consv (ps_retv (ev_and (ev_eq c (ev_mod (ev_int1 T.z_int (ev_sub ev_var ev_int)) (ev_len T.z_len (ev_ix c ev_var ev_int))) ev_int) (ev_one (ev_eq c (ev_cal c hr c_turned_element (ea_cons ev_var (ea_cons (ev_ix c ev_var ev_int) ea_nil))) ev_var))))
    pss_nilv)))))))
abbrev s__law_field_right : Stmt := top 41
theorem sc__law_field_right : FnScope ["stream", "field", "some", "k", "element", "due", "one", "odd", "found"] ["stream", "field"] (defScope s__law_field_right) := ⟨rfl, rfl, rfl, by decide +kernel, rfl, by decide +kernel, by decide +kernel⟩
def B__law_field_right : M Fl := (M.seq (M.asg (M.op2 gAdd (M.lst (M.consA (M.con (.int 1)) (M.consA (M.op2 gSub (M.var 1) (M.con (.int 1))) (M.pure [])))) (M.lc (M.rg1 (M.con (.int 4))) (aFlat (aName 3)) [3] (M.pure true) (M.op2 gAdd (M.con (.int 1)) (M.call 2 F__law_draw (M.consA (M.var 0) (M.consA (M.op2 gSub (M.var 1) (M.con (.int 1))) (M.pure []))))))) (aFlat (aName 2))) (M.seq (M.ifS (M.notB (M.tst (M.call1 gAll (M.lc (M.srcD (M.var 2)) (aFlat (aName 4)) [4] (M.pure true) (M.box (M.call 2 F__law_element_right (M.consA (M.var 1) (M.consA (M.var 4) (M.pure []))))))))) (M.seq (M.ret (M.con (.bl false))) M.nx) M.nx) (M.seq (M.asg (M.op2 gIx (M.lc (M.rg2 (M.con (.int 1)) (M.var 1)) (aFlat (aName 6)) [6] (M.op2b (gEq false) (M.call1 gLen (M.call 2 F__law_powers (M.consA (M.var 1) (M.consA (M.var 6) (M.pure []))))) (M.op2 gSub (M.var 1) (M.con (.int 1)))) (M.var 6)) (M.con (.int 0))) (aFlat (aName 5))) (M.seq (M.ifS (M.notB (M.tst (M.box (M.call 2 (F__law_same 10) (M.consA (M.lst (M.consA (M.call 1 F_field_root (M.consA (M.var 1) (M.pure []))) (M.consA (M.callN 1 [0] F_field_root (M.consA (M.var 1) (M.pure []))) (M.pure [])))) (M.consA (M.lst (M.consA (M.var 5) (M.consA (M.var 5) (M.pure [])))) (M.pure []))))))) (M.seq (M.ret (M.con (.bl false))) M.nx) M.nx) (M.seq (M.forS (M.srcD (M.tup (M.consA (M.con .non) (M.consA (M.con (.int 0)) (M.consA (M.neg (M.con (.int 1))) (M.consA (M.var 1) (M.consA (M.op2 gAdd (M.var 1) (M.con (.int 1))) (M.consA (M.con (.bl true)) (M.consA (M.con (.str "1")) (M.consA (M.lst (M.consA (M.con (.int 1)) (M.pure []))) (M.consA M.dnew (M.pure [])))))))))))) (aFlat (aName 7)) (M.seq (M.asg (M.lst (M.consA (M.met "told" metTag [1, 7] (M.call 2 F_turned_element (M.consA (M.var 1) (M.consA (M.call 1 (F__law_copied 10) (M.consA (M.var 7) (M.pure []))) (M.pure []))))) (M.pure []))) (aFlat (aName 8))) (M.seq (M.drop (M.meth (M.var 8) (M.consA (M.met "told" metTag [1, 7] (M.call 2 F_element_powers (M.consA (M.var 1) (M.consA (M.call 1 (F__law_copied 10) (M.consA (M.var 7) (M.pure []))) (M.pure []))))) (M.pure [])) kApp)) (M.seq (M.ifS (M.notB (M.tst (M.box (M.call 2 (F__law_same 10) (M.consA (M.var 8) (M.consA (M.op2 gMul (M.flt (M.lst (M.consA (M.tup (M.consA (M.con (.str "element")) (M.consA (M.var 7) (M.pure [])))) (M.pure [])))) (M.con (.int 2))) (M.pure []))))))) (M.seq (M.ret (M.con (.bl false))) M.nx) M.nx) M.nx)))) (M.seq (M.ret (M.con (.bl true))) M.nx))))))
def F__law_field_right : FM := M.fn 2 9 B__law_field_right
theorem ok__law_field_right {P : Program} {w : World} {K : PySem.W.Frag} {mg : Str → Option Value} {base : Heap} {f cc Pt g : Addr} {oc : Value} {od : Option Addr} {kV doc pm : Value} {an : Option Addr} {ct : Value} {osl : Array (Option Value)} {fdm : FuncData} {hsm : List (Addr × Str)} (T : Txt K mg) (c__law_copied : Cal P w K mg base 11 "_law_copied" ["thing"] (F__law_copied 10)) (c__law_draw : Cal P w K mg base 1 "_law_draw" ["stream", "many"] F__law_draw) (c__law_element_right : Cal P w K mg base 14 "_law_element_right" ["field", "element"] F__law_element_right) (c__law_powers : Cal P w K mg base 1 "_law_powers" ["field", "element"] F__law_powers) (c__law_same : Cal P w K mg base 11 "_law_same" ["found", "due"] (F__law_same 10)) (c_element_powers : Cal P w K mg base 4 "element_powers" ["field", "element"] F_element_powers) (c_field_root : Cal P w K mg base 5 "field_root" ["field"] F_field_root) (c_turned_element : Cal P w K mg base 4 "turned_element" ["field", "element"] F_turned_element) (n_field_root_field : CalN P w K mg base 5 "field_root" ["field"] ["field"] [0] F_field_root) (Fm : Fun K "_law_met" "_law_met" s__law_met g fdm) (hbm : L2.Binds K fdm ["ask"] []) (hmm : mg "_law_met" = some (.ref g))
    (hGm : ∀ X : Cx, X.K = K → X.mg = mg → ∀ cdv q, LamX.GivesTo X ["ask", "e"] "_law_met" (defScope s__law_met) g cdv (defBody s__law_met) "ask" q (TTmet X.K X.mg "told" hsm)) (hxm : ∀ c tag, metTag c = some tag → ∀ C, mg c = some (.ref C) → ∃ fI nm qn, PySem.MwLow.LowTxt K mg nm qn C fI ∧ metSel K (.ref C) tag hsm) (TB : LamX.TabB base mg cc Pt)
    (l : K.lookup f = some ⟨oc, od, .func (PySem.W.fnOf "_law_field_right" "_law_field_right" (defArgs s__law_field_right) (defBody s__law_field_right) (defScope s__law_field_right) .none kV doc pm an (.ref cc) ct), osl⟩) (hcd : PySem.W.codeIn K (.ref cc) "_law_field_right" = true) : FnOk P w K mg base (L2.CX P w) 15 f (PySem.W.fnOf "_law_field_right" "_law_field_right" (defArgs s__law_field_right) (defBody s__law_field_right) (defScope s__law_field_right) .none kV doc pm an (.ref cc) ct) ["stream", "field"] (spM [(Pt, qlam "_law_field_right")] mg 2 F__law_field_right) :=
  Fun.okMT (k := 14) l hcd sc__law_field_right fun A outer s H E hr => by
    have c := ctx_of (P := P) (w := w) (K := K) (mg := mg) (base := base) (f := f) (cdv := .ref cc) (outer := outer) (H := H) (E := E) sc__law_field_right hr
    exact (pssT_cons (psT_of (ps_setF c (i := 2) rfl (by first | exact Or.inl rfl | exact Or.inr rfl) (ev_add (ev_lst (ea_cons ev_int (ea_cons (ev_sub ev_var ev_int) ea_nil))) (ev_lc c (ei_range1 T.z_range ev_int) (own := [("k", 3)]) (blkOk_by (by kernel_rfl)) (fun _ _ _ _ _ => (pg_name (i := 3) (c.blk).nd rfl (by first | exact Or.inl rfl | exact Or.inr rfl))) (asg_flat asg_name) (by decide) (fun _ _ _ _ _ => ets_nil) (fun _ _ _ _ _ => (ev_add ev_int (ev_cal (c.blk) hr c__law_draw (ea_cons ev_var (ea_cons (ev_sub ev_var ev_int) ea_nil)))))))))
    (pssT_cons (psT_of (ps_ifv (et_not (et_truth (ev_all c T.z_all (ev_lc c (ei_seq ev_var) (own := [("element", 4)]) (blkOk_by (by kernel_rfl)) (fun _ _ _ _ _ => (pg_name (i := 4) (c.blk).nd rfl (by first | exact Or.inl rfl | exact Or.inr rfl))) (asg_flat asg_name) (by decide) (fun _ _ _ _ _ => ets_nil) (fun _ _ _ _ _ => (ev_box (ev_cal (c.blk) hr c__law_element_right (ea_cons ev_var (ea_cons ev_var ea_nil))))))))) (pss_consv (ps_retv ev_bl)
    pss_nilv) pss_nilv))
    (pssT_cons (psT_of (ps_setF c (i := 5) rfl (by first | exact Or.inl rfl | exact Or.inr rfl) (ev_ix c (ev_lc c (ei_range2 T.z_range ev_int ev_var) (own := [("one", 6)]) (blkOk_by (by kernel_rfl)) (fun _ _ _ _ _ => (pg_name (i := 6) (c.blk).nd rfl (by first | exact Or.inl rfl | exact Or.inr rfl))) (asg_flat asg_name) (by decide) (fun _ _ _ _ _ => (ets_one (et_eq (c.blk) (ev_len T.z_len (ev_cal (c.blk) hr c__law_powers (ea_cons ev_var (ea_cons ev_var ea_nil)))) (ev_sub ev_var ev_int)))) (fun _ _ _ _ _ => ev_var)) ev_int)))
    (pssT_cons (psT_of (ps_ifv (et_not (et_truth (ev_box (ev_cal c hr c__law_same (ea_cons (ev_lst (ea_cons (ev_cal c hr c_field_root (ea_cons ev_var ea_nil)) (ea_cons (ev_calN c hr n_field_root_field (ek_cons ev_var ek_nil)) ea_nil))) (ea_cons (ev_lst (ea_cons ev_var (ea_cons ev_var ea_nil))) ea_nil)))))) (pss_consv (ps_retv ev_bl)
    pss_nilv) pss_nilv))
    (pssT_cons (psT_for c (passes_of rfl) (ei_seq (ev_tup (ea_cons ev_non (ea_cons ev_int (ea_cons (ev_neg ev_int) (ea_cons ev_var (ea_cons (ev_add ev_var ev_int) (ea_cons ev_bl (ea_cons ev_str (ea_cons (ev_lst (ea_cons ev_int ea_nil)) (ea_cons ev_dnew ea_nil))))))))))) (pg_name (i := 7) c.nd rfl (by first | exact Or.inl rfl | exact Or.inr rfl)) (asg_flat asg_name) (pssT_cons (psT_setF c (i := 8) rfl (by first | exact Or.inl rfl | exact Or.inr rfl) (evT_lst (eaT_cons (ev_met (k := 11) (hr.mono (by decide)) Fm hbm hmm sc__law_met (Or.inl rfl) (hGm _ rfl rfl) TB rfl List.mem_cons_self hxm (LamX.lamS_by (by kernel_rfl)) (fun _ _ _ _ _ _ _ hr => (ev_cal (ctx_lam c hr) hr c_turned_element (ea_cons ev_var (ea_cons (ev_cal (ctx_lam c hr) hr c__law_copied (ea_cons ev_var ea_nil)) ea_nil))))) eaT_nil)))
    (pssT_cons (psT_drop (evT_meth lop_app (fun h h2 => pe_bm PySem.F.plainAttrs_list PySem.F.slot_list_append PySem.F.type_list_append mt_append h h2) (evT_of ev_var) (eaT_cons (ev_met (k := 11) (hr.mono (by decide)) Fm hbm hmm sc__law_met (Or.inl rfl) (hGm _ rfl rfl) TB rfl List.mem_cons_self hxm (LamX.lamS_by (by kernel_rfl)) (fun _ _ _ _ _ _ _ hr => (ev_cal (ctx_lam c hr) hr c_element_powers (ea_cons ev_var (ea_cons (ev_cal (ctx_lam c hr) hr c__law_copied (ea_cons ev_var ea_nil)) ea_nil))))) eaT_nil)))
    (pssT_cons (psT_of (ps_ifv (et_not (et_truth (ev_box (ev_cal c hr c__law_same (ea_cons ev_var (ea_cons (ev_mul (ev_flt (ev_lst (ea_cons (ev_tup (ea_cons ev_str (ea_cons ev_var ea_nil))) ea_nil))) ev_int) ea_nil)))))) (pss_consv (ps_retv ev_bl)
    pss_nilv) pss_nilv))
    pssT_nil))))
    (pssT_cons (psT_of (ps_retv ev_bl))
    pssT_nil))))))
abbrev s_law : Stmt := top 42
theorem sc_law : FnScope ["script", "stream", "primes", "one", "part", "field", "odd", "found", "held", "due"] ["script"] (defScope s_law) := ⟨rfl, rfl, rfl, by decide +kernel, rfl, by decide +kernel, by decide +kernel⟩
def B_law : M Fl := (M.seq (M.asg (M.lc (M.rg2 (M.con (.int 2)) (M.con (.int 98))) (aFlat (aName 3)) [3] (M.notB (M.tst (M.call1 gAny (M.lc (M.rg2 (M.con (.int 2)) (M.var 3)) (aFlat (aName 4)) [4] (M.pure true) (M.op2 (gEq false) (M.op2 gMod (M.call1 gInt1 (M.var 3)) (M.var 4)) (M.con (.int 0))))))) (M.var 3)) (aFlat (aName 2))) (M.seq (M.forS (M.srcD (M.op2 gAdd (M.lst (M.consA (M.con (.int 2)) (M.consA (M.con (.int 3)) (M.consA (M.con (.int 97)) (M.pure []))))) (M.slice (M.call 2 F__law_mixed (M.consA (M.var 1) (M.consA (M.var 2) (M.pure [])))) (M.pure none) (M.part (M.con (.int 7)))))) (aFlat (aName 5)) (M.seq (M.ifS (M.notB (M.tst (M.call 2 F__law_field_right (M.consA (M.var 1) (M.consA (M.var 5) (M.pure [])))))) (M.seq (M.ret (M.con (.bl false))) M.nx) M.nx) M.nx)) (M.seq (M.forS (M.srcD (M.lst (M.consA (M.con .non) (M.consA (M.con (.int 0)) (M.consA (M.con (.int 1)) (M.consA (M.con (.int 4)) (M.consA (M.con (.int 9)) (M.consA (M.con (.int 91)) (M.consA (M.con (.int 98)) (M.consA (M.con (.int 101)) (M.consA (M.neg (M.con (.int 3))) (M.consA (M.con (.bl true)) (M.consA (M.con (.str "7")) (M.consA (M.lst (M.consA (M.con (.int 7)) (M.pure []))) (M.consA M.dnew (M.consA (M.con (.int 15)) (M.consA (M.con (.int 49)) (M.consA (M.con (.int 95)) (M.pure []))))))))))))))))))) (aFlat (aName 6)) (M.seq (M.asg (M.lst (M.consA (M.met "told" metTag [6] (M.call 2 F_turned_element (M.consA (M.call 1 (F__law_copied 10) (M.consA (M.var 6) (M.pure []))) (M.consA (M.neg (M.con (.int 1))) (M.pure []))))) (M.pure []))) (aFlat (aName 7))) (M.seq (M.drop (M.meth (M.var 7) (M.consA (M.met "told" metTag [6] (M.call 2 F_element_powers (M.consA (M.call 1 (F__law_copied 10) (M.consA (M.var 6) (M.pure []))) (M.consA (M.neg (M.con (.int 1))) (M.pure []))))) (M.pure [])) kApp)) (M.seq (M.drop (M.meth (M.var 7) (M.consA (M.met "told" metTag [6] (M.call 1 F_field_root (M.consA (M.call 1 (F__law_copied 10) (M.consA (M.var 6) (M.pure []))) (M.pure [])))) (M.pure [])) kApp)) (M.seq (M.drop (M.meth (M.var 7) (M.consA (M.met "told" metTag [6] (M.call 3 F_solution_or_bar (M.consA (M.call 1 (F__law_copied 10) (M.consA (M.var 6) (M.pure []))) (M.consA (M.neg (M.con (.int 1))) (M.consA (M.neg (M.con (.int 1))) (M.pure [])))))) (M.pure [])) kApp)) (M.seq (M.drop (M.meth (M.var 7) (M.consA (M.met "told" metTag [6] (M.call 3 F_solutions_count (M.consA (M.call 1 (F__law_copied 10) (M.consA (M.var 6) (M.pure []))) (M.consA (M.neg (M.con (.int 1))) (M.consA (M.neg (M.con (.int 1))) (M.pure [])))))) (M.pure [])) kApp)) (M.seq (M.ifS (M.notB (M.tst (M.box (M.call 2 (F__law_same 10) (M.consA (M.var 7) (M.consA (M.op2 gMul (M.flt (M.lst (M.consA (M.tup (M.consA (M.con (.str "field")) (M.consA (M.var 6) (M.pure [])))) (M.pure [])))) (M.con (.int 5))) (M.pure []))))))) (M.seq (M.ret (M.con (.bl false))) M.nx) M.nx) M.nx))))))) (M.seq (M.asg (M.lst (M.consA (M.con (.str "x")) (M.pure []))) (aFlat (aName 8))) (M.seq (M.keepApp 8 7 (.str "late") (M.metK metTag 8 (M.call 1 F_field_root (M.consA (M.var 8) (M.pure []))))) (M.seq (M.asg (M.lst (M.consA (M.tup (M.consA (M.con (.str "field")) (M.consA (M.lst (M.consA (M.con (.str "x")) (M.consA (M.con (.str "late")) (M.pure [])))) (M.pure [])))) (M.consA (M.con (.int 3)) (M.consA (M.con (.int 4)) (M.consA (M.lst (M.consA (M.con (.int 1)) (M.consA (M.con (.int 2)) (M.consA (M.con (.int 4)) (M.pure []))))) (M.pure [])))))) (aFlat (aName 9))) (M.seq (M.ret (M.box (M.call 2 (F__law_same 10) (M.consA (M.lst (M.consA (M.var 7) (M.consA (M.call 1 F_field_root (M.consA (M.con (.int 7)) (M.pure []))) (M.consA (M.call 2 F_turned_element (M.consA (M.con (.int 7)) (M.consA (M.con (.int 2)) (M.pure [])))) (M.consA (M.call 2 F_element_powers (M.consA (M.con (.int 7)) (M.consA (M.con (.int 2)) (M.pure [])))) (M.pure [])))))) (M.consA (M.var 9) (M.pure [])))))) M.nx)))))))
theorem ok_law {P : Program} {w : World} {K : PySem.W.Frag} {mg : Str → Option Value} {base : Heap} {f cc Pt g : Addr} {oc : Value} {od : Option Addr} {kV doc pm : Value} {an : Option Addr} {ct : Value} {osl : Array (Option Value)} {fdm : FuncData} {hsm : List (Addr × Str)} (T : Txt K mg) (c__law_copied : Cal P w K mg base 11 "_law_copied" ["thing"] (F__law_copied 10)) (c__law_mixed : Cal P w K mg base 2 "_law_mixed" ["stream", "some"] F__law_mixed) (c__law_same : Cal P w K mg base 11 "_law_same" ["found", "due"] (F__law_same 10)) (c_element_powers : Cal P w K mg base 4 "element_powers" ["field", "element"] F_element_powers) (c_field_root : Cal P w K mg base 5 "field_root" ["field"] F_field_root) (c_solution_or_bar : Cal P w K mg base 6 "solution_or_bar" ["field", "rows", "sums"] F_solution_or_bar) (c_solutions_count : Cal P w K mg base 6 "solutions_count" ["field", "rows", "sums"] F_solutions_count) (c_turned_element : Cal P w K mg base 4 "turned_element" ["field", "element"] F_turned_element) {Pt__law_field_right : Addr} (t__law_field_right : CalT P w K mg base 15 "_law_field_right" ["stream", "field"] [(Pt__law_field_right, qlam "_law_field_right")] F__law_field_right) {f2 : Addr} {fd2 : FuncData} (hf2 : FnOk P w K mg base (L2.CX P w) 1 f2 fd2 ["script"] (spStart K)) (hm2 : mg "_law_start" = some (.ref f2)) (hk2 : PySem.W.keepIn K (.ref f2) = true) (hb2 : L2.Binds K fd2 ["script"] []) (Fm : Fun K "_law_met" "_law_met" s__law_met g fdm) (hbm : L2.Binds K fdm ["ask"] []) (hmm : mg "_law_met" = some (.ref g))
    (hGm : ∀ X : Cx, X.K = K → X.mg = mg → ∀ cdv q, LamX.GivesTo X ["ask", "e"] "_law_met" (defScope s__law_met) g cdv (defBody s__law_met) "ask" q (TTmet X.K X.mg "told" hsm)) (hxm : ∀ c tag, metTag c = some tag → ∀ C, mg c = some (.ref C) → ∃ fI nm qn, PySem.MwLow.LowTxt K mg nm qn C fI ∧ metSel K (.ref C) tag hsm) (TB : LamX.TabB base mg cc Pt)
    (l : K.lookup f = some ⟨oc, od, .func (PySem.W.fnOf "law" "law" (defArgs s_law) (defBody s_law) (defScope s_law) .none kV doc pm an (.ref cc) ct), osl⟩) (hcd : PySem.W.codeIn K (.ref cc) "law" = true)
    (hndup : ([(Pt, qlam "law"), (Pt__law_field_right, qlam "_law_field_right")].map (·.1)).Nodup) (hlaw : ∀ ns : List Int, ns.length ≤ 63 → ∃ e, B_law (envL 8 ns) = .ok (.rt (.val (.bl true)), e)) : FnOk P w K mg base (L2.CX P w) 16 f (PySem.W.fnOf "law" "law" (defArgs s_law) (defBody s_law) (defScope s_law) .none kV doc pm an (.ref cc) ct) ["script"] (spLaw [(Pt, qlam "law"), (Pt__law_field_right, qlam "_law_field_right")] K) :=
  law_okL (k := 15) (n := 8) (N := ["primes", "one", "part", "field", "odd", "found", "held", "due"]) hndup l hcd sc_law rfl rfl hf2 (by decide) hm2 hk2 hb2
    (fun A outer s H E ta h => ps_set (i := 1) sc_law.nd rfl (by first | exact Or.inl rfl | exact Or.inr rfl) h)
    (fun A outer s H E hr => by
      have c := ctx_of (P := P) (w := w) (K := K) (mg := mg) (base := base) (f := f) (cdv := .ref cc) (outer := outer) (H := H) (E := E) sc_law hr
      exact PE.imp (pe_call (E := E) hf2 (hr.mono (by decide)) rfl hm2 hk2 hb2 .nil c.px (pa_cons (pe_var (i := 0) rfl (by first | exact Or.inl rfl | exact Or.inr (Or.inl rfl) | exact Or.inr (Or.inr rfl))) pa_nil)) fun σ H Q h => h)
    (fun A outer s H E hr => by
      have c := ctx_of (P := P) (w := w) (K := K) (mg := mg) (base := base) (f := f) (cdv := .ref cc) (outer := outer) (H := H) (E := E) sc_law hr
      exact (pssT_cons (psT_of (ps_setLcv c (i := 2) rfl (sw_true rfl rfl rfl rfl) (ei_range2 T.z_range ev_int ev_int) (own := [("one", 3)]) (blkOk_by (by kernel_rfl)) (fun _ _ _ _ _ => (pg_name (i := 3) (c.blk).nd rfl (by first | exact Or.inl rfl | exact Or.inr rfl))) (asg_flat asg_name) (by decide) (fun _ _ _ _ _ => (ets_one (et_not (et_truth (ev_any (c.blk) T.z_any (ev_lc (c.blk) (ei_range2 T.z_range ev_int ev_var) (own := [("part", 4)]) (blkOk_by (by kernel_rfl)) (fun _ _ _ _ _ => (pg_name (i := 4) ((c.blk).blk).nd rfl (by first | exact Or.inl rfl | exact Or.inr rfl))) (asg_flat asg_name) (by decide) (fun _ _ _ _ _ => ets_nil) (fun _ _ _ _ _ => (ev_eq ((c.blk).blk) (ev_mod (ev_int1 T.z_int ev_var) ev_var) ev_int)))))))) (fun _ _ _ _ _ => ev_var)))
    (pssT_cons (psT_for c (passes_of rfl) (ei_seq (ev_add (ev_lst (ea_cons ev_int (ea_cons ev_int (ea_cons ev_int ea_nil)))) (ev_slice (ev_cal c hr c__law_mixed (ea_cons ev_var (ea_cons ev_var ea_nil))) eo_none (eo_some ev_int)))) (pg_name (i := 5) c.nd rfl (by first | exact Or.inl rfl | exact Or.inr rfl)) (asg_flat asg_name) (pssT_cons (psT_ifT (etT_not (etT_truth (evT_cal c hr t__law_field_right (by simp) (eaT_cons (evT_of ev_var) (eaT_cons (evT_of ev_var) eaT_nil))))) (pssT_cons (psT_of (ps_retv ev_bl))
    pssT_nil) pssT_nil)
    pssT_nil))
    (pssT_cons (psT_for c (passes_of rfl) (ei_seq (ev_lst (ea_cons ev_non (ea_cons ev_int (ea_cons ev_int (ea_cons ev_int (ea_cons ev_int (ea_cons ev_int (ea_cons ev_int (ea_cons ev_int (ea_cons (ev_neg ev_int) (ea_cons ev_bl (ea_cons ev_str (ea_cons (ev_lst (ea_cons ev_int ea_nil)) (ea_cons ev_dnew (ea_cons ev_int (ea_cons ev_int (ea_cons ev_int ea_nil)))))))))))))))))) (pg_name (i := 6) c.nd rfl (by first | exact Or.inl rfl | exact Or.inr rfl)) (asg_flat asg_name) (pssT_cons (psT_setF c (i := 7) rfl (by first | exact Or.inl rfl | exact Or.inr rfl) (evT_lst (eaT_cons (ev_met (k := 11) (hr.mono (by decide)) Fm hbm hmm sc__law_met (Or.inl rfl) (hGm _ rfl rfl) TB rfl List.mem_cons_self hxm (LamX.lamS_by (by kernel_rfl)) (fun _ _ _ _ _ _ _ hr => (ev_cal (ctx_lam c hr) hr c_turned_element (ea_cons (ev_cal (ctx_lam c hr) hr c__law_copied (ea_cons ev_var ea_nil)) (ea_cons (ev_neg ev_int) ea_nil))))) eaT_nil)))
    (pssT_cons (psT_drop (evT_meth lop_app (fun h h2 => pe_bm PySem.F.plainAttrs_list PySem.F.slot_list_append PySem.F.type_list_append mt_append h h2) (evT_of ev_var) (eaT_cons (ev_met (k := 11) (hr.mono (by decide)) Fm hbm hmm sc__law_met (Or.inl rfl) (hGm _ rfl rfl) TB rfl List.mem_cons_self hxm (LamX.lamS_by (by kernel_rfl)) (fun _ _ _ _ _ _ _ hr => (ev_cal (ctx_lam c hr) hr c_element_powers (ea_cons (ev_cal (ctx_lam c hr) hr c__law_copied (ea_cons ev_var ea_nil)) (ea_cons (ev_neg ev_int) ea_nil))))) eaT_nil)))
    (pssT_cons (psT_drop (evT_meth lop_app (fun h h2 => pe_bm PySem.F.plainAttrs_list PySem.F.slot_list_append PySem.F.type_list_append mt_append h h2) (evT_of ev_var) (eaT_cons (ev_met (k := 11) (hr.mono (by decide)) Fm hbm hmm sc__law_met (Or.inl rfl) (hGm _ rfl rfl) TB rfl List.mem_cons_self hxm (LamX.lamS_by (by kernel_rfl)) (fun _ _ _ _ _ _ _ hr => (ev_cal (ctx_lam c hr) hr c_field_root (ea_cons (ev_cal (ctx_lam c hr) hr c__law_copied (ea_cons ev_var ea_nil)) ea_nil)))) eaT_nil)))
    (pssT_cons (psT_drop (evT_meth lop_app (fun h h2 => pe_bm PySem.F.plainAttrs_list PySem.F.slot_list_append PySem.F.type_list_append mt_append h h2) (evT_of ev_var) (eaT_cons (ev_met (k := 11) (hr.mono (by decide)) Fm hbm hmm sc__law_met (Or.inl rfl) (hGm _ rfl rfl) TB rfl List.mem_cons_self hxm (LamX.lamS_by (by kernel_rfl)) (fun _ _ _ _ _ _ _ hr => (ev_cal (ctx_lam c hr) hr c_solution_or_bar (ea_cons (ev_cal (ctx_lam c hr) hr c__law_copied (ea_cons ev_var ea_nil)) (ea_cons (ev_neg ev_int) (ea_cons (ev_neg ev_int) ea_nil)))))) eaT_nil)))
    (pssT_cons (psT_drop (evT_meth lop_app (fun h h2 => pe_bm PySem.F.plainAttrs_list PySem.F.slot_list_append PySem.F.type_list_append mt_append h h2) (evT_of ev_var) (eaT_cons (ev_met (k := 11) (hr.mono (by decide)) Fm hbm hmm sc__law_met (Or.inl rfl) (hGm _ rfl rfl) TB rfl List.mem_cons_self hxm (LamX.lamS_by (by kernel_rfl)) (fun _ _ _ _ _ _ _ hr => (ev_cal (ctx_lam c hr) hr c_solutions_count (ea_cons (ev_cal (ctx_lam c hr) hr c__law_copied (ea_cons ev_var ea_nil)) (ea_cons (ev_neg ev_int) (ea_cons (ev_neg ev_int) ea_nil)))))) eaT_nil)))
    (pssT_cons (psT_of (ps_ifv (et_not (et_truth (ev_box (ev_cal c hr c__law_same (ea_cons ev_var (ea_cons (ev_mul (ev_flt (ev_lst (ea_cons (ev_tup (ea_cons ev_str (ea_cons ev_var ea_nil))) ea_nil))) ev_int) ea_nil)))))) (pss_consv (ps_retv ev_bl)
    pss_nilv) pss_nilv))
    pssT_nil)))))))
    (pssT_cons (psT_of (ps_setF c (i := 8) rfl (by first | exact Or.inl rfl | exact Or.inr rfl) (ev_lst (ea_cons ev_str ea_nil))))
    (psT_keepApp c (i := 8) (j := 7) rfl (by first | exact Or.inl rfl | exact Or.inr rfl) (ev_metK (i := 8) (k := 11) (told := "told") (hr.mono (by decide)) Fm hbm hmm sc__law_met (Or.inl rfl) (hGm _ rfl rfl) TB rfl List.mem_cons_self hxm (LamX.lamS_by (by kernel_rfl)) (fun _ _ _ _ _ _ _ hr => (ev_cal (ctx_lam c hr) hr c_field_root (ea_cons ev_var ea_nil)))) (pe_var (i := 8) rfl (by first | exact Or.inl rfl | exact Or.inr (Or.inl rfl) | exact Or.inr (Or.inr rfl))) (pssT_cons (psT_of (ps_setF c (i := 9) rfl (by first | exact Or.inl rfl | exact Or.inr rfl) (ev_lst (ea_cons (ev_tup (ea_cons ev_str (ea_cons (ev_lst (ea_cons ev_str (ea_cons ev_str ea_nil))) ea_nil))) (ea_cons ev_int (ea_cons ev_int (ea_cons (ev_lst (ea_cons ev_int (ea_cons ev_int (ea_cons ev_int ea_nil)))) ea_nil)))))))
    (pssT_cons (psT_of (ps_retv (ev_box (ev_cal c hr c__law_same (ea_cons (ev_lst (ea_cons ev_var (ea_cons (ev_cal c hr c_field_root (ea_cons ev_int ea_nil)) (ea_cons (ev_cal c hr c_turned_element (ea_cons ev_int (ea_cons ev_int ea_nil))) (ea_cons (ev_cal c hr c_element_powers (ea_cons ev_int (ea_cons ev_int ea_nil))) ea_nil))))) (ea_cons ev_var ea_nil))))))
    pssT_nil)))))))) hlaw
end Kk03
set_option maxHeartbeats 400000
namespace Kk03
open PySem L2 Mw
abbrev dTest : M Bool := M.andB (M.op2b (gEq false) (M.stGet 0 1) (M.con (.int 0))) (M.stMore 0)
abbrev dBody : M Fl := (M.seq (M.asg (M.stPop 0) (aFlat (aName 2))) (M.seq (M.stSet 0 3 (M.op2 gMod (M.call1 gInt1 (M.op2 gAdd (M.op2 gAdd (M.op2 gMul (M.stGet 0 3) (M.con (.int 72103))) (M.var 2)) (M.con (.int 43)))) (M.con (.int 2147483647)))) (M.seq (M.stSet 0 1 (M.ite (M.op2b gGe (M.var 2) (M.op2 gPow (M.con (.int 10)) (M.con (.int 18)))) (M.var 2) (M.con (.int 0)))) M.nx)))
theorem s_stSet {i : Nat} {k v : Int} {f : M Mw.T} {e e1 : EnvS} {j : Option Nat} {s s' : Strm} (h : f e = .ok (iT v, e1)) (h1 : e1[i]? = some (.st j s)) (h2 : Mw.stSet s v k = some s') : M.stSet i k f e = .ok (.nx, e1.set i (.st j s')) :=
  s_bind h (by simp only [h1, h2])
theorem d_body {c l n m : Int} {r : List Int} {a b d : Sl} {j : Option Nat} {x : Sl} : ∃ l' m', 0 ≤ l' ∧ 0 ≤ m' ∧ m' < 2147483647 ∧
    dBody [.st j ⟨c :: r, l, n, m⟩, a, x, b, d] = .ok (.nx, [.st j ⟨r, l', n, m'⟩, a, .o (vI c), b, d]) := by
  have pw : ∀ e : EnvS, (M.op2 gPow (M.con (.int 10)) (M.con (.int 18))) e = .ok (iT (10 ^ 18), e) := fun e => s_op2 rfl rfl (g_pow (by decide) (by decide) (by decide))
  have hm : (M.op2 gMod (M.call1 gInt1 (M.op2 gAdd (M.op2 gAdd (M.op2 gMul (M.stGet 0 3) (M.con (.int 72103))) (M.var 2)) (M.con (.int 43)))) (M.con (.int 2147483647))) [.st j ⟨r, l, n, m⟩, a, .o (vI c), b, d] = .ok (iT ((m * 72103 + c + 43) % 2147483647), [.st j ⟨r, l, n, m⟩, a, .o (vI c), b, d]) :=
    s_op2 (s_call1 (s_op2 (s_op2 (s_op2 rfl rfl (g_mulR (by decide))) rfl g_add) rfl g_add) g_int1) rfl (g_mod (by decide))
  refine ⟨if 10 ^ 18 ≤ c then c else 0, (m * 72103 + c + 43) % 2147483647, ?_, Int.emod_nonneg _ (by decide), Int.emod_lt_of_pos _ (by decide), ?_⟩
  · split <;> omega
  refine s_seq (e1 := [.st j ⟨r, l, n, m⟩, a, .o (vI c), b, d]) rfl (s_seq (s_stSet hm rfl rfl) (s_seq (e1 := [.st j ⟨r, if 10 ^ 18 ≤ c then c else 0, n, (m * 72103 + c + 43) % 2147483647⟩, a, .o (vI c), b, d]) ?_ rfl))
  have hi : (M.ite (M.op2b gGe (M.var 2) (M.op2 gPow (M.con (.int 10)) (M.con (.int 18)))) (M.var 2) (M.con (.int 0))) [.st j ⟨r, l, n, (m * 72103 + c + 43) % 2147483647⟩, a, .o (vI c), b, d] = .ok (iT (if 10 ^ 18 ≤ c then c else 0), [.st j ⟨r, l, n, (m * 72103 + c + 43) % 2147483647⟩, a, .o (vI c), b, d]) := by
    by_cases hc : (10 : Int) ^ 18 ≤ c
    · rw [if_pos hc]
      exact s_ite1 (s_op2b rfl (pw _) (g_ge.trans (by rw [decide_eq_true hc]))) rfl
    · rw [if_neg hc]
      exact s_ite0 (s_op2b rfl (pw _) (g_ge.trans (by rw [decide_eq_false hc]))) rfl
  exact s_stSet hi rfl rfl
theorem d_while {a b d : Sl} {j : Option Nat} {n : Int} : ∀ {cells : List Int} {l m : Int} {x : Sl} {q : Nat}, cells.length < q → 0 ≤ l → 0 ≤ m → m < 2147483647 → ∃ c' l' m' x', c'.length ≤ cells.length ∧ 0 ≤ l' ∧ 0 ≤ m' ∧ m' < 2147483647 ∧
    M.whileN dTest dBody q [.st j ⟨cells, l, n, m⟩, a, x, b, d] = .ok (.nx, [.st j ⟨c', l', n, m'⟩, a, x', b, d])
  | cells, l, m, x, 0, hq, _, _, _ => by omega
  | cells, l, m, x, q + 1, hq, h0, h1, h2 => by
    by_cases hl : l = 0
    · cases cells with
      | nil => exact ⟨[], l, m, x, Nat.le_refl _, h0, h1, h2, s_while0 (by subst hl; rfl)⟩
      | cons c r =>
        obtain ⟨l1, m1, k0, k1, k2, k3⟩ := d_body (c := c) (l := l) (n := n) (m := m) (r := r) (a := a) (b := b) (d := d) (j := j) (x := x)
        obtain ⟨c', l', m', x', i1, i2, i3, i4, i5⟩ := d_while (cells := r) (l := l1) (m := m1) (x := .o (vI c)) (q := q) (by simp at hq; omega) k0 k1 k2
        exact ⟨c', l', m', x', by simp; omega, i2, i3, i4, s_while1 (by subst hl; rfl) k3 i5⟩
    · refine ⟨cells, l, m, x, Nat.le_refl _, h0, h1, h2, s_while0 (s_and0 ?_)⟩
      exact s_op2b rfl rfl (g_eq.trans (by rw [beq_false_of_ne hl]))
theorem f_draw {s : Strm} {k many : Int} (g : Good k s) (hk : k ≤ 1000000000) (h1 : 0 < many) (h2 : many < 1073741824) : ∃ r s', F__law_draw [.st (some 0) s, .p 1 (.int many)] = .ok (vI r, [.st (some 0) s', .no]) ∧ 0 ≤ r ∧ r < many ∧ Good (k + 1) s' := by
  obtain ⟨cells, l, n, m⟩ := s
  obtain ⟨g1, g2, g3, g4, g5, g6⟩ := g
  simp only at g1 g2 g3 g4 g5 g6
  obtain ⟨c', l', m', x', i1, i2, i3, i4, i5⟩ := d_while (a := .p 1 (.int many)) (b := .no) (d := .no) (j := some 0) (n := n + 1) (cells := cells) (l := l) (m := m) (x := .no) (q := 1000) (by omega) g1 g2 g3
  have st1 : M.stSet 0 2 (M.op2 gAdd (M.stGet 0 2) (M.con (.int 1))) [.st (some 0) ⟨cells, l, n, m⟩, .p 1 (.int many), .no, .no, .no] = .ok (.nx, [.st (some 0) ⟨cells, l, n + 1, m⟩, .p 1 (.int many), .no, .no, .no]) := rfl
  by_cases hl : 0 < l'
  · refine ⟨l' % many, ⟨c', l' / many, n + 1, m'⟩, ?_, Int.emod_nonneg _ (by omega), Int.emod_lt_of_pos _ h1, ⟨Int.ediv_nonneg i2 (by omega), i3, i4, by simp only; omega, by simp only; omega, by simp only; omega⟩⟩
    refine s_fn (e := [.st (some 0) ⟨c', l' / many, n + 1, m'⟩, .p 1 (.int many), x', .o (vI (l' % many)), .no]) ?_
    have t1 : M.op2b gGt (M.stGet 0 1) (M.con (.int 0)) [.st (some 0) ⟨c', l', n + 1, m'⟩, .p 1 (.int many), x', .no, .no] = .ok (true, [.st (some 0) ⟨c', l', n + 1, m'⟩, .p 1 (.int many), x', .no, .no]) := s_op2b rfl rfl (g_gt.trans (by rw [decide_eq_true hl]))
    have t2 : (M.op2 gMod (M.call1 gInt1 (M.stGet 0 1)) (M.var 1)) [.st (some 0) ⟨c', l', n + 1, m'⟩, .p 1 (.int many), x', .no, .no] = .ok (iT (l' % many), [.st (some 0) ⟨c', l', n + 1, m'⟩, .p 1 (.int many), x', .no, .no]) := s_op2 (s_call1 rfl g_int1) rfl (g_mod h1)
    have t3 : (M.op2 gFdiv (M.stGet 0 1) (M.var 1)) [.st (some 0) ⟨c', l', n + 1, m'⟩, .p 1 (.int many), x', .o (vI (l' % many)), .no] = .ok (iT (l' / many), [.st (some 0) ⟨c', l', n + 1, m'⟩, .p 1 (.int many), x', .o (vI (l' % many)), .no]) := s_op2 rfl rfl (g_fdiv h1 h2)
    exact s_seq st1 (s_seq i5 (s_rt (s_if1 t1 (s_seq (s_asg t2 rfl rfl) (s_seq (s_stSet t3 rfl rfl) (s_rt (s_ret rfl rfl)))))))
  · have t1 : M.op2b gGt (M.stGet 0 1) (M.con (.int 0)) [.st (some 0) ⟨c', l', n + 1, m'⟩, .p 1 (.int many), x', .no, .no] = .ok (false, [.st (some 0) ⟨c', l', n + 1, m'⟩, .p 1 (.int many), x', .no, .no]) := s_op2b rfl rfl (g_gt.trans (by rw [decide_eq_false hl]))
    have p1 : (m' + 9161 * (n + 1) + 190027).natAbs < 2 ^ 64 := by omega
    obtain ⟨y, hy⟩ : ∃ y, y = (m' + 9161 * (n + 1) + 190027) ^ 5 % 2147483629 := ⟨_, rfl⟩
    have y0 : 0 ≤ y := by rw [hy]; exact Int.emod_nonneg _ (by decide)
    have y1 : y < 2147483629 := by rw [hy]; exact Int.emod_lt_of_pos _ (by decide)
    have p2 : (y * 63029 + 74017 * (n + 1) + 61).natAbs < 2 ^ 64 := by omega
    have t2 : (M.op2 gMod (M.call1 gInt1 (M.op2 gPow (M.op2 gAdd (M.op2 gAdd (M.stGet 0 3) (M.op2 gMul (M.con (.int 9161)) (M.stGet 0 2))) (M.con (.int 190027))) (M.con (.int 5)))) (M.con (.int 2147483629))) [.st (some 0) ⟨c', l', n + 1, m'⟩, .p 1 (.int many), x', .no, .no] = .ok (iT y, [.st (some 0) ⟨c', l', n + 1, m'⟩, .p 1 (.int many), x', .no, .no]) := by
      rw [hy]
      exact s_op2 (s_call1 (s_op2 (s_op2 (s_op2 rfl (s_op2 rfl rfl (g_mulL (by decide))) g_add) rfl g_add) rfl (g_pow (by decide) (by decide) p1)) g_int1) rfl (g_mod (by decide))
    have t3 : (M.op2 gMod (M.op2 gMod (M.call1 gInt1 (M.op2 gPow (M.op2 gAdd (M.op2 gAdd (M.op2 gMul (M.var 4) (M.con (.int 63029))) (M.op2 gMul (M.con (.int 74017)) (M.stGet 0 2))) (M.con (.int 61))) (M.con (.int 3)))) (M.con (.int 1000000007))) (M.var 1)) [.st (some 0) ⟨c', l', n + 1, m'⟩, .p 1 (.int many), x', .no, .o (vI y)] = .ok (iT ((y * 63029 + 74017 * (n + 1) + 61) ^ 3 % 1000000007 % many), [.st (some 0) ⟨c', l', n + 1, m'⟩, .p 1 (.int many), x', .no, .o (vI y)]) :=
      s_op2 (s_op2 (s_call1 (s_op2 (s_op2 (s_op2 (s_op2 rfl rfl (g_mulR (by decide))) (s_op2 rfl rfl (g_mulL (by decide))) g_add) rfl g_add) rfl (g_pow (by decide) (by decide) p2)) g_int1) rfl (g_mod (by decide))) rfl (g_mod h1)
    refine ⟨(y * 63029 + 74017 * (n + 1) + 61) ^ 3 % 1000000007 % many, ⟨c', l', n + 1, m'⟩, ?_, Int.emod_nonneg _ (by omega), Int.emod_lt_of_pos _ h1, ⟨i2, i3, i4, by simp only; omega, by simp only; omega, by simp only; omega⟩⟩
    refine s_fn (e := [.st (some 0) ⟨c', l', n + 1, m'⟩, .p 1 (.int many), x', .no, .o (vI y)]) ?_
    exact s_seq st1 (s_seq i5 (s_seq (s_if0 t1 rfl) (s_seq (s_asg t2 rfl rfl) (s_rt (s_ret t3 rfl)))))
end Kk03
set_option maxHeartbeats 400000
namespace Kk03
open PySem L2 Mw
theorem s_meth {fo : M Mw.T} {fa : M (List Mw.T)} {kk : Nat → List Mw.T → M Mw.T} {e e1 e2 : EnvS} {i : Nat} {os : List O} {l : List Mw.T} {r : Mw.R (Mw.T × EnvS)} (h : fo e = .ok (.al i, e1)) (h1 : e1[i]? = some (.o (.lst os))) (h2 : fa e1 = .ok (l, e2)) (k : kk i l e2 = r) : M.meth fo fa kk e = r :=
  s_bind h (by simp only [h1]; exact s_bind h2 k)
theorem toDs_val (l : List D) : O.toDs (l.map O.val) = l := by
  induction l with
  | nil => rfl
  | cons a l ih => show (O.val a).toD :: O.toDs (l.map O.val) = _; rw [ih]; rfl
theorem flat_val (l : List D) : (O.lst (l.map O.val)).flat = .lst (l.map O.val) := by
  show O.lst ((O.toDs (l.map O.val)).map O.val) = _
  rw [toDs_val]
theorem er_perm {α : Type} : ∀ {l : List α} {n : Nat} (h : n < l.length), l.Perm (l[n] :: l.eraseIdx n)
  | a :: l, 0, _ => List.Perm.refl _
  | a :: l, n + 1, h => (List.Perm.cons a (er_perm (l := l) (n := n) (by simpa using h))).trans (List.Perm.swap _ _ _)
theorem er_map {α β : Type} (f : α → β) : ∀ (l : List α) (n : Nat), (l.map f).eraseIdx n = (l.eraseIdx n).map f
  | [], n => rfl
  | a :: l, 0 => rfl
  | a :: l, n + 1 => by rw [List.map_cons, List.eraseIdx_cons_succ, er_map f l n]; rfl
theorem popK_at {i : Nat} {e : EnvS} {l : List D} {r : Int} (h : e[i]? = some (.o (.lst (l.map O.val)))) (h0 : 0 ≤ r) (h1 : r < l.length) (hz : l.length < 1000000) : ∃ d, l.Perm (d :: l.eraseIdx r.toNat) ∧ popK i (some r) e = .ok (.o (.val d), e.set i (.o (.lst ((l.eraseIdx r.toNat).map O.val)))) := by
  have hr : r.toNat < l.length := by omega
  refine ⟨l[r.toNat], er_perm hr, ?_⟩
  have hix : ixN (l.map O.val).length r = some r.toNat := by
    rw [List.length_map]
    unfold ixN
    rw [if_pos h0, if_pos (by omega)]
  have e1 : (l.map O.val)[r.toNat]? = some (.val l[r.toNat]) := by
    rw [List.getElem?_map, List.getElem?_eq_getElem hr]; rfl
  unfold popK
  simp only [h, hix, e1]
  rw [if_pos (by omega)]
  simp only [e1, er_map]
abbrev mTurn : M Mw.T := M.meth (M.var 2) (M.consA (M.call 2 F__law_draw (M.consA (M.var 0) (M.consA (M.call1 gLen (M.var 2)) (M.pure [])))) (M.pure [])) kPopAt
theorem m_turn {s : Strm} {k : Int} {l : List D} {a b : Sl} (g : Good k s) (hk : k ≤ 1000000000) (hl : 0 < l.length) (hz : l.length < 1000000) : ∃ d l' s', l.Perm (d :: l') ∧ Good (k + 1) s' ∧
    mTurn [.st (some 0) s, a, .o (.lst (l.map O.val)), b] = .ok (.o (.val d), [.st (some 0) s', a, .o (.lst (l'.map O.val)), b]) := by
  obtain ⟨r, s', h1, h2, h3, h4⟩ := f_draw (many := (l.length : Int)) g hk (by omega) (by omega)
  obtain ⟨d, p1, p2⟩ := popK_at (i := 2) (e := [.st (some 0) s', a, .o (.lst (l.map O.val)), b]) (l := l) (r := r) rfl h2 h3 hz
  refine ⟨d, _, s', p1, h4, ?_⟩
  have hlen : (M.call1 gLen (M.var 2)) [.st (some 0) s, a, .o (.lst (l.map O.val)), b] = .ok (iT (l.length : Int), [.st (some 0) s, a, .o (.lst (l.map O.val)), b]) := by
    refine s_call1 (t := .al 2) rfl ?_
    show some (O.val (.int ((l.map O.val).length : Nat))) = _
    rw [List.length_map]
  refine s_meth (i := 2) (os := l.map O.val) (e2 := [.st (some 0) s', a, .o (.lst (l.map O.val)), b]) (l := [iT r]) rfl rfl ?_ p2
  exact s_consA (s_callS (i := 0) (l := [.al 0, iT (l.length : Int)]) (e1 := [.st (some 0) s, a, .o (.lst (l.map O.val)), b]) (s_consA rfl (s_consA hlen rfl)) rfl rfl rfl rfl h1) rfl
theorem m_loop {a : Sl} : ∀ {os : List O} {s : Strm} {k : Int} {l : List D}, os.length = l.length → Good k s → k + l.length ≤ 1000000000 → l.length < 1000000 → ∃ l2 s', l.Perm l2 ∧ Good (k + l.length) s' ∧
    lcLoop (aFlat (aName 3)) [3] (M.pure true) mTurn os [.st (some 0) s, a, .o (.lst (l.map O.val)), .no] = .ok (l2.map O.val, [.st (some 0) s', a, .o (.lst []), .no])
  | [], s, k, [], _, g, _, _ => ⟨[], s, List.Perm.refl _, by simpa using g, rfl⟩
  | [], s, k, _ :: _, h, _, _, _ => by simp at h
  | o :: os, s, k, [], h, _, _, _ => by simp at h
  | o :: os, s, k, x :: l, h, g, hk, hz => by
    obtain ⟨d, l', s1, h1, h2, h3⟩ := m_turn (l := x :: l) (a := a) (b := .o o.flat) g (by simp at hk; omega) (by simp) hz
    have hl := h1.length_eq
    simp only [List.length_cons] at hl h hk hz
    obtain ⟨l2, s2, i1, i2, i3⟩ := m_loop (a := a) (os := os) (s := s1) (k := k + 1) (l := l') (by omega) h2 (by omega) (by omega)
    have eg : k + (((x :: l).length : Nat) : Int) = k + 1 + (l'.length : Int) := by rw [List.length_cons]; omega
    refine ⟨d :: l2, s2, h1.trans (List.Perm.cons d i1), by rw [eg]; exact i2, ?_⟩
    unfold lcLoop
    have e1 : aFlat (aName 3) o [.st (some 0) s, a, .o (.lst ((x :: l).map O.val)), .no] = some [.st (some 0) s, a, .o (.lst ((x :: l).map O.val)), .o o.flat] := rfl
    rw [e1]
    simp only [M.pure, h3]
    have e2 : strong1 (.o (.val d)) [.st (some 0) s1, a, .o (.lst (l'.map O.val)), .o o.flat] = some (.val d, [.st (some 0) s1, a, .o (.lst (l'.map O.val)), .o o.flat]) := rfl
    rw [e2]
    have e3 : wipeE [.st (some 0) s1, a, .o (.lst (l'.map O.val)), .o o.flat] [3] = [.st (some 0) s1, a, .o (.lst (l'.map O.val)), .no] := rfl
    simp only [e3, i3]
    rfl
theorem f_mixed {s : Strm} {k : Int} {l : List D} (g : Good k s) (hk : k + l.length ≤ 1000000000) (hz : l.length < 1000000) : ∃ l2 s', l.Perm l2 ∧ Good (k + l.length) s' ∧ F__law_mixed [.st (some 0) s, .p 1 (.lst l)] = .ok (.lst (l2.map O.val), [.st (some 0) s', .no]) := by
  have h0 : M.asg (M.call1 gList (M.var 1)) (aFlat (aName 2)) [.st (some 0) s, .p 1 (.lst l), .no, .no] = .ok (.nx, [.st (some 0) s, .p 1 (.lst l), .o (.lst (l.map O.val)), .no]) := by
    refine s_asg (t := .o (.lst (l.map O.val))) (o := .lst (l.map O.val)) (s_call1 (t := .al 1) rfl ?_) rfl ?_
    · have ha : (l.map O.val).all O.isVal = true := by rw [List.all_map]; exact List.all_eq_true.mpr fun x _ => rfl
      unfold gList kidsA kidsL kidsOf
      simp [view, O.lstOf, ha]
    show some _ = _
    rw [flat_val]; rfl
  obtain ⟨l2, s', h1, h2, h3⟩ := m_loop (a := .p 1 (.lst l)) (os := rgItems 0 l.length) (by simp [rgItems]) g hk hz
  refine ⟨l2, s', h1, h2, ?_⟩
  have hrg : (M.rg1 (M.call1 gLen (M.var 2))) [.st (some 0) s, .p 1 (.lst l), .o (.lst (l.map O.val)), .no] = .ok ((rgItems 0 l.length, false), [.st (some 0) s, .p 1 (.lst l), .o (.lst (l.map O.val)), .no]) := by
    have hlen : (M.call1 gLen (M.var 2)) [.st (some 0) s, .p 1 (.lst l), .o (.lst (l.map O.val)), .no] = .ok (iT (l.length : Int), [.st (some 0) s, .p 1 (.lst l), .o (.lst (l.map O.val)), .no]) := by
      refine s_call1 (t := .al 2) rfl ?_
      show some (O.val (.int ((l.map O.val).length : Nat))) = _
      rw [List.length_map]
    refine s_bind hlen ?_
    show (if -(2 ^ 62) ≤ (l.length : Int) ∧ (l.length : Int) < 2 ^ 62 then R.ok ((rgItems 0 (l.length : Int).toNat, false), _) else .stuck) = _
    rw [if_pos (by omega), Int.toNat_natCast]
  have hlc := s_lc (tt := M.pure true) (te := mTurn) (A := aFlat (aName 3)) (own := [3]) hrg h3 (by rw [List.length_map]; have := h1.length_eq; exact size_of (by omega))
  exact s_fn (s_seq h0 (s_rt (s_ret hlc rfl)))
end Kk03
set_option maxHeartbeats 400000
namespace Kk03
open PySem L2 Mw
def smOk : Nat → D → Bool
  | 0, _ => false
  | n + 1, .lst ds => decide (ds.length ≤ 1000000) && ds.all (smOk n)
  | n + 1, .tup ds => decide (ds.length ≤ 1000000) && ds.all (smOk n)
  | _ + 1, .dct _ => false
  | _ + 1, _ => true
theorem same_int {n : Nat} {i j : Int} : F__law_same (n + 1) [.p 0 (.int i), .p 1 (.int j)] = .ok (.val (.bl (i == j)), [.no, .no]) := rfl
theorem same_str {n : Nat} {i j : Str} : F__law_same (n + 1) [.p 0 (.str i), .p 1 (.str j)] = .ok (.val (.bl (i == j)), [.no, .no]) := rfl
theorem same_bl {n : Nat} {i j : Bool} : F__law_same (n + 1) [.p 0 (.bl i), .p 1 (.bl j)] = .ok (.val (.bl (i == j)), [.no, .no]) := rfl
theorem same_non {n : Nat} : F__law_same (n + 1) [.p 0 .non, .p 1 .non] = .ok (.val (.bl true), [.no, .no]) := rfl
theorem str_beq (s : Str) : (s == s) = true := by simp
abbrev sTurn (G : FM) : M Mw.T := M.box (M.call 2 G (M.consA (M.var 2) (M.consA (M.var 3) (M.pure []))))
theorem s_varO {i : Nat} {e : EnvS} {d : D} (h : e[i]? = some (.o (.val d))) : M.var i e = .ok (.o (.val d), e) := by unfold M.var; simp only [h]
theorem s_varP {i j : Nat} {e : EnvS} {d : D} (h : e[i]? = some (.p j d)) (hd : d.isSc = false) : M.var i e = .ok (.al i, e) := by unfold M.var; simp only [h, hd]; rfl
theorem same_turn {G : FM} {a b x y : D} {r : Bool} (h : G [.p 0 x, .p 1 y] = .ok (.val (.bl r), [.no, .no])) : sTurn G [.p 0 a, .p 1 b, .o (.val x), .o (.val y)] = .ok (.o (.val (.bl r)), [.p 0 a, .p 1 b, .o (.val x), .o (.val y)]) :=
  s_box (d := .bl r) (e1 := [.p 0 a, .p 1 b, .o (.val x), .o (.val y)]) (s_call (l := [.o (.val x), .o (.val y)]) (e1 := [.p 0 a, .p 1 b, .o (.val x), .o (.val y)]) (os := [.val x, .val y]) (s_consA (s_varO rfl) (s_consA (s_varO rfl) rfl)) rfl rfl rfl h) rfl
theorem same_loop {G : FM} {a b : D} (own : List Nat) (ho : own = [2, 3]) : ∀ {xs ys : List D}, xs.length = ys.length → (∀ (i : Nat) (x y : D), xs[i]? = some x → ys[i]? = some y → G [.p 0 x, .p 1 y] = .ok (.val (.bl true), [.no, .no])) →
    lcLoop (aTup (aCons (aFlat (aName 2)) (aCons (aFlat (aName 3)) aNil))) own (M.pure true) (sTurn G) (zipO xs ys) [.p 0 a, .p 1 b, .no, .no] = .ok (xs.map fun _ => O.val (.bl true), [.p 0 a, .p 1 b, .no, .no])
  | [], [], _, _ => rfl
  | [], _ :: _, h, _ => by simp at h
  | _ :: _, [], h, _ => by simp at h
  | x :: xs, y :: ys, h, k => by
    have ih := same_loop (G := G) (a := a) (b := b) own ho (xs := xs) (ys := ys) (by simpa using h) fun i x' y' h1 h2 => k (i + 1) x' y' (by simpa using h1) (by simpa using h2)
    subst ho
    show lcLoop _ _ _ _ (pairO x y :: zipO xs ys) _ = _
    unfold lcLoop
    have e1 : aTup (aCons (aFlat (aName 2)) (aCons (aFlat (aName 3)) aNil)) (pairO x y) [.p 0 a, .p 1 b, .no, .no] = some [.p 0 a, .p 1 b, .o (.val x), .o (.val y)] := by
      cases x <;> cases y <;> rfl
    rw [e1]
    simp only [M.pure, same_turn (a := a) (b := b) (k 0 x y rfl rfl)]
    have e2 : strong1 (.o (.val (.bl true))) [.p 0 a, .p 1 b, .o (.val x), .o (.val y)] = some (.val (.bl true), [.p 0 a, .p 1 b, .o (.val x), .o (.val y)]) := rfl
    rw [e2]
    have e3 : wipeE [.p 0 a, .p 1 b, .o (.val x), .o (.val y)] [2, 3] = [.p 0 a, .p 1 b, .no, .no] := rfl
    simp only [e3, ih]
    rfl
theorem bls_true : ∀ n : Nat, blsO (List.replicate n (O.val (.bl true))) = some (List.replicate n true)
  | 0 => rfl
  | n + 1 => by rw [List.replicate_succ, List.replicate_succ]; unfold blsO; rw [bls_true n]; rfl
theorem all_true {e : EnvS} {α : Type} (xs : List α) : gAll e (.o (.lst (xs.map fun _ => O.val (.bl true)))) = some (.val (.bl true)) := by
  have h : (xs.map fun _ => O.val (.bl true)) = List.replicate xs.length (O.val (.bl true)) := List.map_const ..
  rw [h]
  show (match blsO (List.replicate xs.length (O.val (.bl true))) with | some ns => some (O.val (.bl (ns.all id))) | none => none) = _
  rw [bls_true]
  simp
theorem same_lst {n : Nat} {xs ys : List D} (hl : xs.length = ys.length) (hz : ys.length ≤ 1000000) (h : ∀ (i : Nat) (x y : D), xs[i]? = some x → ys[i]? = some y → F__law_same n [.p 0 x, .p 1 y] = .ok (.val (.bl true), [.no, .no])) :
    F__law_same (n + 1) [.p 0 (.lst xs), .p 1 (.lst ys)] = .ok (.val (.bl true), [.no, .no]) := by
  have hlc : (M.lc (M.zip (M.var 0) (M.var 1)) (aTup (aCons (aFlat (aName 2)) (aCons (aFlat (aName 3)) aNil))) [2, 3] (M.pure true) (sTurn (F__law_same n))) [.p 0 (.lst xs), .p 1 (.lst ys), .no, .no] = .ok (.o (.lst (xs.map fun _ => O.val (.bl true))), [.p 0 (.lst xs), .p 1 (.lst ys), .no, .no]) :=
    s_lc (os := zipO xs ys) (b := false) (e1 := [.p 0 (.lst xs), .p 1 (.lst ys), .no, .no]) rfl (same_loop [2, 3] rfl hl h) (by rw [List.length_map, hl]; exact size_of (by omega))
  have hall := s_call1 (G := gAll) hlc (all_true xs)
  have hlen : (M.op2 (gEq false) (M.call1 gLen (M.var 0)) (M.call1 gLen (M.var 1))) [.p 0 (.lst xs), .p 1 (.lst ys), .no, .no] = .ok (.o (.val (.bl true)), [.p 0 (.lst xs), .p 1 (.lst ys), .no, .no]) := by
    refine s_op2 (e1 := [.p 0 (.lst xs), .p 1 (.lst ys), .no, .no]) (s := iT (xs.length : Nat)) (t := iT (ys.length : Nat)) ?_ ?_ (g_eq.trans (by rw [hl, beq_self_eq_true]))
    · refine s_call1 (t := .al 0) rfl ?_
      show some (O.val (.int ((xs.map O.val).length : Nat))) = _
      rw [List.length_map]
    · refine s_call1 (t := .al 1) rfl ?_
      show some (O.val (.int ((ys.map O.val).length : Nat))) = _
      rw [List.length_map]
  exact s_fn (s_rt (s_if1 (e1 := [.p 0 (.lst xs), .p 1 (.lst ys), .no, .no]) rfl (s_seq (e1 := [.p 0 (.lst xs), .p 1 (.lst ys), .no, .no]) rfl (s_rt (s_ret (s_andV1 hlen rfl hall) rfl)))))
theorem same_tup {n : Nat} {xs ys : List D} (hl : xs.length = ys.length) (hz : ys.length ≤ 1000000) (h : ∀ (i : Nat) (x y : D), xs[i]? = some x → ys[i]? = some y → F__law_same n [.p 0 x, .p 1 y] = .ok (.val (.bl true), [.no, .no])) :
    F__law_same (n + 1) [.p 0 (.tup xs), .p 1 (.tup ys)] = .ok (.val (.bl true), [.no, .no]) := by
  have hlc : (M.lc (M.zip (M.var 0) (M.var 1)) (aTup (aCons (aFlat (aName 2)) (aCons (aFlat (aName 3)) aNil))) [2, 3] (M.pure true) (sTurn (F__law_same n))) [.p 0 (.tup xs), .p 1 (.tup ys), .no, .no] = .ok (.o (.lst (xs.map fun _ => O.val (.bl true))), [.p 0 (.tup xs), .p 1 (.tup ys), .no, .no]) :=
    s_lc (os := zipO xs ys) (b := false) (e1 := [.p 0 (.tup xs), .p 1 (.tup ys), .no, .no]) rfl (same_loop [2, 3] rfl hl h) (by rw [List.length_map, hl]; exact size_of (by omega))
  have hall := s_call1 (G := gAll) hlc (all_true xs)
  have hlen : (M.op2 (gEq false) (M.call1 gLen (M.var 0)) (M.call1 gLen (M.var 1))) [.p 0 (.tup xs), .p 1 (.tup ys), .no, .no] = .ok (.o (.val (.bl true)), [.p 0 (.tup xs), .p 1 (.tup ys), .no, .no]) := by
    refine s_op2 (e1 := [.p 0 (.tup xs), .p 1 (.tup ys), .no, .no]) (s := iT (xs.length : Nat)) (t := iT (ys.length : Nat)) ?_ ?_ (g_eq.trans (by rw [hl, beq_self_eq_true]))
    · refine s_call1 (t := .al 0) rfl ?_
      show some (O.val (.int ((xs.map O.val).length : Nat))) = _
      rw [List.length_map]
    · refine s_call1 (t := .al 1) rfl ?_
      show some (O.val (.int ((ys.map O.val).length : Nat))) = _
      rw [List.length_map]
  exact s_fn (s_rt (s_if1 (e1 := [.p 0 (.tup xs), .p 1 (.tup ys), .no, .no]) rfl (s_seq (e1 := [.p 0 (.tup xs), .p 1 (.tup ys), .no, .no]) rfl (s_rt (s_ret (s_andV1 hlen rfl hall) rfl)))))
/-- a thing is the same as itself -/
theorem same_refl : ∀ {n : Nat} {d : D}, smOk n d = true → F__law_same n [.p 0 d, .p 1 d] = .ok (.val (.bl true), [.no, .no])
  | 0, d, h => by cases h
  | n + 1, .non, h => same_non
  | n + 1, .int i, h => by rw [same_int, beq_self_eq_true]
  | n + 1, .str i, h => by rw [same_str, str_beq]
  | n + 1, .bl i, h => by rw [same_bl, beq_self_eq_true]
  | n + 1, .dct _, h => by cases h
  | n + 1, .lst ds, h => by
    have h : (decide (ds.length ≤ 1000000) && ds.all (smOk n)) = true := h
    obtain ⟨h1, h2⟩ := Bool.and_eq_true_iff.mp h
    refine same_lst rfl (of_decide_eq_true h1) fun i x y hx hy => ?_
    rw [hx] at hy
    have e := Option.some.inj hy
    subst e
    exact same_refl (List.all_eq_true.mp h2 x (List.mem_of_getElem? hx))
  | n + 1, .tup ds, h => by
    have h : (decide (ds.length ≤ 1000000) && ds.all (smOk n)) = true := h
    obtain ⟨h1, h2⟩ := Bool.and_eq_true_iff.mp h
    refine same_tup rfl (of_decide_eq_true h1) fun i x y hx hy => ?_
    rw [hx] at hy
    have e := Option.some.inj hy
    subst e
    exact same_refl (List.all_eq_true.mp h2 x (List.mem_of_getElem? hx))
end Kk03
set_option maxHeartbeats 400000
namespace Kk03
open PySem L2 Mw
/-! ### told things stand apart -/
theorem mapO_int {n : Nat} (l : List Int) : mapO (spoilF (n + 1)) (l.map vI) = some (l.map vI) := by
  induction l with
  | nil => rfl
  | cons a l ih =>
    show (match spoilF (n + 1) (vI a), mapO (spoilF (n + 1)) (l.map vI) with | some o', some r' => some (o' :: r') | _, _ => none) = _
    rw [ih]; rfl
abbrev late9 : D := .str "late9"
theorem spoil_ints {n : Nat} {l : List Int} (h : l.length < 1000000) : spoilF (n + 2) (.lst (l.map vI)) = some (.lst (l.map vI ++ [O.val late9])) := by
  show (match mapO (spoilF (n + 1)) (l.map vI) with | some os' => if os'.length < sizeLine then some (O.lst (os' ++ [O.val (D.str "late9")])) else none | none => none) = _
  rw [mapO_int]
  simp only
  rw [if_pos (by rw [List.length_map]; exact Nat.lt_of_lt_of_le h (by decide))]
theorem spoil_int {n : Nat} {i : Int} : spoilF (n + 1) (vI i) = some (vI i) := rfl
/-- is_once of a thing without parts -/
theorem once_int {n : Nat} {i : Int} : F__law_is_once (n + 1) [.p 0 (.int i)] = .ok (.val (.bl true), [.no]) := rfl
theorem once_str {n : Nat} {i : Str} : F__law_is_once (n + 1) [.p 0 (.str i)] = .ok (.val (.bl true), [.no]) := rfl
abbrev oTurn (G : FM) : M Mw.T := M.box (M.call 1 G (M.consA (M.var 3) (M.pure [])))
theorem once_loop {G : FM} {a : D} {c : Sl} (own : List Nat) (ho : own = [3]) (hc : frzSl c = c) (hc2 : ∀ s, mergeSl c s = c ∨ True) : ∀ {xs : List D}, (∀ x ∈ xs, G [.p 0 x] = .ok (.val (.bl true), [.no])) →
    lcLoop (aFlat (aName 3)) own (M.pure true) (oTurn G) (xs.map O.val) [.p 0 a, .no, .o (vI 1), .no] = .ok (xs.map fun _ => O.val (.bl true), [.p 0 a, .no, .o (vI 1), .no])
  | [], _ => rfl
  | x :: xs, k => by
    have ih := once_loop (G := G) (a := a) own ho hc hc2 (xs := xs) fun y m => k y (List.mem_cons_of_mem _ m)
    subst ho
    show lcLoop _ _ _ _ (O.val x :: xs.map O.val) _ = _
    unfold lcLoop
    have e1 : aFlat (aName 3) (.val x) [.p 0 a, .no, .o (vI 1), .no] = some [.p 0 a, .no, .o (vI 1), .o (.val x)] := by cases x <;> rfl
    rw [e1]
    have ht : oTurn G [.p 0 a, .no, .o (vI 1), .o (.val x)] = .ok (.o (.val (.bl true)), [.p 0 a, .no, .o (vI 1), .o (.val x)]) :=
      s_box (d := .bl true) (e1 := [.p 0 a, .no, .o (vI 1), .o (.val x)]) (s_call (l := [.o (.val x)]) (e1 := [.p 0 a, .no, .o (vI 1), .o (.val x)]) (os := [.val x]) (s_consA (s_varO rfl) rfl) rfl rfl rfl (k x List.mem_cons_self)) rfl
    simp only [M.pure, ht]
    have e2 : strong1 (.o (.val (.bl true))) [.p 0 a, .no, .o (vI 1), .o (.val x)] = some (.val (.bl true), [.p 0 a, .no, .o (vI 1), .o (.val x)]) := rfl
    rw [e2]
    have e3 : wipeE [.p 0 a, .no, .o (vI 1), .o (.val x)] [3] = [.p 0 a, .no, .o (vI 1), .no] := rfl
    simp only [e3, ih]
    rfl
theorem once_lst {n : Nat} {ds : List D} (hz : ds.length ≤ 1000000) (h : ∀ x ∈ ds, F__law_is_once n [.p 0 x] = .ok (.val (.bl true), [.no])) (h1 : SeqAt.shaped (.list (D.pys ds)) = true) (h2 : PyData.plainAll (D.pys ds) = true) (h3 : (D.pys ds).countP (fun z => PyData.eqv z (.str "late9")) = 1) :
    F__law_is_once (n + 1) [.p 0 (.lst ds)] = .ok (.val (.bl true), [.no]) := by
  have ha : (ds.map O.val).all O.isVal = true := by rw [List.all_map]; exact List.all_eq_true.mpr fun x _ => rfl
  have hcnt : M.count (M.call1 gList (M.var 0)) (M.con (.str "late9")) [.p 0 (.lst ds), .no, .o (vI 1), .no] = .ok (iT 1, [.p 0 (.lst ds), .no, .o (vI 1), .no]) := by
    refine s_bind (a := .o (.lst (ds.map O.val))) (e1 := [.p 0 (.lst ds), .no, .o (vI 1), .no]) (s_call1 (t := .al 0) rfl ?_) ?_
    · unfold gList kidsA kidsL kidsOf
      simp [view, O.lstOf, ha]
    · show M.bind (M.con (.str "late9")) _ _ = _
      refine s_bind (a := .o (.val (.str "late9"))) (e1 := [.p 0 (.lst ds), .no, .o (vI 1), .no]) rfl ?_
      have e : (O.lst (ds.map O.val)).toD = .lst ds := by show D.lst (O.toDs (ds.map O.val)) = _; rw [toDs_val]
      simp only [view, e]
      rw [h1, h2]
      have h4 : (D.pys ds).countP (fun z => PyData.eqv z (O.val (.str "late9")).toD.py) = 1 := h3
      have h5 : SeqAt.shaped (O.val (.str "late9")).toD.py = true := by decide +kernel
      have h6 : (O.val (.str "late9")).toD.py.plain = true := rfl
      rw [h4, h5, h6]
      rfl
  have hlc : (M.lc (M.srcD (M.var 0)) (aFlat (aName 3)) [3] (M.pure true) (oTurn (F__law_is_once n))) [.p 0 (.lst ds), .no, .o (vI 1), .no] = .ok (.o (.lst (ds.map fun _ => O.val (.bl true))), [.p 0 (.lst ds), .no, .o (vI 1), .no]) :=
    s_lc (os := ds.map O.val) (b := false) (e1 := [.p 0 (.lst ds), .no, .o (vI 1), .no]) rfl (once_loop (c := .no) [3] rfl rfl (fun _ => .inr trivial) h) (by rw [List.length_map]; exact size_of (by omega))
  have hall := s_call1 (G := gAll) hlc (all_true ds)
  have hop : (M.op2 (gEq false) (M.count (M.call1 gList (M.var 0)) (M.con (.str "late9"))) (M.var 2)) [.p 0 (.lst ds), .no, .o (vI 1), .no] = .ok (.o (.val (.bl true)), [.p 0 (.lst ds), .no, .o (vI 1), .no]) := s_op2 hcnt rfl rfl
  exact s_fn (s_seq (e1 := [.p 0 (.lst ds), .no, .no, .no]) rfl (s_rt (s_if1 (e1 := [.p 0 (.lst ds), .no, .no, .no]) rfl (s_seq (e1 := [.p 0 (.lst ds), .no, .o (vI 1), .no]) rfl (s_rt (s_ret (s_andV1 hop rfl hall) rfl))))))
theorem pys_app : ∀ (a b : List D), D.pys (a ++ b) = D.pys a ++ D.pys b
  | [], b => rfl
  | x :: a, b => by show x.py :: D.pys (a ++ b) = x.py :: (D.pys a ++ D.pys b); rw [pys_app a b]
theorem pys_int (l : List Int) : D.pys (l.map D.int) = l.map PyData.int := by
  induction l with
  | nil => rfl
  | cons a l ih => show (D.int a).py :: D.pys (l.map D.int) = _; rw [ih]; rfl
/-- the list of numbers, spoilt -/
def spI (l : List Int) : D := .lst (l.map D.int ++ [late9])
theorem plain_int (l : List Int) (r : List PyData) : PyData.plainAll (l.map PyData.int ++ r) = PyData.plainAll r := by
  induction l with
  | nil => rfl
  | cons a l ih => show (PyData.plain (.int a) && PyData.plainAll (l.map PyData.int ++ r)) = _; rw [ih]; rfl
theorem lay_int (l : List Int) (r : List PyData) : PyData.canLayAll0 (l.map PyData.int ++ r) = PyData.canLayAll0 r := by
  induction l with
  | nil => rfl
  | cons a l ih => show (PyData.canLay0 (.int a) && PyData.canLayAll0 (l.map PyData.int ++ r)) = _; rw [ih]; rfl
theorem dep_int (l : List Int) (r : List PyData) : PyData.depthAll (l.map PyData.int ++ r) = PyData.depthAll r := by
  induction l with
  | nil => rfl
  | cons a l ih => show max 0 (PyData.depthAll (l.map PyData.int ++ r)) = _; rw [ih]; omega
theorem cnt_int (l : List Int) (r : List PyData) (z : Str) : (l.map PyData.int ++ r).countP (fun x => PyData.eqv x (.str z)) = r.countP (fun x => PyData.eqv x (.str z)) := by
  induction l with
  | nil => rfl
  | cons a l ih => rw [List.map_cons, List.cons_append, List.countP_cons_of_neg, ih]; exact Bool.false_ne_true
theorem pys_spI (l : List Int) : D.pys (l.map D.int ++ [late9]) = l.map PyData.int ++ [.str "late9"] := by rw [pys_app, pys_int]; rfl
theorem once_spI {n : Nat} {l : List Int} (hz : l.length < 1000000) : F__law_is_once (n + 2) [.p 0 (spI l)] = .ok (.val (.bl true), [.no]) := by
  refine once_lst (n := n + 1) (by rw [List.length_append, List.length_map]; simp; omega) (fun x m => ?_) ?_ ?_ ?_
  · rcases List.mem_append.mp m with m | m
    · obtain ⟨i, _, e⟩ := List.mem_map.mp m
      subst e; exact once_int
    · rw [List.mem_singleton.mp m]; exact once_str
  · rw [pys_spI]
    show (PyData.canLayAll0 _ && decide (PyData.depthAll _ + 1 ≤ 64)) = true
    rw [lay_int, dep_int]; decide +kernel
  · rw [pys_spI, plain_int]; rfl
  · rw [pys_spI, cnt_int]; decide +kernel
theorem apart_two {a b : List Int} (ha : a.length < 1000000) (hb : b.length < 1000000) : apartF (.lst [.lst (a.map vI), .lst (b.map vI)]) = some (.bl true) := by
  have h1 : spoilF 10 (.lst [.lst (a.map vI), .lst (b.map vI)]) = some (.lst [.lst (a.map vI ++ [O.val late9]), .lst (b.map vI ++ [O.val late9]), O.val late9]) := by
    show (match (match spoilF 9 (.lst (a.map vI)), (match spoilF 9 (.lst (b.map vI)), some ([] : List O) with | some o', some r' => some (o' :: r') | _, _ => none) with | some o', some r' => some (o' :: r') | _, _ => none) with | some os' => if os'.length < sizeLine then some (O.lst (os' ++ [O.val (D.str "late9")])) else none | none => none) = _
    rw [spoil_ints ha, spoil_ints hb]
    rfl
  have td : ∀ l : List Int, (O.lst (l.map vI ++ [O.val late9])).toD = spI l := fun l => by
    have h : ∀ l : List Int, O.toDs (l.map vI ++ [O.val late9]) = l.map D.int ++ [late9] := fun l => by
      induction l with
      | nil => rfl
      | cons x l ih => show D.int x :: O.toDs (l.map vI ++ [O.val late9]) = _; rw [ih]; rfl
    show D.lst (O.toDs (l.map vI ++ [O.val late9])) = _
    rw [h]; rfl
  have h2 : (O.lst [.lst (a.map vI ++ [O.val late9]), .lst (b.map vI ++ [O.val late9]), O.val late9]).toD = .lst [spI a, spI b, late9] := by
    show D.lst [(O.lst (a.map vI ++ [O.val late9])).toD, (O.lst (b.map vI ++ [O.val late9])).toD, late9] = _
    rw [td, td]
  have sp : ∀ l : List Int, (spI l).py = .list (l.map PyData.int ++ [.str "late9"]) := fun l => by
    show PyData.list (D.pys (l.map D.int ++ [late9])) = _
    rw [pys_spI]
  have hp : D.pys [spI a, spI b, late9] = [.list (a.map PyData.int ++ [.str "late9"]), .list (b.map PyData.int ++ [.str "late9"]), .str "late9"] := by
    show [(spI a).py, (spI b).py, PyData.str "late9"] = _
    rw [sp, sp]
  have h3 : F__law_is_once 10 [.p 0 (.lst [spI a, spI b, late9])] = .ok (.val (.bl true), [.no]) := by
    refine once_lst (n := 9) (show 3 ≤ 1000000 by decide) (fun x m => ?_) ?_ ?_ ?_
    · rcases List.mem_cons.mp m with m | m
      · rw [m]; exact once_spI ha
      · rcases List.mem_cons.mp m with m | m
        · rw [m]; exact once_spI hb
        · rw [List.mem_singleton.mp m]; exact once_str
    · rw [hp]
      show ((PyData.canLayAll0 (a.map PyData.int ++ [.str "late9"]) && (PyData.canLayAll0 (b.map PyData.int ++ [.str "late9"]) && _)) && decide (max (PyData.depthAll (a.map PyData.int ++ [.str "late9"]) + 1) (max (PyData.depthAll (b.map PyData.int ++ [.str "late9"]) + 1) _) + 1 ≤ 64)) = true
      rw [lay_int, lay_int, dep_int, dep_int]; decide +kernel
    · rw [hp]
      show (PyData.plainAll (a.map PyData.int ++ [.str "late9"]) && (PyData.plainAll (b.map PyData.int ++ [.str "late9"]) && _)) = true
      rw [plain_int, plain_int]; rfl
    · rw [hp]; rfl
  unfold apartF
  rw [h1]
  simp only
  rw [h2, h3]
  rfl
end Kk03
set_option maxHeartbeats 400000
namespace Kk03
open PySem L2 Mw
/-! ### elements -/
def powL (p e : Nat) : Nat → Nat → List Nat
  | 0, _ => []
  | n + 1, h => if Nat.beq h 1 then [] else h :: powL p e n (h * e % p)
def endsOk (p e : Nat) : Nat → Nat → Bool
  | 0, _ => false
  | n + 1, h => Nat.beq h 1 || endsOk p e n (h * e % p)
def memB (h : Nat) : List Nat → Bool
  | [] => false
  | x :: l => Nat.beq x h || memB h l
def nodupB : List Nat → Bool
  | [] => true
  | x :: l => !memB x l && nodupB l
abbrev cI (l : List Nat) : List Int := List.map (fun n : Nat => (n : Int)) l
theorem memB_iff {h : Nat} : ∀ {l : List Nat}, memB h l = true ↔ h ∈ l
  | [] => by simp [memB]
  | x :: l => by
    unfold memB
    rw [Bool.or_eq_true, memB_iff (l := l), List.mem_cons, Nat.beq_eq]
    constructor
    · rintro (e | e)
      · exact .inl e.symm
      · exact .inr e
    · rintro (e | e)
      · exact .inl e.symm
      · exact .inr e
theorem any_mem {h : Nat} (l : List Nat) : (cI l).any (fun x => x == (h : Int)) = memB h l := by
  induction l with
  | nil => rfl
  | cons x l ih =>
    show (((x : Int) == (h : Int)) || (cI l).any fun x => x == (h : Int)) = (Nat.beq x h || memB h l)
    rw [ih]
    congr 1
    by_cases e : x = h
    · subst e; simp
    · rw [beq_false_of_ne (by omega)]
      cases q : Nat.beq x h with
      | false => rfl
      | true => exact absurd (Nat.eq_of_beq_eq_true q) e
theorem cast_step (h e p : Nat) : (h : Int) * (e : Int) % (p : Int) = ((h * e % p : Nat) : Int) := by rw [Int.natCast_emod, Int.natCast_mul]
theorem nodup_app {h : Nat} : ∀ {a b : List Nat}, nodupB (a ++ h :: b) = true → memB h a = false
  | [], b, _ => rfl
  | x :: a, b, k => by
    have k : (!memB x (a ++ h :: b) && nodupB (a ++ h :: b)) = true := k
    obtain ⟨k1, k2⟩ := Bool.and_eq_true_iff.mp k
    have i := nodup_app k2
    unfold memB
    rw [i, Bool.or_false]
    cases q : Nat.beq x h with
    | false => rfl
    | true =>
      have e := Nat.eq_of_beq_eq_true q
      have : memB x (a ++ h :: b) = true := memB_iff.mpr (by rw [e]; simp)
      rw [this] at k1
      cases k1
abbrev eTest : M Bool := M.op2b (gIn true) (M.var 4) (M.var 3)
abbrev eBody : M Fl := (M.seq (M.drop (M.meth (M.var 3) (M.consA (M.var 4) (M.pure [])) kApp)) (M.seq (M.asg (M.op2 gMod (M.op2 gMul (M.var 4) (M.var 5)) (M.var 2)) (aFlat (aName 4))) M.nx))
theorem app_at {i : Nat} {e : EnvS} {os : List O} {o : O} (h : e[i]? = some (.o (.lst os))) (hz : os.length < 1000000) : kApp i [.o o] e = .ok (.o (.val .non), e.set i (.o (.lst (os ++ [o])))) := by
  unfold kApp strong1
  simp only [h]
  rw [if_pos (Nat.lt_of_lt_of_le hz (by decide))]
theorem cI_app (a b : List Nat) : (cI (a ++ b)).map vI = (cI a).map vI ++ (cI b).map vI := by simp
theorem e_test {a0 a1 a2 a5 : Sl} {l : List Nat} {h : Nat} : eTest [a0, a1, a2, .o (.lst ((cI l).map vI)), .o (vI h), a5] = .ok (!memB h l, [a0, a1, a2, .o (.lst ((cI l).map vI)), .o (vI h), a5]) := by
  refine s_op2b (e1 := [a0, a1, a2, .o (.lst ((cI l).map vI)), .o (vI h), a5]) (s := iT h) (t := .al 3) rfl rfl ?_
  unfold gIn
  simp only [view]
  have e : inO (vI (h : Int)).toD (.lst ((cI l).map vI)) = some (memB h l) := by rw [show (vI (h : Int)).toD = .int h from rfl, int_in, any_mem]
  show (match inO (vI (h : Int)).toD (.lst ((cI l).map vI)) with | some k => some (O.val (.bl (if true then !k else k))) | none => none) = _
  rw [e]; rfl
theorem e_body {a0 a1 : Sl} {l : List Nat} {h e p : Nat} (hp : 0 < p) (he : e < 1000000) (hz : l.length < 1000000) : eBody [a0, a1, .o (.val (.int p)), .o (.lst ((cI l).map vI)), .o (vI h), .o (.val (.int e))] = .ok (.nx, [a0, a1, .o (.val (.int p)), .o (.lst ((cI (l ++ [h])).map vI)), .o (vI ((h * e % p : Nat) : Int)), .o (.val (.int e))]) := by
  have h1 := app_at (i := 3) (e := [a0, a1, .o (.val (.int p)), .o (.lst ((cI l).map vI)), .o (vI h), .o (.val (.int e))]) (o := vI h) rfl (by rw [List.length_map, List.length_map]; exact hz)
  refine s_seq (s_drop (s_meth (i := 3) (l := [iT h]) (e1 := [a0, a1, .o (.val (.int p)), .o (.lst ((cI l).map vI)), .o (vI h), .o (.val (.int e))]) rfl rfl rfl h1)) ?_
  rw [show [a0, a1, .o (.val (.int p)), .o (.lst ((cI l).map vI)), .o (vI h), .o (.val (.int e))].set 3 (Sl.o (.lst ((cI l).map vI ++ [vI h]))) = [a0, a1, .o (.val (.int p)), .o (.lst ((cI (l ++ [h])).map vI)), .o (vI h), .o (.val (.int e))] by rw [cI_app]; rfl]
  have h2 : (M.op2 gMod (M.op2 gMul (M.var 4) (M.var 5)) (M.var 2)) [a0, a1, .o (.val (.int p)), .o (.lst ((cI (l ++ [h])).map vI)), .o (vI h), .o (.val (.int e))] = .ok (iT ((h * e % p : Nat) : Int), [a0, a1, .o (.val (.int p)), .o (.lst ((cI (l ++ [h])).map vI)), .o (vI h), .o (.val (.int e))]) := by
    rw [← cast_step]
    exact s_op2 (s_op2 rfl rfl (g_mulR (by omega))) rfl (g_mod (by omega))
  exact s_seq (s_asg h2 rfl rfl) rfl
theorem ep_loop {a0 a1 : Sl} {p e : Nat} (hp : 0 < p) (he : e < 1000000) : ∀ {n h q : Nat} {l : List Nat}, endsOk p e n h = true → 1 ∈ l → nodupB (l ++ powL p e n h) = true → l.length + n < 1000000 → n < q →
    M.whileN eTest eBody q [a0, a1, .o (.val (.int p)), .o (.lst ((cI l).map vI)), .o (vI h), .o (.val (.int e))] = .ok (.nx, [a0, a1, .o (.val (.int p)), .o (.lst ((cI (l ++ powL p e n h)).map vI)), .o (vI 1), .o (.val (.int e))])
  | 0, h, q, l, hk, _, _, _, _ => by cases hk
  | n + 1, h, 0, l, _, _, _, _, hq => by omega
  | n + 1, h, q + 1, l, hk, h1, hn, hz, hq => by
    by_cases e1 : h = 1
    · subst e1
      have e2 : powL p e (n + 1) 1 = [] := rfl
      rw [e2, List.append_nil]
      refine s_while0 ?_
      rw [show vI 1 = vI ((1 : Nat) : Int) from rfl]
      rw [e_test, memB_iff.mpr h1]; rfl
    · have hb : Nat.beq h 1 = false := by
        cases q : Nat.beq h 1 with
        | false => rfl
        | true => exact absurd (Nat.eq_of_beq_eq_true q) e1
      have e2 : powL p e (n + 1) h = h :: powL p e n (h * e % p) := by
        show (if Nat.beq h 1 = true then [] else h :: powL p e n (h * e % p)) = _
        rw [hb]; rfl
      have e3 : endsOk p e n (h * e % p) = true := by
        have : (Nat.beq h 1 || endsOk p e n (h * e % p)) = true := hk
        rwa [hb, Bool.false_or] at this
      rw [e2] at hn ⊢
      have hm := nodup_app hn
      rw [show l ++ h :: powL p e n (h * e % p) = (l ++ [h]) ++ powL p e n (h * e % p) by simp] at hn ⊢
      refine s_while1 (e1 := [a0, a1, .o (.val (.int p)), .o (.lst ((cI l).map vI)), .o (vI h), .o (.val (.int e))]) (by rw [e_test, hm]; rfl) (e_body hp he (by omega)) ?_
      exact ep_loop hp he e3 (List.mem_append_left _ h1) hn (by simp; omega) (by omega)
def Lp (p e : Nat) : List Nat := 1 :: powL p e 100 (1 * e % p)
theorem f_element_powers {p e : Nat} (hp : 0 < p) (he : e < 1000000) (hcf : F_checked_field [.p 0 (.int p)] = .ok (.val (.int p), [.no])) (hce : F_checked_element [.p 0 (.int p), .p 1 (.int e)] = .ok (.val (.int e), [.no, .no])) (h1 : endsOk p e 100 (1 * e % p) = true) (h2 : nodupB (Lp p e) = true) :
    F_element_powers [.p 0 (.int p), .p 1 (.int e)] = .ok (.lst ((cI (Lp p e)).map vI), [.no, .no]) := by
  have k1 : M.asg (M.call 1 F_checked_field (M.consA (M.var 0) (M.pure []))) (aFlat (aName 2)) [.p 0 (.int p), .p 1 (.int e), .no, .no, .no, .no] = .ok (.nx, [.p 0 (.int p), .p 1 (.int e), .o (.val (.int p)), .no, .no, .no]) :=
    s_asg (s_call (l := [iT p]) (os := [vI p]) (e1 := [.p 0 (.int p), .p 1 (.int e), .no, .no, .no, .no]) rfl rfl rfl rfl hcf) rfl rfl
  have k3 : M.asg (M.call 2 F_checked_element (M.consA (M.var 2) (M.consA (M.var 1) (M.pure [])))) (aFlat (aName 5)) [.p 0 (.int p), .p 1 (.int e), .o (.val (.int p)), .o (.lst []), .o (vI 1), .no] = .ok (.nx, [.p 0 (.int p), .p 1 (.int e), .o (.val (.int p)), .o (.lst []), .o (vI 1), .o (.val (.int e))]) :=
    s_asg (s_call (l := [iT p, iT e]) (os := [vI p, vI e]) (e1 := [.p 0 (.int p), .p 1 (.int e), .o (.val (.int p)), .o (.lst []), .o (vI 1), .no]) rfl rfl rfl rfl hce) rfl rfl
  have k4 : M.whileN eTest eBody 1000 [.p 0 (.int p), .p 1 (.int e), .o (.val (.int p)), .o (.lst []), .o (vI 1), .o (.val (.int e))] = .ok (.nx, [.p 0 (.int p), .p 1 (.int e), .o (.val (.int p)), .o (.lst ((cI (Lp p e)).map vI)), .o (vI 1), .o (.val (.int e))]) := by
    refine s_while1 (e_test (l := []) (h := 1)) (e_body (l := []) (h := 1) hp he (by decide)) ?_
    exact ep_loop (l := [1]) hp he h1 (by simp) h2 (by decide) (by decide)
  exact s_fn (s_seq k1 (s_seq (e1 := [.p 0 (.int p), .p 1 (.int e), .o (.val (.int p)), .o (.lst []), .o (vI 1), .no]) rfl (s_seq k3 (s_seq k4 (s_rt (s_ret (t := .al 3) (e1 := [.p 0 (.int p), .p 1 (.int e), .o (.val (.int p)), .o (.lst ((cI (Lp p e)).map vI)), .o (vI 1), .o (.val (.int e))]) rfl rfl))))))
end Kk03
set_option maxHeartbeats 400000
namespace Kk03
open PySem L2 Mw
theorem f_checked_element {p e : Nat} (h1 : 0 < e) (h2 : e < p) : F_checked_element [.p 0 (.int p), .p 1 (.int e)] = .ok (.val (.int e), [.no, .no]) := by
  have n1 : F_is_number [.p 0 (.int (e : Int))] = .ok (.val (.bl true), [.no]) := by
    have : F_is_number [.p 0 (.int (e : Int))] = .ok (.val (.bl (decide (0 ≤ (e : Int)))), [.no]) := rfl
    rw [this, decide_eq_true (by omega)]
  have t1 : M.notB (M.tst (M.box (M.call 1 F_is_number (M.consA (M.var 1) (M.pure []))))) [.p 0 (.int p), .p 1 (.int e)] = .ok (false, [.p 0 (.int p), .p 1 (.int e)]) :=
    s_not (k := true) (s_tst (s_box (d := .bl true) (e1 := [.p 0 (.int p), .p 1 (.int e)]) (s_call (l := [iT e]) (os := [vI e]) (e1 := [.p 0 (.int p), .p 1 (.int e)]) rfl rfl rfl rfl n1) rfl) rfl)
  have t2 : M.notB (M.bB (M.chain gLt gLt (M.con (.int 0)) (M.var 1) (M.var 0))) [.p 0 (.int p), .p 1 (.int e)] = .ok (false, [.p 0 (.int p), .p 1 (.int e)]) :=
    s_not (k := true) (s_bB (s_chain (e1 := [.p 0 (.int p), .p 1 (.int e)]) (e2 := [.p 0 (.int p), .p 1 (.int e)]) (e3 := [.p 0 (.int p), .p 1 (.int e)]) (s := iT 0) (t := iT e) (u := iT p) rfl rfl (g_lt.trans (by rw [decide_eq_true (by omega)])) rfl (g_lt.trans (by rw [decide_eq_true (by omega)]))))
  exact s_fn (s_seq (s_if0 (s_or0 t1 t2) rfl) (s_rt (s_ret (t := iT e) (e1 := [.p 0 (.int p), .p 1 (.int e)]) rfl rfl)))
/-! ### comprehensions over numbers -/
theorem comp_nat {A : AsF} {own : List Nat} {tt : M Bool} {te : M Mw.T} {e0 : EnvS} {E : Nat → EnvS} {b : Nat → Bool} : ∀ {l : List Nat}, (∀ x ∈ l, A (vI x) e0 = some (E x)) → (∀ x ∈ l, tt (E x) = .ok (b x, E x)) → (∀ x ∈ l, te (E x) = .ok (iT x, E x)) → (∀ x ∈ l, wipeE (E x) own = e0) →
    lcLoop A own tt te ((cI l).map vI) e0 = .ok ((cI (l.filter b)).map vI, e0)
  | [], _, _, _, _ => rfl
  | x :: l, h1, h2, h3, h4 => by
    have ih := comp_nat (l := l) (fun y m => h1 y (List.mem_cons_of_mem _ m)) (fun y m => h2 y (List.mem_cons_of_mem _ m)) (fun y m => h3 y (List.mem_cons_of_mem _ m)) (fun y m => h4 y (List.mem_cons_of_mem _ m))
    have m := List.mem_cons_self (a := x) (l := l)
    show lcLoop A own tt te (vI x :: (cI l).map vI) e0 = _
    unfold lcLoop
    rw [h1 x m]
    simp only [h2 x m]
    cases hb : b x with
    | false => rw [List.filter_cons_of_neg (by simp [hb])]; simp only [h4 x m, ih]
    | true =>
      rw [List.filter_cons_of_pos hb]
      simp only [h3 x m]
      have e2 : strong1 (iT x) (E x) = some (vI x, E x) := rfl
      rw [e2]
      simp only [h4 x m, ih]
      rfl
def upN (p : Nat) : List Nat := (List.range (p - 1)).map (1 + ·)
theorem rg_items (n : Nat) : rgItems 1 n = (cI ((List.range n).map (1 + ·))).map vI := by
  unfold rgItems cI
  rw [List.map_map, List.map_map]
  refine List.map_congr_left fun k _ => ?_
  show O.val (.int (1 + (k : Int))) = O.val (.int ((1 + k : Nat) : Int))
  rw [Int.natCast_add]; rfl
theorem rg_nat {p : Nat} (hp : 1 ≤ p) (hb : p < 1000000) {g : M Mw.T} {e e1 : EnvS} (h : g e = .ok (iT p, e1)) : M.rg2 (M.con (.int 1)) g e = .ok (((cI (upN p)).map vI, false), e1) := by
  refine s_bind (a := iT 1) (e1 := e) rfl (s_bind h ?_)
  show (if (-(2 ^ 62) ≤ (1 : Int) ∧ (1 : Int) < 2 ^ 62) ∧ -(2 ^ 62) ≤ (p : Int) ∧ (p : Int) < 2 ^ 62 then R.ok ((rgItems 1 ((p : Int) - 1).toNat, false), e1) else .stuck) = _
  rw [if_pos (by omega), show ((p : Int) - 1).toNat = p - 1 by omega, rg_items]
  rfl
theorem ix_head {e : EnvS} {o : O} {os : List O} : gIx e (.o (.lst (o :: os))) (iT 0) = some o := by
  unfold gIx
  have h : atI (o :: os) 0 = some o := atI_nat (j := 0) rfl
  show mine true (atI (o :: os) 0) = _
  rw [h]; rfl
theorem mem_up {p x : Nat} (h : x ∈ upN p) : 1 ≤ x ∧ x < p := by
  unfold upN at h
  obtain ⟨k, hk, e⟩ := List.mem_map.mp h
  have := List.mem_range.mp hk
  omega
def tN (p e : Nat) : List Nat := (upN p).filter fun x => Nat.beq (x * e % p) 1
theorem beq_cast (a : Nat) : ((a : Int) == 1) = Nat.beq a 1 := by
  cases q : Nat.beq a 1 with
  | true => rw [Nat.eq_of_beq_eq_true q]; rfl
  | false =>
    refine beq_false_of_ne fun e => ?_
    have h1 : a = 1 := by omega
    subst h1
    cases q
theorem f_turned_of {p e t : Nat} {r : List Nat} (hp : 1 ≤ p) (hb : p < 1000000) (he : e < 1000000) (ht : tN p e = t :: r) : F_turned_of [.p 0 (.int p), .p 1 (.int e)] = .ok (vI t, [.no, .no]) := by
  have hlc := s_lc (src := M.rg2 (M.con (.int 1)) (M.var 0)) (A := aFlat (aName 2)) (own := [2]) (tt := M.op2b (gEq false) (M.op2 gMod (M.op2 gMul (M.var 2) (M.var 1)) (M.var 0)) (M.con (.int 1))) (te := M.var 2) (e := [.p 0 (.int p), .p 1 (.int e), .no])
    (rg_nat (e1 := [.p 0 (.int p), .p 1 (.int e), .no]) hp hb rfl)
    (comp_nat (E := fun x => [.p 0 (.int p), .p 1 (.int e), .o (vI x)]) (b := fun x => Nat.beq (x * e % p) 1) (fun x m => rfl) (fun x m => by
      refine s_op2b (s := iT ((x * e % p : Nat) : Int)) (t := iT 1) (s_op2 (e1 := [.p 0 (.int p), .p 1 (.int e), .o (vI x)]) (s_op2 rfl rfl (g_mulR (by omega))) rfl ?_) rfl (g_eq.trans (by rw [beq_cast]))
      rw [← cast_step]
      exact g_mod (by omega)) (fun x m => rfl) (fun x m => rfl))
    (by rw [List.length_map, List.length_map]; exact size_of (Nat.le_trans (List.length_filter_le ..) (by unfold upN; simp; omega)))
  have hf : (upN p).filter (fun x => Nat.beq (x * e % p) 1) = t :: r := ht
  rw [hf] at hlc
  have hk : M.op2 gIx _ (M.con (.int 0)) [.p 0 (.int p), .p 1 (.int e), .no] = .ok (.o (vI t), [.p 0 (.int p), .p 1 (.int e), .no]) := s_op2 (s := .o (.lst (vI t :: (cI r).map vI))) (t := iT 0) (e1 := [.p 0 (.int p), .p 1 (.int e), .no]) hlc rfl ix_head
  exact s_fn (e := [.p 0 (.int p), .p 1 (.int e), .no]) (s_rt (s_ret (t := .o (vI t)) (e1 := [.p 0 (.int p), .p 1 (.int e), .no]) hk rfl))
theorem f_turned_element {p e t : Nat} {r : List Nat} (hb : p < 1000000) (h1 : 0 < e) (h2 : e < p) (hcf : F_checked_field [.p 0 (.int p)] = .ok (.val (.int p), [.no])) (ht : tN p e = t :: r) : F_turned_element [.p 0 (.int p), .p 1 (.int e)] = .ok (vI t, [.no, .no]) := by
  have k1 : M.asg (M.call 1 F_checked_field (M.consA (M.var 0) (M.pure []))) (aFlat (aName 2)) [.p 0 (.int p), .p 1 (.int e), .no] = .ok (.nx, [.p 0 (.int p), .p 1 (.int e), .o (.val (.int p))]) :=
    s_asg (s_call (l := [iT p]) (os := [vI p]) (e1 := [.p 0 (.int p), .p 1 (.int e), .no]) rfl rfl rfl rfl hcf) rfl rfl
  have k2 : M.call 2 F_checked_element (M.consA (M.var 2) (M.consA (M.var 1) (M.pure []))) [.p 0 (.int p), .p 1 (.int e), .o (.val (.int p))] = .ok (iT e, [.p 0 (.int p), .p 1 (.int e), .o (.val (.int p))]) :=
    s_call (l := [iT p, iT e]) (os := [vI p, vI e]) (e1 := [.p 0 (.int p), .p 1 (.int e), .o (.val (.int p))]) rfl rfl rfl rfl (f_checked_element h1 h2)
  have k3 : M.call 2 F_turned_of (M.consA (M.var 2) (M.consA (M.call 2 F_checked_element (M.consA (M.var 2) (M.consA (M.var 1) (M.pure [])))) (M.pure []))) [.p 0 (.int p), .p 1 (.int e), .o (.val (.int p))] = .ok (.o (vI t), [.p 0 (.int p), .p 1 (.int e), .o (.val (.int p))]) := s_call (n := 2) (F := F_turned_of) (l := [iT p, iT e]) (os := [vI p, vI e]) (s_consA (ft := M.var 2) (t := iT p) (e := [.p 0 (.int p), .p 1 (.int e), .o (.val (.int p))]) (e1 := [.p 0 (.int p), .p 1 (.int e), .o (.val (.int p))]) rfl (s_consA k2 rfl)) rfl rfl rfl (f_turned_of (by omega) hb (by omega) ht)
  exact s_fn (e := [.p 0 (.int p), .p 1 (.int e), .o (.val (.int p))]) (s_seq k1 (s_rt (s_ret (t := .o (vI t)) (e1 := [.p 0 (.int p), .p 1 (.int e), .o (.val (.int p))]) k3 rfl)))
/-! ### the law's own powers -/
abbrev lTest : M Bool := M.op2b (gEq true) (M.var 3) (M.con (.int 1))
abbrev lBody : M Fl := (M.seq (M.drop (M.meth (M.var 2) (M.consA (M.var 3) (M.pure [])) kApp)) (M.seq (M.asg (M.op2 gMod (M.call1 gInt1 (M.op2 gMul (M.var 3) (M.var 1))) (M.var 0)) (aFlat (aName 3))) M.nx))
theorem l_body {l : List Nat} {h e p : Nat} (hp : 0 < p) (he : e < 1000000) (hz : l.length < 1000000) : lBody [.p 0 (.int p), .p 1 (.int e), .o (.lst ((cI l).map vI)), .o (vI h)] = .ok (.nx, [.p 0 (.int p), .p 1 (.int e), .o (.lst ((cI (l ++ [h])).map vI)), .o (vI ((h * e % p : Nat) : Int))]) := by
  have h1 := app_at (i := 2) (e := [.p 0 (.int p), .p 1 (.int e), .o (.lst ((cI l).map vI)), .o (vI h)]) (o := vI h) rfl (by rw [List.length_map, List.length_map]; exact hz)
  refine s_seq (e1 := [.p 0 (.int p), .p 1 (.int e), .o (.lst ((cI (l ++ [h])).map vI)), .o (vI h)]) ?_ ?_
  · rw [cI_app]
    exact s_drop (s_meth (i := 2) (l := [iT h]) (e1 := [.p 0 (.int p), .p 1 (.int e), .o (.lst ((cI l).map vI)), .o (vI h)]) rfl rfl rfl h1)
  · have h2 : (M.op2 gMod (M.call1 gInt1 (M.op2 gMul (M.var 3) (M.var 1))) (M.var 0)) [.p 0 (.int p), .p 1 (.int e), .o (.lst ((cI (l ++ [h])).map vI)), .o (vI h)] = .ok (iT ((h * e % p : Nat) : Int), [.p 0 (.int p), .p 1 (.int e), .o (.lst ((cI (l ++ [h])).map vI)), .o (vI h)]) := by
      rw [← cast_step]
      exact s_op2 (s_call1 (s_op2 rfl rfl (g_mulR (by omega))) g_int1) rfl (g_mod (by omega))
    exact s_seq (s_asg h2 rfl rfl) rfl
theorem l_test {a0 a1 a2 : Sl} {h : Nat} : lTest [a0, a1, a2, .o (vI h)] = .ok (!Nat.beq h 1, [a0, a1, a2, .o (vI h)]) :=
  s_op2b (e1 := [a0, a1, a2, .o (vI h)]) (s := iT h) (t := iT 1) rfl rfl (g_ne.trans (by rw [beq_cast]))
theorem lp_loop {p e : Nat} (hp : 0 < p) (he : e < 1000000) : ∀ {n h q : Nat} {l : List Nat}, endsOk p e n h = true → l.length + n < 1000000 → n < q →
    M.whileN lTest lBody q [.p 0 (.int p), .p 1 (.int e), .o (.lst ((cI l).map vI)), .o (vI h)] = .ok (.nx, [.p 0 (.int p), .p 1 (.int e), .o (.lst ((cI (l ++ powL p e n h)).map vI)), .o (vI 1)])
  | 0, h, q, l, hk, _, _ => by cases hk
  | n + 1, h, 0, l, _, _, hq => by omega
  | n + 1, h, q + 1, l, hk, hz, hq => by
    by_cases e1 : h = 1
    · subst e1
      have e2 : powL p e (n + 1) 1 = [] := rfl
      rw [e2, List.append_nil]
      exact s_while0 (l_test (h := 1))
    · have hb : Nat.beq h 1 = false := by
        cases q : Nat.beq h 1 with
        | false => rfl
        | true => exact absurd (Nat.eq_of_beq_eq_true q) e1
      have e2 : powL p e (n + 1) h = h :: powL p e n (h * e % p) := by
        show (if Nat.beq h 1 = true then [] else h :: powL p e n (h * e % p)) = _
        rw [hb]; rfl
      have e3 : endsOk p e n (h * e % p) = true := by
        have : (Nat.beq h 1 || endsOk p e n (h * e % p)) = true := hk
        rwa [hb, Bool.false_or] at this
      rw [e2]
      rw [show l ++ h :: powL p e n (h * e % p) = (l ++ [h]) ++ powL p e n (h * e % p) by simp]
      refine s_while1 (e1 := [.p 0 (.int p), .p 1 (.int e), .o (.lst ((cI l).map vI)), .o (vI h)]) (by rw [l_test, hb]; rfl) (l_body hp he (by omega)) ?_
      exact lp_loop hp he e3 (by simp; omega) (by omega)
theorem f_law_powers {p e : Nat} (hp : 0 < p) (he : e < 1000000) (h1 : endsOk p e 100 (1 * e % p) = true) : F__law_powers [.p 0 (.int p), .p 1 (.int e)] = .ok (.lst ((cI (Lp p e)).map vI), [.no, .no]) := by
  have hm : (M.op2 gMod (M.call1 gInt1 (M.var 1)) (M.var 0)) [.p 0 (.int p), .p 1 (.int e), .no, .no] = .ok (iT ((1 * e % p : Nat) : Int), [.p 0 (.int p), .p 1 (.int e), .no, .no]) := by
    rw [Nat.one_mul, Int.natCast_emod]
    exact s_op2 (s_call1 rfl g_int1) rfl (g_mod (by omega))
  have k1 : M.par 2 3 (M.consA (M.lst (M.consA (M.con (.int 1)) (M.pure []))) (M.consA (M.op2 gMod (M.call1 gInt1 (M.var 1)) (M.var 0)) (M.pure []))) [.p 0 (.int p), .p 1 (.int e), .no, .no] = .ok (.nx, [.p 0 (.int p), .p 1 (.int e), .o (.lst ((cI [1]).map vI)), .o (vI ((1 * e % p : Nat) : Int))]) :=
    s_bind (s_consA (t := .o (.lst [vI 1])) (e1 := [.p 0 (.int p), .p 1 (.int e), .no, .no]) rfl (s_consA hm rfl)) rfl
  have k2 := lp_loop (p := p) (e := e) (l := [1]) (q := 1000) hp he h1 (by decide) (by decide)
  exact s_fn (s_seq k1 (s_seq k2 (s_rt (s_ret (t := .al 2) (e1 := [.p 0 (.int p), .p 1 (.int e), .o (.lst ((cI (Lp p e)).map vI)), .o (vI 1)]) rfl rfl))))
end Kk03
set_option maxHeartbeats 1000000
namespace Kk03
open PySem L2 Mw
abbrev dI (l : List Nat) : List D := (cI l).map D.int
abbrev oI (l : List Nat) : List O := (cI l).map vI
theorem toD_oI (l : List Nat) : (O.lst (oI l)).toD = .lst (dI l) := by
  show D.lst (O.toDs (oI l)) = _
  rw [toDs_vI]
theorem sm_ints (n : Nat) (l : List Nat) : (dI l).all (smOk (n + 1)) = true := List.all_eq_true.mpr fun x m => by
  obtain ⟨i, _, e⟩ := List.mem_map.mp m
  subst e; rfl
theorem cut_one (x : D) (l : List D) : cutD (x :: l) (some 1) none = l := by
  unfold cutD
  have h1 : HT.sIx (x :: l).length 0 (some 1) = 1 := by
    have := HT.sIx_nat (x :: l).length 0 1
    rw [show ((1 : Nat) : Int) = 1 from rfl] at this
    rw [this, List.length_cons]; omega
  rw [h1, HT.sIx_none]
  simp
/-- what is asked of a field's number -/
structure EOk (p e t : Nat) (r : List Nat) : Prop where
  e0 : 0 < e
  e1 : e < p
  t0 : 0 < t
  t1 : t < p
  tn : tN p e = t :: r
  tt : ∃ r', tN p t = e :: r'
  pe : endsOk p e 100 (1 * e % p) = true
  pt : endsOk p t 100 (1 * t % p) = true
  ne : nodupB (Lp p e) = true
  nt : nodupB (Lp p t) = true
  rv : Lp p t = 1 :: (powL p e 100 (1 * e % p)).reverse
  dv : (p - 1) % (Lp p e).length = 0
theorem pow_len (p e : Nat) : ∀ (n h : Nat), (powL p e n h).length ≤ n
  | 0, _ => Nat.le_refl _
  | n + 1, h => by
    unfold powL
    split
    · exact Nat.zero_le _
    · rw [List.length_cons]; have := pow_len p e n (h * e % p); omega
section
variable {p e t : Nat} {r : List Nat}
abbrev e6 (p e : Nat) (a b c d : Sl) : EnvS := [.p 0 (.int p), .p 1 (.int e), a, b, c, d]
abbrev dueSl (p e t : Nat) : Sl := .o (.lst [vI t, .val (.lst (dI (Lp p e)))])
abbrev fndSl (p e t : Nat) : Sl := .o (.lst [vI t, .lst (oI (Lp p e)), vI t, .lst (oI (Lp p e))])
theorem er1 (hb : p < 1000000) (k : EOk p e t r) : M.asg (M.lst (M.consA (M.op2 gIx (M.lc (M.rg2 (M.con (.int 1)) (M.var 0)) (aFlat (aName 3)) [3] (M.op2b (gEq false) (M.op2 gMod (M.call1 gInt1 (M.op2 gMul (M.var 3) (M.var 1))) (M.var 0)) (M.con (.int 1))) (M.var 3)) (M.con (.int 0))) (M.consA (M.call 2 F__law_powers (M.consA (M.var 0) (M.consA (M.var 1) (M.pure [])))) (M.pure [])))) (aFlat (aName 2)) (e6 p e .no .no .no .no) =
    .ok (.nx, e6 p e (dueSl p e t) .no .no .no) := by
  have e1 := k.e1
  have hlc := s_lc (src := M.rg2 (M.con (.int 1)) (M.var 0)) (A := aFlat (aName 3)) (own := [3]) (tt := M.op2b (gEq false) (M.op2 gMod (M.call1 gInt1 (M.op2 gMul (M.var 3) (M.var 1))) (M.var 0)) (M.con (.int 1))) (te := M.var 3) (e := e6 p e .no .no .no .no)
    (rg_nat (e1 := e6 p e .no .no .no .no) (by omega) hb rfl)
    (comp_nat (E := fun x => e6 p e .no (.o (vI x)) .no .no) (b := fun x => Nat.beq (x * e % p) 1) (fun x m => rfl) (fun x m => by
      refine s_op2b (s := iT ((x * e % p : Nat) : Int)) (t := iT 1) (s_op2 (e1 := e6 p e .no (.o (vI x)) .no .no) (s_call1 (s_op2 rfl rfl (g_mulR (by omega))) g_int1) rfl ?_) rfl (g_eq.trans (by rw [beq_cast]))
      rw [← cast_step]
      exact g_mod (by omega)) (fun x m => rfl) (fun x m => rfl))
    (by rw [List.length_map, List.length_map]; exact size_of (Nat.le_trans (List.length_filter_le ..) (by unfold upN; simp; omega)))
  have hf : (upN p).filter (fun x => Nat.beq (x * e % p) 1) = t :: r := k.tn
  rw [hf] at hlc
  have h1 : M.op2 gIx _ (M.con (.int 0)) (e6 p e .no .no .no .no) = .ok (.o (vI t), e6 p e .no .no .no .no) := s_op2 (s := .o (.lst (vI t :: (cI r).map vI))) (t := iT 0) (e1 := e6 p e .no .no .no .no) hlc rfl ix_head
  have h2 : M.call 2 F__law_powers (M.consA (M.var 0) (M.consA (M.var 1) (M.pure []))) (e6 p e .no .no .no .no) = .ok (.o (.lst (oI (Lp p e))), e6 p e .no .no .no .no) := s_call (l := [iT p, iT e]) (os := [vI p, vI e]) (e1 := e6 p e .no .no .no .no) rfl rfl rfl rfl (f_law_powers (by omega) (by omega) k.pe)
  refine s_asg (t := .o (.lst [vI t, .lst (oI (Lp p e))])) (o := .lst [vI t, .lst (oI (Lp p e))]) (e1 := e6 p e .no .no .no .no) (e2 := e6 p e .no .no .no .no) (s_lst (l := [.o (vI t), .o (.lst (oI (Lp p e)))]) (e1 := e6 p e .no .no .no .no) (s_consA h1 (s_consA h2 rfl)) rfl (show 2 ≤ sizeLine by decide)) rfl ?_
  show some (e6 p e (.o (.lst [vI t, .val (O.lst (oI (Lp p e))).toD])) .no .no .no) = _
  rw [toD_oI]
theorem call_te {a b c d : Sl} (hb : p < 1000000) (hcf : F_checked_field [.p 0 (.int p)] = .ok (.val (.int p), [.no])) (k : EOk p e t r) : M.call 2 F_turned_element (M.consA (M.var 0) (M.consA (M.var 1) (M.pure []))) (e6 p e a b c d) = .ok (.o (vI t), e6 p e a b c d) :=
  s_call (l := [iT p, iT e]) (os := [vI p, vI e]) (e1 := e6 p e a b c d) rfl rfl rfl rfl (f_turned_element hb k.e0 k.e1 hcf k.tn)
theorem call_ep {a b c d : Sl} (hb : p < 1000000) (hcf : F_checked_field [.p 0 (.int p)] = .ok (.val (.int p), [.no])) (k : EOk p e t r) : M.call 2 F_element_powers (M.consA (M.var 0) (M.consA (M.var 1) (M.pure []))) (e6 p e a b c d) = .ok (.o (.lst (oI (Lp p e))), e6 p e a b c d) :=
  s_call (l := [iT p, iT e]) (os := [vI p, vI e]) (e1 := e6 p e a b c d) rfl rfl rfl rfl (f_element_powers (by have := k.e1; omega) (by have := k.e1; omega) hcf (f_checked_element k.e0 k.e1) k.pe k.ne)
theorem er2 (hb : p < 1000000) (hcf : F_checked_field [.p 0 (.int p)] = .ok (.val (.int p), [.no])) (k : EOk p e t r) {a : Sl} : M.asg (M.lst (M.consA (M.call 2 F_turned_element (M.consA (M.var 0) (M.consA (M.var 1) (M.pure [])))) (M.consA (M.call 2 F_element_powers (M.consA (M.var 0) (M.consA (M.var 1) (M.pure [])))) (M.pure [])))) (aName 4) (e6 p e a .no .no .no) =
    .ok (.nx, e6 p e a .no (.o (.lst [vI t, .lst (oI (Lp p e))])) .no) :=
  s_asg (t := .o (.lst [vI t, .lst (oI (Lp p e))])) (o := .lst [vI t, .lst (oI (Lp p e))]) (e1 := e6 p e a .no .no .no) (e2 := e6 p e a .no .no .no) (s_lst (l := [.o (vI t), .o (.lst (oI (Lp p e)))]) (e1 := e6 p e a .no .no .no) (s_consA (call_te hb hcf k) (s_consA (call_ep hb hcf k) rfl)) rfl (show 2 ≤ sizeLine by decide)) rfl rfl
theorem er3 (hb : p < 1000000) (hcf : F_checked_field [.p 0 (.int p)] = .ok (.val (.int p), [.no])) (k : EOk p e t r) {a : Sl} : M.drop (M.meth (M.var 4) (M.consA (M.lst (M.consA (M.callN 2 [1, 0] F_turned_element (M.consA (M.var 1) (M.consA (M.var 0) (M.pure [])))) (M.consA (M.callN 2 [1, 0] F_element_powers (M.consA (M.var 1) (M.consA (M.var 0) (M.pure [])))) (M.pure [])))) (M.pure [])) kExt) (e6 p e a .no (.o (.lst [vI t, .lst (oI (Lp p e))])) .no) =
    .ok (.nx, e6 p e a .no (fndSl p e t) .no) := by
  have h1 : M.callN 2 [1, 0] F_turned_element (M.consA (M.var 1) (M.consA (M.var 0) (M.pure []))) (e6 p e a .no (.o (.lst [vI t, .lst (oI (Lp p e))])) .no) = .ok (.o (vI t), e6 p e a .no (.o (.lst [vI t, .lst (oI (Lp p e))])) .no) :=
    s_callN (l := [iT e, iT p]) (os := [vI e, vI p]) (e1 := e6 p e a .no (.o (.lst [vI t, .lst (oI (Lp p e))])) .no) rfl rfl rfl (f_turned_element hb k.e0 k.e1 hcf k.tn)
  have h2 : M.callN 2 [1, 0] F_element_powers (M.consA (M.var 1) (M.consA (M.var 0) (M.pure []))) (e6 p e a .no (.o (.lst [vI t, .lst (oI (Lp p e))])) .no) = .ok (.o (.lst (oI (Lp p e))), e6 p e a .no (.o (.lst [vI t, .lst (oI (Lp p e))])) .no) :=
    s_callN (l := [iT e, iT p]) (os := [vI e, vI p]) (e1 := e6 p e a .no (.o (.lst [vI t, .lst (oI (Lp p e))])) .no) rfl rfl rfl (f_element_powers (by have := k.e1; omega) (by have := k.e1; omega) hcf (f_checked_element k.e0 k.e1) k.pe k.ne)
  have h3 : M.lst (M.consA (M.callN 2 [1, 0] F_turned_element (M.consA (M.var 1) (M.consA (M.var 0) (M.pure [])))) (M.consA (M.callN 2 [1, 0] F_element_powers (M.consA (M.var 1) (M.consA (M.var 0) (M.pure [])))) (M.pure []))) (e6 p e a .no (.o (.lst [vI t, .lst (oI (Lp p e))])) .no) = .ok (.o (.lst [vI t, .lst (oI (Lp p e))]), e6 p e a .no (.o (.lst [vI t, .lst (oI (Lp p e))])) .no) := s_lst (l := [.o (vI t), .o (.lst (oI (Lp p e)))]) (os := [vI t, .lst (oI (Lp p e))]) (s_consA h1 (s_consA h2 rfl)) rfl (show 2 ≤ sizeLine by decide)
  exact s_drop (s_meth (i := 4) (l := [.o (.lst [vI t, .lst (oI (Lp p e))])]) (e1 := e6 p e a .no (.o (.lst [vI t, .lst (oI (Lp p e))])) .no) rfl rfl (s_consA h3 rfl) (r := .ok (.o (.val .non), e6 p e a .no (fndSl p e t) .no)) rfl)
theorem lp_len (p e : Nat) : (Lp p e).length ≤ 101 := by
  unfold Lp
  rw [List.length_cons]
  have := pow_len p e 100 (1 * e % p)
  omega
/-- the four told things are as they ought to be -/
theorem er4a : M.notB (M.tst (M.box (M.call 2 (F__law_same 10) (M.consA (M.var 4) (M.consA (M.op2 gMul (M.var 2) (M.con (.int 2))) (M.pure [])))))) (e6 p e (dueSl p e t) .no (fndSl p e t) .no) = .ok (false, e6 p e (dueSl p e t) .no (fndSl p e t) .no) := by
  have fz : (e6 p e (dueSl p e t) .no (fndSl p e t) .no).map frzSl = e6 p e (.o (.val (.lst [.int t, .lst (dI (Lp p e))]))) .no (.o (.val (.lst [.int t, .lst (dI (Lp p e)), .int t, .lst (dI (Lp p e))]))) .no := by
    show e6 p e (.o (.val (.lst [.int t, .lst (dI (Lp p e))]))) .no (.o (.val (.lst [.int t, (O.lst (oI (Lp p e))).toD, .int t, (O.lst (oI (Lp p e))).toD]))) .no = _
    rw [toD_oI]
  have hs : F__law_same 10 [.p 0 (.lst [.int t, .lst (dI (Lp p e)), .int t, .lst (dI (Lp p e))]), .p 1 (.lst [.int t, .lst (dI (Lp p e)), .int t, .lst (dI (Lp p e))])] = .ok (.val (.bl true), [.no, .no]) := by
    have hm : (decide ((dI (Lp p e)).length ≤ 1000000) && (dI (Lp p e)).all (smOk 8)) = true := by
      rw [sm_ints 7, decide_eq_true (by rw [List.length_map, List.length_map]; have := lp_len p e; omega)]; rfl
    refine same_refl ?_
    show (true && (true && ((decide ((dI (Lp p e)).length ≤ 1000000) && (dI (Lp p e)).all (smOk 8)) && (true && ((decide ((dI (Lp p e)).length ≤ 1000000) && (dI (Lp p e)).all (smOk 8)) && true))))) = true
    rw [hm]; rfl
  refine s_not (k := true) (s_tst (t := .o (.val (.bl true))) (s_box (d := .bl true) (e1 := e6 p e (.o (.val (.lst [.int t, .lst (dI (Lp p e))]))) .no (.o (.val (.lst [.int t, .lst (dI (Lp p e)), .int t, .lst (dI (Lp p e))]))) .no) ?_ rfl) rfl)
  rw [fz]
  exact s_call (l := [.o (.val (.lst [.int t, .lst (dI (Lp p e)), .int t, .lst (dI (Lp p e))])), .o (.lst [vI t, .val (.lst (dI (Lp p e))), vI t, .val (.lst (dI (Lp p e)))])]) (os := [.val (.lst [.int t, .lst (dI (Lp p e)), .int t, .lst (dI (Lp p e))]), .lst [vI t, .val (.lst (dI (Lp p e))), vI t, .val (.lst (dI (Lp p e)))]])
    (e1 := e6 p e (.o (.val (.lst [.int t, .lst (dI (Lp p e))]))) .no (.o (.val (.lst [.int t, .lst (dI (Lp p e)), .int t, .lst (dI (Lp p e))]))) .no) (s_consA (t := .o (.val (.lst [.int t, .lst (dI (Lp p e)), .int t, .lst (dI (Lp p e))]))) (s_varO rfl) (s_consA (t := .o (.lst [vI t, .val (.lst (dI (Lp p e))), vI t, .val (.lst (dI (Lp p e)))])) (s_op2 (s := .o (.val (.lst [.int t, .lst (dI (Lp p e))]))) (t := iT 2) (s_varO rfl) rfl rfl) rfl)) rfl rfl rfl hs
theorem er4b : M.notB (M.tst (M.eat apartF (M.selL [(4, (.kids [.none, .all, .none, .all]))]))) (e6 p e (dueSl p e t) .no (fndSl p e t) .no) = .ok (false, e6 p e (dueSl p e t) .no .no .no) := by
  have ha := apart_two (a := cI (Lp p e)) (b := cI (Lp p e)) (by rw [List.length_map]; have := lp_len p e; omega) (by rw [List.length_map]; have := lp_len p e; omega)
  refine s_not (k := true) (s_tst (t := .o (.val (.bl true))) (s_bind (a := .o (.lst [.lst (oI (Lp p e)), .lst (oI (Lp p e))])) (e1 := e6 p e (dueSl p e t) .no .no .no) rfl ?_) rfl)
  simp only [ha]
abbrev e5 (p e t : Nat) (d : Sl) : EnvS := e6 p e (dueSl p e t) .no .no d
theorem ix0 {d : Sl} : M.op2 gIx (M.var 2) (M.con (.int 0)) (e5 p e t d) = .ok (.o (vI t), e5 p e t d) := s_op2 (s := .al 2) (t := iT 0) (e1 := e5 p e t d) rfl rfl rfl
theorem ix1 {d : Sl} : M.op2 gIx (M.var 2) (M.con (.int 1)) (e5 p e t d) = .ok (.o (.val (.lst (dI (Lp p e)))), e5 p e t d) := s_op2 (s := .al 2) (t := iT 1) (e1 := e5 p e t d) rfl rfl rfl
theorem er5 (hb : p < 1000000) (hcf : F_checked_field [.p 0 (.int p)] = .ok (.val (.int p), [.no])) (k : EOk p e t r) : M.asg (M.call 2 F_element_powers (M.consA (M.var 0) (M.consA (M.op2 gIx (M.var 2) (M.con (.int 0))) (M.pure [])))) (aFlat (aName 5)) (e5 p e t .no) = .ok (.nx, e5 p e t (.o (.lst ((dI (Lp p t)).map O.val)))) := by
  have h1 : M.call 2 F_element_powers (M.consA (M.var 0) (M.consA (M.op2 gIx (M.var 2) (M.con (.int 0))) (M.pure []))) (e5 p e t .no) = .ok (.o (.lst (oI (Lp p t))), e5 p e t .no) :=
    s_call (l := [iT p, iT t]) (os := [vI p, vI t]) (s_consA (t := iT p) (e1 := e5 p e t .no) rfl (s_consA ix0 rfl)) rfl rfl rfl (f_element_powers (by have := k.e1; omega) (by have := k.t1; omega) hcf (f_checked_element k.t0 k.t1) k.pt k.nt)
  refine s_asg h1 (o := .lst (oI (Lp p t))) (e2 := e5 p e t .no) rfl ?_
  show some (e5 p e t (.o (.lst ((O.toDs (oI (Lp p t))).map O.val)))) = _
  rw [toDs_vI]
theorem er6 (k : EOk p e t r) : M.notB (M.tst (M.box (M.call 2 (F__law_same 10) (M.consA (M.var 5) (M.consA (M.op2 gAdd (M.lst (M.consA (M.con (.int 1)) (M.pure []))) (M.revL (M.slice (M.op2 gIx (M.var 2) (M.con (.int 1))) (M.part (M.con (.int 1))) (M.pure none)))) (M.pure [])))))) (e5 p e t (.o (.lst ((dI (Lp p t)).map O.val)))) = .ok (false, e5 p e t (.o (.lst ((dI (Lp p t)).map O.val)))) := by
  have fz : (e5 p e t (.o (.lst ((dI (Lp p t)).map O.val)))).map frzSl = e6 p e (.o (.val (.lst [.int t, .lst (dI (Lp p e))]))) .no .no (.o (.val (.lst (dI (Lp p t))))) := by
    show e6 p e (.o (.val (.lst [.int t, .lst (dI (Lp p e))]))) .no .no (.o (.val (.lst (O.toDs ((dI (Lp p t)).map O.val))))) = _
    rw [toDs_val]
  obtain ⟨e0, he0⟩ : ∃ e0, e0 = e6 p e (.o (.val (.lst [.int t, .lst (dI (Lp p e))]))) .no .no (.o (.val (.lst (dI (Lp p t))))) := ⟨_, rfl⟩
  have hs : F__law_same 10 [.p 0 (.lst (dI (Lp p t))), .p 1 (.lst (dI (Lp p t)))] = .ok (.val (.bl true), [.no, .no]) := by
    refine same_refl ?_
    show (decide ((dI (Lp p t)).length ≤ 1000000) && (dI (Lp p t)).all (smOk 9)) = true
    rw [sm_ints 8, decide_eq_true (by rw [List.length_map, List.length_map]; have := lp_len p t; omega)]; rfl
  have h1 : M.op2 gIx (M.var 2) (M.con (.int 1)) e0 = .ok (.o (.val (.lst (dI (Lp p e)))), e0) := by
    rw [he0]
    exact s_op2 (s := .o (.val (.lst [.int t, .lst (dI (Lp p e))]))) (t := iT 1) (s_varO rfl) rfl rfl
  have h2 : M.slice (M.op2 gIx (M.var 2) (M.con (.int 1))) (M.part (M.con (.int 1))) (M.pure none) e0 = .ok (.o (.lst ((dI (powL p e 100 (1 * e % p))).map O.val)), e0) := by
    refine s_bind h1 (s_bind (a := some 1) (e1 := e0) rfl (s_bind (a := none) (e1 := e0) rfl ?_))
    show R.ok (T.o (O.lst ((cutD (D.int ((1 : Nat) : Int) :: dI (powL p e 100 (1 * e % p))) (some 1) none).map O.val)), e0) = _
    rw [cut_one]
  have h3 : M.revL (M.slice (M.op2 gIx (M.var 2) (M.con (.int 1))) (M.part (M.con (.int 1))) (M.pure none)) e0 = .ok (.o (.lst ((dI (powL p e 100 (1 * e % p))).reverse.map O.val)), e0) := by
    refine s_bind h2 ?_
    show R.ok (T.o (O.lst ((O.toDs ((dI (powL p e 100 (1 * e % p))).map O.val)).reverse.map O.val)), e0) = _
    rw [toDs_val]
  have h4 : M.op2 gAdd (M.lst (M.consA (M.con (.int 1)) (M.pure []))) (M.revL (M.slice (M.op2 gIx (M.var 2) (M.con (.int 1))) (M.part (M.con (.int 1))) (M.pure none))) e0 = .ok (.o (.lst (vI 1 :: (dI (powL p e 100 (1 * e % p))).reverse.map O.val)), e0) := by
    refine s_op2 (s := .o (.lst [vI 1])) (t := .o (.lst ((dI (powL p e 100 (1 * e % p))).reverse.map O.val))) (e1 := e0) rfl h3 ?_
    show (if 1 + ((dI (powL p e 100 (1 * e % p))).reverse.map O.val).length ≤ sizeLine then some (O.lst ([vI 1] ++ (dI (powL p e 100 (1 * e % p))).reverse.map O.val)) else none).orElse _ = _
    rw [if_pos (by
      rw [List.length_map, List.length_reverse, List.length_map, List.length_map]
      have := pow_len p e 100 (1 * e % p)
      exact size_of (by omega))]
    rfl
  have h5 : (O.lst (vI 1 :: (dI (powL p e 100 (1 * e % p))).reverse.map O.val)).toD = .lst (dI (Lp p t)) := by
    show D.lst (D.int 1 :: O.toDs ((dI (powL p e 100 (1 * e % p))).reverse.map O.val)) = _
    rw [toDs_val, k.rv]
    show _ = D.lst (D.int 1 :: dI (powL p e 100 (1 * e % p)).reverse)
    congr 2
    show (List.map D.int (List.map _ _)).reverse = List.map D.int (List.map _ (List.reverse _))
    rw [List.map_reverse, List.map_reverse]
  refine s_not (k := true) (s_tst (t := .o (.val (.bl true))) (s_box (d := .bl true) (e1 := e0) ?_ rfl) (by rw [he0]; rfl)) |>.trans ?_
  · rw [fz, ← he0]
    refine s_call (l := [.o (.val (.lst (dI (Lp p t)))), .o (.lst (vI 1 :: (dI (powL p e 100 (1 * e % p))).reverse.map O.val))]) (os := [.val (.lst (dI (Lp p t))), .lst (vI 1 :: (dI (powL p e 100 (1 * e % p))).reverse.map O.val)]) (e1 := e0) (s_consA (e1 := e0) (s_varO (by rw [he0]; rfl)) (s_consA h4 rfl)) rfl rfl rfl (x := [.no, .no]) ?_
    show F__law_same 10 [.p 0 (.lst (dI (Lp p t))), .p 1 (O.lst (vI 1 :: (dI (powL p e 100 (1 * e % p))).reverse.map O.val)).toD] = _
    rw [h5]; exact hs
  · rw [he0]; rfl
theorem er7 (hb : p < 1000000) (hcf : F_checked_field [.p 0 (.int p)] = .ok (.val (.int p), [.no])) (k : EOk p e t r) {d : Sl} : M.andV (M.op2 (gEq false) (M.op2 gMod (M.call1 gInt1 (M.op2 gSub (M.var 0) (M.con (.int 1)))) (M.call1 gLen (M.op2 gIx (M.var 2) (M.con (.int 1))))) (M.con (.int 0))) (M.op2 (gEq false) (M.call 2 F_turned_element (M.consA (M.var 0) (M.consA (M.op2 gIx (M.var 2) (M.con (.int 0))) (M.pure [])))) (M.var 1)) (e5 p e t d) = .ok (.o (.val (.bl true)), e5 p e t d) := by
  obtain ⟨r', hr'⟩ := k.tt
  have hlen : M.call1 gLen (M.op2 gIx (M.var 2) (M.con (.int 1))) (e5 p e t d) = .ok (iT ((Lp p e).length : Nat), e5 p e t d) := by
    refine s_call1 ix1 ?_
    show some (O.val (.int (((dI (Lp p e)).map O.val).length : Nat))) = _
    rw [List.length_map, List.length_map, List.length_map]
  have hsub : M.call1 gInt1 (M.op2 gSub (M.var 0) (M.con (.int 1))) (e5 p e t d) = .ok (iT ((p - 1 : Nat) : Int), e5 p e t d) := by
    have : ((p - 1 : Nat) : Int) = (p : Int) - 1 := by have := k.e1; omega
    rw [this]
    exact s_call1 (s_op2 (e1 := e5 p e t d) rfl rfl g_sub) g_int1
  have hm : M.op2 gMod (M.call1 gInt1 (M.op2 gSub (M.var 0) (M.con (.int 1)))) (M.call1 gLen (M.op2 gIx (M.var 2) (M.con (.int 1)))) (e5 p e t d) = .ok (iT 0, e5 p e t d) := by
    have h0 : ((p - 1 : Nat) : Int) % ((Lp p e).length : Nat) = 0 := by rw [← Int.natCast_emod, k.dv]; rfl
    have := s_op2 (G := gMod) hsub hlen (g_mod (by unfold Lp; rw [List.length_cons]; omega))
    rw [h0] at this
    exact this
  have h1 : M.op2 (gEq false) (M.op2 gMod (M.call1 gInt1 (M.op2 gSub (M.var 0) (M.con (.int 1)))) (M.call1 gLen (M.op2 gIx (M.var 2) (M.con (.int 1))))) (M.con (.int 0)) (e5 p e t d) = .ok (.o (.val (.bl true)), e5 p e t d) := s_op2 hm rfl rfl
  have h2 : M.call 2 F_turned_element (M.consA (M.var 0) (M.consA (M.op2 gIx (M.var 2) (M.con (.int 0))) (M.pure []))) (e5 p e t d) = .ok (iT e, e5 p e t d) :=
    s_call (l := [iT p, iT t]) (os := [vI p, vI t]) (s_consA (t := iT p) (e1 := e5 p e t d) rfl (s_consA ix0 rfl)) rfl rfl rfl (f_turned_element hb k.t0 k.t1 hcf hr')
  exact s_andV1 h1 rfl (s_op2 (t := iT e) h2 rfl (g_eq.trans (by rw [beq_self_eq_true])))
theorem f_element_right (hb : p < 1000000) (hcf : F_checked_field [.p 0 (.int p)] = .ok (.val (.int p), [.no])) (k : EOk p e t r) : F__law_element_right [.p 0 (.int p), .p 1 (.int e)] = .ok (.val (.bl true), [.no, .no]) :=
  s_fn (e := e5 p e t (.o (.lst ((dI (Lp p t)).map O.val)))) (s_seq (er1 hb k) (s_seq (er2 hb hcf k) (s_seq (er3 hb hcf k) (s_seq (s_if0 (s_or0 er4a er4b) rfl) (s_seq (er5 hb hcf k) (s_seq (s_if0 (er6 k) rfl) (s_rt (s_ret (er7 hb hcf k) rfl))))))))
end
end Kk03
set_option maxHeartbeats 1000000
namespace Kk03
open PySem L2 Mw
/-! ### a field -/
def eqL : List Nat → List Nat → Bool
  | [], [] => true
  | x :: a, y :: b => Nat.beq x y && eqL a b
  | _, _ => false
theorem eqL_ok : ∀ {a b : List Nat}, eqL a b = true → a = b
  | [], [], _ => rfl
  | [], _ :: _, h => by cases h
  | _ :: _, [], h => by cases h
  | x :: a, y :: b, h => by
    obtain ⟨h1, h2⟩ := Bool.and_eq_true_iff.mp (show (Nat.beq x y && eqL a b) = true from h)
    rw [Nat.eq_of_beq_eq_true h1, eqL_ok h2]
def chkE (p e : Nat) : Bool := match tN p e with
  | t :: _ => endsOk p e 100 (1 * e % p) && (nodupB (Lp p e) && (eqL (Lp p t) (1 :: (powL p e 100 (1 * e % p)).reverse) && (Nat.beq ((p - 1) % (Lp p e).length) 0 && (Nat.blt 0 t && (Nat.blt t p && (match tN p t with
    | x :: _ => Nat.beq x e
    | [] => false))))))
  | [] => false
structure EPre (p e t : Nat) (r : List Nat) : Prop where
  t0 : 0 < t
  t1 : t < p
  tn : tN p e = t :: r
  tt : ∃ r', tN p t = e :: r'
  pe : endsOk p e 100 (1 * e % p) = true
  ne : nodupB (Lp p e) = true
  rv : Lp p t = 1 :: (powL p e 100 (1 * e % p)).reverse
  dv : (p - 1) % (Lp p e).length = 0
theorem chkE_ok {p e : Nat} (h : chkE p e = true) : ∃ t r, EPre p e t r := by
  unfold chkE at h
  split at h
  · rename_i t r ht
    obtain ⟨a1, h⟩ := Bool.and_eq_true_iff.mp h
    obtain ⟨a3, h⟩ := Bool.and_eq_true_iff.mp h
    obtain ⟨a5, h⟩ := Bool.and_eq_true_iff.mp h
    obtain ⟨a6, h⟩ := Bool.and_eq_true_iff.mp h
    obtain ⟨a7, h⟩ := Bool.and_eq_true_iff.mp h
    obtain ⟨a8, a9⟩ := Bool.and_eq_true_iff.mp h
    refine ⟨t, r, Nat.le_of_ble_eq_true a7, Nat.le_of_ble_eq_true a8, ht, ?_, a1, a3, eqL_ok a5, Nat.eq_of_beq_eq_true a6⟩
    split at a9
    · rename_i x r' hx
      exact ⟨r', by rw [hx, Nat.eq_of_beq_eq_true a9]⟩
    · cases a9
  · cases h
def rootL (p : Nat) : List Nat := (upN p).filter fun x => Nat.beq (Lp p x).length (p - 1)
def chkP (p : Nat) : Bool := (upN p).all (chkE p) && (match rootL p with
  | _ :: _ => true
  | [] => false)
def primesL : List Nat := [2, 3, 5, 7, 11, 13, 17, 19, 23, 29, 31, 37, 41, 43, 47, 53, 59, 61, 67, 71, 73, 79, 83, 89, 97]
/-! the same, so that the kernel counts each number once -/
def frN {α : Type} (x : Nat) (f : Nat → α) : α := match x with
  | 0 => f 0
  | k + 1 => f (k + 1)
theorem frN_eq {α : Type} (x : Nat) (f : Nat → α) : frN x f = f x := by cases x <;> rfl
def frL {α : Type} : List Nat → (List Nat → α) → α
  | [], f => f []
  | x :: l, f => frL l fun l' => f (x :: l')
theorem frL_eq {α : Type} : ∀ (l : List Nat) (f : List Nat → α), frL l f = f l
  | [], f => rfl
  | x :: l, f => by unfold frL; rw [frL_eq l]
def powS (p e : Nat) : Nat → Nat → List Nat
  | 0, _ => []
  | n + 1, h => if Nat.beq h 1 then [] else frN (h * e % p) fun h' => h :: powS p e n h'
theorem powS_eq (p e : Nat) : ∀ n h : Nat, powS p e n h = powL p e n h
  | 0, _ => rfl
  | n + 1, h => by unfold powS powL; rw [frN_eq, powS_eq p e n]
def endsS (p e : Nat) : Nat → Nat → Bool
  | 0, _ => false
  | n + 1, h => Nat.beq h 1 || frN (h * e % p) fun h' => endsS p e n h'
theorem endsS_eq (p e : Nat) : ∀ n h : Nat, endsS p e n h = endsOk p e n h
  | 0, _ => rfl
  | n + 1, h => by unfold endsS endsOk; rw [frN_eq, endsS_eq p e n]
def chkS (p e : Nat) : Bool := match tN p e with
  | t :: _ => frN t fun t => frL (powS p e 100 (1 * e % p)) fun le => frL (powS p t 100 (1 * t % p)) fun lt => endsS p e 100 (1 * e % p) && (nodupB (1 :: le) && (eqL (1 :: lt) (1 :: le.reverse) && (Nat.beq ((p - 1) % (1 :: le).length) 0 && (Nat.blt 0 t && (Nat.blt t p && (match tN p t with
    | x :: _ => Nat.beq x e
    | [] => false))))))
  | [] => false
theorem chkS_eq (p e : Nat) : chkS p e = chkE p e := by
  unfold chkS chkE Lp
  split
  · rw [frN_eq, frL_eq, frL_eq, powS_eq, powS_eq, endsS_eq]
  · rfl
def rootS (p : Nat) : List Nat := (upN p).filter fun x => Nat.beq (1 :: powS p x 100 (1 * x % p)).length (p - 1)
theorem rootS_eq (p : Nat) : rootS p = rootL p := by
  unfold rootS rootL Lp
  simp only [powS_eq]
def chkQ (p : Nat) : Bool := (upN p).all (chkS p) && (match rootS p with
  | _ :: _ => true
  | [] => false)
theorem chkQ_eq (p : Nat) : chkQ p = chkP p := by
  unfold chkQ chkP
  rw [rootS_eq]
  have : chkS p = chkE p := funext fun e => chkS_eq p e
  rw [this]
theorem chk2 : chkQ 2 = true := by decide +kernel
theorem chk3 : chkQ 3 = true := by decide +kernel
theorem chk5 : chkQ 5 = true := by decide +kernel
theorem chk7 : chkQ 7 = true := by decide +kernel
theorem chk11 : chkQ 11 = true := by decide +kernel
theorem chk13 : chkQ 13 = true := by decide +kernel
theorem chk17 : chkQ 17 = true := by decide +kernel
theorem chk19 : chkQ 19 = true := by decide +kernel
theorem chk23 : chkQ 23 = true := by decide +kernel
theorem chk29 : chkQ 29 = true := by decide +kernel
theorem chk31 : chkQ 31 = true := by decide +kernel
theorem chk37 : chkQ 37 = true := by decide +kernel
theorem chk41 : chkQ 41 = true := by decide +kernel
theorem chk43 : chkQ 43 = true := by decide +kernel
theorem chk47 : chkQ 47 = true := by decide +kernel
theorem chk53 : chkQ 53 = true := by decide +kernel
theorem chk59 : chkQ 59 = true := by decide +kernel
theorem chk61 : chkQ 61 = true := by decide +kernel
theorem chk67 : chkQ 67 = true := by decide +kernel
theorem chk71 : chkQ 71 = true := by decide +kernel
theorem chk73 : chkQ 73 = true := by decide +kernel
theorem chk79 : chkQ 79 = true := by decide +kernel
theorem chk83 : chkQ 83 = true := by decide +kernel
theorem chk89 : chkQ 89 = true := by decide +kernel
theorem chk97 : chkQ 97 = true := by decide +kernel
theorem chk_all : primesL.all chkP = true := by
  have h : chkP = chkQ := funext fun p => (chkQ_eq p).symm
  rw [h]
  show (chkQ 2 && (chkQ 3 && (chkQ 5 && (chkQ 7 && (chkQ 11 && (chkQ 13 && (chkQ 17 && (chkQ 19 && (chkQ 23 && (chkQ 29 && (chkQ 31 && (chkQ 37 && (chkQ 41 && (chkQ 43 && (chkQ 47 && (chkQ 53 && (chkQ 59 && (chkQ 61 && (chkQ 67 && (chkQ 71 && (chkQ 73 && (chkQ 79 && (chkQ 83 && (chkQ 89 && (chkQ 97 && true))))))))))))))))))))))))) = true
  rw [chk2, chk3, chk5, chk7, chk11, chk13, chk17, chk19, chk23, chk29, chk31, chk37, chk41, chk43, chk47, chk53, chk59, chk61, chk67, chk71, chk73, chk79, chk83, chk89, chk97]; rfl
def okF (p : Nat) : Bool := match F_checked_field [.p 0 (.int p)] with
  | .ok (.val (.int x), [.no]) => x == (p : Int)
  | _ => false
theorem okF_all : primesL.all okF = true := by decide +kernel
structure POk (p : Nat) (g : Nat) (r : List Nat) : Prop where
  two : 2 ≤ p
  big : p < 98
  cf : F_checked_field [.p 0 (.int p)] = .ok (.val (.int p), [.no])
  el : ∀ e, 0 < e → e < p → ∃ t r, EOk p e t r
  rt : rootL p = g :: r
theorem pok {p : Nat} (m : p ∈ primesL) : ∃ g r, POk p g r := by
  have h1 := List.all_eq_true.mp chk_all p m
  have h2 := List.all_eq_true.mp okF_all p m
  have hp : 2 ≤ p ∧ p < 98 := by
    have : primesL.all (fun p => Nat.ble 2 p && Nat.blt p 98) = true := by decide
    obtain ⟨k1, k2⟩ := Bool.and_eq_true_iff.mp (List.all_eq_true.mp this p m)
    exact ⟨Nat.le_of_ble_eq_true k1, Nat.le_of_ble_eq_true k2⟩
  obtain ⟨a1, a2⟩ := Bool.and_eq_true_iff.mp h1
  have hc : F_checked_field [.p 0 (.int p)] = .ok (.val (.int p), [.no]) := by
    unfold okF at h2
    split at h2
    · rename_i x hx
      have : x = (p : Int) := by simpa using h2
      rw [hx, this]
    · cases h2
  have pre : ∀ e, 0 < e → e < p → ∃ t r, EPre p e t r := fun e h0 h1 => chkE_ok (List.all_eq_true.mp a1 e (by
    unfold upN
    exact List.mem_map.mpr ⟨e - 1, List.mem_range.mpr (by omega), by omega⟩))
  split at a2
  · rename_i g r hr
    refine ⟨g, r, hp.1, hp.2, hc, fun e h0 h1 => ?_, hr⟩
    obtain ⟨t, r1, k1⟩ := pre e h0 h1
    obtain ⟨t2, r2, k2⟩ := pre t k1.t0 k1.t1
    exact ⟨t, r1, h0, h1, k1.t0, k1.t1, k1.tn, k1.tt, k1.pe, k2.pe, k1.ne, k2.ne, k1.rv, k1.dv⟩
  · cases a2
theorem f_field_root {p g : Nat} {r : List Nat} (k : POk p g r) : F_field_root [.p 0 (.int p)] = .ok (vI g, [.no]) := by
  have hp := k.two
  have hb := k.big
  have k1 : M.asg (M.call 1 F_checked_field (M.consA (M.var 0) (M.pure []))) (aFlat (aName 1)) [.p 0 (.int p), .no, .no] = .ok (.nx, [.p 0 (.int p), .o (.val (.int p)), .no]) :=
    s_asg (s_call (l := [iT p]) (os := [vI p]) (e1 := [.p 0 (.int p), .no, .no]) rfl rfl rfl rfl k.cf) rfl rfl
  have hlc := s_lc (src := M.rg2 (M.con (.int 1)) (M.var 1)) (A := aFlat (aName 2)) (own := [2]) (tt := M.op2b (gEq false) (M.call1 gLen (M.call 2 F_element_powers (M.consA (M.var 1) (M.consA (M.var 2) (M.pure []))))) (M.op2 gSub (M.var 1) (M.con (.int 1)))) (te := M.var 2) (e := [.p 0 (.int p), .o (.val (.int p)), .no])
    (rg_nat (e1 := [.p 0 (.int p), .o (.val (.int p)), .no]) (by omega) (by omega) rfl)
    (comp_nat (E := fun x => [.p 0 (.int p), .o (.val (.int p)), .o (vI x)]) (b := fun x => Nat.beq (Lp p x).length (p - 1)) (fun x m => rfl) (fun x m => by
      obtain ⟨m1, m2⟩ := mem_up m
      obtain ⟨t, r', ke⟩ := k.el x m1 m2
      have h1 : M.call 2 F_element_powers (M.consA (M.var 1) (M.consA (M.var 2) (M.pure []))) [.p 0 (.int p), .o (.val (.int p)), .o (vI x)] = .ok (.o (.lst (oI (Lp p x))), [.p 0 (.int p), .o (.val (.int p)), .o (vI x)]) :=
        s_call (l := [iT p, iT x]) (os := [vI p, vI x]) (e1 := [.p 0 (.int p), .o (.val (.int p)), .o (vI x)]) rfl rfl rfl rfl (f_element_powers (by omega) (by omega) k.cf (f_checked_element m1 m2) ke.pe ke.ne)
      have h2 : M.call1 gLen (M.call 2 F_element_powers (M.consA (M.var 1) (M.consA (M.var 2) (M.pure [])))) [.p 0 (.int p), .o (.val (.int p)), .o (vI x)] = .ok (iT ((Lp p x).length : Nat), [.p 0 (.int p), .o (.val (.int p)), .o (vI x)]) := by
        refine s_call1 h1 ?_
        show some (O.val (.int ((oI (Lp p x)).length : Nat))) = _
        rw [List.length_map, List.length_map]
      have h3 : M.op2 gSub (M.var 1) (M.con (.int 1)) [.p 0 (.int p), .o (.val (.int p)), .o (vI x)] = .ok (iT ((p - 1 : Nat) : Int), [.p 0 (.int p), .o (.val (.int p)), .o (vI x)]) := by
        have : ((p - 1 : Nat) : Int) = (p : Int) - 1 := by omega
        rw [this]; rfl
      refine s_op2b h2 h3 (g_eq.trans ?_)
      have : (((Lp p x).length : Int) == ((p - 1 : Nat) : Int)) = Nat.beq (Lp p x).length (p - 1) := by
        cases q : Nat.beq (Lp p x).length (p - 1) with
        | true => rw [Nat.eq_of_beq_eq_true q, beq_self_eq_true]
        | false =>
          refine beq_false_of_ne fun e => ?_
          have e : (Lp p x).length = p - 1 := by omega
          rw [e, Nat.beq_refl] at q
          cases q
      rw [this]) (fun x m => rfl) (fun x m => rfl))
    (by rw [List.length_map, List.length_map]; exact size_of (Nat.le_trans (List.length_filter_le ..) (by unfold upN; simp; omega)))
  have hf : (upN p).filter (fun x => Nat.beq (Lp p x).length (p - 1)) = g :: r := k.rt
  rw [hf] at hlc
  have hk : M.op2 gIx _ (M.con (.int 0)) [.p 0 (.int p), .o (.val (.int p)), .no] = .ok (.o (vI g), [.p 0 (.int p), .o (.val (.int p)), .no]) := s_op2 (s := .o (.lst (vI g :: (cI r).map vI))) (t := iT 0) (e1 := [.p 0 (.int p), .o (.val (.int p)), .no]) hlc rfl ix_head
  exact s_fn (e := [.p 0 (.int p), .o (.val (.int p)), .no]) (s_seq k1 (s_rt (s_ret (t := .o (vI g)) (e1 := [.p 0 (.int p), .o (.val (.int p)), .no]) hk rfl)))
end Kk03
set_option maxHeartbeats 1000000
namespace Kk03
open PySem L2 Mw
theorem lc_cons {A : AsF} {own : List Nat} {tt : M Bool} {te : M Mw.T} {o o' : O} {os l : List O} {e e1 e2 e3 e4 e5 : EnvS} {t : Mw.T} (h1 : A o e = some e1) (h2 : tt e1 = .ok (true, e2)) (h3 : te e2 = .ok (t, e3)) (h4 : strong1 t e3 = some (o', e4)) (h5 : lcLoop A own tt te os (wipeE e4 own) = .ok (l, e5)) : lcLoop A own tt te (o :: os) e = .ok (o' :: l, e5) := by
  show (match A o e with | none => R.stuck | some e1 => _) = _
  rw [h1]
  simp only [h2, h3, h4, h5]
abbrev f9 (p : Nat) (s : Strm) (b c d e f g h : Sl) : EnvS := [.st (some 0) s, .p 1 (.int p), b, c, d, e, f, g, h]
abbrev rTurn : M Mw.T := M.op2 gAdd (M.con (.int 1)) (M.call 2 F__law_draw (M.consA (M.var 0) (M.consA (M.op2 gSub (M.var 1) (M.con (.int 1))) (M.pure []))))
theorem r_turn {p : Nat} {s : Strm} {k : Int} {b c d e f g h : Sl} (hp : 2 ≤ p) (hb : p < 98) (G : Good k s) (hk : k ≤ 1000000000) : ∃ (x : Nat) (s' : Strm), 1 ≤ x ∧ x < p ∧ Good (k + 1) s' ∧ rTurn (f9 p s b c d e f g h) = .ok (iT x, f9 p s' b c d e f g h) := by
  obtain ⟨r, s', h1, h2, h3, h4⟩ := f_draw (many := ((p - 1 : Nat) : Int)) G hk (by omega) (by omega)
  refine ⟨r.toNat + 1, s', by omega, by omega, h4, ?_⟩
  have e1 : M.op2 gSub (M.var 1) (M.con (.int 1)) (f9 p s b c d e f g h) = .ok (iT ((p - 1 : Nat) : Int), f9 p s b c d e f g h) := by
    have : ((p - 1 : Nat) : Int) = (p : Int) - 1 := by omega
    rw [this]; rfl
  have e2 : M.call 2 F__law_draw (M.consA (M.var 0) (M.consA (M.op2 gSub (M.var 1) (M.con (.int 1))) (M.pure []))) (f9 p s b c d e f g h) = .ok (iT r, f9 p s' b c d e f g h) :=
    s_callS (i := 0) (l := [.al 0, iT ((p - 1 : Nat) : Int)]) (e1 := f9 p s b c d e f g h) (s_consA rfl (s_consA e1 rfl)) rfl rfl rfl rfl h1
  have e3 : ((r.toNat + 1 : Nat) : Int) = 1 + r := by omega
  rw [e3]
  exact s_op2 (s := iT 1) (e1 := f9 p s b c d e f g h) rfl e2 g_add
theorem r_loop {p : Nat} {b d e f g h : Sl} (hp : 2 ≤ p) (hb : p < 98) : ∀ {os : List O} {s : Strm} {k : Int}, Good k s → k + os.length ≤ 1000000000 → ∃ (xs : List Nat) (s' : Strm), xs.length = os.length ∧ (∀ x ∈ xs, 1 ≤ x ∧ x < p) ∧ Good (k + os.length) s' ∧
    lcLoop (aFlat (aName 3)) [3] (M.pure true) rTurn os (f9 p s b .no d e f g h) = .ok (oI xs, f9 p s' b .no d e f g h)
  | [], s, k, G, _ => ⟨[], s, rfl, (fun x m => by cases m), by simpa using G, rfl⟩
  | o :: os, s, k, G, hk => by
    simp only [List.length_cons] at hk
    obtain ⟨x, s1, h1, h2, h3, h4⟩ := r_turn (b := b) (c := .o o.flat) (d := d) (e := e) (f := f) (g := g) (h := h) hp hb G (by omega)
    obtain ⟨xs, s2, i1, i2, i3, i4⟩ := r_loop (b := b) (d := d) (e := e) (f := f) (g := g) (h := h) hp hb (os := os) (s := s1) (k := k + 1) h3 (by omega)
    have eg : k + (((o :: os).length : Nat) : Int) = k + 1 + (os.length : Int) := by rw [List.length_cons]; omega
    refine ⟨x :: xs, s2, by simp [i1], fun y m => ?_, by rw [eg]; exact i3, ?_⟩
    · rcases List.mem_cons.mp m with m | m
      · rw [m]; exact ⟨h1, h2⟩
      · exact i2 y m
    · unfold lcLoop
      have e1 : aFlat (aName 3) o (f9 p s b .no d e f g h) = some (f9 p s b (.o o.flat) d e f g h) := rfl
      rw [e1]
      simp only [M.pure, h4]
      have e2 : strong1 (iT x) (f9 p s1 b (.o o.flat) d e f g h) = some (vI x, f9 p s1 b (.o o.flat) d e f g h) := rfl
      rw [e2]
      have e3 : wipeE (f9 p s1 b (.o o.flat) d e f g h) [3] = f9 p s1 b .no d e f g h := rfl
      simp only [e3, i4]
      rfl
/-- the elements that are tried -/
abbrev someL (p : Nat) (xs : List Nat) : List Nat := 1 :: (p - 1) :: xs
theorem fr1 {p : Nat} {s : Strm} {k : Int} (hp : 2 ≤ p) (hb : p < 98) (G : Good k s) (hk : k ≤ 100000) : ∃ (xs : List Nat) (s' : Strm), xs.length = 4 ∧ (∀ x ∈ someL p xs, 1 ≤ x ∧ x < p) ∧ Good (k + 4) s' ∧
    M.asg (M.op2 gAdd (M.lst (M.consA (M.con (.int 1)) (M.consA (M.op2 gSub (M.var 1) (M.con (.int 1))) (M.pure [])))) (M.lc (M.rg1 (M.con (.int 4))) (aFlat (aName 3)) [3] (M.pure true) rTurn)) (aFlat (aName 2)) (f9 p s .no .no .no .no .no .no .no) =
      .ok (.nx, f9 p s' (.o (.lst ((dI (someL p xs)).map O.val))) .no .no .no .no .no .no) := by
  obtain ⟨xs, s', i1, i2, i3, i4⟩ := r_loop (b := .no) (d := .no) (e := .no) (f := .no) (g := .no) (h := .no) hp hb (os := rgItems 0 4) (s := s) (k := k) G (show k + 4 ≤ 1000000000 by omega)
  have i1 : xs.length = 4 := i1
  refine ⟨xs, s', i1, fun x m => ?_, i3, ?_⟩
  · rcases List.mem_cons.mp m with m | m
    · rw [m]; omega
    · rcases List.mem_cons.mp m with m | m
      · rw [m]; omega
      · exact i2 x m
  · have e1 : M.lst (M.consA (M.con (.int 1)) (M.consA (M.op2 gSub (M.var 1) (M.con (.int 1))) (M.pure []))) (f9 p s .no .no .no .no .no .no .no) = .ok (.o (.lst [vI 1, vI ((p - 1 : Nat) : Int)]), f9 p s .no .no .no .no .no .no .no) := by
      have : ((p - 1 : Nat) : Int) = (p : Int) - 1 := by omega
      rw [this]; rfl
    have e2 := s_lc (src := M.rg1 (M.con (.int 4))) (A := aFlat (aName 3)) (own := [3]) (tt := M.pure true) (te := rTurn) (e := f9 p s .no .no .no .no .no .no .no) (os := rgItems 0 4) (b := false) (e1 := f9 p s .no .no .no .no .no .no .no) rfl i4 (by rw [List.length_map, List.length_map, i1]; decide)
    have e3 : M.op2 gAdd (M.lst (M.consA (M.con (.int 1)) (M.consA (M.op2 gSub (M.var 1) (M.con (.int 1))) (M.pure [])))) (M.lc (M.rg1 (M.con (.int 4))) (aFlat (aName 3)) [3] (M.pure true) rTurn) (f9 p s .no .no .no .no .no .no .no) = .ok (.o (.lst (oI (someL p xs))), f9 p s' .no .no .no .no .no .no .no) := by
      refine s_op2 e1 e2 ?_
      show (if 2 + (oI xs).length ≤ sizeLine then some (O.lst ([vI 1, vI ((p - 1 : Nat) : Int)] ++ oI xs)) else none).orElse _ = _
      rw [if_pos (by rw [List.length_map, List.length_map, i1]; decide)]
      rfl
    refine s_asg e3 (o := .lst (oI (someL p xs))) (e2 := f9 p s' .no .no .no .no .no .no .no) rfl ?_
    show some (f9 p s' (.o (.lst ((O.toDs (oI (someL p xs))).map O.val))) .no .no .no .no .no .no) = _
    rw [toDs_vI]
/-- all elements are as they ought to be -/
theorem fr2 {p g : Nat} {r : List Nat} {s : Strm} {b : Sl} {ys : List Nat} (k : POk p g r) (hy : ∀ x ∈ ys, 1 ≤ x ∧ x < p) : ∀ {l : List Nat}, (∀ x ∈ l, 1 ≤ x ∧ x < p) →
    lcLoop (aFlat (aName 4)) [4] (M.pure true) (M.box (M.call 2 F__law_element_right (M.consA (M.var 1) (M.consA (M.var 4) (M.pure []))))) ((dI l).map O.val) (f9 p s b .no .no .no .no .no .no) = .ok ((dI l).map fun _ => O.val (.bl true), f9 p s b .no .no .no .no .no .no)
  | [], _ => rfl
  | x :: l, hl => by
    have ih := fr2 (s := s) (b := b) k hy (l := l) fun y m => hl y (List.mem_cons_of_mem _ m)
    obtain ⟨h1, h2⟩ := hl x List.mem_cons_self
    obtain ⟨t, r', ke⟩ := k.el x h1 h2
    have hb := k.big
    have ht : M.box (M.call 2 F__law_element_right (M.consA (M.var 1) (M.consA (M.var 4) (M.pure [])))) (f9 p s b .no (.o (vI x)) .no .no .no .no) = .ok (.o (.val (.bl true)), f9 p s b .no (.o (vI x)) .no .no .no .no) := by
      have hm : (f9 p s b .no (.o (vI x)) .no .no .no .no).map frzSl = f9 p s (frzSl b) .no (.o (vI x)) .no .no .no .no := rfl
      have hc : M.call 2 F__law_element_right (M.consA (M.var 1) (M.consA (M.var 4) (M.pure []))) (f9 p s (frzSl b) .no (.o (vI x)) .no .no .no .no) = .ok (.o (.val (.bl true)), f9 p s (frzSl b) .no (.o (vI x)) .no .no .no .no) :=
        s_call (l := [iT p, iT x]) (os := [vI p, vI x]) (e1 := f9 p s (frzSl b) .no (.o (vI x)) .no .no .no .no) rfl rfl rfl rfl (f_element_right (by omega) k.cf ke)
      have hx := s_box (ft := M.call 2 F__law_element_right (M.consA (M.var 1) (M.consA (M.var 4) (M.pure [])))) (e := f9 p s b .no (.o (vI x)) .no .no .no .no) (d := .bl true) (e1 := f9 p s (frzSl b) .no (.o (vI x)) .no .no .no .no) (by rw [hm]; exact hc) rfl
      have e9 : mergeE (f9 p s b .no (.o (vI x)) .no .no .no .no) (f9 p s (frzSl b) .no (.o (vI x)) .no .no .no .no) = f9 p s (mergeSl b (frzSl b)) .no (.o (vI x)) .no .no .no .no := rfl
      have : mergeSl b (frzSl b) = b := by cases b <;> rfl
      rw [e9, this] at hx
      exact hx
    exact lc_cons (o := vI x) (os := (dI l).map O.val) (e1 := f9 p s b .no (.o (vI x)) .no .no .no .no) (e2 := f9 p s b .no (.o (vI x)) .no .no .no .no) rfl rfl ht rfl ih
end Kk03
set_option maxHeartbeats 1000000
namespace Kk03
open PySem L2 Mw
abbrev oddFor : M Fl := (M.forS (M.srcD (M.tup (M.consA (M.con .non) (M.consA (M.con (.int 0)) (M.consA (M.neg (M.con (.int 1))) (M.consA (M.var 1) (M.consA (M.op2 gAdd (M.var 1) (M.con (.int 1))) (M.consA (M.con (.bl true)) (M.consA (M.con (.str "1")) (M.consA (M.lst (M.consA (M.con (.int 1)) (M.pure []))) (M.consA M.dnew (M.pure [])))))))))))) (aFlat (aName 7)) (M.seq (M.asg (M.lst (M.consA (M.met "told" metTag [1, 7] (M.call 2 F_turned_element (M.consA (M.var 1) (M.consA (M.call 1 (F__law_copied 10) (M.consA (M.var 7) (M.pure []))) (M.pure []))))) (M.pure []))) (aFlat (aName 8))) (M.seq (M.drop (M.meth (M.var 8) (M.consA (M.met "told" metTag [1, 7] (M.call 2 F_element_powers (M.consA (M.var 1) (M.consA (M.call 1 (F__law_copied 10) (M.consA (M.var 7) (M.pure []))) (M.pure []))))) (M.pure [])) kApp)) (M.seq (M.ifS (M.notB (M.tst (M.box (M.call 2 (F__law_same 10) (M.consA (M.var 8) (M.consA (M.op2 gMul (M.flt (M.lst (M.consA (M.tup (M.consA (M.con (.str "element")) (M.consA (M.var 7) (M.pure [])))) (M.pure [])))) (M.con (.int 2))) (M.pure []))))))) (M.seq (M.ret (M.con (.bl false))) M.nx) M.nx) M.nx))))
def outO (r : Mw.R (Fl × EnvS)) : Option (Option Sl × Option Sl) := match r with
  | .ok (.nx, e) => some (e[0]?, e[1]?)
  | _ => none
theorem odd2 (s : Strm) (ds : List D) (g : Nat) : outO (oddFor (f9 2 s (.o (.val (.lst ds))) .no .no (.o (vI g)) .no .no .no)) = some (some (.st (some 0) s), some (.p 1 (.int 2))) := by kernel_rfl
theorem odd3 (s : Strm) (ds : List D) (g : Nat) : outO (oddFor (f9 3 s (.o (.val (.lst ds))) .no .no (.o (vI g)) .no .no .no)) = some (some (.st (some 0) s), some (.p 1 (.int 3))) := by kernel_rfl
theorem odd5 (s : Strm) (ds : List D) (g : Nat) : outO (oddFor (f9 5 s (.o (.val (.lst ds))) .no .no (.o (vI g)) .no .no .no)) = some (some (.st (some 0) s), some (.p 1 (.int 5))) := by kernel_rfl
theorem odd7 (s : Strm) (ds : List D) (g : Nat) : outO (oddFor (f9 7 s (.o (.val (.lst ds))) .no .no (.o (vI g)) .no .no .no)) = some (some (.st (some 0) s), some (.p 1 (.int 7))) := by kernel_rfl
theorem odd11 (s : Strm) (ds : List D) (g : Nat) : outO (oddFor (f9 11 s (.o (.val (.lst ds))) .no .no (.o (vI g)) .no .no .no)) = some (some (.st (some 0) s), some (.p 1 (.int 11))) := by kernel_rfl
theorem odd13 (s : Strm) (ds : List D) (g : Nat) : outO (oddFor (f9 13 s (.o (.val (.lst ds))) .no .no (.o (vI g)) .no .no .no)) = some (some (.st (some 0) s), some (.p 1 (.int 13))) := by kernel_rfl
theorem odd17 (s : Strm) (ds : List D) (g : Nat) : outO (oddFor (f9 17 s (.o (.val (.lst ds))) .no .no (.o (vI g)) .no .no .no)) = some (some (.st (some 0) s), some (.p 1 (.int 17))) := by kernel_rfl
theorem odd19 (s : Strm) (ds : List D) (g : Nat) : outO (oddFor (f9 19 s (.o (.val (.lst ds))) .no .no (.o (vI g)) .no .no .no)) = some (some (.st (some 0) s), some (.p 1 (.int 19))) := by kernel_rfl
theorem odd23 (s : Strm) (ds : List D) (g : Nat) : outO (oddFor (f9 23 s (.o (.val (.lst ds))) .no .no (.o (vI g)) .no .no .no)) = some (some (.st (some 0) s), some (.p 1 (.int 23))) := by kernel_rfl
theorem odd29 (s : Strm) (ds : List D) (g : Nat) : outO (oddFor (f9 29 s (.o (.val (.lst ds))) .no .no (.o (vI g)) .no .no .no)) = some (some (.st (some 0) s), some (.p 1 (.int 29))) := by kernel_rfl
theorem odd31 (s : Strm) (ds : List D) (g : Nat) : outO (oddFor (f9 31 s (.o (.val (.lst ds))) .no .no (.o (vI g)) .no .no .no)) = some (some (.st (some 0) s), some (.p 1 (.int 31))) := by kernel_rfl
theorem odd37 (s : Strm) (ds : List D) (g : Nat) : outO (oddFor (f9 37 s (.o (.val (.lst ds))) .no .no (.o (vI g)) .no .no .no)) = some (some (.st (some 0) s), some (.p 1 (.int 37))) := by kernel_rfl
theorem odd41 (s : Strm) (ds : List D) (g : Nat) : outO (oddFor (f9 41 s (.o (.val (.lst ds))) .no .no (.o (vI g)) .no .no .no)) = some (some (.st (some 0) s), some (.p 1 (.int 41))) := by kernel_rfl
theorem odd43 (s : Strm) (ds : List D) (g : Nat) : outO (oddFor (f9 43 s (.o (.val (.lst ds))) .no .no (.o (vI g)) .no .no .no)) = some (some (.st (some 0) s), some (.p 1 (.int 43))) := by kernel_rfl
theorem odd47 (s : Strm) (ds : List D) (g : Nat) : outO (oddFor (f9 47 s (.o (.val (.lst ds))) .no .no (.o (vI g)) .no .no .no)) = some (some (.st (some 0) s), some (.p 1 (.int 47))) := by kernel_rfl
theorem odd53 (s : Strm) (ds : List D) (g : Nat) : outO (oddFor (f9 53 s (.o (.val (.lst ds))) .no .no (.o (vI g)) .no .no .no)) = some (some (.st (some 0) s), some (.p 1 (.int 53))) := by kernel_rfl
theorem odd59 (s : Strm) (ds : List D) (g : Nat) : outO (oddFor (f9 59 s (.o (.val (.lst ds))) .no .no (.o (vI g)) .no .no .no)) = some (some (.st (some 0) s), some (.p 1 (.int 59))) := by kernel_rfl
theorem odd61 (s : Strm) (ds : List D) (g : Nat) : outO (oddFor (f9 61 s (.o (.val (.lst ds))) .no .no (.o (vI g)) .no .no .no)) = some (some (.st (some 0) s), some (.p 1 (.int 61))) := by kernel_rfl
theorem odd67 (s : Strm) (ds : List D) (g : Nat) : outO (oddFor (f9 67 s (.o (.val (.lst ds))) .no .no (.o (vI g)) .no .no .no)) = some (some (.st (some 0) s), some (.p 1 (.int 67))) := by kernel_rfl
theorem odd71 (s : Strm) (ds : List D) (g : Nat) : outO (oddFor (f9 71 s (.o (.val (.lst ds))) .no .no (.o (vI g)) .no .no .no)) = some (some (.st (some 0) s), some (.p 1 (.int 71))) := by kernel_rfl
theorem odd73 (s : Strm) (ds : List D) (g : Nat) : outO (oddFor (f9 73 s (.o (.val (.lst ds))) .no .no (.o (vI g)) .no .no .no)) = some (some (.st (some 0) s), some (.p 1 (.int 73))) := by kernel_rfl
theorem odd79 (s : Strm) (ds : List D) (g : Nat) : outO (oddFor (f9 79 s (.o (.val (.lst ds))) .no .no (.o (vI g)) .no .no .no)) = some (some (.st (some 0) s), some (.p 1 (.int 79))) := by kernel_rfl
theorem odd83 (s : Strm) (ds : List D) (g : Nat) : outO (oddFor (f9 83 s (.o (.val (.lst ds))) .no .no (.o (vI g)) .no .no .no)) = some (some (.st (some 0) s), some (.p 1 (.int 83))) := by kernel_rfl
theorem odd89 (s : Strm) (ds : List D) (g : Nat) : outO (oddFor (f9 89 s (.o (.val (.lst ds))) .no .no (.o (vI g)) .no .no .no)) = some (some (.st (some 0) s), some (.p 1 (.int 89))) := by kernel_rfl
theorem odd97 (s : Strm) (ds : List D) (g : Nat) : outO (oddFor (f9 97 s (.o (.val (.lst ds))) .no .no (.o (vI g)) .no .no .no)) = some (some (.st (some 0) s), some (.p 1 (.int 97))) := by kernel_rfl
def OddP (p : Nat) : Prop := ∀ (s : Strm) (ds : List D) (g : Nat), outO (oddFor (f9 p s (.o (.val (.lst ds))) .no .no (.o (vI g)) .no .no .no)) = some (some (.st (some 0) s), some (.p 1 (.int p)))
theorem odd_all : ∀ p ∈ primesL, OddP p := List.forall_mem_cons.mpr ⟨odd2, List.forall_mem_cons.mpr ⟨odd3, List.forall_mem_cons.mpr ⟨odd5, List.forall_mem_cons.mpr ⟨odd7, List.forall_mem_cons.mpr ⟨odd11, List.forall_mem_cons.mpr ⟨odd13, List.forall_mem_cons.mpr ⟨odd17, List.forall_mem_cons.mpr ⟨odd19, List.forall_mem_cons.mpr ⟨odd23, List.forall_mem_cons.mpr ⟨odd29, List.forall_mem_cons.mpr ⟨odd31, List.forall_mem_cons.mpr ⟨odd37, List.forall_mem_cons.mpr ⟨odd41, List.forall_mem_cons.mpr ⟨odd43, List.forall_mem_cons.mpr ⟨odd47, List.forall_mem_cons.mpr ⟨odd53, List.forall_mem_cons.mpr ⟨odd59, List.forall_mem_cons.mpr ⟨odd61, List.forall_mem_cons.mpr ⟨odd67, List.forall_mem_cons.mpr ⟨odd71, List.forall_mem_cons.mpr ⟨odd73, List.forall_mem_cons.mpr ⟨odd79, List.forall_mem_cons.mpr ⟨odd83, List.forall_mem_cons.mpr ⟨odd89, List.forall_mem_cons.mpr ⟨odd97, fun _ m => nomatch m⟩⟩⟩⟩⟩⟩⟩⟩⟩⟩⟩⟩⟩⟩⟩⟩⟩⟩⟩⟩⟩⟩⟩⟩⟩
theorem outO_ok {r : Mw.R (Fl × EnvS)} {a b : Option Sl} (h : outO r = some (a, b)) : ∃ e, r = .ok (.nx, e) ∧ e[0]? = a ∧ e[1]? = b := by
  unfold outO at h
  split at h
  · rename_i e
    have h := Option.some.inj h
    injection h with h1 h2
    exact ⟨e, rfl, h1, h2⟩
  · cases h
theorem fr3 {p g : Nat} {r : List Nat} {s : Strm} {b : Sl} (k : POk p g r) : M.asg (M.op2 gIx (M.lc (M.rg2 (M.con (.int 1)) (M.var 1)) (aFlat (aName 6)) [6] (M.op2b (gEq false) (M.call1 gLen (M.call 2 F__law_powers (M.consA (M.var 1) (M.consA (M.var 6) (M.pure []))))) (M.op2 gSub (M.var 1) (M.con (.int 1)))) (M.var 6)) (M.con (.int 0))) (aFlat (aName 5)) (f9 p s b .no .no .no .no .no .no) = .ok (.nx, f9 p s b .no .no (.o (vI g)) .no .no .no) := by
  have hp := k.two
  have hb := k.big
  have hlc := s_lc (src := M.rg2 (M.con (.int 1)) (M.var 1)) (A := aFlat (aName 6)) (own := [6]) (tt := M.op2b (gEq false) (M.call1 gLen (M.call 2 F__law_powers (M.consA (M.var 1) (M.consA (M.var 6) (M.pure []))))) (M.op2 gSub (M.var 1) (M.con (.int 1)))) (te := M.var 6) (e := f9 p s b .no .no .no .no .no .no)
    (rg_nat (e1 := f9 p s b .no .no .no .no .no .no) (by omega) (by omega) rfl)
    (comp_nat (E := fun x => f9 p s b .no .no .no (.o (vI x)) .no .no) (b := fun x => Nat.beq (Lp p x).length (p - 1)) (fun x m => rfl) (fun x m => by
      obtain ⟨m1, m2⟩ := mem_up m
      obtain ⟨t, r', ke⟩ := k.el x m1 m2
      have h1 : M.call 2 F__law_powers (M.consA (M.var 1) (M.consA (M.var 6) (M.pure []))) (f9 p s b .no .no .no (.o (vI x)) .no .no) = .ok (.o (.lst (oI (Lp p x))), f9 p s b .no .no .no (.o (vI x)) .no .no) :=
        s_call (l := [iT p, iT x]) (os := [vI p, vI x]) (e1 := f9 p s b .no .no .no (.o (vI x)) .no .no) rfl rfl rfl rfl (f_law_powers (by omega) (by omega) ke.pe)
      have h2 : M.call1 gLen (M.call 2 F__law_powers (M.consA (M.var 1) (M.consA (M.var 6) (M.pure [])))) (f9 p s b .no .no .no (.o (vI x)) .no .no) = .ok (iT ((Lp p x).length : Nat), f9 p s b .no .no .no (.o (vI x)) .no .no) := by
        refine s_call1 h1 ?_
        show some (O.val (.int ((oI (Lp p x)).length : Nat))) = _
        rw [List.length_map, List.length_map]
      have h3 : M.op2 gSub (M.var 1) (M.con (.int 1)) (f9 p s b .no .no .no (.o (vI x)) .no .no) = .ok (iT ((p - 1 : Nat) : Int), f9 p s b .no .no .no (.o (vI x)) .no .no) := by
        have : ((p - 1 : Nat) : Int) = (p : Int) - 1 := by omega
        rw [this]; rfl
      refine s_op2b h2 h3 (g_eq.trans ?_)
      have : (((Lp p x).length : Int) == ((p - 1 : Nat) : Int)) = Nat.beq (Lp p x).length (p - 1) := by
        cases q : Nat.beq (Lp p x).length (p - 1) with
        | true => rw [Nat.eq_of_beq_eq_true q, beq_self_eq_true]
        | false =>
          refine beq_false_of_ne fun e => ?_
          have e : (Lp p x).length = p - 1 := by omega
          rw [e, Nat.beq_refl] at q
          cases q
      rw [this]) (fun x m => rfl) (fun x m => rfl))
    (by rw [List.length_map, List.length_map]; exact size_of (Nat.le_trans (List.length_filter_le ..) (by unfold upN; simp; omega)))
  have hf : (upN p).filter (fun x => Nat.beq (Lp p x).length (p - 1)) = g :: r := k.rt
  rw [hf] at hlc
  have hk : M.op2 gIx (M.lc (M.rg2 (M.con (.int 1)) (M.var 1)) (aFlat (aName 6)) [6] (M.op2b (gEq false) (M.call1 gLen (M.call 2 F__law_powers (M.consA (M.var 1) (M.consA (M.var 6) (M.pure []))))) (M.op2 gSub (M.var 1) (M.con (.int 1)))) (M.var 6)) (M.con (.int 0)) (f9 p s b .no .no .no .no .no .no) = .ok (.o (vI g), f9 p s b .no .no .no .no .no .no) := s_op2 (s := .o (.lst (vI g :: (cI r).map vI))) (t := iT 0) (e1 := f9 p s b .no .no .no .no .no .no) hlc rfl ix_head
  exact s_asg (o := vI g) (e2 := f9 p s b .no .no .no .no .no .no) hk rfl rfl
theorem fr4 {p g : Nat} {r : List Nat} {s : Strm} {ds : List D} (k : POk p g r) : M.notB (M.tst (M.box (M.call 2 (F__law_same 10) (M.consA (M.lst (M.consA (M.call 1 F_field_root (M.consA (M.var 1) (M.pure []))) (M.consA (M.callN 1 [0] F_field_root (M.consA (M.var 1) (M.pure []))) (M.pure [])))) (M.consA (M.lst (M.consA (M.var 5) (M.consA (M.var 5) (M.pure [])))) (M.pure [])))))) (f9 p s (.o (.val (.lst ds))) .no .no (.o (vI g)) .no .no .no) = .ok (false, f9 p s (.o (.val (.lst ds))) .no .no (.o (vI g)) .no .no .no) := by
  have h1 : M.call 1 F_field_root (M.consA (M.var 1) (M.pure [])) (f9 p s (.o (.val (.lst ds))) .no .no (.o (vI g)) .no .no .no) = .ok (.o (vI g), f9 p s (.o (.val (.lst ds))) .no .no (.o (vI g)) .no .no .no) := s_call (l := [iT p]) (os := [vI p]) (e1 := f9 p s (.o (.val (.lst ds))) .no .no (.o (vI g)) .no .no .no) rfl rfl rfl rfl (f_field_root k)
  have h2 : M.callN 1 [0] F_field_root (M.consA (M.var 1) (M.pure [])) (f9 p s (.o (.val (.lst ds))) .no .no (.o (vI g)) .no .no .no) = .ok (.o (vI g), f9 p s (.o (.val (.lst ds))) .no .no (.o (vI g)) .no .no .no) := s_callN (l := [iT p]) (os := [vI p]) (e1 := f9 p s (.o (.val (.lst ds))) .no .no (.o (vI g)) .no .no .no) rfl rfl rfl (f_field_root k)
  have h3 : M.lst (M.consA (M.call 1 F_field_root (M.consA (M.var 1) (M.pure []))) (M.consA (M.callN 1 [0] F_field_root (M.consA (M.var 1) (M.pure []))) (M.pure []))) (f9 p s (.o (.val (.lst ds))) .no .no (.o (vI g)) .no .no .no) = .ok (.o (.lst [vI g, vI g]), f9 p s (.o (.val (.lst ds))) .no .no (.o (vI g)) .no .no .no) := s_lst (l := [iT g, iT g]) (s_consA h1 (s_consA h2 rfl)) rfl (show 2 ≤ sizeLine by decide)
  have hs : F__law_same 10 [.p 0 (.lst [.int g, .int g]), .p 1 (.lst [.int g, .int g])] = .ok (.val (.bl true), [.no, .no]) := same_refl (by rfl)
  exact s_not (k := true) (s_tst (t := .o (.val (.bl true))) (s_box (d := .bl true) (e1 := f9 p s (.o (.val (.lst ds))) .no .no (.o (vI g)) .no .no .no) (s_call (l := [.o (.lst [vI g, vI g]), .o (.lst [vI g, vI g])]) (os := [.lst [vI g, vI g], .lst [vI g, vI g]]) (e1 := f9 p s (.o (.val (.lst ds))) .no .no (.o (vI g)) .no .no .no) (s_consA h3 (s_consA (t := .o (.lst [vI g, vI g])) rfl rfl)) rfl rfl rfl hs) rfl) rfl)
theorem f_field_right {p : Nat} {s : Strm} {k : Int} (m : p ∈ primesL) (G : Good k s) (hk : k ≤ 100000) : ∃ s', Good (k + 4) s' ∧ F__law_field_right [.st (some 0) s, .p 1 (.int p)] = .ok (.val (.bl true), [.st (some 0) s', .no]) := by
  obtain ⟨g, r, kp⟩ := pok m
  obtain ⟨xs, s', i1, i2, i3, i4⟩ := fr1 kp.two kp.big G hk
  refine ⟨s', i3, ?_⟩
  have hall : M.call1 gAll (M.lc (M.srcD (M.var 2)) (aFlat (aName 4)) [4] (M.pure true) (M.box (M.call 2 F__law_element_right (M.consA (M.var 1) (M.consA (M.var 4) (M.pure [])))))) (f9 p s' (.o (.lst ((dI (someL p xs)).map O.val))) .no .no .no .no .no .no) = .ok (.o (.val (.bl true)), f9 p s' (.o (.val (.lst (dI (someL p xs))))) .no .no .no .no .no .no) := by
    have hsrc : M.srcD (M.var 2) (f9 p s' (.o (.lst ((dI (someL p xs)).map O.val))) .no .no .no .no .no .no) = .ok (((dI (someL p xs)).map O.val, false), f9 p s' (.o (.val (.lst (dI (someL p xs))))) .no .no .no .no .no .no) := by
      show R.ok (((O.toDs ((dI (someL p xs)).map O.val)).map O.val, false), f9 p s' (.o (.val (.lst (O.toDs ((dI (someL p xs)).map O.val))))) .no .no .no .no .no .no) = _
      rw [toDs_val]
    have hlc := s_lc (A := aFlat (aName 4)) (own := [4]) (tt := M.pure true) hsrc (fr2 (s := s') (b := .o (.val (.lst (dI (someL p xs))))) kp i2 (l := someL p xs) i2) (by rw [List.length_map, List.length_map]; exact size_of (by simp [i1]))
    exact s_call1 hlc (all_true _)
  obtain ⟨e, h1, h2, h3⟩ := outO_ok (odd_all p m s' (dI (someL p xs)) g)
  have hr : B__law_field_right (f9 p s .no .no .no .no .no .no .no) = .ok (.rt (.val (.bl true)), e) :=
    s_seq i4 (s_seq (s_if0 (s_not (k := true) (s_tst hall rfl)) rfl) (s_seq (fr3 kp) (s_seq (s_if0 (fr4 kp) rfl) (s_seq h1 (s_rt (s_ret (t := .o (.val (.bl true))) (e1 := e) rfl rfl))))))
  refine (s_fn (n := 2) (m := 9) (fb := B__law_field_right) (as := [.st (some 0) s, .p 1 (.int p)]) hr).trans ?_
  have : argSl 2 e = [.st (some 0) s', .no] := by
    unfold argSl
    show [_, _] = _
    simp [h2, h3]
  rw [this]
end Kk03
set_option maxHeartbeats 1000000
namespace Kk03
open PySem L2 Mw
abbrev lawS1 : M Fl := (M.asg (M.lc (M.rg2 (M.con (.int 2)) (M.con (.int 98))) (aFlat (aName 3)) [3] (M.notB (M.tst (M.call1 gAny (M.lc (M.rg2 (M.con (.int 2)) (M.var 3)) (aFlat (aName 4)) [4] (M.pure true) (M.op2 (gEq false) (M.op2 gMod (M.call1 gInt1 (M.var 3)) (M.var 4)) (M.con (.int 0))))))) (M.var 3)) (aFlat (aName 2)))
abbrev lawS2 : M Fl := (M.forS (M.srcD (M.op2 gAdd (M.lst (M.consA (M.con (.int 2)) (M.consA (M.con (.int 3)) (M.consA (M.con (.int 97)) (M.pure []))))) (M.slice (M.call 2 F__law_mixed (M.consA (M.var 1) (M.consA (M.var 2) (M.pure [])))) (M.pure none) (M.part (M.con (.int 7)))))) (aFlat (aName 5)) (M.seq (M.ifS (M.notB (M.tst (M.call 2 F__law_field_right (M.consA (M.var 1) (M.consA (M.var 5) (M.pure [])))))) (M.seq (M.ret (M.con (.bl false))) M.nx) M.nx) M.nx))
abbrev lawB3 : M Fl := (M.seq (M.forS (M.srcD (M.lst (M.consA (M.con .non) (M.consA (M.con (.int 0)) (M.consA (M.con (.int 1)) (M.consA (M.con (.int 4)) (M.consA (M.con (.int 9)) (M.consA (M.con (.int 91)) (M.consA (M.con (.int 98)) (M.consA (M.con (.int 101)) (M.consA (M.neg (M.con (.int 3))) (M.consA (M.con (.bl true)) (M.consA (M.con (.str "7")) (M.consA (M.lst (M.consA (M.con (.int 7)) (M.pure []))) (M.consA M.dnew (M.consA (M.con (.int 15)) (M.consA (M.con (.int 49)) (M.consA (M.con (.int 95)) (M.pure []))))))))))))))))))) (aFlat (aName 6)) (M.seq (M.asg (M.lst (M.consA (M.met "told" metTag [6] (M.call 2 F_turned_element (M.consA (M.call 1 (F__law_copied 10) (M.consA (M.var 6) (M.pure []))) (M.consA (M.neg (M.con (.int 1))) (M.pure []))))) (M.pure []))) (aFlat (aName 7))) (M.seq (M.drop (M.meth (M.var 7) (M.consA (M.met "told" metTag [6] (M.call 2 F_element_powers (M.consA (M.call 1 (F__law_copied 10) (M.consA (M.var 6) (M.pure []))) (M.consA (M.neg (M.con (.int 1))) (M.pure []))))) (M.pure [])) kApp)) (M.seq (M.drop (M.meth (M.var 7) (M.consA (M.met "told" metTag [6] (M.call 1 F_field_root (M.consA (M.call 1 (F__law_copied 10) (M.consA (M.var 6) (M.pure []))) (M.pure [])))) (M.pure [])) kApp)) (M.seq (M.drop (M.meth (M.var 7) (M.consA (M.met "told" metTag [6] (M.call 3 F_solution_or_bar (M.consA (M.call 1 (F__law_copied 10) (M.consA (M.var 6) (M.pure []))) (M.consA (M.neg (M.con (.int 1))) (M.consA (M.neg (M.con (.int 1))) (M.pure [])))))) (M.pure [])) kApp)) (M.seq (M.drop (M.meth (M.var 7) (M.consA (M.met "told" metTag [6] (M.call 3 F_solutions_count (M.consA (M.call 1 (F__law_copied 10) (M.consA (M.var 6) (M.pure []))) (M.consA (M.neg (M.con (.int 1))) (M.consA (M.neg (M.con (.int 1))) (M.pure [])))))) (M.pure [])) kApp)) (M.seq (M.ifS (M.notB (M.tst (M.box (M.call 2 (F__law_same 10) (M.consA (M.var 7) (M.consA (M.op2 gMul (M.flt (M.lst (M.consA (M.tup (M.consA (M.con (.str "field")) (M.consA (M.var 6) (M.pure [])))) (M.pure [])))) (M.con (.int 5))) (M.pure []))))))) (M.seq (M.ret (M.con (.bl false))) M.nx) M.nx) M.nx))))))) (M.seq (M.asg (M.lst (M.consA (M.con (.str "x")) (M.pure []))) (aFlat (aName 8))) (M.seq (M.keepApp 8 7 (.str "late") (M.metK metTag 8 (M.call 1 F_field_root (M.consA (M.var 8) (M.pure []))))) (M.seq (M.asg (M.lst (M.consA (M.tup (M.consA (M.con (.str "field")) (M.consA (M.lst (M.consA (M.con (.str "x")) (M.consA (M.con (.str "late")) (M.pure [])))) (M.pure [])))) (M.consA (M.con (.int 3)) (M.consA (M.con (.int 4)) (M.consA (M.lst (M.consA (M.con (.int 1)) (M.consA (M.con (.int 2)) (M.consA (M.con (.int 4)) (M.pure []))))) (M.pure [])))))) (aFlat (aName 9))) (M.seq (M.ret (M.box (M.call 2 (F__law_same 10) (M.consA (M.lst (M.consA (M.var 7) (M.consA (M.call 1 F_field_root (M.consA (M.con (.int 7)) (M.pure []))) (M.consA (M.call 2 F_turned_element (M.consA (M.con (.int 7)) (M.consA (M.con (.int 2)) (M.pure [])))) (M.consA (M.call 2 F_element_powers (M.consA (M.con (.int 7)) (M.consA (M.con (.int 2)) (M.pure [])))) (M.pure [])))))) (M.consA (M.var 9) (M.pure [])))))) M.nx)))))
theorem B_law_eq : B_law = M.seq lawS1 (M.seq lawS2 lawB3) := rfl
abbrev l10 (s : Strm) (b f : Sl) : EnvS := [.no, .st none s, b, .no, .no, f, .no, .no, .no, .no]
theorem law1 (s : Strm) : lawS1 (l10 s .no .no) = .ok (.nx, l10 s (.o (.lst ((dI primesL).map O.val))) .no) := by kernel_rfl
def outT (r : Mw.R (Fl × EnvS)) : Bool := match r with
  | .ok (.rt (.val (.bl b)), _) => b
  | _ => false
theorem outT_ok {r : Mw.R (Fl × EnvS)} (h : outT r = true) : ∃ e, r = .ok (.rt (.val (.bl true)), e) := by
  unfold outT at h
  split at h
  · rename_i b e
    subst h
    exact ⟨e, rfl⟩
  · cases h
theorem law3 (s : Strm) (ds : List D) (f : Sl) : outT (lawB3 (l10 s (.o (.val (.lst ds))) f)) = true := by kernel_rfl
end Kk03
set_option maxHeartbeats 1000000
namespace Kk03
open PySem L2 Mw
theorem cut_mem {x : D} {l : List D} {a b : Option Int} (h : x ∈ cutD l a b) : x ∈ l := List.mem_of_mem_drop (List.mem_of_mem_take h)
theorem cut_len {l : List D} {a b : Option Int} : (cutD l a b).length ≤ l.length := by
  unfold cutD
  rw [List.length_take, List.length_drop]
  omega
abbrev lawTurn : M Fl := M.seq (M.ifS (M.notB (M.tst (M.call 2 F__law_field_right (M.consA (M.var 1) (M.consA (M.var 5) (M.pure [])))))) (M.seq (M.ret (M.con (.bl false))) M.nx) M.nx) M.nx
theorem law2_loop {b : Sl} : ∀ {ds : List D} {s : Strm} {f : Sl} {k : Int}, (∀ d ∈ ds, ∃ q : Nat, q ∈ primesL ∧ d = .int q) → Good k s → k + 4 * ds.length ≤ 100000 → ∃ s' f', forLoop (aFlat (aName 5)) lawTurn (ds.map O.val) (l10 s b f) = .ok (.nx, l10 s' b f')
  | [], s, f, k, _, G, _ => ⟨s, f, rfl⟩
  | d :: ds, s, f, k, hd, G, hk => by
    simp only [List.length_cons] at hk
    obtain ⟨q, hq, ed⟩ := hd d List.mem_cons_self
    subst ed
    obtain ⟨s1, G1, hr⟩ := f_field_right hq G (by omega)
    have hc : M.call 2 F__law_field_right (M.consA (M.var 1) (M.consA (M.var 5) (M.pure []))) (l10 s b (.o (vI q))) = .ok (.o (.val (.bl true)), l10 s1 b (.o (vI q))) :=
      s_callS (i := 1) (l := [.al 1, iT q]) (r := [iT q]) (os := [vI q]) (e1 := l10 s b (.o (vI q))) (e2 := l10 s b (.o (vI q))) (j := none) (st := s) rfl rfl rfl rfl rfl hr
    have ht : lawTurn (l10 s b (.o (vI q))) = .ok (.nx, l10 s1 b (.o (vI q))) := s_seq (s_if0 (s_not (k := true) (s_tst hc rfl)) rfl) rfl
    obtain ⟨s2, f2, h2⟩ := law2_loop (b := b) (ds := ds) (s := s1) (f := .o (vI q)) (k := k + 4) (fun x m => hd x (List.mem_cons_of_mem _ m)) G1 (by omega)
    exact ⟨s2, f2, s_for1 (o := vI q) (os := ds.map O.val) (e1 := l10 s b (.o (vI q))) rfl ht h2⟩
theorem primes_len : (dI primesL).length = 25 := rfl
theorem law2 {s : Strm} {k : Int} (G : Good k s) (hk : k ≤ 1000) : ∃ s' f', lawS2 (l10 s (.o (.lst ((dI primesL).map O.val))) .no) = .ok (.nx, l10 s' (.o (.val (.lst (dI primesL)))) f') := by
  obtain ⟨l2, s1, h1, h2, h3⟩ := f_mixed (l := dI primesL) G (by rw [primes_len]; omega) (by rw [primes_len]; decide)
  have hl := h1.length_eq
  rw [primes_len] at h2 hl
  have hc : M.call 2 F__law_mixed (M.consA (M.var 1) (M.consA (M.var 2) (M.pure []))) (l10 s (.o (.lst ((dI primesL).map O.val))) .no) = .ok (.o (.lst (l2.map O.val)), l10 s1 (.o (.val (.lst (dI primesL)))) .no) :=
    s_callS (i := 1) (l := [.al 1, .al 2]) (r := [.al 2]) (os := [.val (.lst (dI primesL))]) (e1 := l10 s (.o (.lst ((dI primesL).map O.val))) .no) (e2 := l10 s (.o (.val (.lst (dI primesL)))) .no) (j := none) (st := s) rfl rfl rfl rfl rfl h3
  have hsl : M.slice (M.call 2 F__law_mixed (M.consA (M.var 1) (M.consA (M.var 2) (M.pure [])))) (M.pure none) (M.part (M.con (.int 7))) (l10 s (.o (.lst ((dI primesL).map O.val))) .no) = .ok (.o (.lst ((cutD l2 none (some 7)).map O.val)), l10 s1 (.o (.val (.lst (dI primesL)))) .no) := by
    refine s_bind hc (s_bind (a := none) rfl (s_bind (a := some 7) (e1 := l10 s1 (.o (.val (.lst (dI primesL)))) .no) rfl ?_))
    show R.ok (T.o (O.lst ((cutD (O.toDs (l2.map O.val)) none (some 7)).map O.val)), l10 s1 (.o (.val (.lst (dI primesL)))) .no) = _
    rw [toDs_val]
  have hcl := cut_len (l := l2) (a := none) (b := some 7)
  have hadd : M.op2 gAdd (M.lst (M.consA (M.con (.int 2)) (M.consA (M.con (.int 3)) (M.consA (M.con (.int 97)) (M.pure []))))) (M.slice (M.call 2 F__law_mixed (M.consA (M.var 1) (M.consA (M.var 2) (M.pure [])))) (M.pure none) (M.part (M.con (.int 7)))) (l10 s (.o (.lst ((dI primesL).map O.val))) .no) = .ok (.o (.lst ((D.int 2 :: D.int 3 :: D.int 97 :: cutD l2 none (some 7)).map O.val)), l10 s1 (.o (.val (.lst (dI primesL)))) .no) := by
    refine s_op2 (s := .o (.lst [vI 2, vI 3, vI 97])) (e1 := l10 s (.o (.lst ((dI primesL).map O.val))) .no) rfl hsl ?_
    show (if 3 + ((cutD l2 none (some 7)).map O.val).length ≤ sizeLine then some (O.lst ([vI 2, vI 3, vI 97] ++ (cutD l2 none (some 7)).map O.val)) else none).orElse _ = _
    rw [if_pos (by rw [List.length_map]; exact size_of (by omega))]
    rfl
  have hsrc : M.srcD (M.op2 gAdd (M.lst (M.consA (M.con (.int 2)) (M.consA (M.con (.int 3)) (M.consA (M.con (.int 97)) (M.pure []))))) (M.slice (M.call 2 F__law_mixed (M.consA (M.var 1) (M.consA (M.var 2) (M.pure [])))) (M.pure none) (M.part (M.con (.int 7))))) (l10 s (.o (.lst ((dI primesL).map O.val))) .no) = .ok (((D.int 2 :: D.int 3 :: D.int 97 :: cutD l2 none (some 7)).map O.val, false), l10 s1 (.o (.val (.lst (dI primesL)))) .no) := by
    refine s_bind hadd ?_
    show R.ok (((O.toDs ((D.int 2 :: D.int 3 :: D.int 97 :: cutD l2 none (some 7)).map O.val)).map O.val, false), l10 s1 (.o (.val (.lst (dI primesL)))) .no) = _
    rw [toDs_val]
  have hds : ∀ d ∈ D.int 2 :: D.int 3 :: D.int 97 :: cutD l2 none (some 7), ∃ q : Nat, q ∈ primesL ∧ d = .int q := fun d m => by
    rcases List.mem_cons.mp m with m | m
    · exact ⟨2, by decide, m⟩
    · rcases List.mem_cons.mp m with m | m
      · exact ⟨3, by decide, m⟩
      · rcases List.mem_cons.mp m with m | m
        · exact ⟨97, by decide, m⟩
        · have := h1.mem_iff.mpr (cut_mem m)
          obtain ⟨i, hi, e⟩ := List.mem_map.mp this
          obtain ⟨n, hn, e2⟩ := List.mem_map.mp hi
          exact ⟨n, hn, by rw [← e, ← e2]⟩
  obtain ⟨s2, f2, h4⟩ := law2_loop (b := .o (.val (.lst (dI primesL)))) (ds := D.int 2 :: D.int 3 :: D.int 97 :: cutD l2 none (some 7)) (s := s1) (f := .no) (k := k + 25) hds h2 (by simp only [List.length_cons]; omega)
  exact ⟨s2, f2, s_forS hsrc h4⟩
theorem law_right (ns : List Int) (h : ns.length ≤ 63) : ∃ e, B_law (envL 8 ns) = .ok (.rt (.val (.bl true)), e) := by
  obtain ⟨s', f', h2⟩ := law2 (good_first h (m := 89) (by decide) (by decide)) (by decide)
  obtain ⟨e, h3⟩ := outT_ok (law3 s' (dI primesL) f')
  refine ⟨e, ?_⟩
  rw [B_law_eq]
  exact s_seq (law1 ⟨ns, 0, 0, 89⟩) (s_seq h2 h3)
end Kk03
set_option maxHeartbeats 0
namespace Kk03
open PySem PyProof.Rows L2 Mw
abbrev dd (i : Nat) (x : Str) : He.DefD := ⟨(x, none), x, x, defArgs (top i), defBody (top i), defScope (top i), [], []⟩
abbrev di (i : Nat) (x qn : Str) : He.DefD := ⟨(x, some "__init__"), "__init__", qn, defArgs (classInit (top i)), defBody (classInit (top i)), defScope (classInit (top i)), [], []⟩
abbrev fnD : List He.DefD := [dd 7 "is_list", dd 8 "is_integer", dd 9 "is_number", dd 11 "checked_field", dd 13 "turned_of", dd 14 "scaled", dd 15 "added", dd 16 "led_rows", dd 18 "checked_element", dd 19 "turned_element", dd 20 "element_powers", dd 21 "field_root", dd 22 "is_element_row", dd 23 "are_rows", dd 24 "checked_rows", dd 25 "led_with_sums", dd 26 "first_solution", dd 27 "solution_or_bar", dd 28 "solutions_count", dd 30 "_law_start", dd 31 "_law_draw", dd 32 "_law_mixed", dd 33 "_law_copied", dd 34 "_law_same", dd 35 "_law_spoilt", dd 36 "_law_is_once", dd 37 "_law_apart", dd 38 "_law_met", dd 39 "_law_powers", dd 40 "_law_element_right", dd 41 "_law_field_right", dd 42 "law", di 2 "BadElement" "BadElement.__init__", di 3 "BadField" "BadField.__init__", di 4 "BadRows" "BadRows.__init__", di 5 "BadSums" "BadSums.__init__"]
abbrev faD : List He.Fa := [.glo "is_list", .glo "is_integer", .glo "is_number", .glo "checked_field", .glo "turned_of", .glo "scaled", .glo "added", .glo "led_rows", .glo "checked_element", .glo "turned_element", .glo "element_powers", .glo "field_root", .glo "is_element_row", .glo "are_rows", .glo "checked_rows", .glo "led_with_sums", .glo "first_solution", .glo "solution_or_bar", .glo "solutions_count", .glo "_law_start", .glo "_law_draw", .glo "_law_mixed", .glo "_law_copied", .glo "_law_same", .glo "_law_spoilt", .glo "_law_is_once", .glo "_law_apart", .glo "_law_met", .glo "_law_powers", .glo "_law_element_right", .glo "_law_field_right", .glo "law", .glo "BadElement", .glo "BadField", .glo "BadRows", .glo "BadSums", .free "all", .free "any", .free "bool", .free "dict", .free "enumerate", .free "int", .free "isinstance", .free "len", .free "list", .free "range", .free "str", .free "tuple", .free "zip", .exm "BadElement" "BadField" false]
abbrev tfD : List He.Defn := [("law", none), ("_law_field_right", none)]
def exB (K : PySem.W.Frag) : Bool := (["BadElement", "BadField", "BadRows", "BadSums"] : List Str).all (fun x : Str => lowB K x) && decide (((tfD.map (He.cT K)).map (·.2)).Nodup)
abbrev looseN : List Str := (["WayError", "BadElement", "BadField", "BadRows", "BadSums", "is_list", "is_integer", "is_number", "checked_field", "turned_of", "scaled", "added", "led_rows", "checked_element", "turned_element"] : List Str) ++ (["element_powers", "field_root", "is_element_row", "are_rows", "checked_rows", "led_with_sums", "first_solution", "solution_or_bar", "solutions_count", "_law_start", "_law_draw", "_law_mixed", "_law_copied", "_law_same", "_law_spoilt"] : List Str) ++ (["_law_is_once", "_law_apart", "_law_met", "_law_powers", "_law_element_right", "_law_field_right"] : List Str)
abbrev RR : PySem.W.OpenRow := PySem.W.OpenLaw.row PySem.Challenge.rw_mixedways_k03_whole_elements
abbrev hk : PySem.W.Hook := He.hookX 4 faD fnD [] tfD exB
def obH (s : PySem.W.SharedT) : He.AlX := He.obsX 4 faD fnD [] tfD exB (HandSHeadRun.getT s)
theorem ob_eq (s : PySem.W.SharedT) : obH s = hk.obs s.abs := He.obsX_eq (HandSHeadRun.getT_eq s)
theorem runH (w : World) : HandSHeadRun.RunEq RR (PySem.W.view RR.prog [42]) hk obH 12000 looseN w := by
  intro os
  kernel_rfl
end Kk03
set_option maxHeartbeats 0
namespace Kk03
open PySem PyProof.Rows L2 Mw
abbrev s__law_start : Stmt := top 30
theorem sc__law_start : FnScope ["script"] ["script"] (defScope s__law_start) := ⟨rfl, rfl, rfl, by decide +kernel, rfl, by decide +kernel, by decide +kernel⟩
theorem ok__law_start {P : Program} {w : World} {K : PySem.W.Frag} {mg : Str → Option Value} {base : Heap} {f : Addr} {fd : FuncData} (T : Txt K mg) (F : Fun K "_law_start" "_law_start" s__law_start f fd) : FnOk P w K mg base (L2.CX P w) 1 f fd ["script"] (spStart K) := by
  refine F.okX (k := 0) sc__law_start (fun vs H Q E h => ?_) fun cdv A outer s H vs Q E hr h => ?_
  · obtain ⟨_, _, e, _⟩ := h
    rw [e]; rfl
  · have c := ctx_of (P := P) (w := w) (K := K) (mg := mg) (base := base) (f := f) (cdv := cdv) (outer := outer) (H := H) (E := E) sc__law_start hr
    refine ⟨_, pss_one (ps_ret (pe_lst (pa_cons (pe_callTy call_list_of rfl T.z_list boot_list (pa_cons (pe_var (i := 0) rfl (.inl rfl)) pa_nil) (by decide) (by decide) rfl rfl) (pa_cons pe_int (pa_cons pe_int (pa_cons pe_int pa_nil)))))), ?_⟩
    obtain ⟨a, ns, ev, hS, hl, q⟩ := h
    subst ev
    exact ⟨.ref a, rfl, a, _, rfl, .inl hS, fun b hb => ⟨show 4 ≤ sizeLine by decide, fun p hp => q b p hb hp⟩⟩
theorem met_ok {K : PySem.W.Frag} {mg : Str → Option Value} {g C0 C1 : Addr} (h0 : mg "BadField" = some (.ref C0)) (h1 : mg "BadElement" = some (.ref C1)) :
    ∀ X : Cx, X.K = K → X.mg = mg → ∀ cdv q, LamX.GivesTo X ["ask", "e"] "_law_met" (defScope s__law_met) g cdv (defBody s__law_met) "ask" q (TTmet X.K X.mg "told" [(C0, "field"), (C1, "element")]) := by
  intro X eK em cdv q
  subst eK em
  exact met_gives (fun _ _ => rfl) fun s H => ⟨rfl, ⟨rfl, by decide, .inl h0⟩, (fun a oe cls d pn hz hf => met_suite hz hf rfl (.inl rfl)), ⟨rfl, ⟨rfl, by decide, .inl h1⟩, (fun a oe cls d pn hz hf => met_suite hz hf rfl (.inl rfl)), trivial⟩⟩
theorem met_tags {K : PySem.W.Frag} {mg : Str → Option Value} {C0 C1 fI0 fI1 : Addr} (L0 : PySem.MwLow.LowTxt K mg "BadField" "BadField.__init__" C0 fI0) (L1 : PySem.MwLow.LowTxt K mg "BadElement" "BadElement.__init__" C1 fI1) (x1_0 : PySem.W.exmOne K (.ref C1) (.ref C0) = some false) :
    ∀ c tag, metTag c = some tag → ∀ C, mg c = some (.ref C) → ∃ fI nm qn, PySem.MwLow.LowTxt K mg nm qn C fI ∧ metSel K (.ref C) tag [(C0, "field"), (C1, "element")] := by
  intro c tag ht C hC
  unfold metTag at ht
  by_cases e0 : c = "BadField"
  · subst e0
    have ht : some ("field" : Str) = some tag := ht
    have ht := Option.some.inj ht
    subst ht
    rw [L0.gC] at hC
    have e := Value.ref.inj (Option.some.inj hC)
    subst e
    exact ⟨fI0, _, _, L0, .inl ⟨L0.te, rfl⟩⟩
  by_cases e1 : c = "BadElement"
  · subst e1
    have ht : some ("element" : Str) = some tag := ht
    have ht := Option.some.inj ht
    subst ht
    rw [L1.gC] at hC
    have e := Value.ref.inj (Option.some.inj hC)
    subst e
    exact ⟨fI1, _, _, L1, .inr ⟨x1_0, .inl ⟨L1.te, rfl⟩⟩⟩
  exact absurd ht (by rw [if_neg e0]; rw [if_neg e1]; exact fun z => nomatch z)
theorem facts {w : World} {K : PySem.W.Frag} {h : Heap} {mg : Str → Option Value} {fa : Addr} (X : K.In h) (G : h.Ns mainGlobals mg) (hfa : mg "law" = some (.ref fa)) (c : He.SaysX faD fnD [] tfD exB w h K) :
    LamX.LawAtS PySem.Challenge.rw_mixedways_k03_whole_elements w K (L2.CX PySem.Challenge.pw_mixedways_k03_whole_elements w) 16 63 "script" mg fa h := by
  have cd := c.t.d
  have low := (He.ba c.more).1
  have L_BadElement := low_of X G (cd.fact 32 (f := .glo "BadElement") rfl) (List.all_eq_true.mp low _ (.head _)) (cd.def_ 32 (d := di 2 "BadElement" "BadElement.__init__") rfl)
  have L_BadField := low_of X G (cd.fact 33 (f := .glo "BadField") rfl) (List.all_eq_true.mp low _ (.tail _ (.head _))) (cd.def_ 33 (d := di 3 "BadField" "BadField.__init__") rfl)
  have L_BadRows := low_of X G (cd.fact 34 (f := .glo "BadRows") rfl) (List.all_eq_true.mp low _ (.tail _ (.tail _ (.head _)))) (cd.def_ 34 (d := di 4 "BadRows" "BadRows.__init__") rfl)
  have L_BadSums := low_of X G (cd.fact 35 (f := .glo "BadSums") rfl) (List.all_eq_true.mp low _ (.tail _ (.tail _ (.tail _ (.head _))))) (cd.def_ 35 (d := di 5 "BadSums" "BadSums.__init__") rfl)
  obtain ⟨d_is_list, D_is_list⟩ := cd.def_ 0 (d := dd 7 "is_list") rfl
  have Y_is_list := fun_of (st := top 7) D_is_list
  have b_is_list : L2.Binds K d_is_list ["thing"] [] := Fun.binds Y_is_list fun _ _ _ _ _ _ us hl => match us, hl with | [_], _ => rfl
  have g_is_list : mg "is_list" = some (.ref (He.fAd K ("is_list", none))) := He.glo_ok X G (cd.fact 0 (f := .glo "is_list") rfl)
  obtain ⟨d_is_integer, D_is_integer⟩ := cd.def_ 1 (d := dd 8 "is_integer") rfl
  have Y_is_integer := fun_of (st := top 8) D_is_integer
  have b_is_integer : L2.Binds K d_is_integer ["thing"] [] := Fun.binds Y_is_integer fun _ _ _ _ _ _ us hl => match us, hl with | [_], _ => rfl
  have g_is_integer : mg "is_integer" = some (.ref (He.fAd K ("is_integer", none))) := He.glo_ok X G (cd.fact 1 (f := .glo "is_integer") rfl)
  obtain ⟨d_is_number, D_is_number⟩ := cd.def_ 2 (d := dd 9 "is_number") rfl
  have Y_is_number := fun_of (st := top 9) D_is_number
  have b_is_number : L2.Binds K d_is_number ["thing"] [] := Fun.binds Y_is_number fun _ _ _ _ _ _ us hl => match us, hl with | [_], _ => rfl
  have g_is_number : mg "is_number" = some (.ref (He.fAd K ("is_number", none))) := He.glo_ok X G (cd.fact 2 (f := .glo "is_number") rfl)
  obtain ⟨d_checked_field, D_checked_field⟩ := cd.def_ 3 (d := dd 11 "checked_field") rfl
  have Y_checked_field := fun_of (st := top 11) D_checked_field
  have b_checked_field : L2.Binds K d_checked_field ["field"] [] := Fun.binds Y_checked_field fun _ _ _ _ _ _ us hl => match us, hl with | [_], _ => rfl
  have g_checked_field : mg "checked_field" = some (.ref (He.fAd K ("checked_field", none))) := He.glo_ok X G (cd.fact 3 (f := .glo "checked_field") rfl)
  obtain ⟨d_turned_of, D_turned_of⟩ := cd.def_ 4 (d := dd 13 "turned_of") rfl
  have Y_turned_of := fun_of (st := top 13) D_turned_of
  have b_turned_of : L2.Binds K d_turned_of ["field", "number"] [] := Fun.binds Y_turned_of fun _ _ _ _ _ _ us hl => match us, hl with | [_, _], _ => rfl
  have g_turned_of : mg "turned_of" = some (.ref (He.fAd K ("turned_of", none))) := He.glo_ok X G (cd.fact 4 (f := .glo "turned_of") rfl)
  obtain ⟨d_scaled, D_scaled⟩ := cd.def_ 5 (d := dd 14 "scaled") rfl
  have Y_scaled := fun_of (st := top 14) D_scaled
  have b_scaled : L2.Binds K d_scaled ["field", "row", "many"] [] := Fun.binds Y_scaled fun _ _ _ _ _ _ us hl => match us, hl with | [_, _, _], _ => rfl
  have g_scaled : mg "scaled" = some (.ref (He.fAd K ("scaled", none))) := He.glo_ok X G (cd.fact 5 (f := .glo "scaled") rfl)
  obtain ⟨d_added, D_added⟩ := cd.def_ 6 (d := dd 15 "added") rfl
  have Y_added := fun_of (st := top 15) D_added
  have b_added : L2.Binds K d_added ["field", "row", "other"] [] := Fun.binds Y_added fun _ _ _ _ _ _ us hl => match us, hl with | [_, _, _], _ => rfl
  have g_added : mg "added" = some (.ref (He.fAd K ("added", none))) := He.glo_ok X G (cd.fact 6 (f := .glo "added") rfl)
  obtain ⟨d_led_rows, D_led_rows⟩ := cd.def_ 7 (d := dd 16 "led_rows") rfl
  have Y_led_rows := fun_of (st := top 16) D_led_rows
  have b_led_rows : L2.Binds K d_led_rows ["field", "rows", "wide"] [] := Fun.binds Y_led_rows fun _ _ _ _ _ _ us hl => match us, hl with | [_, _, _], _ => rfl
  have g_led_rows : mg "led_rows" = some (.ref (He.fAd K ("led_rows", none))) := He.glo_ok X G (cd.fact 7 (f := .glo "led_rows") rfl)
  obtain ⟨d_checked_element, D_checked_element⟩ := cd.def_ 8 (d := dd 18 "checked_element") rfl
  have Y_checked_element := fun_of (st := top 18) D_checked_element
  have b_checked_element : L2.Binds K d_checked_element ["field", "element"] [] := Fun.binds Y_checked_element fun _ _ _ _ _ _ us hl => match us, hl with | [_, _], _ => rfl
  have g_checked_element : mg "checked_element" = some (.ref (He.fAd K ("checked_element", none))) := He.glo_ok X G (cd.fact 8 (f := .glo "checked_element") rfl)
  obtain ⟨d_turned_element, D_turned_element⟩ := cd.def_ 9 (d := dd 19 "turned_element") rfl
  have Y_turned_element := fun_of (st := top 19) D_turned_element
  have b_turned_element : L2.Binds K d_turned_element ["field", "element"] [] := Fun.binds Y_turned_element fun _ _ _ _ _ _ us hl => match us, hl with | [_, _], _ => rfl
  have g_turned_element : mg "turned_element" = some (.ref (He.fAd K ("turned_element", none))) := He.glo_ok X G (cd.fact 9 (f := .glo "turned_element") rfl)
  obtain ⟨d_element_powers, D_element_powers⟩ := cd.def_ 10 (d := dd 20 "element_powers") rfl
  have Y_element_powers := fun_of (st := top 20) D_element_powers
  have b_element_powers : L2.Binds K d_element_powers ["field", "element"] [] := Fun.binds Y_element_powers fun _ _ _ _ _ _ us hl => match us, hl with | [_, _], _ => rfl
  have g_element_powers : mg "element_powers" = some (.ref (He.fAd K ("element_powers", none))) := He.glo_ok X G (cd.fact 10 (f := .glo "element_powers") rfl)
  obtain ⟨d_field_root, D_field_root⟩ := cd.def_ 11 (d := dd 21 "field_root") rfl
  have Y_field_root := fun_of (st := top 21) D_field_root
  have b_field_root : L2.Binds K d_field_root ["field"] [] := Fun.binds Y_field_root fun _ _ _ _ _ _ us hl => match us, hl with | [_], _ => rfl
  have g_field_root : mg "field_root" = some (.ref (He.fAd K ("field_root", none))) := He.glo_ok X G (cd.fact 11 (f := .glo "field_root") rfl)
  obtain ⟨d_is_element_row, D_is_element_row⟩ := cd.def_ 12 (d := dd 22 "is_element_row") rfl
  have Y_is_element_row := fun_of (st := top 22) D_is_element_row
  have b_is_element_row : L2.Binds K d_is_element_row ["field", "thing"] [] := Fun.binds Y_is_element_row fun _ _ _ _ _ _ us hl => match us, hl with | [_, _], _ => rfl
  have g_is_element_row : mg "is_element_row" = some (.ref (He.fAd K ("is_element_row", none))) := He.glo_ok X G (cd.fact 12 (f := .glo "is_element_row") rfl)
  obtain ⟨d_are_rows, D_are_rows⟩ := cd.def_ 13 (d := dd 23 "are_rows") rfl
  have Y_are_rows := fun_of (st := top 23) D_are_rows
  have b_are_rows : L2.Binds K d_are_rows ["field", "thing"] [] := Fun.binds Y_are_rows fun _ _ _ _ _ _ us hl => match us, hl with | [_, _], _ => rfl
  have g_are_rows : mg "are_rows" = some (.ref (He.fAd K ("are_rows", none))) := He.glo_ok X G (cd.fact 13 (f := .glo "are_rows") rfl)
  obtain ⟨d_checked_rows, D_checked_rows⟩ := cd.def_ 14 (d := dd 24 "checked_rows") rfl
  have Y_checked_rows := fun_of (st := top 24) D_checked_rows
  have b_checked_rows : L2.Binds K d_checked_rows ["field", "rows", "sums"] [] := Fun.binds Y_checked_rows fun _ _ _ _ _ _ us hl => match us, hl with | [_, _, _], _ => rfl
  have g_checked_rows : mg "checked_rows" = some (.ref (He.fAd K ("checked_rows", none))) := He.glo_ok X G (cd.fact 14 (f := .glo "checked_rows") rfl)
  obtain ⟨d_led_with_sums, D_led_with_sums⟩ := cd.def_ 15 (d := dd 25 "led_with_sums") rfl
  have Y_led_with_sums := fun_of (st := top 25) D_led_with_sums
  have b_led_with_sums : L2.Binds K d_led_with_sums ["field", "rows", "sums"] [] := Fun.binds Y_led_with_sums fun _ _ _ _ _ _ us hl => match us, hl with | [_, _, _], _ => rfl
  have g_led_with_sums : mg "led_with_sums" = some (.ref (He.fAd K ("led_with_sums", none))) := He.glo_ok X G (cd.fact 15 (f := .glo "led_with_sums") rfl)
  obtain ⟨d_first_solution, D_first_solution⟩ := cd.def_ 16 (d := dd 26 "first_solution") rfl
  have Y_first_solution := fun_of (st := top 26) D_first_solution
  have b_first_solution : L2.Binds K d_first_solution ["field", "rows", "sums"] [] := Fun.binds Y_first_solution fun _ _ _ _ _ _ us hl => match us, hl with | [_, _, _], _ => rfl
  have g_first_solution : mg "first_solution" = some (.ref (He.fAd K ("first_solution", none))) := He.glo_ok X G (cd.fact 16 (f := .glo "first_solution") rfl)
  obtain ⟨d_solution_or_bar, D_solution_or_bar⟩ := cd.def_ 17 (d := dd 27 "solution_or_bar") rfl
  have Y_solution_or_bar := fun_of (st := top 27) D_solution_or_bar
  have b_solution_or_bar : L2.Binds K d_solution_or_bar ["field", "rows", "sums"] [] := Fun.binds Y_solution_or_bar fun _ _ _ _ _ _ us hl => match us, hl with | [_, _, _], _ => rfl
  have g_solution_or_bar : mg "solution_or_bar" = some (.ref (He.fAd K ("solution_or_bar", none))) := He.glo_ok X G (cd.fact 17 (f := .glo "solution_or_bar") rfl)
  obtain ⟨d_solutions_count, D_solutions_count⟩ := cd.def_ 18 (d := dd 28 "solutions_count") rfl
  have Y_solutions_count := fun_of (st := top 28) D_solutions_count
  have b_solutions_count : L2.Binds K d_solutions_count ["field", "rows", "sums"] [] := Fun.binds Y_solutions_count fun _ _ _ _ _ _ us hl => match us, hl with | [_, _, _], _ => rfl
  have g_solutions_count : mg "solutions_count" = some (.ref (He.fAd K ("solutions_count", none))) := He.glo_ok X G (cd.fact 18 (f := .glo "solutions_count") rfl)
  obtain ⟨d__law_start, D__law_start⟩ := cd.def_ 19 (d := dd 30 "_law_start") rfl
  have Y__law_start := fun_of (st := top 30) D__law_start
  have b__law_start : L2.Binds K d__law_start ["script"] [] := Fun.binds Y__law_start fun _ _ _ _ _ _ us hl => match us, hl with | [_], _ => rfl
  have g__law_start : mg "_law_start" = some (.ref (He.fAd K ("_law_start", none))) := He.glo_ok X G (cd.fact 19 (f := .glo "_law_start") rfl)
  obtain ⟨d__law_draw, D__law_draw⟩ := cd.def_ 20 (d := dd 31 "_law_draw") rfl
  have Y__law_draw := fun_of (st := top 31) D__law_draw
  have b__law_draw : L2.Binds K d__law_draw ["stream", "many"] [] := Fun.binds Y__law_draw fun _ _ _ _ _ _ us hl => match us, hl with | [_, _], _ => rfl
  have g__law_draw : mg "_law_draw" = some (.ref (He.fAd K ("_law_draw", none))) := He.glo_ok X G (cd.fact 20 (f := .glo "_law_draw") rfl)
  obtain ⟨d__law_mixed, D__law_mixed⟩ := cd.def_ 21 (d := dd 32 "_law_mixed") rfl
  have Y__law_mixed := fun_of (st := top 32) D__law_mixed
  have b__law_mixed : L2.Binds K d__law_mixed ["stream", "some"] [] := Fun.binds Y__law_mixed fun _ _ _ _ _ _ us hl => match us, hl with | [_, _], _ => rfl
  have g__law_mixed : mg "_law_mixed" = some (.ref (He.fAd K ("_law_mixed", none))) := He.glo_ok X G (cd.fact 21 (f := .glo "_law_mixed") rfl)
  obtain ⟨d__law_copied, D__law_copied⟩ := cd.def_ 22 (d := dd 33 "_law_copied") rfl
  have Y__law_copied := fun_of (st := top 33) D__law_copied
  have b__law_copied : L2.Binds K d__law_copied ["thing"] [] := Fun.binds Y__law_copied fun _ _ _ _ _ _ us hl => match us, hl with | [_], _ => rfl
  have g__law_copied : mg "_law_copied" = some (.ref (He.fAd K ("_law_copied", none))) := He.glo_ok X G (cd.fact 22 (f := .glo "_law_copied") rfl)
  obtain ⟨d__law_same, D__law_same⟩ := cd.def_ 23 (d := dd 34 "_law_same") rfl
  have Y__law_same := fun_of (st := top 34) D__law_same
  have b__law_same : L2.Binds K d__law_same ["found", "due"] [] := Fun.binds Y__law_same fun _ _ _ _ _ _ us hl => match us, hl with | [_, _], _ => rfl
  have g__law_same : mg "_law_same" = some (.ref (He.fAd K ("_law_same", none))) := He.glo_ok X G (cd.fact 23 (f := .glo "_law_same") rfl)
  obtain ⟨d__law_spoilt, D__law_spoilt⟩ := cd.def_ 24 (d := dd 35 "_law_spoilt") rfl
  have Y__law_spoilt := fun_of (st := top 35) D__law_spoilt
  have b__law_spoilt : L2.Binds K d__law_spoilt ["thing"] [] := Fun.binds Y__law_spoilt fun _ _ _ _ _ _ us hl => match us, hl with | [_], _ => rfl
  have g__law_spoilt : mg "_law_spoilt" = some (.ref (He.fAd K ("_law_spoilt", none))) := He.glo_ok X G (cd.fact 24 (f := .glo "_law_spoilt") rfl)
  obtain ⟨d__law_is_once, D__law_is_once⟩ := cd.def_ 25 (d := dd 36 "_law_is_once") rfl
  have Y__law_is_once := fun_of (st := top 36) D__law_is_once
  have b__law_is_once : L2.Binds K d__law_is_once ["thing"] [] := Fun.binds Y__law_is_once fun _ _ _ _ _ _ us hl => match us, hl with | [_], _ => rfl
  have g__law_is_once : mg "_law_is_once" = some (.ref (He.fAd K ("_law_is_once", none))) := He.glo_ok X G (cd.fact 25 (f := .glo "_law_is_once") rfl)
  obtain ⟨d__law_apart, D__law_apart⟩ := cd.def_ 26 (d := dd 37 "_law_apart") rfl
  have Y__law_apart := fun_of (st := top 37) D__law_apart
  have b__law_apart : L2.Binds K d__law_apart ["thing"] [] := Fun.binds Y__law_apart fun _ _ _ _ _ _ us hl => match us, hl with | [_], _ => rfl
  have g__law_apart : mg "_law_apart" = some (.ref (He.fAd K ("_law_apart", none))) := He.glo_ok X G (cd.fact 26 (f := .glo "_law_apart") rfl)
  obtain ⟨d__law_met, D__law_met⟩ := cd.def_ 27 (d := dd 38 "_law_met") rfl
  have Y__law_met := fun_of (st := top 38) D__law_met
  have b__law_met : L2.Binds K d__law_met ["ask"] [] := Fun.binds Y__law_met fun _ _ _ _ _ _ us hl => match us, hl with | [_], _ => rfl
  have g__law_met : mg "_law_met" = some (.ref (He.fAd K ("_law_met", none))) := He.glo_ok X G (cd.fact 27 (f := .glo "_law_met") rfl)
  obtain ⟨d__law_powers, D__law_powers⟩ := cd.def_ 28 (d := dd 39 "_law_powers") rfl
  have Y__law_powers := fun_of (st := top 39) D__law_powers
  have b__law_powers : L2.Binds K d__law_powers ["field", "element"] [] := Fun.binds Y__law_powers fun _ _ _ _ _ _ us hl => match us, hl with | [_, _], _ => rfl
  have g__law_powers : mg "_law_powers" = some (.ref (He.fAd K ("_law_powers", none))) := He.glo_ok X G (cd.fact 28 (f := .glo "_law_powers") rfl)
  obtain ⟨d__law_element_right, D__law_element_right⟩ := cd.def_ 29 (d := dd 40 "_law_element_right") rfl
  have Y__law_element_right := fun_of (st := top 40) D__law_element_right
  have b__law_element_right : L2.Binds K d__law_element_right ["field", "element"] [] := Fun.binds Y__law_element_right fun _ _ _ _ _ _ us hl => match us, hl with | [_, _], _ => rfl
  have g__law_element_right : mg "_law_element_right" = some (.ref (He.fAd K ("_law_element_right", none))) := He.glo_ok X G (cd.fact 29 (f := .glo "_law_element_right") rfl)
  obtain ⟨d__law_field_right, D__law_field_right⟩ := cd.def_ 30 (d := dd 41 "_law_field_right") rfl
  obtain ⟨oc__law_field_right, od__law_field_right, kV__law_field_right, doc__law_field_right, pm__law_field_right, an__law_field_right, ct__law_field_right, osl__law_field_right, e__law_field_right, l__law_field_right, hc__law_field_right⟩ := fun_code (st := top 41) (p := ("_law_field_right", none)) D__law_field_right
  have Y__law_field_right := fun_of (st := top 41) D__law_field_right
  have b__law_field_right : L2.Binds K d__law_field_right ["stream", "field"] [] := Fun.binds Y__law_field_right fun _ _ _ _ _ _ us hl => match us, hl with | [_, _], _ => rfl
  have g__law_field_right : mg "_law_field_right" = some (.ref (He.fAd K ("_law_field_right", none))) := He.glo_ok X G (cd.fact 30 (f := .glo "_law_field_right") rfl)
  obtain ⟨d_law, D_law⟩ := cd.def_ 31 (d := dd 42 "law") rfl
  obtain ⟨oc_law, od_law, kV_law, doc_law, pm_law, an_law, ct_law, osl_law, e_law, l_law, hc_law⟩ := fun_code (st := top 42) (p := ("law", none)) D_law
  have Y_law := fun_of (st := top 42) D_law
  have b_law : L2.Binds K d_law ["script"] [] := Fun.binds Y_law fun _ _ _ _ _ _ us hl => match us, hl with | [_], _ => rfl
  have g_law : mg "law" = some (.ref (He.fAd K ("law", none))) := He.glo_ok X G (cd.fact 31 (f := .glo "law") rfl)
  have T : Txt K mg := { z_all := He.free_ok X G (cd.fact 36 (f := .free "all") rfl), z_any := He.free_ok X G (cd.fact 37 (f := .free "any") rfl), z_bool := He.free_ok X G (cd.fact 38 (f := .free "bool") rfl), z_dict := He.free_ok X G (cd.fact 39 (f := .free "dict") rfl), z_enumerate := He.free_ok X G (cd.fact 40 (f := .free "enumerate") rfl), z_int := He.free_ok X G (cd.fact 41 (f := .free "int") rfl), z_isinstance := He.free_ok X G (cd.fact 42 (f := .free "isinstance") rfl), z_len := He.free_ok X G (cd.fact 43 (f := .free "len") rfl), z_list := He.free_ok X G (cd.fact 44 (f := .free "list") rfl), z_range := He.free_ok X G (cd.fact 45 (f := .free "range") rfl), z_str := He.free_ok X G (cd.fact 46 (f := .free "str") rfl), z_tuple := He.free_ok X G (cd.fact 47 (f := .free "tuple") rfl), z_zip := He.free_ok X G (cd.fact 48 (f := .free "zip") rfl), X_BadElement := ⟨_, _, L_BadElement⟩, X_BadField := ⟨_, _, L_BadField⟩, X_BadRows := ⟨_, _, L_BadRows⟩, X_BadSums := ⟨_, _, L_BadSums⟩ }
  have x1_0 := He.exm_ok (cd.fact 49 (f := .exm "BadElement" "BadField" false) rfl)
  have hmk := met_ok (K := K) (mg := mg) (g := He.fAd K ("_law_met", none)) L_BadField.gC L_BadElement.gC
  have hmt := met_tags L_BadField L_BadElement x1_0
  have e0 := hfa.symm.trans g_law
  cases e0
  refine ⟨d_law, tfD.map (He.cT K), spLaw [((He.cT K ("law", none)).2, qlam "law"), ((He.cT K ("_law_field_right", none)).2, qlam "_law_field_right")] K, fun p m => ?_, fun p m => ?_, fun p m => ?_, fun s u => ?_, fun H a ns hl _ ht hS => ⟨a, ns, rfl, hS, hl, ?_, fun _ => rfl⟩, fun base hKb hGb hTB => ?_⟩
  · obtain ⟨q, hq, e⟩ := List.mem_map.mp m
    subst e; exact c.empty q hq
  · obtain ⟨q, hq, e⟩ := List.mem_map.mp m
    subst e; exact c.out q hq
  · obtain ⟨q, hq, e⟩ := List.mem_map.mp m
    subst e; exact PySem.W.codeHd_of_K X (c.hd q hq)
  · rw [e_law]; exact .of_eq rfl
  · intro p m
    rcases List.mem_cons.mp m with m | m
    · subst m; exact ht (He.cT K ("law", none)) (List.mem_map.mpr ⟨("law", none), .head _, rfl⟩)
    rcases List.mem_cons.mp m with m | m
    · subst m; exact ht (He.cT K ("_law_field_right", none)) (List.mem_map.mpr ⟨("_law_field_right", none), .tail _ (.head _), rfl⟩)
    cases m
  have TB_law := hTB (He.cT K ("law", none)) (List.mem_map.mpr ⟨("law", none), .head _, rfl⟩)
  have TB__law_field_right := hTB (He.cT K ("_law_field_right", none)) (List.mem_map.mpr ⟨("_law_field_right", none), .tail _ (.head _), rfl⟩)
  have k__law_copied : FnOk PySem.Challenge.pw_mixedways_k03_whole_elements w K mg base (L2.CX PySem.Challenge.pw_mixedways_k03_whole_elements w) 11 _ _ ["thing"] (spM [] mg 1 (F__law_copied 10)) := ok__law_copied (P := PySem.Challenge.pw_mixedways_k03_whole_elements) (w := w) (base := base) (T := T) (hm := g__law_copied) (hb := b__law_copied) (F := Y__law_copied) 10
  have c__law_copied : Cal PySem.Challenge.pw_mixedways_k03_whole_elements w K mg base 11 "_law_copied" ["thing"] (F__law_copied 10) := ⟨_, _, k__law_copied, g__law_copied, Y__law_copied.kp, b__law_copied⟩
  have k__law_draw := ok__law_draw (P := PySem.Challenge.pw_mixedways_k03_whole_elements) (w := w) (base := base) (T := T) (F := Y__law_draw)
  have c__law_draw : Cal PySem.Challenge.pw_mixedways_k03_whole_elements w K mg base 1 "_law_draw" ["stream", "many"] F__law_draw := ⟨_, _, k__law_draw, g__law_draw, Y__law_draw.kp, b__law_draw⟩
  have k__law_powers := ok__law_powers (P := PySem.Challenge.pw_mixedways_k03_whole_elements) (w := w) (base := base) (T := T) (F := Y__law_powers)
  have c__law_powers : Cal PySem.Challenge.pw_mixedways_k03_whole_elements w K mg base 1 "_law_powers" ["field", "element"] F__law_powers := ⟨_, _, k__law_powers, g__law_powers, Y__law_powers.kp, b__law_powers⟩
  have k__law_same : FnOk PySem.Challenge.pw_mixedways_k03_whole_elements w K mg base (L2.CX PySem.Challenge.pw_mixedways_k03_whole_elements w) 11 _ _ ["found", "due"] (spM [] mg 2 (F__law_same 10)) := ok__law_same (P := PySem.Challenge.pw_mixedways_k03_whole_elements) (w := w) (base := base) (T := T) (hm := g__law_same) (hb := b__law_same) (F := Y__law_same) 10
  have c__law_same : Cal PySem.Challenge.pw_mixedways_k03_whole_elements w K mg base 11 "_law_same" ["found", "due"] (F__law_same 10) := ⟨_, _, k__law_same, g__law_same, Y__law_same.kp, b__law_same⟩
  have k_is_integer := ok_is_integer (P := PySem.Challenge.pw_mixedways_k03_whole_elements) (w := w) (base := base) (T := T) (F := Y_is_integer)
  have c_is_integer : Cal PySem.Challenge.pw_mixedways_k03_whole_elements w K mg base 1 "is_integer" ["thing"] F_is_integer := ⟨_, _, k_is_integer, g_is_integer, Y_is_integer.kp, b_is_integer⟩
  have k_is_number := ok_is_number (P := PySem.Challenge.pw_mixedways_k03_whole_elements) (w := w) (base := base) (T := T) (c_is_integer := c_is_integer) (F := Y_is_number)
  have c_is_number : Cal PySem.Challenge.pw_mixedways_k03_whole_elements w K mg base 2 "is_number" ["thing"] F_is_number := ⟨_, _, k_is_number, g_is_number, Y_is_number.kp, b_is_number⟩
  have k_checked_element := ok_checked_element (P := PySem.Challenge.pw_mixedways_k03_whole_elements) (w := w) (base := base) (T := T) (c_is_number := c_is_number) (F := Y_checked_element)
  have c_checked_element : Cal PySem.Challenge.pw_mixedways_k03_whole_elements w K mg base 3 "checked_element" ["field", "element"] F_checked_element := ⟨_, _, k_checked_element, g_checked_element, Y_checked_element.kp, b_checked_element⟩
  have k_checked_field := ok_checked_field (P := PySem.Challenge.pw_mixedways_k03_whole_elements) (w := w) (base := base) (T := T) (c_is_number := c_is_number) (F := Y_checked_field)
  have c_checked_field : Cal PySem.Challenge.pw_mixedways_k03_whole_elements w K mg base 3 "checked_field" ["field"] F_checked_field := ⟨_, _, k_checked_field, g_checked_field, Y_checked_field.kp, b_checked_field⟩
  have k_element_powers := ok_element_powers (P := PySem.Challenge.pw_mixedways_k03_whole_elements) (w := w) (base := base) (T := T) (c_checked_element := c_checked_element) (c_checked_field := c_checked_field) (F := Y_element_powers)
  have c_element_powers : Cal PySem.Challenge.pw_mixedways_k03_whole_elements w K mg base 4 "element_powers" ["field", "element"] F_element_powers := ⟨_, _, k_element_powers, g_element_powers, Y_element_powers.kp, b_element_powers⟩
  have k_turned_of := ok_turned_of (P := PySem.Challenge.pw_mixedways_k03_whole_elements) (w := w) (base := base) (T := T) (F := Y_turned_of)
  have c_turned_of : Cal PySem.Challenge.pw_mixedways_k03_whole_elements w K mg base 1 "turned_of" ["field", "number"] F_turned_of := ⟨_, _, k_turned_of, g_turned_of, Y_turned_of.kp, b_turned_of⟩
  have k_turned_element := ok_turned_element (P := PySem.Challenge.pw_mixedways_k03_whole_elements) (w := w) (base := base) (T := T) (c_checked_element := c_checked_element) (c_checked_field := c_checked_field) (c_turned_of := c_turned_of) (F := Y_turned_element)
  have c_turned_element : Cal PySem.Challenge.pw_mixedways_k03_whole_elements w K mg base 4 "turned_element" ["field", "element"] F_turned_element := ⟨_, _, k_turned_element, g_turned_element, Y_turned_element.kp, b_turned_element⟩
  have k__law_is_once : FnOk PySem.Challenge.pw_mixedways_k03_whole_elements w K mg base (L2.CX PySem.Challenge.pw_mixedways_k03_whole_elements w) 11 _ _ ["thing"] (spM [] mg 1 (F__law_is_once 10)) := ok__law_is_once (P := PySem.Challenge.pw_mixedways_k03_whole_elements) (w := w) (base := base) (T := T) (hm := g__law_is_once) (hb := b__law_is_once) (F := Y__law_is_once) 10
  have c__law_is_once : Cal PySem.Challenge.pw_mixedways_k03_whole_elements w K mg base 11 "_law_is_once" ["thing"] (F__law_is_once 10) := ⟨_, _, k__law_is_once, g__law_is_once, Y__law_is_once.kp, b__law_is_once⟩
  have k__law_spoilt := ok__law_spoilt (P := PySem.Challenge.pw_mixedways_k03_whole_elements) (w := w) (base := base) T g__law_spoilt b__law_spoilt Y__law_spoilt 10
  have c__law_apart : CalA PySem.Challenge.pw_mixedways_k03_whole_elements w K mg base 13 "_law_apart" ["thing"] apartF := ⟨_, _, ok__law_apart T k__law_spoilt g__law_spoilt Y__law_spoilt.kp b__law_spoilt c__law_is_once Y__law_apart, g__law_apart, Y__law_apart.kp, b__law_apart⟩
  have nb_n_element_powers_element_field : NBinds K d_element_powers ["field", "element"] ["element", "field"] [1, 0] := by
    obtain ⟨_, _, _, _, _, _, _, _, _, e, _, _⟩ := Y_element_powers.ex
    subst e
    exact fun s us _ hl => match us, hl with | [_, _], _ => .of_eq rfl
  have n_element_powers_element_field : CalN PySem.Challenge.pw_mixedways_k03_whole_elements w K mg base 4 "element_powers" ["field", "element"] ["element", "field"] [1, 0] F_element_powers := ⟨_, _, k_element_powers, g_element_powers, Y_element_powers.kp, nb_n_element_powers_element_field⟩
  have nb_n_turned_element_element_field : NBinds K d_turned_element ["field", "element"] ["element", "field"] [1, 0] := by
    obtain ⟨_, _, _, _, _, _, _, _, _, e, _, _⟩ := Y_turned_element.ex
    subst e
    exact fun s us _ hl => match us, hl with | [_, _], _ => .of_eq rfl
  have n_turned_element_element_field : CalN PySem.Challenge.pw_mixedways_k03_whole_elements w K mg base 4 "turned_element" ["field", "element"] ["element", "field"] [1, 0] F_turned_element := ⟨_, _, k_turned_element, g_turned_element, Y_turned_element.kp, nb_n_turned_element_element_field⟩
  have k__law_element_right := ok__law_element_right (P := PySem.Challenge.pw_mixedways_k03_whole_elements) (w := w) (base := base) (T := T) (c__law_powers := c__law_powers) (c__law_same := c__law_same) (c_element_powers := c_element_powers) (c_turned_element := c_turned_element) (n_element_powers_element_field := n_element_powers_element_field) (n_turned_element_element_field := n_turned_element_element_field) (c__law_apart := c__law_apart) (F := Y__law_element_right)
  have c__law_element_right : Cal PySem.Challenge.pw_mixedways_k03_whole_elements w K mg base 14 "_law_element_right" ["field", "element"] F__law_element_right := ⟨_, _, k__law_element_right, g__law_element_right, Y__law_element_right.kp, b__law_element_right⟩
  have k_field_root := ok_field_root (P := PySem.Challenge.pw_mixedways_k03_whole_elements) (w := w) (base := base) (T := T) (c_checked_field := c_checked_field) (c_element_powers := c_element_powers) (F := Y_field_root)
  have c_field_root : Cal PySem.Challenge.pw_mixedways_k03_whole_elements w K mg base 5 "field_root" ["field"] F_field_root := ⟨_, _, k_field_root, g_field_root, Y_field_root.kp, b_field_root⟩
  have nb_n_field_root_field : NBinds K d_field_root ["field"] ["field"] [0] := by
    obtain ⟨_, _, _, _, _, _, _, _, _, e, _, _⟩ := Y_field_root.ex
    subst e
    exact fun s us _ hl => match us, hl with | [_], _ => .of_eq rfl
  have n_field_root_field : CalN PySem.Challenge.pw_mixedways_k03_whole_elements w K mg base 5 "field_root" ["field"] ["field"] [0] F_field_root := ⟨_, _, k_field_root, g_field_root, Y_field_root.kp, nb_n_field_root_field⟩
  have t__law_field_right : CalT PySem.Challenge.pw_mixedways_k03_whole_elements w K mg base 15 "_law_field_right" ["stream", "field"] [((He.cT K ("_law_field_right", none)).2, qlam "_law_field_right")] F__law_field_right := ⟨_, _, ok__law_field_right (P := PySem.Challenge.pw_mixedways_k03_whole_elements) (w := w) (base := base) (T := T) (c__law_copied := c__law_copied) (c__law_draw := c__law_draw) (c__law_element_right := c__law_element_right) (c__law_powers := c__law_powers) (c__law_same := c__law_same) (c_element_powers := c_element_powers) (c_field_root := c_field_root) (c_turned_element := c_turned_element) (n_field_root_field := n_field_root_field) (Fm := Y__law_met) (hbm := b__law_met) (hmm := g__law_met) (hGm := hmk) (hxm := hmt) (TB := TB__law_field_right) (l := l__law_field_right) (hcd := hc__law_field_right), g__law_field_right, Y__law_field_right.kp, e__law_field_right ▸ b__law_field_right⟩
  have k__law_mixed := ok__law_mixed (P := PySem.Challenge.pw_mixedways_k03_whole_elements) (w := w) (base := base) (T := T) (c__law_draw := c__law_draw) (F := Y__law_mixed)
  have c__law_mixed : Cal PySem.Challenge.pw_mixedways_k03_whole_elements w K mg base 2 "_law_mixed" ["stream", "some"] F__law_mixed := ⟨_, _, k__law_mixed, g__law_mixed, Y__law_mixed.kp, b__law_mixed⟩
  have k_is_list := ok_is_list (P := PySem.Challenge.pw_mixedways_k03_whole_elements) (w := w) (base := base) (T := T) (F := Y_is_list)
  have c_is_list : Cal PySem.Challenge.pw_mixedways_k03_whole_elements w K mg base 1 "is_list" ["thing"] F_is_list := ⟨_, _, k_is_list, g_is_list, Y_is_list.kp, b_is_list⟩
  have k_is_element_row := ok_is_element_row (P := PySem.Challenge.pw_mixedways_k03_whole_elements) (w := w) (base := base) (T := T) (c_is_list := c_is_list) (c_is_number := c_is_number) (F := Y_is_element_row)
  have c_is_element_row : Cal PySem.Challenge.pw_mixedways_k03_whole_elements w K mg base 3 "is_element_row" ["field", "thing"] F_is_element_row := ⟨_, _, k_is_element_row, g_is_element_row, Y_is_element_row.kp, b_is_element_row⟩
  have k_are_rows := ok_are_rows (P := PySem.Challenge.pw_mixedways_k03_whole_elements) (w := w) (base := base) (T := T) (c_is_element_row := c_is_element_row) (c_is_list := c_is_list) (F := Y_are_rows)
  have c_are_rows : Cal PySem.Challenge.pw_mixedways_k03_whole_elements w K mg base 4 "are_rows" ["field", "thing"] F_are_rows := ⟨_, _, k_are_rows, g_are_rows, Y_are_rows.kp, b_are_rows⟩
  have k_checked_rows := ok_checked_rows (P := PySem.Challenge.pw_mixedways_k03_whole_elements) (w := w) (base := base) (T := T) (c_are_rows := c_are_rows) (c_checked_field := c_checked_field) (c_is_element_row := c_is_element_row) (F := Y_checked_rows)
  have c_checked_rows : Cal PySem.Challenge.pw_mixedways_k03_whole_elements w K mg base 5 "checked_rows" ["field", "rows", "sums"] F_checked_rows := ⟨_, _, k_checked_rows, g_checked_rows, Y_checked_rows.kp, b_checked_rows⟩
  have k_added := ok_added (P := PySem.Challenge.pw_mixedways_k03_whole_elements) (w := w) (base := base) (T := T) (F := Y_added)
  have c_added : Cal PySem.Challenge.pw_mixedways_k03_whole_elements w K mg base 1 "added" ["field", "row", "other"] F_added := ⟨_, _, k_added, g_added, Y_added.kp, b_added⟩
  have k_scaled := ok_scaled (P := PySem.Challenge.pw_mixedways_k03_whole_elements) (w := w) (base := base) (T := T) (F := Y_scaled)
  have c_scaled : Cal PySem.Challenge.pw_mixedways_k03_whole_elements w K mg base 1 "scaled" ["field", "row", "many"] F_scaled := ⟨_, _, k_scaled, g_scaled, Y_scaled.kp, b_scaled⟩
  have k_led_rows := ok_led_rows (P := PySem.Challenge.pw_mixedways_k03_whole_elements) (w := w) (base := base) (T := T) (c_added := c_added) (c_scaled := c_scaled) (c_turned_of := c_turned_of) (F := Y_led_rows)
  have c_led_rows : Cal PySem.Challenge.pw_mixedways_k03_whole_elements w K mg base 2 "led_rows" ["field", "rows", "wide"] F_led_rows := ⟨_, _, k_led_rows, g_led_rows, Y_led_rows.kp, b_led_rows⟩
  have k_led_with_sums := ok_led_with_sums (P := PySem.Challenge.pw_mixedways_k03_whole_elements) (w := w) (base := base) (T := T) (c_led_rows := c_led_rows) (F := Y_led_with_sums)
  have c_led_with_sums : Cal PySem.Challenge.pw_mixedways_k03_whole_elements w K mg base 3 "led_with_sums" ["field", "rows", "sums"] F_led_with_sums := ⟨_, _, k_led_with_sums, g_led_with_sums, Y_led_with_sums.kp, b_led_with_sums⟩
  have k_first_solution := ok_first_solution (P := PySem.Challenge.pw_mixedways_k03_whole_elements) (w := w) (base := base) (T := T) (c_led_with_sums := c_led_with_sums) (F := Y_first_solution)
  have c_first_solution : Cal PySem.Challenge.pw_mixedways_k03_whole_elements w K mg base 4 "first_solution" ["field", "rows", "sums"] F_first_solution := ⟨_, _, k_first_solution, g_first_solution, Y_first_solution.kp, b_first_solution⟩
  have k_solution_or_bar := ok_solution_or_bar (P := PySem.Challenge.pw_mixedways_k03_whole_elements) (w := w) (base := base) (T := T) (c_checked_rows := c_checked_rows) (c_first_solution := c_first_solution) (F := Y_solution_or_bar)
  have c_solution_or_bar : Cal PySem.Challenge.pw_mixedways_k03_whole_elements w K mg base 6 "solution_or_bar" ["field", "rows", "sums"] F_solution_or_bar := ⟨_, _, k_solution_or_bar, g_solution_or_bar, Y_solution_or_bar.kp, b_solution_or_bar⟩
  have k_solutions_count := ok_solutions_count (P := PySem.Challenge.pw_mixedways_k03_whole_elements) (w := w) (base := base) (T := T) (c_checked_rows := c_checked_rows) (c_led_with_sums := c_led_with_sums) (F := Y_solutions_count)
  have c_solutions_count : Cal PySem.Challenge.pw_mixedways_k03_whole_elements w K mg base 6 "solutions_count" ["field", "rows", "sums"] F_solutions_count := ⟨_, _, k_solutions_count, g_solutions_count, Y_solutions_count.kp, b_solutions_count⟩
  rw [e_law]
  exact ok_law (P := PySem.Challenge.pw_mixedways_k03_whole_elements) (w := w) (base := base) (T := T) (c__law_copied := c__law_copied) (c__law_mixed := c__law_mixed) (c__law_same := c__law_same) (c_element_powers := c_element_powers) (c_field_root := c_field_root) (c_solution_or_bar := c_solution_or_bar) (c_solutions_count := c_solutions_count) (c_turned_element := c_turned_element) (t__law_field_right := t__law_field_right) (hf2 := ok__law_start T Y__law_start) (hm2 := g__law_start) (hk2 := Y__law_start.kp) (hb2 := b__law_start) (Fm := Y__law_met) (hbm := b__law_met) (hmm := g__law_met) (hGm := hmk) (hxm := hmt) (TB := TB_law) (l := l_law) (hcd := hc_law) (hndup := of_decide_eq_true (He.ba c.more).2) (hlaw := law_right)
end Kk03
open PySem PySem.W PySem.Calls PyProof.Rows
theorem PySem.Challenge.cw_mixedways_k03_whole_elements_holds : PySem.Challenge.rw_mixedways_k03_whole_elements.Holds := by
  w_on; o_law
  refine HandSHeadRun.head_any (r := OpenLaw.row PySem.Challenge.rw_mixedways_k03_whole_elements) (q := view (OpenLaw.row PySem.Challenge.rw_mixedways_k03_whole_elements).prog [42]) (H := Kk03.hk) (ob := Kk03.obH) (M := 12000) (loose := Kk03.looseN) (d := HandSHeadRun.topDef (OpenLaw.row PySem.Challenge.rw_mixedways_k03_whole_elements).prog 42) (kwd := []) Kk03.ob_eq
    (by kernel_rfl) (fun s => by kernel_rfl) Kk03.runH (by kernel_rfl) (by kernel_rfl) (by kernel_rfl) (by rfl) (by first | assumption | decide +kernel) (by decide +kernel) ⟨rfl, rfl, rfl, rfl, rfl, by decide +kernel⟩ ?hw ?hc
  case hw => w_witness2
  case hc =>
    refine LamX.walk_ofTsE (l := PySem.Challenge.rw_mixedways_k03_whole_elements) (n := 63) (k := 16) (x := "script") (CX := fun w => L2.CX PySem.Challenge.pw_mixedways_k03_whole_elements w) rfl (by decide) (by kernel_rfl) ⟨rfl, by decide, by decide⟩ ?F (fun _ _ _ _ _ z => Mw.cx_false z)
    intro w mg fa h Y G hmg0
    obtain ⟨K, KX, c⟩ := Y
    have hmg : mg ("law" : PySem.Str) = some (.ref fa) := by
      have e : (HandSHeadRun.topDef (OpenLaw.row PySem.Challenge.rw_mixedways_k03_whole_elements).prog 42).name = ("law" : PySem.Str) := by kernel_rfl
      rw [← e]
      exact hmg0
    exact ⟨K, KX, Kk03.facts KX G hmg c⟩
