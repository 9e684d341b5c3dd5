import PyProof.Rows.All
import Wide.All
import OpenK.AllK
import Wide.FinOn
import PySem.Challenge.RW_hivewright_k89_whole_orbits_counted_by_r
import HandS.ForMost
import HandS.TupAny
import HandS.TupMul
import HandS.IsInst
import HandS.Flow
import HandS.Flt
import HandS.Rev
import HandS.Iter
import HandS.Defaults
import HandS.HeadHook1
import HandS.HeadHook2
import HandS.Head2
import HandS.HeadEnd
import HandS.Ends
import HandS.More
import KE.SortData
import HandS.SortKw
import HandS.Conv
import HandS.RevRange
import HandS.RevTup
import PyProof.CollectWalk
import HandS.TupSets
import KE.KeyNested
import HandS.Style
import KE.KTupSum
set_option Elab.async false
set_option linter.all false
set_option maxRecDepth 100000
set_option maxHeartbeats 0
/-! Layer «Py», part A: data (D), what represents it (Rep), worlds of represented values. -/
namespace Py
open PySem PySem.Spec PyProof.Rows L2

inductive Fl where
  | own | frz | vw | scr
  deriving DecidableEq
/-- data: what a value means, lists by value; the flag tells who holds the list -/
inductive D where
  | non | bl (b : Bool) | int (i : Int) | str (x : Str) | tup (xs : List D) | lst (f : Fl) (xs : List D)

mutual
def D.noVw : D → Bool
  | .tup xs => noVws xs
  | .lst .vw _ => false
  | .lst _ xs => noVws xs
  | _ => true
def noVws : List D → Bool
  | [] => true
  | x :: xs => x.noVw && noVws xs
end
mutual
def D.noOwn : D → Bool
  | .tup xs => noOwns xs
  | .lst .own _ => false
  | .lst _ xs => noOwns xs
  | _ => true
def noOwns : List D → Bool
  | [] => true
  | x :: xs => x.noOwn && noOwns xs
end
mutual
def D.frz : D → D
  | .lst .own xs => .lst .frz (frzs xs)
  | d => d
def frzs : List D → List D
  | [] => []
  | x :: xs => x.frz :: frzs xs
end
mutual
def D.view : D → D
  | .lst .own xs => .lst .vw (views xs)
  | d => d
def views : List D → List D
  | [] => []
  | x :: xs => x.view :: views xs
end
theorem frzs_map : ∀ xs, frzs xs = xs.map D.frz
  | [] => rfl
  | x :: xs => by simp [frzs, frzs_map xs]
theorem views_map : ∀ xs, views xs = xs.map D.view
  | [] => rfl
  | x :: xs => by simp [views, views_map xs]
theorem noOwns_all : ∀ xs, noOwns xs = xs.all D.noOwn
  | [] => rfl
  | x :: xs => by simp [noOwns, noOwns_all xs]
theorem noVws_all : ∀ xs, noVws xs = xs.all D.noVw
  | [] => rfl
  | x :: xs => by simp [noVws, noVws_all xs]
theorem noOwns_mem {xs : List D} (h : noOwns xs = true) {x : D} (hx : x ∈ xs) : x.noOwn = true := by
  rw [noOwns_all] at h
  exact List.all_eq_true.mp h x hx
theorem noVws_mem {xs : List D} (h : noVws xs = true) {x : D} (hx : x ∈ xs) : x.noVw = true := by
  rw [noVws_all] at h
  exact List.all_eq_true.mp h x hx

/-- a list of the written part -/
def KL (K : PySem.W.Frag) (a : Addr) (xs : List V) : Prop :=
  ∃ (o : Obj) (its : Array Value) (n : Nat), K.lookup a = some o ∧ o.cls = .type "list" ∧ o.dict = none ∧ o.data = .seq its n ∧ its.size ≤ sizeLine ∧ Vals xs its.toList

mutual
inductive Rep (K : PySem.W.Frag) (Z : Addr → Prop) (H : Hp) : V → D → List Addr → Prop
  | non : Rep K Z H .non .non []
  | bl (b : Bool) : Rep K Z H (.bl b) (.bl b) []
  | int (i : Int) : Rep K Z H (.int i) (.int i) []
  | str (x : Str) : Rep K Z H (.str x) (.str x) []
  | tup {a : Addr} {vs : List V} {xs : List D} (h : H a = some (.tup vs)) (r : Reps K Z H vs xs []) : Rep K Z H (.ref a) (.tup xs) []
  | own {a : Addr} {vs : List V} {xs : List D} {fp : List Addr} (h : H a = some (.lst vs)) (r : Reps K Z H vs xs fp) : Rep K Z H (.ref a) (.lst .own xs) (a :: fp)
  | frz {a : Addr} {vs : List V} {xs : List D} (z : Z a) (h : H a = some (.lst vs)) (r : Reps K Z H vs xs []) : Rep K Z H (.ref a) (.lst .frz xs) []
  | vw {a : Addr} {vs : List V} {xs : List D} (h : H a = some (.lst vs)) (r : Reps K Z H vs xs []) : Rep K Z H (.ref a) (.lst .vw xs) []
  | scr {a : Addr} {ns : List Int} (h : (Z a ∧ Rd H a (.lst (ns.map V.int))) ∨ KL K a (ns.map V.int)) : Rep K Z H (.ref a) (.lst .scr (ns.map D.int)) []
inductive Reps (K : PySem.W.Frag) (Z : Addr → Prop) (H : Hp) : List V → List D → List Addr → Prop
  | nil : Reps K Z H [] [] []
  | cons {v : V} {d : D} {f1 f2 : List Addr} {vs : List V} {ds : List D} (r : Rep K Z H v d f1) (t : Reps K Z H vs ds f2) : Reps K Z H (v :: vs) (d :: ds) (f1 ++ f2)
end
section
variable {K : PySem.W.Frag} {Z Z' : Addr → Prop} {H H' : Hp}
theorem Reps.length : ∀ {vs : List V} {ds : List D} {fp : List Addr}, Reps K Z H vs ds fp → vs.length = ds.length
  | _, _, _, .nil => rfl
  | _, _, _, .cons _ t => congrArg (· + 1) t.length
mutual
theorem Rep.same (hs : Same H H') : ∀ {v : V} {d : D} {fp : List Addr}, Rep K Z H v d fp → Rep K Z H' v d fp
  | _, _, _, .non => .non
  | _, _, _, .bl b => .bl b
  | _, _, _, .int i => .int i
  | _, _, _, .str x => .str x
  | _, _, _, .tup h r => .tup (hs _ _ h) (r.same hs)
  | _, _, _, .own h r => .own (hs _ _ h) (r.same hs)
  | _, _, _, .frz z h r => .frz z (hs _ _ h) (r.same hs)
  | _, _, _, .vw h r => .vw (hs _ _ h) (r.same hs)
  | _, _, _, .scr h => .scr (h.imp (fun q => ⟨q.1, q.2.imp (fun e => hs _ _ e) fun ⟨o, e⟩ => ⟨o, hs _ _ e⟩⟩) id)
theorem Reps.same (hs : Same H H') : ∀ {vs : List V} {ds : List D} {fp : List Addr}, Reps K Z H vs ds fp → Reps K Z H' vs ds fp
  | _, _, _, .nil => .nil
  | _, _, _, .cons r t => .cons (r.same hs) (t.same hs)
end
mutual
theorem Rep.wide (hz : ∀ a, Z a → Z' a) : ∀ {v : V} {d : D} {fp : List Addr}, Rep K Z H v d fp → Rep K Z' H v d fp
  | _, _, _, .non => .non
  | _, _, _, .bl b => .bl b
  | _, _, _, .int i => .int i
  | _, _, _, .str x => .str x
  | _, _, _, .tup h r => .tup h (r.wide hz)
  | _, _, _, .own h r => .own h (r.wide hz)
  | _, _, _, .frz z h r => .frz (hz _ z) h (r.wide hz)
  | _, _, _, .vw h r => .vw h (r.wide hz)
  | _, _, _, .scr h => .scr (h.imp (fun q => ⟨hz _ q.1, q.2⟩) id)
theorem Reps.wide (hz : ∀ a, Z a → Z' a) : ∀ {vs : List V} {ds : List D} {fp : List Addr}, Reps K Z H vs ds fp → Reps K Z' H vs ds fp
  | _, _, _, .nil => .nil
  | _, _, _, .cons r t => .cons (r.wide hz) (t.wide hz)
end
-- the list at a is written: who does not hold it, and does not only look at it, stays
mutual
theorem Rep.write {a : Addr} {xs : List V} {o : HO} (ha : H a = some (.lst xs)) (nz : ¬ Z a) : ∀ {v : V} {d : D} {fp : List Addr}, Rep K Z H v d fp → a ∉ fp → d.noVw = true → Rep K Z (upd H a o) v d fp
  | _, _, _, .non, _, _ => .non
  | _, _, _, .bl b, _, _ => .bl b
  | _, _, _, .int i, _, _ => .int i
  | _, _, _, .str x, _, _ => .str x
  | _, _, _, .tup (a := b) h r, _, n => .tup (by rw [upd_ne (ne_of h ha (by intro e; cases e))]; exact h) (r.write ha nz (by simp) n)
  | _, _, _, .own (a := b) h r, m, n => .own (by
      rw [upd_ne (fun e => m (by rw [e]; exact List.mem_cons_self))]; exact h) (r.write ha nz (fun e => m (List.mem_cons_of_mem _ e)) n)
  | _, _, _, .frz (a := b) z h r, _, n => .frz z (by rw [upd_ne (fun e => nz (by rw [← e]; exact z))]; exact h) (r.write ha nz (by simp) n)
  | _, _, _, .vw h r, _, n => by simp [D.noVw] at n
  | _, _, _, .scr (a := b) h, _, _ => .scr (h.imp (fun q => ⟨q.1, by
      have e : b ≠ a := fun e => nz (by rw [← e]; exact q.1)
      exact q.2.imp (fun z => by rw [upd_ne e]; exact z) fun ⟨o, z⟩ => ⟨o, by rw [upd_ne e]; exact z⟩⟩) id)
theorem Reps.write {a : Addr} {xs : List V} {o : HO} (ha : H a = some (.lst xs)) (nz : ¬ Z a) : ∀ {vs : List V} {ds : List D} {fp : List Addr}, Reps K Z H vs ds fp → a ∉ fp → noVws ds = true → Reps K Z (upd H a o) vs ds fp
  | _, _, _, .nil, _, _ => .nil
  | _, _, _, .cons r t, m, n => by
    simp only [noVws, Bool.and_eq_true] at n
    exact .cons (r.write ha nz (fun e => m (List.mem_append_left _ e)) n.1) (t.write ha nz (fun e => m (List.mem_append_right _ e)) n.2)
end
-- nothing is held
mutual
theorem Rep.none_held : ∀ {v : V} {d : D} {fp : List Addr}, Rep K Z H v d fp → d.noOwn = true → fp = []
  | _, _, _, .non, _ => rfl
  | _, _, _, .bl b, _ => rfl
  | _, _, _, .int i, _ => rfl
  | _, _, _, .str x, _ => rfl
  | _, _, _, .tup h r, _ => rfl
  | _, _, _, .own h r, n => by simp [D.noOwn] at n
  | _, _, _, .frz z h r, _ => rfl
  | _, _, _, .vw h r, _ => rfl
  | _, _, _, .scr h, _ => rfl
theorem Reps.none_held : ∀ {vs : List V} {ds : List D} {fp : List Addr}, Reps K Z H vs ds fp → noOwns ds = true → fp = []
  | _, _, _, .nil, _ => rfl
  | _, _, _, .cons r t, n => by
    simp only [noOwns, Bool.and_eq_true] at n
    rw [r.none_held n.1, t.none_held n.2]; rfl
end
mutual
theorem Rep.noOwn_of : ∀ {v : V} {d : D} {fp : List Addr}, Rep K Z H v d fp → fp = [] → d.noOwn = true
  | _, _, _, .non, _ => rfl
  | _, _, _, .bl b, _ => rfl
  | _, _, _, .int i, _ => rfl
  | _, _, _, .str x, _ => rfl
  | _, _, _, .tup h r, _ => r.noOwn_of rfl
  | _, _, _, .own h r, n => by cases n
  | _, _, _, .frz z h r, _ => r.noOwn_of rfl
  | _, _, _, .vw h r, _ => r.noOwn_of rfl
  | _, _, _, .scr (ns := ns) h, _ => by
    show noOwns (ns.map D.int) = true
    rw [noOwns_all]
    simp [D.noOwn]
theorem Reps.noOwn_of : ∀ {vs : List V} {ds : List D} {fp : List Addr}, Reps K Z H vs ds fp → fp = [] → noOwns ds = true
  | _, _, _, .nil, _ => rfl
  | _, _, _, .cons r t, e => by
    obtain ⟨e1, e2⟩ := List.append_eq_nil_iff.mp e
    simp only [noOwns, Bool.and_eq_true]
    exact ⟨r.noOwn_of e1, t.noOwn_of e2⟩
end
mutual
theorem Rep.frzd : ∀ {v : V} {d : D} {fp : List Addr}, Rep K Z H v d fp → (∀ a ∈ fp, Z a) → Rep K Z H v d.frz []
  | _, _, _, .non, _ => .non
  | _, _, _, .bl b, _ => .bl b
  | _, _, _, .int i, _ => .int i
  | _, _, _, .str x, _ => .str x
  | _, _, _, .tup h r, _ => .tup h r
  | _, _, _, .own h r, z => .frz (z _ List.mem_cons_self) h (r.frzd fun a m => z a (List.mem_cons_of_mem _ m))
  | _, _, _, .frz z h r, _ => .frz z h r
  | _, _, _, .vw h r, _ => .vw h r
  | _, _, _, .scr h, _ => .scr h
theorem Reps.frzd : ∀ {vs : List V} {ds : List D} {fp : List Addr}, Reps K Z H vs ds fp → (∀ a ∈ fp, Z a) → Reps K Z H vs (frzs ds) []
  | _, _, _, .nil, _ => .nil
  | _, _, _, .cons r t, z => .cons (f1 := []) (f2 := []) (r.frzd fun a m => z a (List.mem_append_left _ m)) (t.frzd fun a m => z a (List.mem_append_right _ m))
end
mutual
theorem Rep.viewd : ∀ {v : V} {d : D} {fp : List Addr}, Rep K Z H v d fp → Rep K Z H v d.view []
  | _, _, _, .non => .non
  | _, _, _, .bl b => .bl b
  | _, _, _, .int i => .int i
  | _, _, _, .str x => .str x
  | _, _, _, .tup h r => .tup h r
  | _, _, _, .own h r => .vw h r.viewd
  | _, _, _, .frz z h r => .frz z h r
  | _, _, _, .vw h r => .vw h r
  | _, _, _, .scr h => .scr h
theorem Reps.viewd : ∀ {vs : List V} {ds : List D} {fp : List Addr}, Reps K Z H vs ds fp → Reps K Z H vs (views ds) []
  | _, _, _, .nil => .nil
  | _, _, _, .cons r t => .cons (f1 := []) (f2 := []) r.viewd t.viewd
end
mutual
theorem Rep.tracked : ∀ {v : V} {d : D} {fp : List Addr}, Rep K Z H v d fp → ∀ a ∈ fp, ∃ vs, H a = some (.lst vs)
  | _, _, _, .own (vs := vs) h r, a, m => (List.mem_cons.mp m).elim (fun e => ⟨vs, by rw [e]; exact h⟩) fun m => r.tracked a m
  | _, _, _, .non, _, m => nomatch m
  | _, _, _, .bl b, _, m => nomatch m
  | _, _, _, .int i, _, m => nomatch m
  | _, _, _, .str x, _, m => nomatch m
  | _, _, _, .tup h r, _, m => nomatch m
  | _, _, _, .frz z h r, _, m => nomatch m
  | _, _, _, .vw h r, _, m => nomatch m
  | _, _, _, .scr h, _, m => nomatch m
theorem Reps.tracked : ∀ {vs : List V} {ds : List D} {fp : List Addr}, Reps K Z H vs ds fp → ∀ a ∈ fp, ∃ vs, H a = some (.lst vs)
  | _, _, _, .nil, _, m => nomatch m
  | _, _, _, .cons r t, a, m => (List.mem_append.mp m).elim (fun m => r.tracked a m) fun m => t.tracked a m
end
theorem Reps.get : ∀ {vs : List V} {ds : List D} {fp : List Addr} {i : Nat} {d : D}, Reps K Z H vs ds fp → ds[i]? = some d → ∃ v f, vs[i]? = some v ∧ Rep K Z H v d f ∧ ∀ a ∈ f, a ∈ fp
  | _, _, _, _, _, .nil, h => by simp at h
  | _, _, _, 0, _, .cons r t, h => by
    have e := Option.some.inj h
    subst e
    exact ⟨_, _, rfl, r, fun a m => List.mem_append_left _ m⟩
  | _, _, _, i + 1, _, .cons r t, h => by
    obtain ⟨v, f, h1, h2, h3⟩ := t.get (i := i) h
    exact ⟨v, f, h1, h2, fun a m => List.mem_append_right _ (h3 a m)⟩
theorem Reps.append : ∀ {vs ws : List V} {ds es : List D} {f g : List Addr}, Reps K Z H vs ds f → Reps K Z H ws es g → Reps K Z H (vs ++ ws) (ds ++ es) (f ++ g)
  | _, _, _, _, _, _, .nil, q => q
  | _, _, _, _, _, _, .cons (f1 := f1) (f2 := f2) r t, q => by rw [List.append_assoc]; exact .cons r (t.append q)
theorem Reps.inv_cons {vs : List V} {d : D} {ds : List D} {fp : List Addr} (r : Reps K Z H vs (d :: ds) fp) : ∃ v vr f1 f2, vs = v :: vr ∧ fp = f1 ++ f2 ∧ Rep K Z H v d f1 ∧ Reps K Z H vr ds f2 := by
  cases r with
  | cons r t => exact ⟨_, _, _, _, rfl, rfl, r, t⟩
theorem Reps.inv_nil {vs : List V} {fp : List Addr} (r : Reps K Z H vs [] fp) : vs = [] ∧ fp = [] := by
  cases r
  exact ⟨rfl, rfl⟩
theorem Reps.drop : ∀ {ds : List D} {vs : List V} (n : Nat), Reps K Z H vs ds [] → Reps K Z H (vs.drop n) (ds.drop n) []
  | _, _, 0, r => by simpa using r
  | [], _, n + 1, r => by
    obtain ⟨rfl, _⟩ := r.inv_nil
    exact .nil
  | d :: ds, _, n + 1, r => by
    obtain ⟨v, vr, f1, f2, rfl, e, _, t⟩ := r.inv_cons
    obtain ⟨e1, e2⟩ := List.append_eq_nil_iff.mp e.symm
    subst e2
    exact t.drop n
theorem Reps.take : ∀ {ds : List D} {vs : List V} (n : Nat), Reps K Z H vs ds [] → Reps K Z H (vs.take n) (ds.take n) []
  | _, _, 0, r => by simpa using Reps.nil
  | [], _, n + 1, r => by
    obtain ⟨rfl, _⟩ := r.inv_nil
    exact .nil
  | d :: ds, _, n + 1, r => by
    obtain ⟨v, vr, f1, f2, rfl, e, q, t⟩ := r.inv_cons
    obtain ⟨e1, e2⟩ := List.append_eq_nil_iff.mp e.symm
    subst e1 e2
    exact .cons (f1 := []) (f2 := []) q (t.take n)
/-- one item replaced -/
theorem Reps.setAt : ∀ {ds : List D} {vs : List V} {fp : List Addr} {i : Nat} {v' : V} {d' : D} {f' : List Addr}, Reps K Z H vs ds fp → i < ds.length → Rep K Z H v' d' f' →
    ∃ pre old post, fp = pre ++ old ++ post ∧ Reps K Z H (vs.set i v') (ds.set i d') (pre ++ f' ++ post)
  | [], _, _, i, _, _, _, _, h, _ => absurd h (by simp)
  | d :: ds, _, _, 0, v', d', f', r, _, q => by
    obtain ⟨v, vr, f1, f2, rfl, rfl, r1, t⟩ := r.inv_cons
    exact ⟨[], f1, f2, rfl, by simpa using Reps.cons q t⟩
  | d :: ds, _, _, i + 1, v', d', f', r, h, q => by
    obtain ⟨v, vr, f1, f2, rfl, rfl, r1, t⟩ := r.inv_cons
    obtain ⟨pre, old, post, rfl, t'⟩ := t.setAt (i := i) (by simpa using h) q
    exact ⟨f1 ++ pre, old, post, by simp [List.append_assoc], by
      have z := Reps.cons r1 t'
      simpa [List.append_assoc] using z⟩
theorem Reps.splitAt : ∀ {ds : List D} {vs : List V} {fp : List Addr} {i : Nat} {d : D}, Reps K Z H vs ds fp → ds[i]? = some d →
    ∃ v pre f post, vs[i]? = some v ∧ Rep K Z H v d f ∧ fp = pre ++ f ++ post ∧
      ∀ {v' : V} {d' : D} {f' : List Addr}, Rep K Z H v' d' f' → Reps K Z H (vs.set i v') (ds.set i d') (pre ++ f' ++ post)
  | [], _, _, i, _, _, h => by simp at h
  | d :: ds, _, _, 0, d0, r, h => by
    obtain ⟨v, vr, f1, f2, rfl, rfl, r1, t⟩ := r.inv_cons
    have e := Option.some.inj h
    subst e
    exact ⟨v, [], f1, f2, rfl, r1, rfl, fun q => by simpa using Reps.cons q t⟩
  | d :: ds, _, _, i + 1, d0, r, h => by
    obtain ⟨v, vr, f1, f2, rfl, rfl, r1, t⟩ := r.inv_cons
    obtain ⟨v, pre, f, post, h1, h2, rfl, h4⟩ := t.splitAt (i := i) h
    exact ⟨v, f1 ++ pre, f, post, h1, h2, by simp [List.append_assoc], fun q => by
      have z := Reps.cons r1 (h4 q)
      simpa [List.append_assoc] using z⟩
end
end Py
/-! Layer «Py», part B: worlds. -/
namespace Py
open PySem PySem.Spec PyProof.Rows L2

inductive Wd (K : PySem.W.Frag) (Z : Addr → Prop) (H : Hp) : List (V × D) → List Addr → Prop
  | nil : Wd K Z H [] []
  | cons {v : V} {d : D} {L : List (V × D)} {f1 f2 : List Addr} (r : Rep K Z H v d f1) (t : Wd K Z H L f2) : Wd K Z H ((v, d) :: L) (f1 ++ f2)
def World (K : PySem.W.Frag) (H : Hp) (L : List (V × D)) : Prop :=
  ∃ (Z : Addr → Prop) (fp : List Addr), Wd K Z H L fp ∧ fp.Nodup ∧ (∀ a ∈ fp, ¬ Z a) ∧ ∀ a, Z a → ∃ o, H a = some o
section
variable {K : PySem.W.Frag} {Z Z' : Addr → Prop} {H H' : Hp} {L L' : List (V × D)} {fp : List Addr}
theorem Wd.inv {v : V} {d : D} (w : Wd K Z H ((v, d) :: L) fp) : ∃ f1 f2, fp = f1 ++ f2 ∧ Rep K Z H v d f1 ∧ Wd K Z H L f2 := by
  cases w with
  | cons r t => exact ⟨_, _, rfl, r, t⟩
theorem Wd.same (hs : Same H H') : ∀ {L : List (V × D)} {fp : List Addr}, Wd K Z H L fp → Wd K Z H' L fp
  | _, _, .nil => .nil
  | _, _, .cons r t => .cons (r.same hs) (Wd.same hs t)
theorem Wd.wide (hz : ∀ a, Z a → Z' a) : ∀ {L : List (V × D)} {fp : List Addr}, Wd K Z H L fp → Wd K Z' H L fp
  | _, _, .nil => .nil
  | _, _, .cons r t => .cons (r.wide hz) (Wd.wide hz t)
theorem Wd.tracked : ∀ {L : List (V × D)} {fp : List Addr}, Wd K Z H L fp → ∀ a ∈ fp, ∃ vs, H a = some (.lst vs)
  | _, _, .nil, _, m => nomatch m
  | _, _, .cons r t, a, m => (List.mem_append.mp m).elim (fun m => r.tracked a m) fun m => Wd.tracked t a m
theorem Wd.write {a : Addr} {xs : List V} {o : HO} (ha : H a = some (.lst xs)) (nz : ¬ Z a) : ∀ {L : List (V × D)} {fp : List Addr}, Wd K Z H L fp → a ∉ fp → (∀ p ∈ L, p.2.noVw = true) → Wd K Z (upd H a o) L fp
  | _, _, .nil, _, _ => .nil
  | _, _, .cons r t, m, n => .cons (r.write ha nz (fun e => m (List.mem_append_left _ e)) (n _ List.mem_cons_self))
      (Wd.write ha nz t (fun e => m (List.mem_append_right _ e)) fun p hp => n p (List.mem_cons_of_mem _ hp))
theorem Wd.perm {L L' : List (V × D)} (hp : L.Perm L') : ∀ {fp : List Addr}, Wd K Z H L fp → ∃ fp', Wd K Z H L' fp' ∧ fp.Perm fp' := by
  induction hp with
  | nil => exact fun w => ⟨_, w, .refl _⟩
  | cons x _ ih =>
    intro fp w
    obtain ⟨v, d⟩ := x
    obtain ⟨f1, f2, rfl, r, t⟩ := w.inv
    obtain ⟨f2', t', p⟩ := ih t
    exact ⟨_, .cons r t', p.append_left _⟩
  | swap x y l =>
    intro fp w
    obtain ⟨v, d⟩ := x
    obtain ⟨v', d'⟩ := y
    obtain ⟨f1, f2, rfl, r, t⟩ := w.inv
    obtain ⟨g1, g2, rfl, r', t'⟩ := t.inv
    refine ⟨_, .cons r' (.cons r t'), ?_⟩
    rw [← List.append_assoc, ← List.append_assoc]
    exact List.perm_append_comm.append_right _
  | trans _ _ ih1 ih2 =>
    intro fp w
    obtain ⟨f1, w1, p1⟩ := ih1 w
    obtain ⟨f2, w2, p2⟩ := ih2 w1
    exact ⟨f2, w2, p1.trans p2⟩
theorem Wd.sub {L L' : List (V × D)} (hp : L'.Sublist L) : ∀ {fp : List Addr}, Wd K Z H L fp → ∃ fp', Wd K Z H L' fp' ∧ fp'.Sublist fp := by
  induction hp with
  | slnil => exact fun w => ⟨_, w, .refl _⟩
  | cons x _ ih =>
    intro fp w
    obtain ⟨v, d⟩ := x
    obtain ⟨f1, f2, rfl, r, t⟩ := w.inv
    obtain ⟨f2', t', p⟩ := ih t
    exact ⟨_, t', p.trans (List.sublist_append_right _ _)⟩
  | cons_cons x _ ih =>
    intro fp w
    obtain ⟨v, d⟩ := x
    obtain ⟨f1, f2, rfl, r, t⟩ := w.inv
    obtain ⟨f2', t', p⟩ := ih t
    exact ⟨_, .cons r t', List.Sublist.append (List.Sublist.refl _) p⟩
theorem Wd.items : ∀ {xs : List D} {vs : List V} {fp : List Addr}, Wd K Z H (vs.zip xs ++ L) fp → vs.length = xs.length → ∃ f g, fp = f ++ g ∧ Reps K Z H vs xs f ∧ Wd K Z H L g
  | [], [], fp, w, _ => ⟨[], fp, rfl, .nil, w⟩
  | [], _ :: _, _, _, h => by simp at h
  | _ :: _, [], _, _, h => by simp at h
  | d :: ds, v :: vs, fp, w, h => by
    obtain ⟨f1, f2, rfl, r, t⟩ := Wd.inv (L := vs.zip ds ++ L) w
    obtain ⟨f, g, rfl, q, z⟩ := Wd.items t (by simpa using h)
    exact ⟨f1 ++ f, g, by rw [List.append_assoc], .cons r q, z⟩
theorem Wd.ofItems : ∀ {xs : List D} {vs : List V} {f g : List Addr}, Reps K Z H vs xs f → Wd K Z H L g → Wd K Z H (vs.zip xs ++ L) (f ++ g)
  | _, _, _, _, .nil, w => w
  | _, _, _, _, .cons r t, w => by
    rw [List.append_assoc]
    exact .cons r (Wd.ofItems t w)

/-! ### worlds -/
theorem World.perm (hp : L.Perm L') : World K H L → World K H L' := fun ⟨Z, fp, w, nd, nz, zt⟩ => by
  obtain ⟨fp', w', p⟩ := w.perm hp
  exact ⟨Z, fp', w', p.nodup_iff.mp nd, fun a m => nz a (p.mem_iff.mpr m), zt⟩
theorem World.sub (hp : L'.Sublist L) : World K H L → World K H L' := fun ⟨Z, fp, w, nd, nz, zt⟩ => by
  obtain ⟨fp', w', p⟩ := w.sub hp
  exact ⟨Z, fp', w', nd.sublist p, fun a m => nz a (p.subset m), zt⟩
theorem World.tail {x : V × D} (w : World K H (x :: L)) : World K H L := w.sub (List.sublist_cons_self _ _)
theorem World.swap {x y : V × D} (w : World K H (x :: y :: L)) : World K H (y :: x :: L) := w.perm (.swap _ _ _)
theorem World.same (hs : Same H H') : World K H L → World K H' L := fun ⟨Z, fp, w, nd, nz, zt⟩ =>
  ⟨Z, fp, w.same hs, nd, nz, fun a z => let ⟨o, e⟩ := zt a z; ⟨o, hs _ _ e⟩⟩
theorem same_upd {p : Addr} {o : HO} (h : H p = none) : Same H (upd H p o) := fun b x e => by
  rw [upd_ne (ne_of_none e h)]
  exact e
theorem World.non (w : World K H L) : World K H ((.non, .non) :: L) := let ⟨Z, fp, w, q⟩ := w; ⟨Z, fp, .cons (f1 := []) .non w, q⟩
theorem World.bl (b : Bool) (w : World K H L) : World K H ((.bl b, .bl b) :: L) := let ⟨Z, fp, w, q⟩ := w; ⟨Z, fp, .cons (f1 := []) (.bl b) w, q⟩
theorem World.int (i : Int) (w : World K H L) : World K H ((.int i, .int i) :: L) := let ⟨Z, fp, w, q⟩ := w; ⟨Z, fp, .cons (f1 := []) (.int i) w, q⟩
theorem World.str (x : Str) (w : World K H L) : World K H ((.str x, .str x) :: L) := let ⟨Z, fp, w, q⟩ := w; ⟨Z, fp, .cons (f1 := []) (.str x) w, q⟩
theorem World.frz {v : V} {d : D} : World K H ((v, d) :: L) → World K H ((v, d.frz) :: L) := fun ⟨Z, fp, w, nd, nz, zt⟩ => by
  obtain ⟨f1, f2, rfl, r, t⟩ := w.inv
  obtain ⟨n1, n2, n3⟩ := List.nodup_append.mp nd
  refine ⟨fun a => Z a ∨ a ∈ f1, f2, .cons (f1 := []) ((r.wide fun a z => .inl z).frzd fun a m => .inr m) (t.wide fun a z => .inl z), n2, fun a m z => ?_, fun a z => ?_⟩
  · rcases z with z | z
    · exact nz a (List.mem_append_right _ m) z
    · exact n3 a z a m rfl
  · rcases z with z | z
    · exact zt a z
    · obtain ⟨vs, e⟩ := r.tracked a z
      exact ⟨_, e⟩
theorem World.dup {v : V} {d : D} (h : d.noOwn = true) : World K H ((v, d) :: L) → World K H ((v, d) :: (v, d) :: L) := fun ⟨Z, fp, w, q⟩ => by
  obtain ⟨f1, f2, rfl, r, t⟩ := w.inv
  have e := r.none_held h
  subst e
  exact ⟨Z, f2, .cons (f1 := []) r (.cons (f1 := []) r t), q⟩
theorem World.view {v : V} {d : D} : World K H ((v, d) :: L) → World K H ((v, d.view) :: (v, d) :: L) := fun ⟨Z, fp, w, q⟩ => by
  obtain ⟨f1, f2, rfl, r, t⟩ := w.inv
  exact ⟨Z, f1 ++ f2, .cons (f1 := []) r.viewd (.cons r t), q⟩
theorem World.newLst {vs : List V} {xs : List D} {p : Addr} (hl : vs.length = xs.length) (hp : H p = none) : World K H (vs.zip xs ++ L) → World K (upd H p (.lst vs)) ((.ref p, .lst .own xs) :: L) := fun ⟨Z, fp, w, nd, nz, zt⟩ => by
  obtain ⟨f, g, rfl, r, t⟩ := w.items hl
  have np : ∀ a ∈ f ++ g, a ≠ p := fun a m e => by
    obtain ⟨ys, q⟩ := (Wd.ofItems r t).tracked a m
    rw [e, hp] at q; cases q
  refine ⟨Z, p :: (f ++ g), by
    have z := Wd.cons (L := L) (Rep.own (K := K) (Z := Z) (a := p) upd_same (r.same (same_upd hp))) (t.same (same_upd hp))
    simpa using z, List.nodup_cons.mpr ⟨fun m => np p m rfl, nd⟩, fun a m z => ?_, fun a z => ?_⟩
  · rcases List.mem_cons.mp m with e | m
    · obtain ⟨o, q⟩ := zt a z
      rw [e, hp] at q; cases q
    · exact nz a m z
  · obtain ⟨o, q⟩ := zt a z
    exact ⟨o, same_upd hp _ _ q⟩
theorem World.newTup {vs : List V} {xs : List D} {p : Addr} (hl : vs.length = xs.length) (hn : noOwns xs = true) (hp : H p = none) : World K H (vs.zip xs ++ L) → World K (upd H p (.tup vs)) ((.ref p, .tup xs) :: L) := fun ⟨Z, fp, w, nd, nz, zt⟩ => by
  obtain ⟨f, g, rfl, r, t⟩ := w.items hl
  have e := r.none_held hn
  subst e
  refine ⟨Z, g, .cons (f1 := []) (Rep.tup upd_same (r.same (same_upd hp))) (t.same (same_upd hp)), nd, nz, fun a z => ?_⟩
  obtain ⟨o, q⟩ := zt a z
  exact ⟨o, same_upd hp _ _ q⟩
/-- a list is opened into its items -/
theorem World.openL {v : V} {f : Fl} {xs : List D} : World K H ((v, .lst f xs) :: L) → ∃ a vs, v = .ref a ∧ SqL K H a vs ∧ vs.length = xs.length ∧ (f ≠ .scr → H a = some (.lst vs)) ∧ World K H (vs.zip xs ++ L) := fun ⟨Z, fp, w, nd, nz, zt⟩ => by
  obtain ⟨f1, f2, rfl, r, t⟩ := w.inv
  cases r with
  | own h r => exact ⟨_, _, rfl, .of h, r.length, fun _ => h, Z, _, .ofItems r t, (List.nodup_cons.mp nd).2, fun a m => nz a (List.mem_cons_of_mem _ m), zt⟩
  | frz z h r => exact ⟨_, _, rfl, .of h, r.length, fun _ => h, Z, _, .ofItems r t, nd, nz, zt⟩
  | vw h r => exact ⟨_, _, rfl, .of h, r.length, fun _ => h, Z, _, .ofItems r t, nd, nz, zt⟩
  | scr h =>
    rename_i ns _
    have rr : ∀ ns : List Int, Reps K Z H (ns.map V.int) (ns.map D.int) [] := fun ns => by
      induction ns with
      | nil => exact .nil
      | cons n r ih => exact .cons (f1 := []) (f2 := []) (.int n) ih
    exact ⟨_, _, rfl, h.imp (fun q => q.2) id, by simp, fun e => (e rfl).elim, Z, _, .ofItems (rr ns) t, nd, nz, zt⟩
theorem World.openT {v : V} {xs : List D} : World K H ((v, .tup xs) :: L) → ∃ a vs, v = .ref a ∧ H a = some (.tup vs) ∧ vs.length = xs.length ∧ noOwns xs = true ∧ World K H (vs.zip xs ++ L) := fun ⟨Z, fp, w, nd, nz, zt⟩ => by
  obtain ⟨f1, f2, rfl, r, t⟩ := w.inv
  cases r with
  | tup h r => exact ⟨_, _, rfl, h, r.length, r.noOwn_of rfl, Z, _, .ofItems r t, nd, nz, zt⟩
/-- the list at a is written anew out of its own items and those of ws -/
theorem World.put {a : Addr} {xs : List D} {ws : List V} {es : List D} (hl : ws.length = es.length) (nx : noVws xs = true) (ne : noVws es = true) (nL : ∀ p ∈ L, p.2.noVw = true) :
    World K H ((.ref a, .lst .own xs) :: (ws.zip es ++ L)) → ∃ vs, H a = some (.lst vs) ∧ vs.length = xs.length ∧
      ∀ (vs' : List V) (xs' : List D), noVws xs' = true → (∀ (Z : Addr → Prop) (f g : List Addr), Reps K Z H vs xs f → Reps K Z H ws es g → (f ++ g).Nodup → ∃ h, Reps K Z H vs' xs' h ∧ h.Nodup ∧ ∀ b ∈ h, b ∈ f ++ g) →
        World K (upd H a (.lst vs')) ((.ref a, .lst .own xs') :: L) := fun ⟨Z, fp, w, nd, nz, zt⟩ => by
  obtain ⟨f1, f2, rfl, r, t⟩ := w.inv
  obtain ⟨g1, g2, rfl, q, t⟩ := t.items hl
  cases r with
  | own h r =>
    rename_i vs fa
    refine ⟨vs, h, r.length, fun vs' xs' nv hr => ?_⟩
    obtain ⟨na, nd⟩ := List.nodup_cons.mp (show (a :: (fa ++ (g1 ++ g2))).Nodup from nd)
    rw [← List.append_assoc] at nd na
    obtain ⟨n1, n2, n3⟩ := List.nodup_append.mp nd
    obtain ⟨k, rk, ndk, sub⟩ := hr Z fa g1 r q n1
    have za : ¬ Z a := nz a List.mem_cons_self
    have nk : a ∉ k := fun m => na (List.mem_append_left _ (sub a m))
    refine ⟨Z, (a :: k) ++ g2, .cons (.own upd_same (rk.write h za nk nv)) (t.write h za (fun m => na (List.mem_append_right _ m)) nL), ?_, fun b m z => ?_, fun b z => ?_⟩
    · refine List.nodup_append.mpr ⟨List.nodup_cons.mpr ⟨nk, ndk⟩, n2, fun b hb c hc e => ?_⟩
      subst e
      rcases List.mem_cons.mp hb with e | m
      · subst e
        exact na (List.mem_append_right _ hc)
      · exact n3 b (sub b m) b hc rfl
    · rcases List.mem_append.mp m with m | m
      · rcases List.mem_cons.mp m with e | m
        · subst e
          exact za z
        · rcases List.mem_append.mp (sub b m) with m | m
          · exact nz b (List.mem_append_left _ (List.mem_cons_of_mem _ m)) z
          · exact nz b (List.mem_append_right _ (List.mem_append_left _ m)) z
      · exact nz b (List.mem_append_right _ (List.mem_append_right _ m)) z
    · by_cases e : b = a
      · subst e
        exact ⟨_, upd_same⟩
      · obtain ⟨o, q⟩ := zt b z
        exact ⟨o, by rw [upd_ne e]; exact q⟩
/-- two readings of one list of the world agree -/
theorem World.lst_at {a : Addr} {f : Fl} {xs : List D} (hf : f ≠ .scr) (w : World K H ((.ref a, .lst f xs) :: L)) : ∃ vs, H a = some (.lst vs) ∧ vs.length = xs.length := by
  obtain ⟨b, vs, e, _, hl, h, _⟩ := w.openL
  cases e
  exact ⟨vs, h hf, hl⟩
end

/-! ### slots -/
abbrev Sg := List (Option D)
def sl : L2.St → Sg → List (V × D)
  | some v :: ρ, some d :: σ => (v, d) :: sl ρ σ
  | _ :: ρ, _ :: σ => sl ρ σ
  | _, _ => []
theorem sl_split : ∀ {ρ : L2.St} {σ : Sg} {i : Nat} {v : V} {d : D}, ρ[i]? = some (some v) → σ[i]? = some (some d) → (sl ρ σ).Perm ((v, d) :: sl ρ (σ.set i none))
  | [], _, _, _, _, h, _ => by simp at h
  | _ :: _, [], _, _, _, _, h => by simp at h
  | x :: ρ, y :: σ, 0, v, d, h1, h2 => by
    have e1 : x = some v := Option.some.inj h1
    have e2 : y = some d := Option.some.inj h2
    subst e1 e2
    exact .refl _
  | x :: ρ, y :: σ, i + 1, v, d, h1, h2 => by
    have ih := sl_split (ρ := ρ) (σ := σ) (i := i) (v := v) (d := d) h1 h2
    cases x with
    | none => exact ih
    | some x =>
      cases y with
      | none => exact ih
      | some y => exact (ih.cons _).trans (.swap _ _ _)
theorem sl_set_none : ∀ {ρ : L2.St} {σ : Sg} (i : Nat) (x : Option V), sl (ρ.set i x) (σ.set i none) = sl ρ (σ.set i none)
  | [], _, _, _ => rfl
  | _ :: _, [], _, _ => by simp [sl]
  | a :: ρ, b :: σ, 0, x => by cases a <;> cases x <;> rfl
  | a :: ρ, b :: σ, i + 1, x => by
    have ih := sl_set_none (ρ := ρ) (σ := σ) i x
    cases a with
    | none => exact ih
    | some a =>
      cases b with
      | none => exact ih
      | some b => exact congrArg (_ :: ·) ih
theorem sl_sub_none : ∀ {ρ : L2.St} {σ : Sg} (i : Nat), (sl ρ (σ.set i none)).Sublist (sl ρ σ)
  | [], _, _ => by simp [sl]
  | _ :: _, [], _ => by simp [sl]
  | a :: ρ, b :: σ, 0 => by
    cases a with
    | none => exact .refl _
    | some a =>
      cases b with
      | none => exact .refl _
      | some b => exact List.sublist_cons_self _ _
  | a :: ρ, b :: σ, i + 1 => by
    have ih := sl_sub_none (ρ := ρ) (σ := σ) i
    cases a with
    | none => exact ih
    | some a =>
      cases b with
      | none => exact ih
      | some b => exact ih.cons_cons _
theorem sl_put {ρ : L2.St} {σ : Sg} {i : Nat} {v : V} {d : D} (h1 : i < ρ.length) (h2 : i < σ.length) : (sl (ρ.set i (some v)) (σ.set i (some d))).Perm ((v, d) :: sl ρ (σ.set i none)) := by
  have q := sl_split (ρ := ρ.set i (some v)) (σ := σ.set i (some d)) (i := i) (v := v) (d := d) (by rw [List.getElem?_set_self h1]) (by rw [List.getElem?_set_self h2])
  rw [List.set_set, sl_set_none] at q
  exact q

structure Ok (K : PySem.W.Frag) (H : Hp) (ρ : L2.St) (σ : Sg) (T : List (V × D)) : Prop where
  len : ρ.length = σ.length
  al : ∀ (i : Nat) (d : D), σ[i]? = some (some d) → ∃ v : V, ρ[i]? = some (some v)
  w : World K H (T ++ sl ρ σ)
section
variable {K : PySem.W.Frag} {H H' : Hp} {ρ : L2.St} {σ : Sg} {T T1 T2 : List (V × D)}
theorem Ok.lift (ok : Ok K H ρ σ (T1 ++ T)) (h : ∀ L, World K H (T1 ++ L) → World K H' (T2 ++ L)) : Ok K H' ρ σ (T2 ++ T) :=
  ⟨ok.len, ok.al, by
    have q := ok.w
    rw [List.append_assoc] at q ⊢
    exact h _ q⟩
theorem Ok.temps (ok : Ok K H ρ σ T) (h : ∀ L, World K H (T ++ L) → World K H' (T2 ++ L)) : Ok K H' ρ σ T2 := ⟨ok.len, ok.al, h _ ok.w⟩
theorem Ok.same (hs : Same H H') (ok : Ok K H ρ σ T) : Ok K H' ρ σ T := ⟨ok.len, ok.al, ok.w.same hs⟩
theorem Ok.tail {x : V × D} (ok : Ok K H ρ σ (x :: T)) : Ok K H ρ σ T := ⟨ok.len, ok.al, World.tail (L := T ++ sl ρ σ) ok.w⟩
theorem Ok.take {i : Nat} {d : D} (ok : Ok K H ρ σ T) (h : σ[i]? = some (some d)) : ∃ v, ρ[i]? = some (some v) ∧ Ok K H ρ (σ.set i none) ((v, d) :: T) := by
  obtain ⟨v, e⟩ := ok.al i d h
  refine ⟨v, e, by rw [List.length_set]; exact ok.len, fun j d' hj => ?_, ok.w.perm ?_⟩
  · by_cases q : i = j
    · subst q
      rw [List.getElem?_set_self (List.getElem?_eq_some_iff.mp h).1] at hj
      cases hj
    · rw [List.getElem?_set_ne q] at hj
      exact ok.al j d' hj
  · refine ((sl_split e h).append_left T).trans ?_
    exact List.perm_middle
theorem Ok.put {i : Nat} {v : V} {d : D} (ok : Ok K H ρ σ ((v, d) :: T)) (hi : i < σ.length) : Ok K H (ρ.set i (some v)) (σ.set i (some d)) T := by
  have hi' : i < ρ.length := by rw [ok.len]; exact hi
  refine ⟨by rw [List.length_set, List.length_set]; exact ok.len, fun j d' hj => ?_, ?_⟩
  · by_cases q : i = j
    · subst q
      exact ⟨v, by rw [List.getElem?_set_self hi']⟩
    · rw [List.getElem?_set_ne q] at hj ⊢
      exact ok.al j d' hj
  · have w : World K H ((v, d) :: (T ++ sl ρ σ)) := ok.w
    have w2 : World K H ((v, d) :: (T ++ sl ρ (σ.set i none))) := w.sub (((List.Sublist.refl T).append (sl_sub_none i)).cons_cons _)
    exact w2.perm ((List.perm_middle (l₁ := T)).symm.trans ((sl_put hi' hi).symm.append_left T))
theorem Ok.back {i : Nat} {v : V} {d : D} (ok : Ok K H ρ σ ((v, d) :: T)) (hv : ρ[i]? = some (some v)) : Ok K H ρ (σ.set i (some d)) T := by
  have hi : i < ρ.length := (List.getElem?_eq_some_iff.mp hv).1
  have q := ok.put (i := i) (by rw [← ok.len]; exact hi)
  have e : ρ.set i (some v) = ρ := by
    obtain ⟨h1, h2⟩ := List.getElem?_eq_some_iff.mp hv
    rw [← h2, List.set_getElem_self]
  rw [e] at q
  exact q
theorem Ok.drop {i : Nat} (ok : Ok K H ρ σ T) : Ok K H ρ (σ.set i none) T := by
  refine ⟨by rw [List.length_set]; exact ok.len, fun j d' hj => ?_, ok.w.sub ((List.Sublist.refl T).append (sl_sub_none i))⟩
  by_cases q : i = j
  · subst q
    by_cases hi : i < σ.length
    · rw [List.getElem?_set_self hi] at hj
      cases hj
    · rw [List.getElem?_eq_none (by simpa using hi)] at hj
      cases hj
  · rw [List.getElem?_set_ne q] at hj
    exact ok.al j d' hj
end
/-- nothing merely looks on -/
def NV (σ : Sg) : Prop := ∀ (i : Nat) (d : D), σ[i]? = some (some d) → d.noVw = true
def NT (T : List (V × D)) : Prop := ∀ p ∈ T, p.2.noVw = true
def Cd (b : Bool) (σ : Sg) (T : List (V × D)) : Prop := b = true → NV σ ∧ NT T
theorem NV.set {σ : Sg} {i : Nat} {o : Option D} (h : NV σ) (ho : ∀ d, o = some d → d.noVw = true) : NV (σ.set i o) := fun j d e => by
  by_cases q : i = j
  · subst q
    by_cases hi : i < σ.length
    · rw [List.getElem?_set_self hi] at e
      exact ho d (Option.some.inj e)
    · rw [List.getElem?_eq_none (by simpa using hi)] at e
      cases e
  · rw [List.getElem?_set_ne q] at e
    exact h j d e
theorem NT.cons {v : V} {d : D} {T : List (V × D)} (h : d.noVw = true) (t : NT T) : NT ((v, d) :: T) := fun p m => (List.mem_cons.mp m).elim (fun e => by rw [e]; exact h) fun m => t p m
theorem NT.head {v : V} {d : D} {T : List (V × D)} (t : NT ((v, d) :: T)) : d.noVw = true := t _ List.mem_cons_self
theorem NT.tail {x : V × D} {T : List (V × D)} (t : NT (x :: T)) : NT T := fun p m => t p (List.mem_cons_of_mem _ m)
theorem NV.sl {σ : Sg} (h : NV σ) : ∀ {ρ : L2.St}, ∀ p ∈ sl ρ σ, p.2.noVw = true := by
  induction σ with
  | nil => intro ρ p hp; cases ρ with
    | nil => simp [Py.sl] at hp
    | cons a ρ => cases a <;> simp [Py.sl] at hp
  | cons b σ ih =>
    have h' : NV σ := fun i d e => h (i + 1) d e
    intro ρ p hp
    cases ρ with
    | nil => simp [Py.sl] at hp
    | cons a ρ =>
      cases a with
      | none => exact ih h' p (by cases b <;> exact hp)
      | some a =>
        cases b with
        | none => exact ih h' p hp
        | some b =>
          rcases List.mem_cons.mp (show p ∈ (a, b) :: Py.sl ρ σ from hp) with e | m
          · rw [e]; exact h 0 b rfl
          · exact ih h' p m
theorem NT.all {σ : Sg} {T : List (V × D)} (h : NV σ) (t : NT T) {ρ : L2.St} : ∀ p ∈ T ++ sl ρ σ, p.2.noVw = true := fun p m => (List.mem_append.mp m).elim (t p) (h.sl p)
end Py
/-! Layer «Py», part C: what code means (M), that it does so (SE, ST, SA): expressions. -/
namespace Py
open PySem PySem.Spec PyProof.Rows L2

/-! ### meanings -/
abbrev M := Sg → Option (D × Sg)
abbrev MT := Sg → Option (Bool × Sg)
abbrev MA := Sg → Option (List D × Sg)
def mVar (i : Nat) : M := fun σ => match σ[i]? with
  | some (some d) => some (d.view, σ)
  | _ => none
def mFrz (i : Nat) : M := fun σ => match σ[i]? with
  | some (some d) => some (d.frz, σ.set i (some d.frz))
  | _ => none
def mMove (i : Nat) : M := fun σ => match σ[i]? with
  | some (some d) => some (d, σ.set i none)
  | _ => none
def mC (d : D) : M := fun σ => some (d, σ)
def m1 (f : D → Option D) (a : M) : M := fun σ => match a σ with
  | some (x, σ1) => (match f x with
    | some z => some (z, σ1)
    | none => none)
  | none => none
def m2 (f : D → D → Option D) (a b : M) : M := fun σ => match a σ with
  | some (x, σ1) => (match b σ1 with
    | some (y, σ2) => (match f x y with
      | some z => some (z, σ2)
      | none => none)
    | none => none)
  | none => none
def mUp (a : M) : M := fun σ => match a σ with
  | some (x, σ1) => if x.noVw = true then some (x, σ1) else none
  | none => none
def mIf (c : MT) (a b : M) : M := fun σ => match c σ with
  | some (true, σ1) => a σ1
  | some (false, σ1) => b σ1
  | none => none
def aNil : MA := fun σ => some ([], σ)
def aCons (a : M) (r : MA) : MA := fun σ => match a σ with
  | some (x, σ1) => (match r σ1 with
    | some (xs, σ2) => some (x :: xs, σ2)
    | none => none)
  | none => none
def mA (f : List D → Option D) (r : MA) : M := fun σ => match r σ with
  | some (xs, σ1) => (match f xs with
    | some z => some (z, σ1)
    | none => none)
  | none => none
def tAndM (a b : MT) : MT := fun σ => match a σ with
  | some (true, σ1) => b σ1
  | some (false, σ1) => some (false, σ1)
  | none => none
def tOrM (a b : MT) : MT := fun σ => match a σ with
  | some (true, σ1) => some (true, σ1)
  | some (false, σ1) => b σ1
  | none => none
def tNotM (a : MT) : MT := fun σ => match a σ with
  | some (k, σ1) => some (!k, σ1)
  | none => none
/-- truth -/
def dTru : D → Option Bool
  | .non => some false
  | .bl b => some b
  | .int i => some (i != 0)
  | .str x => if x.length ≤ 16777216 then some ((x.length : Int) != 0) else none
  | .tup xs => some (!xs.isEmpty)
  | .lst _ xs => some (!xs.isEmpty)
def tVal (a : M) : MT := fun σ => match a σ with
  | some (x, σ1) => (match dTru x with
    | some k => some (k, σ1)
    | none => none)
  | none => none
def tB (a : M) : MT := fun σ => match a σ with
  | some (.bl k, σ1) => some (k, σ1)
  | _ => none
def mT (a : MT) : M := fun σ => match a σ with
  | some (k, σ1) => some (.bl k, σ1)
  | none => none

/-! ### what is to be shown -/
section
variable {X : Cx}
def semE (X : Cx) (e : Expr) : TE := fun ρ H Q => ∀ (pins : List (Addr × Obj)) (s : Shared), Inv X pins ρ H s → wpAny (model X.prog X.w) X.A (eval e X.env) (EP X pins ρ Q) X.xe s
def semT (X : Cx) (e : Expr) : TT := fun ρ H Q => ∀ (pins : List (Addr × Obj)) (s : Shared), Inv X pins ρ H s → wpAny (model X.prog X.w) X.A (isTrue e X.env (eval e X.env)) (TP X pins ρ Q) X.xe s
def semW (X : Cx) (e : Expr) : TT := fun ρ H Q => ∀ (whole : Sem Value) (pins : List (Addr × Obj)) (s : Shared), Inv X pins ρ H s → wpAny (model X.prog X.w) X.A (isTrue e X.env whole) (TP X pins ρ Q) X.xe s
def semA (X : Cx) (es : List Expr) : TA := fun ρ H Q => ∀ (pos : Pos) (pins : List (Addr × Obj)) (s : Shared), Inv X pins ρ H s → wpAny (model X.prog X.w) X.A (spliced (backTo pos (starEach es X.env))) (AP X pins ρ Q) X.xe s
theorem peS {e : Expr} : PE X e (semE X e) := ⟨fun pins s _ _ _ I h => h pins s I⟩
theorem ptS {e : Expr} : PT X e (semT X e) := ⟨fun pins s _ _ _ I h => h pins s I⟩
theorem pwS {e : Expr} : PW X e (semW X e) := ⟨fun whole pins s _ _ _ I h => h whole pins s I⟩
theorem paS {es : List Expr} : PA X es (semA X es) := ⟨fun pos pins s _ _ _ I h => h pos pins s I⟩
theorem ep_mono {pins : List (Addr × Obj)} {ρ : L2.St} {Q Q' : VK} (h : ∀ v H', Q v H' → Q' v H') {u : Value} {s : Shared} : EP X pins ρ Q u s → EP X pins ρ Q' u s := fun ⟨v, H', I, r, q⟩ => ⟨v, H', I, r, h v H' q⟩
theorem tp_mono {pins : List (Addr × Obj)} {ρ : L2.St} {Q Q' : Bool → Hp → Prop} (h : ∀ v H', Q v H' → Q' v H') {u : Bool} {s : Shared} : TP X pins ρ Q u s → TP X pins ρ Q' u s := fun ⟨H', I, q⟩ => ⟨H', I, h _ H' q⟩
theorem ap_mono {pins : List (Addr × Obj)} {ρ : L2.St} {Q Q' : List V → Hp → Prop} (h : ∀ v H', Q v H' → Q' v H') {u : List Value} {s : Shared} : AP X pins ρ Q u s → AP X pins ρ Q' u s := fun ⟨v, H', I, r, q⟩ => ⟨v, H', I, r, h v H' q⟩
theorem semE_mono {e : Expr} {ρ : L2.St} {H : Hp} {Q Q' : VK} (q : semE X e ρ H Q) (h : ∀ v H', Q v H' → Q' v H') : semE X e ρ H Q' := fun pins s I => thn (q pins s I) fun _ _ z => ep_mono h z
theorem semT_mono {e : Expr} {ρ : L2.St} {H : Hp} {Q Q' : Bool → Hp → Prop} (q : semT X e ρ H Q) (h : ∀ v H', Q v H' → Q' v H') : semT X e ρ H Q' := fun pins s I => thn (q pins s I) fun _ _ z => tp_mono h z
theorem semW_mono {e : Expr} {ρ : L2.St} {H : Hp} {Q Q' : Bool → Hp → Prop} (q : semW X e ρ H Q) (h : ∀ v H', Q v H' → Q' v H') : semW X e ρ H Q' := fun wh pins s I => thn (q wh pins s I) fun _ _ z => tp_mono h z
theorem semA_mono {es : List Expr} {ρ : L2.St} {H : Hp} {Q Q' : List V → Hp → Prop} (q : semA X es ρ H Q) (h : ∀ v H', Q v H' → Q' v H') : semA X es ρ H Q' := fun pos pins s I => thn (q pos pins s I) fun _ _ z => ap_mono h z
theorem pe_sem {e : Expr} {t : TE} (p : PE X e t) {ρ : L2.St} {H : Hp} {Q : VK} (h : t ρ H Q) : semE X e ρ H Q := fun pins s I => p.run pins s ρ H Q I h
theorem pt_sem {e : Expr} {t : TT} (p : PT X e t) {ρ : L2.St} {H : Hp} {Q : Bool → Hp → Prop} (h : t ρ H Q) : semT X e ρ H Q := fun pins s I => p.run pins s ρ H Q I h
theorem pw_sem {e : Expr} {t : TT} (p : PW X e t) {ρ : L2.St} {H : Hp} {Q : Bool → Hp → Prop} (h : t ρ H Q) : semW X e ρ H Q := fun wh pins s I => p.run wh pins s ρ H Q I h
theorem pa_sem {es : List Expr} {t : TA} (p : PA X es t) {ρ : L2.St} {H : Hp} {Q : List V → Hp → Prop} (h : t ρ H Q) : semA X es ρ H Q := fun pos pins s I => p.run pos pins s ρ H Q I h

structure Pst (K : PySem.W.Frag) (b : Bool) (H : Hp) (ρ : L2.St) (σ σ' : Sg) (T T' : List (V × D)) (H' : Hp) : Prop where
  ok : Ok K H' ρ σ' (T' ++ T)
  cd : Cd b σ' (T' ++ T)
  nv : NV σ → NV σ'
  sm : b = false → Same H H'
structure SE (b : Bool) (X : Cx) (e : Expr) (m : M) : Prop where
  run : ∀ {ρ : L2.St} {H : Hp} {σ : Sg} {T : List (V × D)} {d : D} {σ' : Sg}, Ok X.K H ρ σ T → Cd b σ T → m σ = some (d, σ') → semE X e ρ H fun v H' => Pst X.K b H ρ σ σ' T [(v, d)] H'
structure ST (b : Bool) (X : Cx) (e : Expr) (m : MT) : Prop where
  run : ∀ {ρ : L2.St} {H : Hp} {σ : Sg} {T : List (V × D)} {k : Bool} {σ' : Sg}, Ok X.K H ρ σ T → Cd b σ T → m σ = some (k, σ') → semT X e ρ H fun v H' => v = k ∧ Pst X.K b H ρ σ σ' T [] H'
structure SW (b : Bool) (X : Cx) (e : Expr) (m : MT) : Prop where
  run : ∀ {ρ : L2.St} {H : Hp} {σ : Sg} {T : List (V × D)} {k : Bool} {σ' : Sg}, Ok X.K H ρ σ T → Cd b σ T → m σ = some (k, σ') → semW X e ρ H fun v H' => v = k ∧ Pst X.K b H ρ σ σ' T [] H'
structure SA (b : Bool) (X : Cx) (es : List Expr) (m : MA) : Prop where
  run : ∀ {ρ : L2.St} {H : Hp} {σ : Sg} {T : List (V × D)} {ds : List D} {σ' : Sg}, Ok X.K H ρ σ T → Cd b σ T → m σ = some (ds, σ') → semA X es ρ H fun vs H' => vs.length = ds.length ∧ Pst X.K b H ρ σ σ' T (vs.zip ds) H'

theorem noOwn_frz {K : PySem.W.Frag} {Z : Addr → Prop} {H : Hp} {v : V} {d : D} (h : ∃ fp, Rep K Z H v d fp) : d.frz.noOwn = true := by
  obtain ⟨fp, h⟩ := h
  exact ((h.wide (Z' := fun _ => True) fun _ _ => trivial).frzd fun _ _ => trivial).noOwn_of rfl
theorem _root_.Py.World.repd {K : PySem.W.Frag} {H : Hp} {v : V} {d : D} {L : List (V × D)} (w : World K H ((v, d) :: L)) : ∃ fp, Rep K (Classical.choose w) H v d fp := by
  obtain ⟨fp, h, _⟩ := Classical.choose_spec w
  obtain ⟨f1, f2, _, r, _⟩ := h.inv
  exact ⟨f1, r⟩
mutual
theorem noVw_frz : ∀ {d : D}, d.noVw = true → d.frz.noVw = true
  | .non, _ => rfl
  | .bl _, _ => rfl
  | .int _, _ => rfl
  | .str _, _ => rfl
  | .tup _, h => h
  | .lst .own xs, h => noVws_frzs (ds := xs) h
  | .lst .frz xs, h => h
  | .lst .vw xs, h => h
  | .lst .scr xs, h => h
theorem noVws_frzs : ∀ {ds : List D}, noVws ds = true → noVws (frzs ds) = true
  | [], _ => rfl
  | d :: ds, h => by
    simp only [noVws, frzs, Bool.and_eq_true] at h ⊢
    exact ⟨noVw_frz h.1, noVws_frzs h.2⟩
end
theorem blK {K : PySem.W.Frag} {b : Bool} {H0 : Hp} {ρ : L2.St} {σ σ' : Sg} {T : List (V × D)} {H : Hp} {v : V} {k : Bool} (p : Pst K b H0 ρ σ σ' T [(v, .bl k)] H) : ∃ j, v = .bl j ∧ j = k ∧ Pst K b H0 ρ σ σ' T [] H := by
  obtain ⟨fp, r⟩ := World.repd (L := T ++ sl ρ σ') p.ok.w
  cases r
  exact ⟨k, rfl, rfl, p.ok.tail, fun e => ⟨(p.cd e).1, (p.cd e).2.tail⟩, p.nv, p.sm⟩
/-! ### names, constants -/
theorem Cd.val {b : Bool} {σ : Sg} {T : List (V × D)} {v : V} {d : D} (c : Cd b σ T) (h : b = true → d.noVw = true) : Cd b σ ((v, d) :: T) := fun e => ⟨(c e).1, (c e).2.cons (h e)⟩
theorem se_name {i : Nat} {x : Str} {pos : Pos} (hN : X.N[i]? = some x := by rfl) (hv : Vis X.env.scope x := by first | exact Or.inl rfl | exact Or.inr (Or.inl rfl) | exact Or.inr (Or.inr rfl)) (hd : (x == ("__debug__" : Str)) = false := by decide)
    (hcd : (x == ("__classdict__" : Str)) = false := by decide) : SE false X (.Name x pos) (mVar i) := ⟨fun {ρ H σ T d σ'} ok cd h => by
  unfold mVar at h
  split at h
  · rename_i d0 h0
    cases h
    obtain ⟨v, hv', ok1⟩ := ok.take h0
    refine pe_sem (pe_var hN hv hd hcd) ⟨v, hv', ⟨?_, (fun e => nomatch e), id, fun _ => Same.refl _⟩⟩
    have ok2 := (ok1.lift (T1 := [(v, d0)]) (T2 := [(v, d0), (v, d0.view)]) fun L w => (World.view w).swap)
    have ok3 := Ok.back (T := (v, d0.view) :: T) ok2 hv'
    have e : (σ.set i none).set i (some d0) = σ := by
      rw [List.set_set]
      obtain ⟨h1, h2⟩ := List.getElem?_eq_some_iff.mp h0
      rw [← h2, List.set_getElem_self]
    rw [e] at ok3
    exact ok3
  · cases h⟩
theorem se_frz {i : Nat} {x : Str} {pos : Pos} (hN : X.N[i]? = some x := by rfl) (hv : Vis X.env.scope x := by first | exact Or.inl rfl | exact Or.inr (Or.inl rfl) | exact Or.inr (Or.inr rfl)) (hd : (x == ("__debug__" : Str)) = false := by decide)
    (hcd : (x == ("__classdict__" : Str)) = false := by decide) : SE true X (.Name x pos) (mFrz i) := ⟨fun {ρ H σ T d σ'} ok cd h => by
  unfold mFrz at h
  split at h
  · rename_i d0 h0
    cases h
    obtain ⟨v, hv', ok1⟩ := ok.take h0
    have nd : d0.frz.noVw = true := noVw_frz ((cd rfl).1 i d0 h0)
    refine pe_sem (pe_var hN hv hd hcd) ⟨v, hv', ⟨?_, fun e => ⟨(cd e).1.set fun d e => by cases e; exact nd, (cd e).2.cons nd⟩, fun nv => nv.set (fun d e => by cases e; exact nd), fun e => nomatch e⟩⟩
    have ok2 := (ok1.lift (T1 := [(v, d0)]) (T2 := [(v, d0.frz), (v, d0.frz)]) fun L w => (World.frz w).dup (noOwn_frz ok1.w.repd))
    have ok3 := Ok.back (T := (v, d0.frz) :: T) ok2 hv'
    rw [List.set_set] at ok3
    exact ok3
  · cases h⟩
theorem se_move {i : Nat} {x : Str} {pos : Pos} (hN : X.N[i]? = some x := by rfl) (hv : Vis X.env.scope x := by first | exact Or.inl rfl | exact Or.inr (Or.inl rfl) | exact Or.inr (Or.inr rfl)) (hd : (x == ("__debug__" : Str)) = false := by decide)
    (hcd : (x == ("__classdict__" : Str)) = false := by decide) : SE true X (.Name x pos) (mMove i) := ⟨fun {ρ H σ T d σ'} ok cd h => by
  unfold mMove at h
  split at h
  · rename_i d0 h0
    cases h
    obtain ⟨v, hv', ok1⟩ := ok.take h0
    refine pe_sem (pe_var hN hv hd hcd) ⟨v, hv', ⟨ok1, fun e => ⟨(cd e).1.set fun d e => (nomatch e), (cd e).2.cons ((cd e).1 i d h0)⟩, fun nv => nv.set (fun d e => (nomatch e)), fun e => nomatch e⟩⟩
  · cases h⟩
theorem pst_val {b : Bool} {ρ : L2.St} {H H' : Hp} {σ : Sg} {T : List (V × D)} {v : V} {d : D} (ok : Ok X.K H ρ σ T) (cd : Cd b σ T) (h : ∀ L, World X.K H L → World X.K H' ((v, d) :: L)) (hd : d.noVw = true) (hs : Same H H') : Pst X.K b H ρ σ σ T [(v, d)] H' :=
  ⟨Ok.lift (T1 := []) (T2 := [(v, d)]) ok fun L w => h L w, cd.val fun _ => hd, id, fun _ => hs⟩
theorem se_int {b : Bool} {i : Int} {j pos} : SE b X (.Constant (.int i) j pos) (mC (.int i)) := ⟨fun ok cd h => by cases h; exact pe_sem pe_int (pst_val ok cd (fun L w => w.int i) rfl (Same.refl _))⟩
theorem se_bl {b : Bool} {k : Bool} {j pos} : SE b X (.Constant (.bool k) j pos) (mC (.bl k)) := ⟨fun ok cd h => by cases h; exact pe_sem pe_bl (pst_val ok cd (fun L w => w.bl k) rfl (Same.refl _))⟩
theorem se_non {b : Bool} {j pos} : SE b X (.Constant .none j pos) (mC .non) := ⟨fun ok cd h => by cases h; exact pe_sem pe_non (pst_val ok cd (fun L w => w.non) rfl (Same.refl _))⟩
theorem se_str {b : Bool} {x : Str} {j pos} : SE b X (.Constant (.str x) j pos) (mC (.str x)) := ⟨fun ok cd h => by cases h; exact pe_sem pe_str (pst_val ok cd (fun L w => w.str x) rfl (Same.refl _))⟩
theorem se_up {e : Expr} {m : M} (h : SE false X e m) : SE true X e (mUp m) := ⟨fun {ρ H σ T d σ'} ok cd e => by
  unfold mUp at e
  split at e
  · rename_i x σ1 h1
    split at e
    · rename_i hn
      cases e
      refine semE_mono (h.run ok (fun z => nomatch z) h1) fun v H' p => ⟨p.ok, fun _ => ⟨p.nv (cd rfl).1, (cd rfl).2.cons hn⟩, p.nv, fun e => nomatch e⟩
    · cases e
  · cases e⟩
/-! ### operators -/
structure Op2 (K : PySem.W.Frag) (r : R2) (f : D → D → Option D) : Prop where
  run : ∀ {H : Hp} {L : List (V × D)} {x y : V} {dx dy z : D} {Q : VK}, World K H ((y, dy) :: (x, dx) :: L) → f dx dy = some z → (∀ v H', World K H' ((v, z) :: L) → Same H H' → Q v H') → r x y H Q
  nv : ∀ {dx dy z : D}, f dx dy = some z → dx.noVw = true → dy.noVw = true → z.noVw = true
structure Op1 (K : PySem.W.Frag) (r : V → Hp → VK → Prop) (f : D → Option D) : Prop where
  run : ∀ {H : Hp} {L : List (V × D)} {x : V} {dx z : D} {Q : VK}, World K H ((x, dx) :: L) → f dx = some z → (∀ v H', World K H' ((v, z) :: L) → Same H H' → Q v H') → r x H Q
  nv : ∀ {dx z : D}, f dx = some z → dx.noVw = true → z.noVw = true
structure OpA (K : PySem.W.Frag) (r : List V → Hp → VK → Prop) (f : List D → Option D) : Prop where
  run : ∀ {H : Hp} {L : List (V × D)} {xs : List V} {ds : List D} {z : D} {Q : VK}, xs.length = ds.length → World K H (xs.zip ds ++ L) → f ds = some z → (∀ v H', World K H' ((v, z) :: L) → Same H H' → Q v H') → r xs H Q
  nv : ∀ {ds : List D} {z : D}, f ds = some z → noVws ds = true → z.noVw = true
theorem Op2.or {K : PySem.W.Frag} {r r' : R2} {f g : D → D → Option D} (h : Op2 K r f) (h' : Op2 K r' g) : Op2 K (fun x y H Q => r x y H Q ∨ r' x y H Q) (fun x y => (f x y).or (g x y)) := ⟨fun {H L x y dx dy z Q} w e q => by
  cases q1 : f dx dy with
  | some z' =>
    rw [q1] at e
    have e' : z' = z := by simpa using e
    subst e'
    exact .inl (h.run w q1 q)
  | none =>
    rw [q1] at e
    exact .inr (h'.run w (by simpa using e) q), fun {dx dy z} e a b => by
  cases q1 : f dx dy with
  | some z' =>
    rw [q1] at e
    have e' : z' = z := by simpa using e
    subst e'
    exact h.nv q1 a b
  | none =>
    rw [q1] at e
    exact h'.nv (by simpa using e) a b⟩
theorem nt_zip {vs : List V} {ds : List D} {T : List (V × D)} (h : noVws ds = true) (t : NT T) : NT (vs.zip ds ++ T) := fun p m => (List.mem_append.mp m).elim (fun m => noVws_mem h (List.of_mem_zip (a := p.1) (b := p.2) m).2) (t p)
theorem nv_zip {vs : List V} {ds : List D} {T : List (V × D)} (hl : vs.length = ds.length) (t : NT (vs.zip ds ++ T)) : noVws ds = true := by
  rw [noVws_all, List.all_eq_true]
  intro d hd
  obtain ⟨i, hi, e⟩ := List.mem_iff_getElem.mp hd
  have hv : i < vs.length := by rw [hl]; exact hi
  refine t (vs[i], d) (List.mem_append_left _ ?_)
  rw [← e]
  refine List.mem_iff_getElem.mpr ⟨i, by rw [List.length_zip]; omega, by simp⟩
variable {b : Bool} {e1 e2 e3 : Expr} {a c m3 : M} {pos : Pos}
theorem bin_run {r : R2} {f : D → D → Option D} (hr : Op2 X.K r f) (ha : SE b X e1 a) (hc : SE b X e2 c) {ρ : L2.St} {H : Hp} {σ : Sg} {T : List (V × D)} {d : D} {σ' : Sg} (ok : Ok X.K H ρ σ T) (cd : Cd b σ T) (h : m2 f a c σ = some (d, σ')) {Q : VK} (hQ : ∀ v H', Pst X.K b H ρ σ σ' T [(v, d)] H' → Q v H') :
    tOp r (semE X e1) (semE X e2) ρ H Q := by
  unfold m2 at h
  split at h
  · rename_i dx σ1 h1
    split at h
    · rename_i dy σ2 h2
      split at h
      · rename_i z hz
        cases h
        refine semE_mono (ha.run ok cd h1) fun x H1 p1 => ?_
        refine semE_mono (hc.run p1.ok p1.cd h2) fun y H2 p2 => ?_
        refine hr.run p2.ok.w hz fun v H' w hs => hQ v H' ⟨?_, fun e => ⟨(p2.cd e).1, (p2.cd e).2.tail.tail.cons (hr.nv hz (p2.cd e).2.tail.head (p2.cd e).2.head)⟩, fun n => p2.nv (p1.nv n), fun e => ((p1.sm e).trans (p2.sm e)).trans hs⟩
        exact ⟨p2.ok.len, p2.ok.al, w⟩
      · cases h
    · cases h
  · cases h
theorem se_op {op : Operator} {r : R2} {f : D → D → Option D} (ho : OpR X (binaryOp op) r) (hr : Op2 X.K r f) (ha : SE b X e1 a) (hc : SE b X e2 c) : SE b X (.BinOp e1 op e2 pos) (m2 f a c) :=
  ⟨fun ok cd h => pe_sem (pe_op ho peS peS) (bin_run hr ha hc ok cd h fun _ _ p => p)⟩
theorem se_cmp {op : CmpOp} {r : R2} {f : D → D → Option D} (ho : OpR X (compareOp op) r) (hr : Op2 X.K r f) (ha : SE b X e1 a) (hc : SE b X e2 c) (hm : behindInMarks op e2 = false := by first | exact nomark _ | rfl) : SE b X (.Compare e1 [op] [e2] pos) (m2 f a c) :=
  ⟨fun ok cd h => pe_sem (pe_cmpR ho peS peS hm) (bin_run hr ha hc ok cd h fun _ _ p => p)⟩
theorem st_cmp {op : CmpOp} {r : R2} {f : D → D → Option D} (ho : OpR X (compareOp op) r) (hr : Op2 X.K r f) (ha : SE b X e1 a) (hc : SE b X e2 c) (hm : behindInMarks op e2 = false := by first | exact nomark _ | rfl) : ST b X (.Compare e1 [op] [e2] pos) (tB (m2 f a c)) := ⟨fun {ρ H σ T k σ'} ok cd h => by
  unfold tB at h
  split at h
  · rename_i k' σ1 h1
    cases h
    refine pt_sem (pt_cmpR ho peS peS hm) (Q := fun v H' => v = k ∧ Pst X.K b H ρ σ σ' T [] H') ?_
    exact bin_run hr ha hc ok cd h1 fun v H' p => blK p
  · cases h⟩
theorem un_run {r : V → Hp → VK → Prop} {f : D → Option D} (hr : Op1 X.K r f) (ha : SE b X e1 a) {ρ : L2.St} {H : Hp} {σ : Sg} {T : List (V × D)} {d : D} {σ' : Sg} (ok : Ok X.K H ρ σ T) (cd : Cd b σ T) (h : m1 f a σ = some (d, σ')) {Q : VK} (hQ : ∀ v H', Pst X.K b H ρ σ σ' T [(v, d)] H' → Q v H') :
    semE X e1 ρ H fun x H1 => r x H1 Q := by
  unfold m1 at h
  split at h
  · rename_i dx σ1 h1
    split at h
    · rename_i z hz
      cases h
      refine semE_mono (ha.run ok cd h1) fun x H1 p1 => ?_
      refine hr.run p1.ok.w hz fun v H' w hs => hQ v H' ⟨?_, fun e => ⟨(p1.cd e).1, (p1.cd e).2.tail.cons (hr.nv hz (p1.cd e).2.head)⟩, p1.nv, fun e => (p1.sm e).trans hs⟩
      exact ⟨p1.ok.len, p1.ok.al, w⟩
    · cases h
  · cases h
theorem se_un {op : UnaryOp} {r : V → Hp → VK → Prop} {f : D → Option D} (ho : UnR X (unaryOp op) r) (hr : Op1 X.K r f) (ha : SE b X e1 a) : SE b X (.UnaryOp op e1 pos) (m1 f a) :=
  ⟨fun ok cd h => pe_sem (pe_un ho peS) (un_run hr ha ok cd h fun _ _ p => p)⟩
theorem se_ix {r : R2} {f : D → D → Option D} (ho : IxR X r) (hr : Op2 X.K r f) (ha : SE b X e1 a) (hc : SE b X e2 c) (hs : PlainIx e2 := by exact fun _ _ => rfl) : SE b X (.Subscript e1 e2 pos) (m2 f a c) :=
  ⟨fun ok cd h => pe_sem (pe_ix ho peS peS hs) (bin_run hr ha hc ok cd h fun _ _ p => p)⟩
/-! ### arguments -/
variable {es : List Expr} {ma : MA}
theorem sa_nil : SA b X [] aNil := ⟨fun ok cd h => by cases h; exact pa_sem pa_nil ⟨rfl, ok, cd, id, fun _ => Same.refl _⟩⟩
theorem sa_cons (ha : SE b X e1 a) (hr : SA b X es ma) (hs : starEach (e1 :: es) X.env = (false, eval e1 X.env) :: starEach es X.env := by rfl) : SA b X (e1 :: es) (aCons a ma) := ⟨fun {ρ H σ T d σ'} ok cd h => by
  unfold aCons at h
  split at h
  · rename_i x σ1 h1
    split at h
    · rename_i xs σ2 h2
      cases h
      refine pa_sem (pa_cons peS paS hs) ?_
      refine semE_mono (ha.run ok cd h1) fun v H1 p1 => ?_
      refine semA_mono (hr.run p1.ok p1.cd h2) fun vs H2 ⟨hl, p2⟩ => ?_
      have pp : List.Perm (vs.zip xs ++ ([(v, x)] ++ T)) ((v :: vs).zip (x :: xs) ++ T) := by
        show List.Perm (vs.zip xs ++ (v, x) :: T) ((v, x) :: (vs.zip xs ++ T))
        exact List.perm_middle
      refine ⟨by simp [hl], Ok.temps p2.ok fun L w => w.perm (pp.append_right L), fun e => ⟨(p2.cd e).1, fun q m => (p2.cd e).2 q (pp.mem_iff.mpr m)⟩, fun n => p2.nv (p1.nv n), fun e => (p1.sm e).trans (p2.sm e)⟩
    · cases h
  · cases h⟩
theorem args_run {r : List V → Hp → VK → Prop} {f : List D → Option D} (hr : OpA X.K r f) (ha : SA b X es ma) {ρ : L2.St} {H : Hp} {σ : Sg} {T : List (V × D)} {d : D} {σ' : Sg} (ok : Ok X.K H ρ σ T) (cd : Cd b σ T) (h : mA f ma σ = some (d, σ')) {Q : VK} (hQ : ∀ v H', Pst X.K b H ρ σ σ' T [(v, d)] H' → Q v H') :
    semA X es ρ H fun xs H1 => r xs H1 Q := by
  unfold mA at h
  split at h
  · rename_i ds σ1 h1
    split at h
    · rename_i z hz
      cases h
      refine semA_mono (ha.run ok cd h1) fun xs H1 ⟨hl, p1⟩ => ?_
      refine hr.run hl (L := T ++ sl ρ σ') (by have q := p1.ok.w; rw [List.append_assoc] at q; exact q) hz fun v H' w hs => hQ v H' ⟨?_, fun e => ⟨(p1.cd e).1, ?_⟩, p1.nv, fun e => (p1.sm e).trans hs⟩
      · exact ⟨p1.ok.len, p1.ok.al, w⟩
      · refine NT.cons (hr.nv hz (nv_zip hl (p1.cd e).2)) fun q m => (p1.cd e).2 q (List.mem_append_right _ m)
    · cases h
  · cases h
def kLst (xs : List D) : Option D := if xs.length ≤ 16777216 then some (.lst .own xs) else none
def kTup (xs : List D) : Option D := if xs.length ≤ 16777216 ∧ noOwns xs = true then some (.tup xs) else none
theorem op_lst {K : PySem.W.Frag} : OpA K (fun xs H1 Q => xs.length ≤ sizeLine ∧ ∀ p, H1 p = none → Q (.ref p) (upd H1 p (.lst xs))) kLst where
  run := fun {H L xs ds z Q} hl w e q => by
    unfold kLst at e
    split at e
    · rename_i hz
      cases e
      exact ⟨by rw [sizeLine_eq, hl]; exact hz, fun p hp => q _ _ (w.newLst hl hp) (same_upd hp)⟩
    · cases e
  nv := fun {ds z} e n => by
    unfold kLst at e
    split at e
    · cases e
      exact n
    · cases e
theorem op_tup {K : PySem.W.Frag} : OpA K (fun xs H1 Q => xs.length ≤ sizeLine ∧ ∀ p, H1 p = none → Q (.ref p) (upd H1 p (.tup xs))) kTup where
  run := fun {H L xs ds z Q} hl w e q => by
    unfold kTup at e
    split at e
    · rename_i hz
      cases e
      exact ⟨by rw [sizeLine_eq, hl]; exact hz.1, fun p hp => q _ _ (w.newTup hl hz.2 hp) (same_upd hp)⟩
    · cases e
  nv := fun {ds z} e n => by
    unfold kTup at e
    split at e
    · cases e
      exact n
    · cases e
theorem se_lst (ha : SA b X es ma) : SE b X (.List es pos) (mA kLst ma) := ⟨fun ok cd h => pe_sem (pe_lst paS) (args_run op_lst ha ok cd h fun _ _ p => p)⟩
theorem se_tup {x1 : Nat} (ha : SA b X es ma) : SE b X (.Tuple es x1 pos) (mA kTup ma) := ⟨fun ok cd h => pe_sem (pe_tup paS) (args_run op_tup ha ok cd h fun _ _ p => p)⟩
/-! ### built-ins -/
theorem se_callB {x : Str} {id : String} {r : List V → Hp → VK → Prop} {f : List D → Option D} {p : Pos} (hc : CallR X (.builtin id) r) (hr : OpA X.K r f) (hg : Gl X x) (hm : X.mg x = none) (hv : bootBuiltins x = some (.builtin id)) (ha : SA b X (e1 :: es) ma)
    (hn : x ≠ "__name__" := by decide) (hdb : (x == ("__debug__" : Str)) = false := by decide)
    (he : starEach (e1 :: es) X.env = (false, eval e1 X.env) :: starEach es X.env := by rfl) (hpl : (backTo pos (starEach es X.env)).any (·.1) = false := by rfl) : SE b X (.Call (.Name x p) (e1 :: es) [] pos) (mA f ma) :=
  ⟨fun ok cd h => pe_sem (pe_callB hc hg hm hv paS hn hdb he hpl) (args_run hr ha ok cd h fun _ _ p => p)⟩
theorem se_callTy {x : Str} {t : String} {r : List V → Hp → VK → Prop} {f : List D → Option D} {p : Pos} (hc : CallR X (.type t) r) (hr : OpA X.K r f) (hg : Gl X x) (hm : X.mg x = none) (hv : bootBuiltins x = some (.type t)) (ha : SA b X (e1 :: es) ma)
    (hn : x ≠ "__name__" := by decide) (hdb : (x == ("__debug__" : Str)) = false := by decide)
    (he : starEach (e1 :: es) X.env = (false, eval e1 X.env) :: starEach es X.env := by rfl) (hpl : (backTo pos (starEach es X.env)).any (·.1) = false := by rfl) : SE b X (.Call (.Name x p) (e1 :: es) [] pos) (mA f ma) :=
  ⟨fun ok cd h => pe_sem (pe_callTy hc hg hm hv paS hn hdb he hpl) (args_run hr ha ok cd h fun _ _ p => p)⟩
/-! ### tests -/
variable {ta tb : MT} {rest : List Expr}
theorem st_b (ha : SE b X e1 a) (he : ∀ whole, isTrue e1 X.env whole = (do let v ← whole; standAt e1.pos; holding [v] (truthy v)) := by intro _; rfl) : ST b X e1 (Py.tB a) := ⟨fun {ρ H σ T k σ'} ok cd h => by
  unfold Py.tB at h
  split at h
  · rename_i k' σ1 h1
    cases h
    refine pt_sem (pt_val peS he) (Q := fun v H' => v = k ∧ Pst X.K b H ρ σ σ' T [] H') ?_
    exact semE_mono (ha.run ok cd h1) fun v H' p => blK p
  · cases h⟩
theorem tru_of {K : PySem.W.Frag} {H : Hp} {L : List (V × D)} {v : V} {d : D} {k : Bool} (w : World K H ((v, d) :: L)) (h : dTru d = some k) : TruV K v H k := by
  cases d with
  | non => obtain ⟨_, r⟩ := w.repd; cases r; cases h; rfl
  | bl _ => obtain ⟨_, r⟩ := w.repd; cases r; cases h; rfl
  | int _ => obtain ⟨_, r⟩ := w.repd; cases r; cases h; rfl
  | str x =>
    obtain ⟨_, r⟩ := w.repd
    cases r
    simp only [dTru] at h
    split at h
    · rename_i hz
      cases h
      exact ⟨by rw [sizeLine_eq]; exact hz, rfl⟩
    · cases h
  | tup xs =>
    obtain ⟨a, vs, rfl, h1, h2, _⟩ := w.openT
    cases h
    refine .inr (.inl ⟨vs, .of h1, ?_⟩)
    cases xs <;> cases vs <;> simp_all
  | lst f xs =>
    obtain ⟨a, vs, rfl, h1, h2, _⟩ := w.openL
    cases h
    refine .inl ⟨vs, h1, ?_⟩
    cases xs <;> cases vs <;> simp_all
theorem st_val (ha : SE b X e1 a) (he : ∀ whole, isTrue e1 X.env whole = (do let v ← whole; standAt e1.pos; holding [v] (truthy v)) := by intro _; rfl) : ST b X e1 (tVal a) := ⟨fun {ρ H σ T k σ'} ok cd h => by
  unfold tVal at h
  split at h
  · rename_i x σ1 h1
    split at h
    · rename_i k' hk
      cases h
      refine pt_sem (pt_truth peS he) (Q := fun v H' => v = k ∧ Pst X.K b H ρ σ σ' T [] H') ?_
      refine semE_mono (ha.run ok cd h1) fun v H' p => ⟨k, tru_of (L := T ++ sl ρ σ') p.ok.w hk, rfl, p.ok.tail, fun e => ⟨(p.cd e).1, (p.cd e).2.tail⟩, p.nv, p.sm⟩
    · cases h
  · cases h⟩
theorem st_not (ha : ST b X e1 ta) : ST b X (.UnaryOp .Not e1 pos) (tNotM ta) := ⟨fun {ρ H σ T k σ'} ok cd h => by
  unfold tNotM at h
  split at h
  · rename_i k' σ1 h1
    cases h
    refine pt_sem (pt_not ptS) (Q := fun v H' => v = (!k') ∧ Pst X.K b H ρ σ σ' T [] H') ?_
    exact semT_mono (ha.run ok cd h1) fun v H' p => ⟨by rw [p.1], p.2⟩
  · cases h⟩
theorem sw_and1 (ha : ST b X e1 ta) : SW b X (.BoolOp .And [e1] pos) ta := ⟨fun ok cd h => pw_sem (pw_and1 ptS) (ha.run ok cd h)⟩
theorem sw_or1 (ha : ST b X e1 ta) : SW b X (.BoolOp .Or [e1] pos) ta := ⟨fun ok cd h => pw_sem (pw_or1 ptS) (ha.run ok cd h)⟩
theorem Pst.trans {K : PySem.W.Frag} {b : Bool} {ρ : L2.St} {σ σ1 σ2 : Sg} {T T' : List (V × D)} {H0 H1 H2 : Hp} (p : Pst K b H0 ρ σ σ1 T [] H1) (q : Pst K b H1 ρ σ1 σ2 T T' H2) : Pst K b H0 ρ σ σ2 T T' H2 := ⟨q.ok, q.cd, fun n => q.nv (p.nv n), fun e => (p.sm e).trans (q.sm e)⟩
theorem sw_and (ha : ST b X e1 ta) (hb : SW b X (.BoolOp .And (e2 :: rest) pos) tb) : SW b X (.BoolOp .And (e1 :: e2 :: rest) pos) (tAndM ta tb) := ⟨fun {ρ H σ T k σ'} ok cd h => by
  refine pw_sem (pw_and ptS pwS) (Q := fun v H' => v = k ∧ Pst X.K b H ρ σ σ' T [] H') ?_
  unfold tAndM at h
  split at h
  · rename_i σ1 h1
    refine semT_mono (ha.run ok cd h1) fun v H1 p => ?_
    rw [p.1]
    exact semW_mono (hb.run p.2.ok p.2.cd h) fun v H' q => ⟨q.1, p.2.trans q.2⟩
  · rename_i σ1 h1
    cases h
    refine semT_mono (ha.run ok cd h1) fun v H1 p => ?_
    rw [p.1]
    exact ⟨rfl, p.2⟩
  · cases h⟩
theorem sw_or (ha : ST b X e1 ta) (hb : SW b X (.BoolOp .Or (e2 :: rest) pos) tb) : SW b X (.BoolOp .Or (e1 :: e2 :: rest) pos) (tOrM ta tb) := ⟨fun {ρ H σ T k σ'} ok cd h => by
  refine pw_sem (pw_or ptS pwS) (Q := fun v H' => v = k ∧ Pst X.K b H ρ σ σ' T [] H') ?_
  unfold tOrM at h
  split at h
  · rename_i σ1 h1
    cases h
    refine semT_mono (ha.run ok cd h1) fun v H1 p => ?_
    rw [p.1]
    exact ⟨rfl, p.2⟩
  · rename_i σ1 h1
    refine semT_mono (ha.run ok cd h1) fun v H1 p => ?_
    rw [p.1]
    exact semW_mono (hb.run p.2.ok p.2.cd h) fun v H' q => ⟨q.1, p.2.trans q.2⟩
  · cases h⟩
theorem st_w (h : SW b X e1 ta) : ST b X e1 ta := ⟨fun ok cd e pins s I => h.run ok cd e _ pins s I⟩
/-- .. as values -/
theorem se_if {c : Expr} {tc : MT} {m1 m2 : M} (hc : ST b X c tc) (ha : SE b X e1 m1) (hb : SE b X e2 m2) : SE b X (.IfExp c e1 e2 pos) (mIf tc m1 m2) := ⟨fun {ρ H σ T k σ'} ok cd h => by
  refine pe_sem (pe_ifExp ptS peS peS) ?_
  unfold mIf at h
  split at h
  · rename_i σ1 h1
    refine semT_mono (hc.run ok cd h1) fun v H1 p => ?_
    rw [p.1]
    exact semE_mono (ha.run p.2.ok p.2.cd h) fun v H' q => p.2.trans q
  · rename_i σ1 h1
    refine semT_mono (hc.run ok cd h1) fun v H1 p => ?_
    rw [p.1]
    exact semE_mono (hb.run p.2.ok p.2.cd h) fun v H' q => p.2.trans q
  · cases h⟩
/-- and, or of bools as values: all but the last must be bools -/
def mAndV (a b : M) : M := fun σ => match a σ with
  | some (.bl true, σ1) => b σ1
  | some (.bl false, σ1) => some (.bl false, σ1)
  | _ => none
def mOrV (a b : M) : M := fun σ => match a σ with
  | some (.bl true, σ1) => some (.bl true, σ1)
  | some (.bl false, σ1) => b σ1
  | _ => none
def mNotV (a : M) : M := fun σ => match a σ with
  | some (.bl k, σ1) => some (.bl (!k), σ1)
  | _ => none
theorem se_one {op : BoolOp} (ha : SE b X e1 a) : SE b X (.BoolOp op [e1] pos) a := ⟨fun ok cd h => pe_sem (pe_one peS) (ha.run ok cd h)⟩
theorem bl_of {K : PySem.W.Frag} {b : Bool} {H0 : Hp} {ρ : L2.St} {σ σ' : Sg} {T : List (V × D)} {H : Hp} {v : V} {k : Bool} (p : Pst K b H0 ρ σ σ' T [(v, .bl k)] H) : v = .bl k ∧ Pst K b H0 ρ σ σ' T [] H := by
  obtain ⟨j, rfl, rfl, q⟩ := blK p
  exact ⟨rfl, q⟩
theorem se_and {m2 : M} (ha : SE b X e1 a) (hb : SE b X (.BoolOp .And (e2 :: rest) pos) m2) : SE b X (.BoolOp .And (e1 :: e2 :: rest) pos) (mAndV a m2) := ⟨fun {ρ H σ T k σ'} ok cd h => by
  refine pe_sem (pe_and peS peS) ?_
  unfold mAndV at h
  split at h
  · rename_i σ1 h1
    refine semE_mono (ha.run ok cd h1) fun v H1 p => ?_
    obtain ⟨rfl, q⟩ := bl_of p
    exact ⟨true, rfl, iteT (semE_mono (hb.run q.ok q.cd h) fun v H' z => q.trans z)⟩
  · rename_i σ1 h1
    cases h
    refine semE_mono (ha.run ok cd h1) fun v H1 p => ?_
    obtain ⟨rfl, q⟩ := bl_of p
    exact ⟨false, rfl, iteF p⟩
  · cases h⟩
theorem se_or {m2 : M} (ha : SE b X e1 a) (hb : SE b X (.BoolOp .Or (e2 :: rest) pos) m2) : SE b X (.BoolOp .Or (e1 :: e2 :: rest) pos) (mOrV a m2) := ⟨fun {ρ H σ T k σ'} ok cd h => by
  refine pe_sem (pe_or peS peS) ?_
  unfold mOrV at h
  split at h
  · rename_i σ1 h1
    cases h
    refine semE_mono (ha.run ok cd h1) fun v H1 p => ?_
    obtain ⟨rfl, q⟩ := bl_of p
    exact ⟨true, rfl, iteT p⟩
  · rename_i σ1 h1
    refine semE_mono (ha.run ok cd h1) fun v H1 p => ?_
    obtain ⟨rfl, q⟩ := bl_of p
    exact ⟨false, rfl, iteF (semE_mono (hb.run q.ok q.cd h) fun v H' z => q.trans z)⟩
  · cases h⟩
theorem se_not (ha : SE b X e1 a) : SE b X (.UnaryOp .Not e1 pos) (mNotV a) := ⟨fun {ρ H σ T k σ'} ok cd h => by
  refine pe_sem (pe_not peS) ?_
  unfold mNotV at h
  split at h
  · rename_i k' σ1 h1
    cases h
    refine semE_mono (ha.run ok cd h1) fun v H1 p => ?_
    obtain ⟨rfl, q⟩ := bl_of p
    refine ⟨k', rfl, ?_⟩
    exact ⟨Ok.lift (T1 := []) (T2 := [(.bl (!k'), .bl (!k'))]) q.ok fun L w => World.bl (!k') w, fun e => ⟨(q.cd e).1, (q.cd e).2.cons rfl⟩, q.nv, q.sm⟩
  · cases h⟩
end
end Py
/-! Layer «Py», part D: operators and built-ins on data. -/
namespace Py
open PySem PySem.Spec PyProof.Rows L2

/-! ### equality -/
mutual
def D.py : D → PyData
  | .non => .none
  | .bl b => .bool b
  | .int i => .int i
  | .str x => .str x
  | .tup xs => .tuple (pys xs)
  | .lst _ xs => .list (pys xs)
def pys : List D → List PyData
  | [] => []
  | x :: xs => x.py :: pys xs
end
mutual
def D.deq : D → D → Bool
  | .non, .non => true
  | .bl a, .bl b => a == b
  | .bl a, .int j => (if a then 1 else 0) == j
  | .int i, .bl b => i == (if b then 1 else 0)
  | .int i, .int j => i == j
  | .str x, .str y => x == y
  | .lst _ xs, .lst _ ys => deqs xs ys
  | .tup xs, .tup ys => deqs xs ys
  | _, _ => false
def deqs : List D → List D → Bool
  | [], [] => true
  | x :: xs, y :: ys => x.deq y && deqs xs ys
  | _, _ => false
end
mutual
/-- of depth at most n, its texts well-formed -/
def D.fit : Nat → D → Bool
  | _, .non => true
  | _, .bl _ => true
  | _, .int _ => true
  | _, .str x => PyData.strOk x
  | 0, .tup _ => false
  | 0, .lst _ _ => false
  | n + 1, .tup xs => fits n xs
  | n + 1, .lst _ xs => fits n xs
def fits : Nat → List D → Bool
  | _, [] => true
  | n, x :: xs => x.fit n && fits n xs
end
theorem deq_py : ∀ (x y : D), x.deq y = PyData.eqv x.py y.py := by
  intro x
  induction x using D.rec (motive_2 := fun xs => ∀ ys, deqs xs ys = PyData.eqvAll (pys xs) (pys ys)) with
  | non => intro y; cases y <;> simp [D.deq, D.py, PyData.eqv]
  | bl b => intro y; cases y <;> simp [D.deq, D.py, PyData.eqv]
  | int i => intro y; cases y <;> simp [D.deq, D.py, PyData.eqv]
  | str x => intro y; cases y <;> simp [D.deq, D.py, PyData.eqv]
  | tup xs ih => intro y; cases y <;> simp [D.deq, D.py, PyData.eqv, ih]
  | lst f xs ih => intro y; cases y <;> simp [D.deq, D.py, PyData.eqv, ih]
  | nil => rename_i y; cases y <;> simp [deqs, pys, PyData.eqvAll]
  | cons x xs ih1 ih2 => rename_i y; cases y <;> simp [deqs, pys, PyData.eqvAll, ih1, ih2]
theorem fit_lay : ∀ (x : D) (n : Nat), x.fit n = true → x.py.canLay0 = true ∧ x.py.depth ≤ n := by
  intro x
  induction x using D.rec (motive_2 := fun xs => ∀ n, fits n xs = true → PyData.canLayAll0 (pys xs) = true ∧ PyData.depthAll (pys xs) ≤ n) with
  | non => intro n h; simp [D.py, PyData.canLay0, PyData.depth]
  | bl b => intro n h; simp [D.py, PyData.canLay0, PyData.depth]
  | int i => intro n h; simp [D.py, PyData.canLay0, PyData.depth]
  | str x => intro n h; cases n <;> simpa [D.py, PyData.canLay0, PyData.depth, D.fit] using h
  | tup xs ih =>
    intro n h
    cases n with
    | zero => simp [D.fit] at h
    | succ n =>
      obtain ⟨h1, h2⟩ := ih n (by simpa [D.fit] using h)
      simp [D.py, PyData.canLay0, PyData.depth, h1]
      omega
  | lst f xs ih =>
    intro n h
    cases n with
    | zero => simp [D.fit] at h
    | succ n =>
      obtain ⟨h1, h2⟩ := ih n (by simpa [D.fit] using h)
      simp [D.py, PyData.canLay0, PyData.depth, h1]
      omega
  | nil => rename_i n h; simp [pys, PyData.canLayAll0, PyData.depthAll]
  | cons x xs ih1 ih2 =>
    rename_i n h
    simp only [fits, Bool.and_eq_true] at h
    obtain ⟨a1, a2⟩ := ih1 n h.1
    obtain ⟨b1, b2⟩ := ih2 n h.2
    simp [pys, PyData.canLayAll0, PyData.depthAll, a1, b1]
    omega
section
variable {K : PySem.W.Frag} {Z : Addr → Prop} {H : Hp} {L : List (V × D)}
mutual
theorem Rep.dp : ∀ {v : V} {d : D} {fp : List Addr}, Rep K Z H v d fp → Dp K H v d.py
  | _, _, _, .non => .non
  | _, _, _, .bl b => .bl b
  | _, _, _, .int i => .int i
  | _, _, _, .str x => .str x
  | _, _, _, .tup h r => .tup (.of h) r.dp
  | _, _, _, .own h r => .lst (.of h) r.dp
  | _, _, _, .frz z h r => .lst (.of h) r.dp
  | _, _, _, .vw h r => .lst (.of h) r.dp
  | _, _, _, .scr (ns := ns) h => .lst (h.imp (fun q => q.2) id) (by
      have z : ∀ ns : List Int, DpAll K H (ns.map V.int) (pys (ns.map D.int)) := fun ns => by
        induction ns with
        | nil => exact .nil
        | cons n r ih => exact .cons (.int n) ih
      exact z ns)
theorem Reps.dp : ∀ {vs : List V} {ds : List D} {fp : List Addr}, Reps K Z H vs ds fp → DpAll K H vs (pys ds)
  | _, _, _, .nil => .nil
  | _, _, _, .cons r t => .cons r.dp t.dp
end
theorem World.dp {v : V} {d : D} (w : World K H ((v, d) :: L)) : Dp K H v d.py := by
  obtain ⟨_, r⟩ := w.repd
  exact r.dp
def kEq (x y : D) : Option D := if x.fit 60 = true ∧ y.fit 60 = true then some (.bl (x.deq y)) else none
def kNe (x y : D) : Option D := if x.fit 60 = true ∧ y.fit 60 = true then some (.bl (!x.deq y)) else none
theorem shaped_of {d : D} (h : d.fit 60 = true) : SeqAt.shaped d.py = true := by
  obtain ⟨h1, h2⟩ := fit_lay d 60 h
  unfold SeqAt.shaped
  simp [h1]
  omega
theorem w2 {x y v : V} {dx dy z : D} {H' : Hp} (w : World K H ((y, dy) :: (x, dx) :: L)) (h : ∀ L, World K H L → World K H' ((v, z) :: L)) : World K H' ((v, z) :: L) := h L w.tail.tail
theorem o_eq : Op2 K (rEqD K) kEq where
  run := fun {H L x y dx dy z Q} w e q => by
    unfold kEq at e
    split at e
    · rename_i h
      cases e
      exact ⟨_, _, World.dp w.swap, World.dp w, shaped_of h.1, shaped_of h.2, by rw [← deq_py]; exact q _ _ (w2 w fun L w => w.bl _) (Same.refl _)⟩
    · cases e
  nv := fun e _ _ => by
    unfold kEq at e
    split at e <;> cases e
    rfl
theorem o_ne : Op2 K (rNeD K) kNe where
  run := fun {H L x y dx dy z Q} w e q => by
    unfold kNe at e
    split at e
    · rename_i h
      cases e
      exact ⟨_, _, World.dp w.swap, World.dp w, shaped_of h.1, shaped_of h.2, by rw [← deq_py]; exact q _ _ (w2 w fun L w => w.bl _) (Same.refl _)⟩
    · cases e
  nv := fun e _ _ => by
    unfold kNe at e
    split at e <;> cases e
    rfl
/-! ### numbers -/
theorem World.int_of {v : V} {i : Int} (w : World K H ((v, .int i) :: L)) : v = .int i := by
  obtain ⟨_, r⟩ := w.repd
  cases r
  rfl
theorem World.bl_of' {v : V} {i : Bool} (w : World K H ((v, .bl i) :: L)) : v = .bl i := by
  obtain ⟨_, r⟩ := w.repd
  cases r
  rfl
theorem World.str_of {v : V} {i : Str} (w : World K H ((v, .str i) :: L)) : v = .str i := by
  obtain ⟨_, r⟩ := w.repd
  cases r
  rfl
theorem World.non_of {v : V} (w : World K H ((v, .non) :: L)) : v = .non := by
  obtain ⟨_, r⟩ := w.repd
  cases r
  rfl
/-- two ints -/
def kI (f : Int → Int → Option D) (x y : D) : Option D := match x, y with
  | .int i, .int j => f i j
  | _, _ => none
theorem o_int0 {g : Int → Int → Int} : Op2 K (rI0 fun i j => .int (g i j)) (kI fun i j => some (.int (g i j))) where
  run := fun {H L x y dx dy z Q} w e q => by
    cases dx <;> cases dy <;> simp only [kI] at e <;> cases e
    exact ⟨_, _, World.int_of w.swap, World.int_of w, q _ _ (w2 w fun L w => w.int _) (Same.refl _)⟩
  nv := fun {dx dy z} e _ _ => by
    cases dx <;> cases dy <;> simp only [kI] at e <;> cases e
    rfl
theorem o_bl0 {g : Int → Int → Bool} : Op2 K (rI0 fun i j => .bl (g i j)) (kI fun i j => some (.bl (g i j))) where
  run := fun {H L x y dx dy z Q} w e q => by
    cases dx <;> cases dy <;> simp only [kI] at e <;> cases e
    exact ⟨_, _, World.int_of w.swap, World.int_of w, q _ _ (w2 w fun L w => w.bl _) (Same.refl _)⟩
  nv := fun {dx dy z} e _ _ => by
    cases dx <;> cases dy <;> simp only [kI] at e <;> cases e
    rfl
theorem o_int {C : Int → Int → Prop} {c : Int → Int → Bool} {g : Int → Int → Int} (hc : ∀ i j, c i j = true → C i j) : Op2 K (rI C fun i j => .int (g i j)) (kI fun i j => if c i j = true then some (.int (g i j)) else none) where
  run := fun {H L x y dx dy z Q} w e q => by
    cases dx <;> cases dy <;> simp only [kI] at e <;> try cases e
    split at e
    · rename_i h
      cases e
      exact ⟨_, _, World.int_of w.swap, World.int_of w, hc _ _ h, q _ _ (w2 w fun L w => w.int _) (Same.refl _)⟩
    · cases e
  nv := fun {dx dy z} e _ _ => by
    cases dx <;> cases dy <;> simp only [kI] at e <;> try cases e
    split at e <;> cases e
    rfl
def kSub : D → D → Option D := kI fun i j => some (.int (i - j))
def kLt : D → D → Option D := kI fun i j => some (.bl (decide (i < j)))
def kLe : D → D → Option D := kI fun i j => some (.bl (decide (i ≤ j)))
def kGt : D → D → Option D := kI fun i j => some (.bl (decide (j < i)))
def kGe : D → D → Option D := kI fun i j => some (.bl (decide (j ≤ i)))
def kMod : D → D → Option D := kI fun i j => if decide (0 < j) = true then some (.int (i % j)) else none
def kDiv : D → D → Option D := kI fun i j => if decide (0 < j ∧ j < 1073741824) = true then some (.int (i / j)) else none
def cMul (i j : Int) : Bool := decide (i.natAbs < 18446744073709551616 ∨ j.natAbs < 18446744073709551616)
def kMulI : D → D → Option D := kI fun i j => if cMul i j = true then some (.int (i * j)) else none
def kPow : D → D → Option D := kI fun i j => if decide (0 ≤ j ∧ j ≤ 1000000 ∧ i.natAbs < 18446744073709551616) = true then some (.int (i ^ j.toNat)) else none
theorem o_sub : Op2 K (rI0 fun i j => .int (i - j)) kSub := o_int0
theorem o_lt : Op2 K (rI0 fun i j => .bl (decide (i < j))) kLt := o_bl0
theorem o_le : Op2 K (rI0 fun i j => .bl (decide (i ≤ j))) kLe := o_bl0
theorem o_gt : Op2 K (rI0 fun i j => .bl (decide (j < i))) kGt := o_bl0
theorem o_ge : Op2 K (rI0 fun i j => .bl (decide (j ≤ i))) kGe := o_bl0
theorem o_mod : Op2 K (rI (fun _ j => 0 < j) fun i j => .int (i % j)) kMod := o_int (c := fun _ j => decide (0 < j)) fun _ _ h => of_decide_eq_true h
theorem o_div : Op2 K (rI CDiv fun i j => .int (i / j)) kDiv := o_int (C := CDiv) (c := fun _ j => decide (0 < j ∧ j < 1073741824)) fun i j h => of_decide_eq_true (p := 0 < j ∧ j < 1073741824) h
theorem o_pow : Op2 K (rI CPow fun i j => .int (i ^ j.toNat)) kPow := o_int (c := fun i j => decide (0 ≤ j ∧ j ≤ 1000000 ∧ i.natAbs < 18446744073709551616)) fun _ _ h => by
  have h := of_decide_eq_true h
  exact ⟨h.1, h.2.1, h.2.2⟩
theorem o_mulI : Op2 K (rI CMul fun i j => .int (i * j)) kMulI := o_int fun i j h => by
  have h := of_decide_eq_true h
  unfold CMul
  omega
/-! ### None -/
def D.isN : D → Bool
  | .non => true
  | _ => false
def kIsN (x y : D) : Option D := match y with
  | .non => some (.bl x.isN)
  | _ => none
def kNotN (x y : D) : Option D := match y with
  | .non => some (.bl (!x.isN))
  | _ => none
theorem non_iff {v : V} {d : D} (w : World K H ((v, d) :: L)) : decide (v = .non) = d.isN := by
  obtain ⟨_, r⟩ := w.repd
  cases r <;> simp [D.isN]
theorem o_isN : Op2 K (fun x y H Q => y = .non ∧ Q (.bl (decide (x = .non))) H) kIsN where
  run := fun {H L x y dx dy z Q} w e q => by
    cases dy <;> simp only [kIsN] at e <;> cases e
    exact ⟨World.non_of w, by rw [non_iff w.swap]; exact q _ _ (w2 w fun L w => w.bl _) (Same.refl _)⟩
  nv := fun {dx dy z} e _ _ => by
    cases dy <;> simp only [kIsN] at e <;> cases e
    rfl
theorem o_notN : Op2 K (fun x y H Q => y = .non ∧ Q (.bl (!decide (x = .non))) H) kNotN where
  run := fun {H L x y dx dy z Q} w e q => by
    cases dy <;> simp only [kNotN] at e <;> cases e
    exact ⟨World.non_of w, by rw [non_iff w.swap]; exact q _ _ (w2 w fun L w => w.bl _) (Same.refl _)⟩
  nv := fun {dx dy z} e _ _ => by
    cases dy <;> simp only [kNotN] at e <;> cases e
    rfl
end
end Py
/-! Layer «Py», part E: lists, tuples, texts: operators, items, slices, built-ins. -/
namespace Py
open PySem PySem.Spec PyProof.Rows L2
section
variable {K : PySem.W.Frag} {Z : Addr → Prop} {H : Hp} {L : List (V × D)}
theorem zip_app {vs ws : List V} {xs ys : List D} (h : vs.length = xs.length) : (vs ++ ws).zip (xs ++ ys) = vs.zip xs ++ ws.zip ys := List.zip_append h
theorem World.open2L {x y : V} {f g : Fl} {xs ys : List D} (w : World K H ((y, .lst g ys) :: (x, .lst f xs) :: L)) (hf : f ≠ .scr) (hg : g ≠ .scr) : ∃ a b vs ws, x = .ref a ∧ y = .ref b ∧ H a = some (.lst vs) ∧ H b = some (.lst ws) ∧ vs.length = xs.length ∧ ws.length = ys.length ∧ World K H ((vs ++ ws).zip (xs ++ ys) ++ L) := by
  obtain ⟨b, ws, rfl, _, l2, h2, w⟩ := w.openL
  have w' : World K H ((x, .lst f xs) :: (ws.zip ys ++ L)) := w.perm List.perm_middle
  obtain ⟨a, vs, rfl, _, l1, h1, w⟩ := w'.openL
  exact ⟨a, b, vs, ws, rfl, rfl, h1 hf, h2 hg, l1, l2, by rw [zip_app l1, List.append_assoc]; exact w⟩
theorem noOwns_append (xs ys : List D) : noOwns (xs ++ ys) = (noOwns xs && noOwns ys) := by rw [noOwns_all, noOwns_all, noOwns_all, List.all_append]
theorem noVws_append (xs ys : List D) : noVws (xs ++ ys) = (noVws xs && noVws ys) := by rw [noVws_all, noVws_all, noVws_all, List.all_append]
theorem World.open2T {x y : V} {xs ys : List D} (w : World K H ((y, .tup ys) :: (x, .tup xs) :: L)) : ∃ a b vs ws, x = .ref a ∧ y = .ref b ∧ H a = some (.tup vs) ∧ H b = some (.tup ws) ∧ vs.length = xs.length ∧ ws.length = ys.length ∧ noOwns (xs ++ ys) = true ∧ World K H ((vs ++ ws).zip (xs ++ ys) ++ L) := by
  obtain ⟨b, ws, rfl, h2, l2, n2, w⟩ := w.openT
  have w' : World K H ((x, .tup xs) :: (ws.zip ys ++ L)) := w.perm List.perm_middle
  obtain ⟨a, vs, rfl, h1, l1, n1, w⟩ := w'.openT
  exact ⟨a, b, vs, ws, rfl, rfl, h1, h2, l1, l2, by rw [noOwns_append, n1, n2]; rfl, by rw [zip_app l1, List.append_assoc]; exact w⟩
/-- items that nobody holds may be taken in any way -/
theorem World.items0 {vs : List V} {xs : List D} (w : World K H (vs.zip xs ++ L)) (hl : vs.length = xs.length) (hn : noOwns xs = true) {vs' : List V} {xs' : List D} (h : ∀ Z, Reps K Z H vs xs [] → Reps K Z H vs' xs' []) : World K H (vs'.zip xs' ++ L) := by
  obtain ⟨Z, fp, w, q⟩ := w
  obtain ⟨f, g, rfl, r, t⟩ := w.items hl
  have e := r.none_held hn
  subst e
  exact ⟨Z, _, .ofItems (h Z r) t, q⟩
theorem Reps.rep {vs : List V} {xs : List D} (r : Reps K Z H vs xs []) : ∀ n : Nat, Reps K Z H (List.replicate n vs).flatten (List.replicate n xs).flatten []
  | 0 => .nil
  | n + 1 => by
    simp only [List.replicate_succ, List.flatten_cons]
    exact Reps.append (f := []) (g := []) r (Reps.rep r n)
/-! ### + -/
def kAdd : D → D → Option D
  | .int i, .int j => some (.int (i + j))
  | .tup xs, .tup ys => if xs.length + ys.length ≤ 16777216 then some (.tup (xs ++ ys)) else none
  | .lst f xs, .lst g ys => if f ≠ .scr ∧ g ≠ .scr ∧ xs.length + ys.length ≤ 16777216 then some (.lst .own (xs ++ ys)) else none
  | .str x, .str y => if x.length + y.length ≤ 16777216 then some (.str (x ++ y)) else none
  | _, _ => none
def rAddA (K : PySem.W.Frag) : R2 := fun x y H Q => rI0 (fun i j => .int (i + j)) x y H Q ∨ (rCatA K x y H Q ∨ (rCat x y H Q ∨ (fun x y H Q => ∃ i j, x = .str i ∧ y = .str j ∧ i.length + j.length ≤ sizeLine ∧ Q (.str (i ++ j)) H) x y H Q))
theorem op_addA {X : Cx} : OpR X (binaryOp .Add) (rAddA X.K) := op_add.or (op_catA.or (op_cat.or op_add_str))
theorem o_add : Op2 K (rAddA K) kAdd where
  run := fun {H L x y dx dy z Q} w e q => by
    cases dx <;> cases dy <;> simp only [kAdd] at e <;> try cases e
    · exact .inl ⟨_, _, World.int_of w.swap, World.int_of w, q _ _ (w2 w fun L w => w.int _) (Same.refl _)⟩
    · split at e
      · rename_i hz
        cases e
        exact .inr (.inr (.inr ⟨_, _, World.str_of w.swap, World.str_of w, by rw [sizeLine_eq]; exact hz, q _ _ (w2 w fun L w => w.str _) (Same.refl _)⟩))
      · cases e
    · split at e
      · rename_i hz
        cases e
        refine .inr (.inl ?_)
        have w0 := w
        obtain ⟨a, b, vs, ws, rfl, rfl, h1, h2, l1, l2, n, w⟩ := w.open2T
        refine ⟨a, b, vs, ws, rfl, rfl, .of h1, .of h2, by rw [l1, l2, sizeLine_eq]; exact hz, fun e => ?_, fun _ e => ?_, fun _ _ p hp => q _ _ (w.newTup (by simp [l1, l2]) n hp) (same_upd hp)⟩
        · subst e
          have e1 : _ = [] := List.eq_nil_of_length_eq_zero (l1.symm.trans rfl)
          rw [e1] at q
          exact q _ _ (w0.sub (List.Sublist.cons_cons _ (List.sublist_cons_self _ _))) (Same.refl _)
        · subst e
          have e1 : _ = [] := List.eq_nil_of_length_eq_zero (l2.symm.trans rfl)
          rw [e1, List.append_nil] at q
          exact q _ _ w0.tail (Same.refl _)
      · cases e
    · split at e
      · rename_i hz
        cases e
        refine .inr (.inr (.inl ?_))
        obtain ⟨a, b, vs, ws, rfl, rfl, h1, h2, l1, l2, w⟩ := w.open2L hz.1 hz.2.1
        exact ⟨a, b, vs, ws, rfl, rfl, h1, h2, by rw [l1, l2, sizeLine_eq]; exact hz.2.2, fun p hp => q _ _ (w.newLst (by simp [l1, l2]) hp) (same_upd hp)⟩
      · cases e
  nv := fun {dx dy z} e a b => by
    cases dx <;> cases dy <;> simp only [kAdd] at e <;> try cases e
    · rfl
    · split at e <;> cases e
      rfl
    · split at e <;> cases e
      simp only [D.noVw, noVws_append, Bool.and_eq_true] at a b ⊢
      exact ⟨a, b⟩
    · rename_i f xs g ys
      split at e <;> cases e
      simp only [D.noVw, noVws_append, Bool.and_eq_true]
      cases f <;> cases g <;> simp_all [D.noVw]
/-! ### * -/
def kMul : D → D → Option D
  | .int i, .int j => if cMul i j = true then some (.int (i * j)) else none
  | .lst f xs, .int k => if f ≠ .scr ∧ noOwns xs = true ∧ -9223372036854775808 ≤ k ∧ k < 9223372036854775808 ∧ xs.length * k.toNat ≤ 16777216 then some (.lst .own (List.replicate k.toNat xs).flatten) else none
  | _, _ => none
def rMulA : R2 := fun x y H Q => rI CMul (fun i j => .int (i * j)) x y H Q ∨ rRep x y H Q
theorem op_mulA {X : Cx} : OpR X (binaryOp .Mult) rMulA := op_mul.or op_rep
theorem noVws_rep {xs : List D} (h : noVws xs = true) (n : Nat) : noVws (List.replicate n xs).flatten = true := by
  rw [noVws_all, List.all_eq_true] at h ⊢
  intro x hx
  obtain ⟨l, hl, hm⟩ := List.mem_flatten.mp hx
  exact h x ((List.mem_replicate.mp hl).2 ▸ hm)
theorem o_mul : Op2 K rMulA kMul where
  run := fun {H L x y dx dy z Q} w e q => by
    cases dx <;> cases dy <;> simp only [kMul] at e <;> try cases e
    · split at e
      · rename_i h
        cases e
        have h := of_decide_eq_true h
        exact .inl ⟨_, _, World.int_of w.swap, World.int_of w, by unfold CMul; omega, q _ _ (w2 w fun L w => w.int _) (Same.refl _)⟩
      · cases e
    · split at e
      · rename_i h
        cases e
        obtain ⟨h1, h2, h3, h4, h5⟩ := h
        have ey := World.int_of w
        subst ey
        obtain ⟨a, vs, rfl, _, l1, hl, w⟩ := w.tail.openL
        exact .inr ⟨a, _, vs, rfl, rfl, hl h1, by omega, by omega, by rw [l1, sizeLine_eq]; exact h5, fun p hp => q _ _ (World.newLst (by simp [l1]) hp (w.items0 l1 h2 fun Z r => r.rep _)) (same_upd hp)⟩
      · cases e
  nv := fun {dx dy z} e a b => by
    cases dx <;> cases dy <;> simp only [kMul] at e <;> try cases e
    · split at e <;> cases e
      rfl
    · rename_i f xs j
      split at e <;> cases e
      have : noVws xs = true := by cases f <;> simp_all [D.noVw]
      exact noVws_rep this _
/-! ### items -/
def kIx : D → D → Option D
  | .tup xs, .int i => atI xs i
  | .lst _ xs, .int i => atI xs i
  | .str x, .int i => if x.length ≤ 16777216 then (atI x.cps.toList i).map fun c => .str ⟨#[c]⟩ else none
  | _, _ => none
theorem atI_some {α : Type} {xs : List α} {i : Int} {x : α} (h : atI xs i = some x) : ∃ j, ixN xs.length i = some j ∧ xs[j]? = some x := by
  unfold atI at h
  cases q : ixN xs.length i with
  | none => rw [q] at h; cases h
  | some j => rw [q] at h; exact ⟨j, rfl, h⟩
theorem World.pick {vs : List V} {xs : List D} {j : Nat} {d : D} (w : World K H (vs.zip xs ++ L)) (hl : vs.length = xs.length) (h : xs[j]? = some d) : ∃ v, vs[j]? = some v ∧ World K H ((v, d) :: L) := by
  obtain ⟨hj, e⟩ := List.getElem?_eq_some_iff.mp h
  have hv : j < vs.length := by rw [hl]; exact hj
  refine ⟨vs[j], List.getElem?_eq_getElem hv, w.sub ?_⟩
  have m : (vs[j], d) ∈ vs.zip xs := by
    rw [← e]
    exact List.mem_iff_getElem.mpr ⟨j, by rw [List.length_zip]; omega, by simp⟩
  exact (List.singleton_sublist.mpr m).append (List.Sublist.refl L)
theorem o_ix : Op2 K (rIx K) kIx where
  run := fun {H L x y dx dy z Q} w e q => by
    cases dx <;> cases dy <;> simp only [kIx] at e <;> try cases e
    · have ey := World.int_of w
      subst ey
      have ex := World.str_of w.tail
      subst ex
      split at e
      · rename_i hz
        cases h : atI (‹PySem.Str›).cps.toList _ with
        | none => rw [h] at e; cases e
        | some c =>
          rw [h] at e
          cases e
          exact .inr (.inr ⟨_, _, c, rfl, rfl, by rw [sizeLine_eq]; exact hz, h, q _ _ (World.str _ w.tail.tail) (Same.refl _)⟩)
      · cases e
    · have ey := World.int_of w
      subst ey
      obtain ⟨j, h1, h2⟩ := atI_some e
      obtain ⟨a, vs, rfl, ht, l1, n, w⟩ := w.tail.openT
      obtain ⟨v, hv, w⟩ := w.pick l1 h2
      exact .inr (.inl ⟨a, vs, _, v, rfl, rfl, .of ht, by unfold atI; rw [l1, h1]; exact hv, q _ _ w (Same.refl _)⟩)
    · have ey := World.int_of w
      subst ey
      obtain ⟨j, h1, h2⟩ := atI_some e
      obtain ⟨a, vs, rfl, ht, l1, n, w⟩ := w.tail.openL
      obtain ⟨v, hv, w⟩ := w.pick l1 h2
      exact .inl ⟨a, vs, _, v, rfl, rfl, ht, by unfold atI; rw [l1, h1]; exact hv, q _ _ w (Same.refl _)⟩
  nv := fun {dx dy z} e a b => by
    cases dx <;> cases dy <;> simp only [kIx] at e <;> try cases e
    · split at e
      · cases h : atI (‹PySem.Str›).cps.toList _ with
        | none => rw [h] at e; cases e
        | some c =>
          rw [h] at e
          cases e
          rfl
      · cases e
    · obtain ⟨j, h1, h2⟩ := atI_some e
      exact noVws_mem a (List.mem_of_getElem? h2)
    · rename_i f xs i
      obtain ⟨j, h1, h2⟩ := atI_some e
      have : noVws xs = true := by cases f <;> simp_all [D.noVw]
      exact noVws_mem this (List.mem_of_getElem? h2)
/-! ### slices -/
abbrev MO := Sg → Option (Option Int × Sg)
def oNone : MO := fun σ => some (none, σ)
def oSome (a : M) : MO := fun σ => match a σ with
  | some (.int i, σ1) => some (some i, σ1)
  | _ => none
def mSl (f : D → Option Int → Option Int → Option D) (a : M) (lo hi : MO) : M := fun σ => match a σ with
  | some (x, σ1) => (match lo σ1 with
    | some (l, σ2) => (match hi σ2 with
      | some (h, σ3) => (match f x l h with
        | some z => some (z, σ3)
        | none => none)
      | none => none)
    | none => none)
  | none => none
def cutD {α : Type} (xs : List α) (lo hi : Option Int) : List α := (xs.drop (HT.sIx xs.length 0 lo)).take (HT.sIx xs.length xs.length hi - HT.sIx xs.length 0 lo)
def kSl : D → Option Int → Option Int → Option D
  | .tup xs, lo, hi => some (.tup (cutD xs lo hi))
  | .lst _ xs, lo, hi => some (.lst .own (cutD xs lo hi))
  | .str x, lo, hi => if x.length ≤ 16777216 then some (.str (cutS x lo hi)) else none
  | _, _, _ => none
def semO (X : Cx) (e : Option Expr) : TO := fun ρ H Q => ∃ t : TO, PO X e t ∧ t ρ H Q
structure SO (b : Bool) (X : Cx) (e : Option Expr) (t : TO) (m : MO) : Prop where
  po : PO X e t
  run : ∀ {ρ : L2.St} {H : Hp} {σ : Sg} {T : List (V × D)} {o : Option Int} {σ' : Sg} {Q : Option Int → Hp → Prop}, Ok X.K H ρ σ T → Cd b σ T → m σ = some (o, σ') → (∀ H', Pst X.K b H ρ σ σ' T [] H' → Q o H') → t ρ H Q
theorem so_none {b : Bool} {X : Cx} : SO b X none tNoPart oNone := ⟨po_none, fun ok cd h q => by cases h; exact q _ ⟨ok, cd, id, fun _ => Same.refl _⟩⟩
theorem so_some {b : Bool} {X : Cx} {e : Expr} {m : M} (h : SE b X e m) : SO b X (some e) (tPart (semE X e)) (oSome m) := ⟨po_some peS, fun {ρ H σ T o σ' Q} ok cd e q => by
  unfold oSome at e
  split at e
  · rename_i i σ1 h1
    cases e
    refine semE_mono (h.run ok cd h1) fun v H' p => ?_
    exact ⟨i, World.int_of (L := T ++ sl ρ σ') p.ok.w, q H' ⟨p.ok.tail, fun e => ⟨(p.cd e).1, (p.cd e).2.tail⟩, p.nv, p.sm⟩⟩
  · cases e⟩
structure OpS (K : PySem.W.Frag) (r : V → Option Int → Option Int → Hp → VK → Prop) (f : D → Option Int → Option Int → Option D) : Prop where
  run : ∀ {H : Hp} {L : List (V × D)} {x : V} {dx z : D} {lo hi : Option Int} {Q : VK}, World K H ((x, dx) :: L) → f dx lo hi = some z → (∀ v H', World K H' ((v, z) :: L) → Same H H' → Q v H') → r x lo hi H Q
  nv : ∀ {dx z : D} {lo hi : Option Int}, f dx lo hi = some z → dx.noVw = true → z.noVw = true
def rSlAll (K : PySem.W.Frag) : V → Option Int → Option Int → Hp → VK → Prop := fun x lo hi H Q => rSlL K x lo hi H Q ∨ (rSlA K x lo hi H Q ∨ rSlS x lo hi H Q)
theorem sl_all {X : Cx} : SlR X (rSlAll X.K) := sl_list.or (sl_tupA.or sl_str)
theorem cut_same {α : Type} {xs : List α} {lo hi : Option Int} (h : HT.sIx xs.length 0 lo = 0 ∧ HT.sIx xs.length xs.length hi = xs.length) : cutD xs lo hi = xs := by
  unfold cutD
  rw [h.1, h.2]
  simp
theorem cut_zip {vs : List V} {xs : List D} (hl : vs.length = xs.length) (lo hi : Option Int) : (cutD vs lo hi).zip (cutD xs lo hi) = cutD (vs.zip xs) lo hi := by
  unfold cutD
  have e : (vs.zip xs).length = xs.length := by rw [List.length_zip]; omega
  rw [e, hl]
  simp only [List.zip, List.drop_zipWith, List.take_zipWith]
theorem cut_sub {α : Type} (xs : List α) (lo hi : Option Int) : (cutD xs lo hi).Sublist xs := (List.take_sublist _ _).trans (List.drop_sublist _ _)
theorem cut_len {vs : List V} {xs : List D} (hl : vs.length = xs.length) (lo hi : Option Int) : (cutD vs lo hi).length = (cutD xs lo hi).length := by
  unfold cutD
  rw [hl]
  simp [hl]
theorem noOwns_sub {xs ys : List D} (h : ys.Sublist xs) (n : noOwns xs = true) : noOwns ys = true := by
  rw [noOwns_all, List.all_eq_true] at n ⊢
  exact fun x hx => n x (h.subset hx)
theorem noVws_sub {xs ys : List D} (h : ys.Sublist xs) (n : noVws xs = true) : noVws ys = true := by
  rw [noVws_all, List.all_eq_true] at n ⊢
  exact fun x hx => n x (h.subset hx)
theorem o_sl : OpS K (rSlAll K) kSl where
  run := fun {H L x dx z lo hi Q} w e q => by
    cases dx <;> simp only [kSl] at e <;> try cases e
    · have ex := World.str_of w
      subst ex
      split at e <;> cases e
      rename_i hz
      exact .inr (.inr ⟨_, rfl, by rw [sizeLine_eq]; exact hz, q _ _ (World.str _ w.tail) (Same.refl _)⟩)
    · rename_i xs
      have w0 := w
      obtain ⟨a, vs, rfl, ht, l1, n, w⟩ := w.openT
      refine .inr (.inl ⟨a, vs, rfl, .of ht, fun h => ?_, fun h p hp => q _ _ (World.newTup (vs := cutD vs lo hi) (cut_len l1 lo hi) (noOwns_sub (cut_sub _ _ _) n) hp (w.sub ?_)) (same_upd hp)⟩)
      · have e : cutD xs lo hi = xs := cut_same (by rw [← l1]; exact h)
        rw [e] at q
        exact q _ _ w0 (Same.refl _)
      · rw [cut_zip l1]
        exact (cut_sub _ _ _).append (List.Sublist.refl L)
    · rename_i f xs
      obtain ⟨a, vs, rfl, ht, l1, _, w⟩ := w.openL
      refine .inl ⟨a, vs, rfl, ht, fun p hp => q _ _ (World.newLst (vs := cutD vs lo hi) (cut_len l1 lo hi) hp (w.sub ?_)) (same_upd hp)⟩
      rw [cut_zip l1]
      exact (cut_sub _ _ _).append (List.Sublist.refl L)
  nv := fun {dx z lo hi} e a => by
    cases dx <;> simp only [kSl] at e <;> try cases e
    · split at e <;> cases e
      rfl
    · exact noVws_sub (cut_sub _ _ _) a
    · rename_i f xs
      have : noVws xs = true := by cases f <;> simp_all [D.noVw]
      exact noVws_sub (cut_sub _ _ _) this
variable {X : Cx} {b : Bool}
theorem se_slice {r : V → Option Int → Option Int → Hp → VK → Prop} {f : D → Option Int → Option Int → Option D} {e1 : Expr} {lo hi : Option Expr} {tl th : TO} {a : M} {ml mh : MO} {p2 pos : Pos} (hr : SlR X r) (ho : OpS X.K r f) (ha : SE b X e1 a) (hl : SO b X lo tl ml) (hh : SO b X hi th mh) :
    SE b X (.Subscript e1 (.Slice lo hi none p2) pos) (mSl f a ml mh) := ⟨fun {ρ H σ T d σ'} ok cd h => by
  unfold mSl at h
  split at h
  · rename_i x σ1 h1
    split at h
    · rename_i l σ2 h2
      split at h
      · rename_i u σ3 h3
        split at h
        · rename_i z hz
          cases h
          refine pe_sem (pe_slice hr peS hl.po hh.po) ?_
          refine semE_mono (ha.run ok cd h1) fun v H1 p1 => ?_
          refine hl.run p1.ok p1.cd h2 fun H2 p2 => ?_
          refine hh.run p2.ok p2.cd h3 fun H3 p3 => ?_
          exact ho.run (L := T ++ sl ρ σ') p3.ok.w hz fun v' H' w hs => ⟨⟨p3.ok.len, p3.ok.al, w⟩, fun e => ⟨(p3.cd e).1, (p3.cd e).2.tail.cons (ho.nv hz (p3.cd e).2.head)⟩, fun n => p3.nv (p2.nv (p1.nv n)), fun e => (((p1.sm e).trans (p2.sm e)).trans (p3.sm e)).trans hs⟩
        · cases h
      · cases h
    · cases h
  · cases h⟩
end
end Py
/-! Layer «Py», part F: built-in functions on data. -/
namespace Py
open PySem PySem.Spec PyProof.Rows L2
section
variable {K : PySem.W.Frag} {Z : Addr → Prop} {H : Hp} {L : List (V × D)}
/-- one argument -/
def k1 (f : D → Option D) (ds : List D) : Option D := match ds with
  | [d] => f d
  | _ => none
theorem a1 {r : List V → Hp → VK → Prop} {f : D → Option D} (h : ∀ {H : Hp} {L : List (V × D)} {x : V} {d z : D} {Q : VK}, World K H ((x, d) :: L) → f d = some z → (∀ v H', World K H' ((v, z) :: L) → Same H H' → Q v H') → r [x] H Q)
    (hv : ∀ {d z : D}, f d = some z → d.noVw = true → z.noVw = true) : OpA K r (k1 f) where
  run := fun {H L xs ds z Q} hl w e q => by
    match ds, xs, hl, w, e with
    | [d], [x], _, w, e => exact h (L := L) w e q
  nv := fun {ds z} e n => by
    match ds, e with
    | [d], e => exact hv e (by simpa [noVws] using n)
def k2 (f : D → D → Option D) (ds : List D) : Option D := match ds with
  | [d, e] => f d e
  | _ => none
theorem a2 {r : List V → Hp → VK → Prop} {f : D → D → Option D} (h : ∀ {H : Hp} {L : List (V × D)} {x y : V} {d e z : D} {Q : VK}, World K H ((x, d) :: (y, e) :: L) → f d e = some z → (∀ v H', World K H' ((v, z) :: L) → Same H H' → Q v H') → r [x, y] H Q)
    (hv : ∀ {d e z : D}, f d e = some z → d.noVw = true → e.noVw = true → z.noVw = true) : OpA K r (k2 f) where
  run := fun {H L xs ds z Q} hl w e q => by
    match ds, xs, hl, w, e with
    | [d, d2], [x, y], _, w, e => exact h (L := L) w e q
  nv := fun {ds z} e n => by
    match ds, e with
    | [d, d2], e =>
      simp only [noVws, Bool.and_true, Bool.and_eq_true] at n
      exact hv e n.1 n.2
theorem OpA.or {r r' : List V → Hp → VK → Prop} {f g : List D → Option D} (h : OpA K r f) (h' : OpA K r' g) : OpA K (fun x H Q => r x H Q ∨ r' x H Q) (fun x => (f x).or (g x)) where
  run := fun {H L xs ds z Q} hl w e q => by
    cases q1 : f ds with
    | some z' =>
      rw [q1] at e
      have e' : z' = z := by simpa using e
      subst e'
      exact .inl (h.run hl w q1 q)
    | none =>
      rw [q1] at e
      exact .inr (h'.run hl w (by simpa using e) q)
  nv := fun {ds z} e n => by
    cases q1 : f ds with
    | some z' =>
      rw [q1] at e
      have e' : z' = z := by simpa using e
      subst e'
      exact h.nv q1 n
    | none =>
      rw [q1] at e
      exact h'.nv (by simpa using e) n
/-! ### len -/
def fLen : D → Option D
  | .tup xs => some (.int xs.length)
  | .lst _ xs => some (.int xs.length)
  | .str x => if x.length ≤ 16777216 then some (.int x.length) else none
  | _ => none
theorem o_len : OpA K (fun xs H Q => ∃ x n, xs = [x] ∧ LenV K x H n ∧ Q (.int n) H) (k1 fLen) := a1
  (fun {H L x d z Q} w e q => by
    cases d <;> simp only [fLen] at e <;> try cases e
    · have ex := World.str_of w
      subst ex
      split at e <;> cases e
      rename_i hz
      exact ⟨_, _, rfl, ⟨by rw [sizeLine_eq]; exact hz, rfl⟩, q _ _ (World.int _ w.tail) (Same.refl _)⟩
    · have w0 := w.tail
      obtain ⟨a, vs, rfl, ht, l1, n, w⟩ := w.openT
      exact ⟨_, _, rfl, .inr ⟨vs, .of ht, rfl⟩, by rw [l1]; exact q _ _ (World.int _ w0) (Same.refl _)⟩
    · have w0 := w.tail
      obtain ⟨a, vs, rfl, ht, l1, _, w⟩ := w.openL
      exact ⟨_, _, rfl, .inl ⟨vs, ht, rfl⟩, by rw [l1]; exact q _ _ (World.int _ w0) (Same.refl _)⟩)
  (fun {d z} e n => by
    cases d <;> simp only [fLen] at e <;> try cases e
    · split at e <;> cases e
      rfl
    · rfl
    · rfl)
/-! ### abs, int -/
def fAbs : D → Option D
  | .int i => some (.int (if i < 0 then -i else i))
  | _ => none
theorem o_abs : OpA K (fun xs H Q => ∃ i, xs = [.int i] ∧ Q (.int (if i < 0 then -i else i)) H) (k1 fAbs) := a1
  (fun {H L x d z Q} w e q => by
    cases d <;> simp only [fAbs] at e <;> cases e
    have ex := World.int_of w
    subst ex
    exact ⟨_, rfl, q _ _ (World.int _ w.tail) (Same.refl _)⟩)
  (fun {d z} e n => by cases d <;> simp only [fAbs] at e <;> cases e; rfl)
def fInt : D → Option D
  | .int i => some (.int i)
  | .bl k => some (.int (if k = true then 1 else 0))
  | _ => none
theorem o_int1 : OpA K (fun xs H Q => (∃ i, xs = [.int i] ∧ Q (.int i) H) ∨ ∃ k, xs = [.bl k] ∧ Q (.int (if k then 1 else 0)) H) (k1 fInt) := a1
  (fun {H L x d z Q} w e q => by
    cases d <;> simp only [fInt] at e <;> cases e
    · have ex := World.bl_of' w
      subst ex
      exact .inr ⟨_, rfl, q _ _ (World.int _ w.tail) (Same.refl _)⟩
    · have ex := World.int_of w
      subst ex
      exact .inl ⟨_, rfl, q _ _ (World.int _ w.tail) (Same.refl _)⟩)
  (fun {d z} e n => by cases d <;> simp only [fInt] at e <;> cases e <;> rfl)
/-! ### list, tuple -/
def fList : D → Option D
  | .tup xs => some (.lst .own xs)
  | .lst _ xs => some (.lst .own xs)
  | _ => none
theorem o_list : OpA K (fun xs H Q => ∃ p ys, xs = [.ref p] ∧ (SqL K H p ys ∨ SqT K H p ys) ∧ ∀ l, H l = none → Q (.ref l) (upd H l (.lst ys))) (k1 fList) := a1
  (fun {H L x d z Q} w e q => by
    cases d <;> simp only [fList] at e <;> cases e
    · obtain ⟨a, vs, rfl, ht, l1, n, w⟩ := w.openT
      exact ⟨_, _, rfl, .inr (.of ht), fun l hl => q _ _ (w.newLst l1 hl) (same_upd hl)⟩
    · obtain ⟨a, vs, rfl, ht, l1, _, w⟩ := w.openL
      exact ⟨_, _, rfl, .inl ht, fun l hl => q _ _ (w.newLst l1 hl) (same_upd hl)⟩)
  (fun {d z} e n => by
    cases d <;> simp only [fList] at e <;> cases e
    · exact n
    · rename_i f xs
      show noVws xs = true
      cases f <;> simp_all [D.noVw])
def fTuple : D → Option D
  | .tup xs => some (.tup xs)
  | .lst _ xs => if noOwns xs = true then some (.tup xs) else none
  | _ => none
theorem o_tuple : OpA K (fun xs H Q => ∃ p ys, xs = [.ref p] ∧ ((SqL K H p ys ∧ ∀ l, H l = none → Q (.ref l) (upd H l (.tup ys))) ∨ (SqT K H p ys ∧ Q (.ref p) H))) (k1 fTuple) := a1
  (fun {H L x d z Q} w e q => by
    cases d <;> simp only [fTuple] at e <;> try cases e
    · have w0 := w
      obtain ⟨a, vs, rfl, ht, l1, n, w⟩ := w.openT
      exact ⟨_, _, rfl, .inr ⟨.of ht, q _ _ w0 (Same.refl _)⟩⟩
    · split at e <;> cases e
      rename_i hn
      obtain ⟨a, vs, rfl, ht, l1, _, w⟩ := w.openL
      exact ⟨_, _, rfl, .inl ⟨ht, fun l hl => q _ _ (w.newTup l1 hn hl) (same_upd hl)⟩⟩)
  (fun {d z} e n => by
    cases d <;> simp only [fTuple] at e <;> try cases e
    · exact n
    · split at e <;> cases e
      rename_i f xs _
      show noVws xs = true
      cases f <;> simp_all [D.noVw])
/-! ### sums, greatest ones -/
def unInts : List D → Option (List Int)
  | [] => some []
  | .int i :: r => (unInts r).map (i :: ·)
  | _ => none
theorem ints_eq : ∀ {xs : List D} {ns : List Int}, unInts xs = some ns → xs = ns.map D.int
  | [], ns, h => by cases h; rfl
  | .int i :: r, ns, h => by
    simp only [unInts] at h
    cases q : unInts r with
    | none => rw [q] at h; cases h
    | some m => rw [q] at h; cases h; rw [ints_eq q]; rfl
  | .non :: _, _, h => by cases h
  | .bl _ :: _, _, h => by cases h
  | .str _ :: _, _, h => by cases h
  | .tup _ :: _, _, h => by cases h
  | .lst _ _ :: _, _, h => by cases h
theorem ints_map (ns : List Int) : unInts (ns.map D.int) = some ns := by
  induction ns with
  | nil => rfl
  | cons n r ih => simp [unInts, ih]
theorem Wd.vints : ∀ {ns : List Int} {vs : List V} {fp : List Addr}, Reps K Z H vs (ns.map D.int) fp → vs = ns.map V.int
  | [], _, _, r => r.inv_nil.1
  | n :: ns, _, _, r => by
    obtain ⟨v, vr, f1, f2, rfl, _, r1, t⟩ := Reps.inv_cons (ds := ns.map D.int) r
    cases r1
    rw [Wd.vints t]
    rfl
theorem World.vints {ns : List Int} {vs : List V} (w : World K H (vs.zip (ns.map D.int) ++ L)) (hl : vs.length = (ns.map D.int).length) : vs = ns.map V.int := by
  obtain ⟨Z, fp, w, _⟩ := w
  obtain ⟨f, g, _, r, _⟩ := w.items hl
  exact Wd.vints r
theorem World.listInts {v : V} {f : Fl} {xs : List D} {ns : List Int} (w : World K H ((v, .lst f xs) :: L)) (h : unInts xs = some ns) : ∃ a, v = .ref a ∧ SqL K H a (ns.map V.int) := by
  obtain ⟨a, vs, rfl, ht, l1, _, w⟩ := w.openL
  have e := ints_eq h
  subst e
  have e2 := w.vints l1
  subst e2
  exact ⟨a, rfl, ht⟩
def fSum : D → Option D
  | .lst _ xs => (match unInts xs with
    | some ns => some (.int ns.sum)
    | none => none)
  | _ => none
theorem o_sum : OpA K (rSum K) (k1 fSum) := a1
  (fun {H L x d z Q} w e q => by
    cases d <;> simp only [fSum] at e <;> try cases e
    split at e <;> cases e
    rename_i ns h
    obtain ⟨a, rfl, ht⟩ := w.listInts h
    exact ⟨a, ns, rfl, ht, q _ _ (World.int _ w.tail) (Same.refl _)⟩)
  (fun {d z} e n => by
    cases d <;> simp only [fSum] at e <;> try cases e
    split at e <;> cases e
    rfl)
def maxL : List Int → Option Int
  | [] => none
  | [x] => some x
  | x :: r => (maxL r).map fun m => if x < m then m else x
def minL : List Int → Option Int
  | [] => none
  | [x] => some x
  | x :: r => (minL r).map fun m => if m < x then m else x
theorem maxL_spec : ∀ {ns : List Int} {m : Int}, maxL ns = some m → m ∈ ns ∧ ∀ y ∈ ns, y ≤ m
  | [x], m, h => by cases h; simp
  | x :: y :: r, m, h => by
    simp only [maxL] at h
    cases q : maxL (y :: r) with
    | none => rw [q] at h; cases h
    | some k =>
      rw [q] at h
      obtain ⟨h1, h2⟩ := maxL_spec q
      simp only [Option.map_some, Option.some.injEq] at h
      split at h
      · subst h
        refine ⟨List.mem_cons_of_mem _ h1, fun z hz => ?_⟩
        rcases List.mem_cons.mp hz with e | hz
        · omega
        · exact h2 z hz
      · subst h
        refine ⟨List.mem_cons_self, fun z hz => ?_⟩
        rcases List.mem_cons.mp hz with e | hz
        · omega
        · have := h2 z hz
          omega
theorem minL_spec : ∀ {ns : List Int} {m : Int}, minL ns = some m → m ∈ ns ∧ ∀ y ∈ ns, m ≤ y
  | [x], m, h => by cases h; simp
  | x :: y :: r, m, h => by
    simp only [minL] at h
    cases q : minL (y :: r) with
    | none => rw [q] at h; cases h
    | some k =>
      rw [q] at h
      obtain ⟨h1, h2⟩ := minL_spec q
      simp only [Option.map_some, Option.some.injEq] at h
      split at h
      · subst h
        refine ⟨List.mem_cons_of_mem _ h1, fun z hz => ?_⟩
        rcases List.mem_cons.mp hz with e | hz
        · omega
        · exact h2 z hz
      · subst h
        refine ⟨List.mem_cons_self, fun z hz => ?_⟩
        rcases List.mem_cons.mp hz with e | hz
        · omega
        · have := h2 z hz
          omega
def fMaxL : D → Option D
  | .lst _ xs => (match unInts xs with
    | some ns => (maxL ns).map D.int
    | none => none)
  | _ => none
def fMinL : D → Option D
  | .lst _ xs => (match unInts xs with
    | some ns => (minL ns).map D.int
    | none => none)
  | _ => none
theorem map_int {o : Option Int} {z : D} (h : o.map D.int = some z) : ∃ m, o = some m ∧ z = .int m := by
  cases o with
  | none => cases h
  | some m => cases h; exact ⟨m, rfl, rfl⟩
theorem o_maxL : OpA K (rMax K) (k1 fMaxL) := a1
  (fun {H L x d z Q} w e q => by
    cases d <;> simp only [fMaxL] at e <;> try cases e
    split at e <;> try cases e
    rename_i ns h
    obtain ⟨m, h1, rfl⟩ := map_int e
    obtain ⟨a, rfl, ht⟩ := w.listInts h
    obtain ⟨s1, s2⟩ := maxL_spec h1
    refine ⟨a, ns, rfl, ht, List.length_pos_of_mem s1, fun k hk hm => ?_⟩
    have e : k = m := Int.le_antisymm (s2 k hk) (hm m s1)
    subst e
    exact q _ _ (World.int _ w.tail) (Same.refl _))
  (fun {d z} e n => by
    cases d <;> simp only [fMaxL] at e <;> try cases e
    split at e <;> try cases e
    obtain ⟨m, h1, rfl⟩ := map_int e
    rfl)
theorem o_minL : OpA K (rMin K) (k1 fMinL) := a1
  (fun {H L x d z Q} w e q => by
    cases d <;> simp only [fMinL] at e <;> try cases e
    split at e <;> try cases e
    rename_i ns h
    obtain ⟨m, h1, rfl⟩ := map_int e
    obtain ⟨a, rfl, ht⟩ := w.listInts h
    obtain ⟨s1, s2⟩ := minL_spec h1
    refine ⟨a, ns, rfl, ht, List.length_pos_of_mem s1, fun k hk hm => ?_⟩
    have e : k = m := Int.le_antisymm (hm m s1) (s2 k hk)
    subst e
    exact q _ _ (World.int _ w.tail) (Same.refl _))
  (fun {d z} e n => by
    cases d <;> simp only [fMinL] at e <;> try cases e
    split at e <;> try cases e
    obtain ⟨m, h1, rfl⟩ := map_int e
    rfl)
def fMax2 : D → D → Option D := kI fun i j => some (.int (if j > i then j else i))
def fMin2 : D → D → Option D := kI fun i j => some (.int (if j < i then j else i))
theorem o_max2 : OpA K (fun xs H Q => ∃ i j, xs = [.int i, .int j] ∧ Q (.int (if j > i then j else i)) H) (k2 fMax2) := a2
  (fun {H L x y d e z Q} w h q => by
    cases d <;> cases e <;> simp only [fMax2, kI] at h <;> cases h
    have ex := World.int_of w
    subst ex
    have ey := World.int_of w.tail
    subst ey
    exact ⟨_, _, rfl, q _ _ (World.int _ w.tail.tail) (Same.refl _)⟩)
  (fun {d e z} h _ _ => by cases d <;> cases e <;> simp only [fMax2, kI] at h <;> cases h; rfl)
theorem o_min2 : OpA K (fun xs H Q => ∃ i j, xs = [.int i, .int j] ∧ Q (.int (if j < i then j else i)) H) (k2 fMin2) := a2
  (fun {H L x y d e z Q} w h q => by
    cases d <;> cases e <;> simp only [fMin2, kI] at h <;> cases h
    have ex := World.int_of w
    subst ex
    have ey := World.int_of w.tail
    subst ey
    exact ⟨_, _, rfl, q _ _ (World.int _ w.tail.tail) (Same.refl _)⟩)
  (fun {d e z} h _ _ => by cases d <;> cases e <;> simp only [fMin2, kI] at h <;> cases h; rfl)
def fMin3 (ds : List D) : Option D := match ds with
  | [.int i, .int j, .int k] => some (.int (if k < (if j < i then j else i) then k else (if j < i then j else i)))
  | _ => none
def fMax3 (ds : List D) : Option D := match ds with
  | [.int i, .int j, .int k] => some (.int (if k > (if j > i then j else i) then k else (if j > i then j else i)))
  | _ => none
theorem nu_min2 (i j : Int) : nuMin2 (.int i) (.int j) = some (.int (if j < i then j else i)) := by
  show (some (decide (j < i))).map (fun c => if c = true then V.int j else V.int i) = _
  by_cases h : j < i <;> simp [h]
theorem nu_max2 (i j : Int) : nuMax2 (.int i) (.int j) = some (.int (if j > i then j else i)) := by
  show (some (decide (i < j))).map (fun c => if c = true then V.int j else V.int i) = _
  by_cases h : i < j <;> simp [h]
theorem o_min3 : OpA K (rNuC3 nuMin3) fMin3 where
  run := fun {H L xs ds z Q} hl w e q => by
    unfold fMin3 at e
    split at e <;> cases e
    match xs, hl, w with
    | [x, y, u], _, w =>
      have ex := World.int_of (L := [(y, _), (u, _)] ++ L) w
      subst ex
      have ey := World.int_of (L := [(u, _)] ++ L) w.tail
      subst ey
      have ez := World.int_of (L := L) w.tail.tail
      subst ez
      refine ⟨_, _, _, _, rfl, ?_, q _ _ (World.int _ w.tail.tail.tail) (Same.refl _)⟩
      unfold nuMin3
      rw [nu_min2]
      exact nu_min2 _ _
  nv := fun {ds z} e n => by
    unfold fMin3 at e
    split at e <;> cases e
    rfl
theorem o_max3 : OpA K (rNuC3 nuMax3) fMax3 where
  run := fun {H L xs ds z Q} hl w e q => by
    unfold fMax3 at e
    split at e <;> cases e
    match xs, hl, w with
    | [x, y, u], _, w =>
      have ex := World.int_of (L := [(y, _), (u, _)] ++ L) w
      subst ex
      have ey := World.int_of (L := [(u, _)] ++ L) w.tail
      subst ey
      have ez := World.int_of (L := L) w.tail.tail
      subst ez
      refine ⟨_, _, _, _, rfl, ?_, q _ _ (World.int _ w.tail.tail.tail) (Same.refl _)⟩
      unfold nuMax3
      rw [nu_max2]
      exact nu_max2 _ _
  nv := fun {ds z} e n => by
    unfold fMax3 at e
    split at e <;> cases e
    rfl
/-! ### all, any -/
def unBls : List D → Option (List Bool)
  | [] => some []
  | .bl i :: r => (unBls r).map (i :: ·)
  | _ => none
theorem bls_eq : ∀ {xs : List D} {ns : List Bool}, unBls xs = some ns → xs = ns.map D.bl
  | [], ns, h => by cases h; rfl
  | .bl i :: r, ns, h => by
    simp only [unBls] at h
    cases q : unBls r with
    | none => rw [q] at h; cases h
    | some m => rw [q] at h; cases h; rw [bls_eq q]; rfl
  | .non :: _, _, h => by cases h
  | .int _ :: _, _, h => by cases h
  | .str _ :: _, _, h => by cases h
  | .tup _ :: _, _, h => by cases h
  | .lst _ _ :: _, _, h => by cases h
theorem bls_map (ns : List Bool) : unBls (ns.map D.bl) = some ns := by
  induction ns with
  | nil => rfl
  | cons n r ih => simp [unBls, ih]
theorem Wd.vbls : ∀ {ns : List Bool} {vs : List V} {fp : List Addr}, Reps K Z H vs (ns.map D.bl) fp → vs = ns.map V.bl
  | [], _, _, r => r.inv_nil.1
  | n :: ns, _, _, r => by
    obtain ⟨v, vr, f1, f2, rfl, _, r1, t⟩ := Reps.inv_cons (ds := ns.map D.bl) r
    cases r1
    rw [Wd.vbls t]
    rfl
theorem World.listBls {v : V} {f : Fl} {xs : List D} {ns : List Bool} (w : World K H ((v, .lst f xs) :: L)) (h : unBls xs = some ns) : ∃ a, v = .ref a ∧ SqL K H a (ns.map V.bl) := by
  obtain ⟨a, vs, rfl, ht, l1, _, w⟩ := w.openL
  have e := bls_eq h
  subst e
  obtain ⟨Z, fp, w, _⟩ := w
  obtain ⟨f, g, _, r, _⟩ := w.items l1
  have e2 := Wd.vbls r
  subst e2
  exact ⟨a, rfl, ht⟩
def fAll : D → Option D
  | .lst _ xs => (match unBls xs with
    | some ns => some (.bl (ns.all id))
    | none => none)
  | _ => none
def fAny : D → Option D
  | .lst _ xs => (match unBls xs with
    | some ns => some (.bl (ns.any id))
    | none => none)
  | _ => none
theorem o_all : OpA K (rAll K) (k1 fAll) := a1
  (fun {H L x d z Q} w e q => by
    cases d <;> simp only [fAll] at e <;> try cases e
    split at e <;> cases e
    rename_i ns h
    obtain ⟨a, rfl, ht⟩ := w.listBls h
    exact ⟨a, ns, rfl, ht, q _ _ (World.bl _ w.tail) (Same.refl _)⟩)
  (fun {d z} e n => by
    cases d <;> simp only [fAll] at e <;> try cases e
    split at e <;> cases e
    rfl)
theorem o_any : OpA K (rAny K) (k1 fAny) := a1
  (fun {H L x d z Q} w e q => by
    cases d <;> simp only [fAny] at e <;> try cases e
    split at e <;> cases e
    rename_i ns h
    obtain ⟨a, rfl, ht⟩ := w.listBls h
    exact ⟨a, ns, rfl, ht, q _ _ (World.bl _ w.tail) (Same.refl _)⟩)
  (fun {d z} e n => by
    cases d <;> simp only [fAny] at e <;> try cases e
    split at e <;> cases e
    rfl)
/-! ### -x -/
def fNeg : D → Option D
  | .int i => some (.int (-i))
  | _ => none
theorem o_neg : Op1 K (rU fun i => .int (-i)) fNeg where
  run := fun {H L x dx z Q} w e q => by
    cases dx <;> simp only [fNeg] at e <;> cases e
    exact ⟨_, World.int_of w, q _ _ (World.int _ w.tail) (Same.refl _)⟩
  nv := fun {dx z} e _ => by cases dx <;> simp only [fNeg] at e <;> cases e; rfl
/-! ### isinstance -/
inductive Ty where
  | int | bool | str | tuple | list
  deriving DecidableEq
def Ty.name : Ty → String
  | .int => "int"
  | .bool => "bool"
  | .str => "str"
  | .tuple => "tuple"
  | .list => "list"
def D.isa (T : Ty) : D → Bool
  | .non => false
  | .bl _ => (match T with
    | .bool => true
    | .int => true
    | _ => false)
  | .int _ => (match T with
    | .int => true
    | _ => false)
  | .str _ => (match T with
    | .str => true
    | _ => false)
  | .tup _ => (match T with
    | .tuple => true
    | _ => false)
  | .lst _ _ => (match T with
    | .list => true
    | _ => false)
def D.tyName : D → String
  | .non => "NoneType"
  | .bl _ => "bool"
  | .int _ => "int"
  | .str _ => "str"
  | .tup _ => "tuple"
  | .lst _ _ => "list"
theorem isa_kit (T : Ty) (d : D) : kitB d.tyName T.name = some (d.isa T) := by
  cases d <;> cases T <;> (simp only [D.tyName, Ty.name, D.isa]; decide +kernel)
theorem World.tyx {v : V} {d : D} (w : World K H ((v, d) :: L)) : TyX K H v (.type d.tyName) := by
  obtain ⟨_, r⟩ := w.repd
  cases r with
  | non => exact .base .non
  | bl b => exact .base (.bl b)
  | int i => exact .base (.int i)
  | str x => exact .base (.str x)
  | tup h r => exact .base (.tup h)
  | own h r => exact .base (.lst h)
  | frz z h r => exact .base (.lst h)
  | vw h r => exact .base (.lst h)
  | scr h =>
    rcases h with ⟨_, h | ⟨o, h⟩⟩ | ⟨o, its, n, h, hc, _⟩
    · exact .base (.lst h)
    · exact .base (.frz h)
    · exact .kList h hc
variable {X : Cx} {b : Bool} {e1 : Expr} {a : M}
def mIsa (T : Ty) (a : M) : M := fun σ => match a σ with
  | some (x, σ1) => some (.bl (x.isa T), σ1)
  | none => none
theorem se_isa {T : Ty} {p p2 pos : Pos} {N x : Str} (hx : x = ("isinstance" : Str) := by rfl) (hg : Gl X x) (hm : X.mg x = none) (hv : bootBuiltins x = some (.builtin "isinstance")) (hg2 : Gl X N) (hm2 : X.mg N = none) (hv2 : bootBuiltins N = some (.type T.name)) (ha : SE b X e1 a)
    (hn : x ≠ "__name__" := by decide) (hdb : (x == ("__debug__" : Str)) = false := by decide) (hn2 : N ≠ "__name__" := by decide) (hdb2 : (N == ("__debug__" : Str)) = false := by decide)
    (he : starEach [e1, .Name N p2] X.env = (false, eval e1 X.env) :: starEach [.Name N p2] X.env := by rfl) (hpl : (backTo pos (starEach [.Name N p2] X.env)).any (·.1) = false := by rfl) :
    SE b X (.Call (.Name x p) [e1, .Name N p2] [] pos) (mIsa T a) := ⟨fun {ρ H σ T' d σ'} ok cd h => by
  unfold mIsa at h
  split at h
  · rename_i dx σ1 h1
    cases h
    refine pe_sem (pe_callB call_isi hg hm hv (pa_cons peS (pa_cons (pe_bltn (v := .ty T.name) hg2 hm2 hv2 rfl hn2 hdb2) pa_nil) he) hn hdb he hpl) ?_
    refine semE_mono (ha.run ok cd h1) fun v H1 p => ?_
    refine ⟨v, .ty T.name, .type dx.tyName, .type T.name, dx.isa T, rfl, .ty _, World.tyx (L := T' ++ sl ρ σ') p.ok.w, kit_ty (isa_kit T dx), ?_⟩
    exact ⟨Ok.lift (T1 := [(v, dx)]) (T2 := [(.bl (dx.isa T), .bl (dx.isa T))]) p.ok fun L w => World.bl _ w.tail, fun e => ⟨(p.cd e).1, (p.cd e).2.tail.cons rfl⟩, p.nv, p.sm⟩
  · cases h⟩
end
end Py
/-! Layer «Py», part G: what is walked; statements; loops. -/
namespace Py
open PySem PySem.Spec PyProof.Rows L2 RT

/-! ### what is walked -/
abbrev MI := Sg → Option (List D × Option D × Sg)
structure Yl (K : PySem.W.Frag) (J : It) (hold : List (V × D)) (ds : List D) : Prop where
  go : ∀ {H : Hp} {L : List (V × D)} {i : Nat} {d : D}, World K H (hold ++ L) → ds[i]? = some d → J.go i H
  yld : ∀ {H H' : Hp} {L : List (V × D)} {i : Nat} {d : D} {x : V}, World K H (hold ++ L) → ds[i]? = some d → J.yld i H x H' → World K H' ((x, d) :: (hold ++ L))
  stop : ∀ {H : Hp} {L : List (V × D)} {i : Nat}, World K H (hold ++ L) → ds.length ≤ i → J.stop i H
def semI (X : Cx) (tg e : Expr) : TI := fun ρ H R => ∀ (pins : List (Addr × Obj)) (s : Shared), Inv X pins ρ H s → wpAny (model X.prog X.w) X.A (eval e X.env) (fun v s1 => wpAny (model X.prog X.w) X.A (pyIter v) (PIE X pins ρ tg R) X.xe s1) X.xe s
theorem piS {X : Cx} {tg e : Expr} : PI X tg e (semI X tg e) := ⟨fun pins s _ _ _ I h => h pins s I⟩
theorem pi_sem {X : Cx} {tg e : Expr} {t : TI} (p : PI X tg e t) {ρ : L2.St} {H : Hp} {R : It → Hp → Prop} (h : t ρ H R) : semI X tg e ρ H R := fun pins s I => p.run pins s ρ H R I h
/-- what is held while it is walked, and comes back to its slot behind it -/
def Back (ρ : L2.St) (hold : List (V × D)) : Option Nat → Option D → Prop
  | some i, some d => ∃ v, hold = [(v, d)] ∧ ρ[i]? = some (some v)
  | _, _ => True
def gB : Option Nat → Option D → Sg → Sg
  | some i, some d, σ => σ.set i (some d)
  | _, _, σ => σ
structure SI (b : Bool) (X : Cx) (tg e : Expr) (bk : Option Nat) (m : MI) : Prop where
  run : ∀ {ρ : L2.St} {H : Hp} {σ : Sg} {T : List (V × D)} {ds : List D} {o : Option D} {σ' : Sg} {R : It → Hp → Prop}, Ok X.K H ρ σ T → Cd b σ T → m σ = some (ds, o, σ') →
    (∀ J hold H', Yl X.K J hold ds → (b = true → noVws ds = true) → Back ρ hold bk o → Pst X.K b H ρ σ σ' T hold H' → R J H') → semI X tg e ρ H R
section
variable {X : Cx} {b : Bool} {tg e1 e2 e3 : Expr} {a c : M} {K : PySem.W.Frag}
def iSeq (K : PySem.W.Frag) (tl : TE) : TI := fun σ H R => tl σ H fun x H1 => ∃ a, x = .ref a ∧ (((∃ xs, SqL K H1 a xs) ∧ R (Itl K a) H1) ∨ ((∃ xs, SqT K H1 a xs) ∧ R (Itt K a) H1))
theorem pi_seq {l : Expr} {tl : TE} (hl : PE X l tl) : PI X tg l (iSeq X.K tl) := by
  refine ⟨fun pins s σ H R I h => ?_⟩
  refine thn (hl.run pins s σ H _ I h) fun v s1 ⟨x, H1, I1, r1, q1⟩ => ?_
  obtain ⟨a, e, ⟨⟨xs, hq⟩, q⟩ | ⟨⟨xs, hq⟩, q⟩⟩ := q1
  · subst e
    cases r1
    obtain ⟨its, rv, p, hz⟩ := I1.list hq
    refine wpAny_pyIter_list p.isList ?_
    refine ⟨s1.heap.objs.size, [s1.heap.objs.size], _, _, H1, rfl, I1.kept (t' := s1.toks) fun b o e => Heap.get?_push_of_some _ e, turn_list a _, ⟨_, Heap.get?_push_size _ rfl, rfl, rfl⟩, fun b hb => ?_, q⟩
    have e : b = s1.heap.objs.size := by simpa using hb
    subst e
    exact I1.fpOk (Nat.le_refl _) (I1.hok.fresh (Nat.le_refl _))
  · subst e
    cases r1
    obtain ⟨its, rv, p, hz⟩ := I1.tuple hq
    refine wpAny_pyIter_tuple (show s1.heap.IsTuple a its.toArray from p) ?_
    refine ⟨s1.heap.objs.size, [s1.heap.objs.size], _, _, H1, rfl, I1.kept (t' := s1.toks) fun b o e => Heap.get?_push_of_some _ e, turn_tuple a _, ⟨_, Heap.get?_push_size _ rfl, rfl, rfl⟩, fun b hb => ?_, q⟩
    have e : b = s1.heap.objs.size := by simpa using hb
    subst e
    exact I1.fpOk (Nat.le_refl _) (I1.hok.fresh (Nat.le_refl _))
theorem frz_ne_own {d : D} {f : Fl} {xs : List D} (h : d.frz = .lst f xs) : f ≠ .own := by
  intro e
  subst e
  cases d with
  | lst g ys => cases g <;> simp [D.frz] at h
  | _ => simp [D.frz] at h
theorem noOwn_lst {K : PySem.W.Frag} {H : Hp} {v : V} {f : Fl} {xs : List D} {L : List (V × D)} (w : World K H ((v, .lst f xs) :: L)) (hf : f ≠ .own) : (D.lst f xs).noOwn = true := by
  obtain ⟨_, r⟩ := w.repd
  refine r.noOwn_of ?_
  cases r <;> first | rfl | exact absurd rfl hf
theorem yl_list {a : Addr} {f : Fl} {ds : List D} (hf : f ≠ .own) : Yl K (Itl K a) [(.ref a, .lst f ds)] ds where
  go := fun {H L i d} w h => by
    obtain ⟨_, vs, e, ht, l1, _, w⟩ := World.openL w
    cases e
    obtain ⟨v, hv, _⟩ := w.pick l1 h
    exact ⟨vs, v, ht, hv⟩
  yld := fun {H H' L i d x} w h y => by
    obtain ⟨e, y⟩ := y
    subst e
    have w' := World.dup (noOwn_lst w hf) w
    obtain ⟨_, vs, e, ht, l1, _, w⟩ := World.openL w'
    cases e
    obtain ⟨v, hv, w⟩ := w.pick l1 h
    have e := y vs ht
    rw [hv] at e
    cases e
    exact w
  stop := fun {H L i} w h => by
    obtain ⟨_, vs, e, ht, l1, _, w⟩ := World.openL w
    cases e
    exact ⟨vs, ht, by omega⟩
theorem World.tup_noOwn {H : Hp} {v : V} {ds : List D} {L : List (V × D)} (w : World K H ((v, .tup ds) :: L)) : (D.tup ds).noOwn = true := by
  obtain ⟨_, _, _, _, _, n, _⟩ := w.openT
  exact n
theorem yl_tup {a : Addr} {ds : List D} : Yl K (Itt K a) [(.ref a, .tup ds)] ds where
  go := fun {H L i d} w h => by
    obtain ⟨_, vs, e, ht, l1, _, w⟩ := World.openT w
    cases e
    obtain ⟨v, hv, _⟩ := w.pick l1 h
    exact ⟨vs, v, .of ht, hv⟩
  yld := fun {H H' L i d x} w h y => by
    obtain ⟨e, y⟩ := y
    subst e
    have w' := World.dup (World.tup_noOwn w) w
    obtain ⟨_, vs, e, ht, l1, _, w⟩ := World.openT w'
    cases e
    obtain ⟨v, hv, w⟩ := w.pick l1 h
    have e := y vs (.of ht)
    rw [hv] at e
    cases e
    exact w
  stop := fun {H L i} w h => by
    obtain ⟨_, vs, e, ht, l1, _, w⟩ := World.openT w
    cases e
    exact ⟨vs, .of ht, by omega⟩
/-- the items of a list or a tuple -/
def D.items : D → Option (List D)
  | .tup xs => some xs
  | .lst .own xs => some (frzs xs)
  | .lst _ xs => some xs
  | _ => none
def iSeqM (a : M) : MI := fun σ => match a σ with
  | some (x, σ1) => (match x.items with
    | some ds => some (ds, none, σ1)
    | none => none)
  | none => none
theorem si_seq (ha : SE b X e1 a) : SI b X tg e1 none (iSeqM a) := ⟨fun {ρ H σ T ds o σ' R} ok cd h q => by
  unfold iSeqM at h
  split at h
  · rename_i x σ1 h1
    split at h
    · rename_i ds' hd
      cases h
      refine pi_sem (pi_seq peS) ?_
      refine semE_mono (ha.run ok cd h1) fun v H1 p => ?_
      cases x <;> simp only [D.items] at hd <;> try cases hd
      · obtain ⟨a, vs, rfl, ht, l1, n, w⟩ := World.openT (L := T ++ sl ρ σ') p.ok.w
        exact ⟨a, rfl, .inr ⟨⟨vs, .of ht⟩, q _ _ _ yl_tup (fun e => NT.head (p.cd e).2) trivial p⟩⟩
      · rename_i f xs
        have okf : Pst X.K b H ρ σ σ' T [(v, (D.lst f xs).frz)] H1 := ⟨Ok.lift (T1 := [(v, D.lst f xs)]) (T2 := [(v, (D.lst f xs).frz)]) p.ok fun L w => World.frz w, fun e => ⟨(p.cd e).1, (p.cd e).2.tail.cons (noVw_frz (p.cd e).2.head)⟩, p.nv, p.sm⟩
        have e : ∃ g, (D.lst f xs).frz = .lst g ds ∧ g ≠ .own := by
          cases f <;> simp only [D.items, Option.some.injEq] at hd <;> subst hd
          · exact ⟨.frz, rfl, by decide⟩
          · exact ⟨.frz, rfl, by decide⟩
          · exact ⟨.vw, rfl, by decide⟩
          · exact ⟨.scr, rfl, by decide⟩
        obtain ⟨g, e, hg⟩ := e
        rw [e] at okf
        obtain ⟨a, vs, rfl, ht, l1, _, w⟩ := World.openL (L := T ++ sl ρ σ') okf.ok.w
        refine ⟨a, rfl, .inl ⟨⟨vs, ht⟩, q _ _ _ (yl_list hg) (fun e => ?_) trivial okf⟩⟩
        have z := NT.head (okf.cd e).2
        cases g <;> simp_all [D.noVw]
    · cases h
  · cases h⟩
/-- numbers -/
def up (lo : Int) : Nat → List D
  | 0 => []
  | n + 1 => .int lo :: up (lo + 1) n
theorem up_len (n : Nat) : ∀ lo, (up lo n).length = n := by
  induction n with
  | zero => exact fun _ => rfl
  | succ n ih => intro lo; simp [up, ih]
theorem up_get : ∀ (n : Nat) (lo : Int) (i : Nat) (d : D), (up lo n)[i]? = some d → d = .int (lo + i) ∧ i < n
  | 0, lo, i, d, h => by simp [up] at h
  | n + 1, lo, 0, d, h => by simp [up] at h; subst h; simp
  | n + 1, lo, i + 1, d, h => by
    obtain ⟨h1, h2⟩ := up_get n (lo + 1) i d (by simpa [up] using h)
    refine ⟨?_, by omega⟩
    rw [h1]
    congr 1
    omega
theorem up_noVw (n : Nat) : ∀ lo, noVws (up lo n) = true := by
  induction n with
  | zero => exact fun _ => rfl
  | succ n ih => intro lo; simp [up, noVws, D.noVw, ih]
theorem yl_range {lo : Int} {n : Nat} : Yl K (Itr lo n) [] (up lo n) where
  go := fun {H L i d} w h => (up_get n lo i d h).2
  yld := fun {H H' L i d x} w h y => by
    obtain ⟨e, y⟩ := y
    subst e y
    rw [(up_get n lo i d h).1]
    exact World.int _ w
  stop := fun {H L i} w h => by rw [up_len] at h; exact h
def okR (i : Int) : Bool := decide (-4611686018427387904 ≤ i ∧ i < 4611686018427387904)
theorem okR_iff {i : Int} (h : okR i = true) : -(2 ^ 62) ≤ i ∧ i < 2 ^ 62 := by
  have h := of_decide_eq_true h
  omega
def iRngM1 (a : M) : MI := fun σ => match a σ with
  | some (.int j, σ1) => if okR j = true then some (up 0 j.toNat, none, σ1) else none
  | _ => none
def iRngM2 (a c : M) : MI := fun σ => match a σ with
  | some (.int i, σ1) => (match c σ1 with
    | some (.int j, σ2) => if okR i = true ∧ okR j = true then some (up i (j - i).toNat, none, σ2) else none
    | _ => none)
  | _ => none
theorem si_range1 {p pos : Pos} (hg : Gl X "range") (hm : X.mg "range" = none) (ha : SE b X e1 a) (hs : starEach [e1] X.env = [(false, eval e1 X.env)] := by rfl) : SI b X tg (.Call (.Name "range" p) [e1] [] pos) none (iRngM1 a) := ⟨fun {ρ H σ T ds o σ' R} ok cd h q => by
  unfold iRngM1 at h
  split at h
  · rename_i j σ1 h1
    split at h
    · rename_i hj
      cases h
      refine pi_sem (pi_range1 hg hm (pa_cons peS pa_nil hs) hs) ?_
      refine semE_mono (ha.run ok cd h1) fun v H1 p => ?_
      have e := World.int_of (L := T ++ sl ρ σ') p.ok.w
      subst e
      obtain ⟨z1, z2⟩ := okR_iff hj
      exact ⟨j, rfl, z1, z2, q _ _ _ yl_range (fun _ => up_noVw _ _) trivial ⟨p.ok.tail, fun e => ⟨(p.cd e).1, (p.cd e).2.tail⟩, p.nv, p.sm⟩⟩
    · cases h
  · cases h⟩
theorem si_range2 {p pos : Pos} (hg : Gl X "range") (hm : X.mg "range" = none) (ha : SE b X e1 a) (hc : SE b X e2 c) (hs : starEach [e1, e2] X.env = [(false, eval e1 X.env), (false, eval e2 X.env)] := by rfl) (hs2 : starEach [e2] X.env = [(false, eval e2 X.env)] := by rfl) :
    SI b X tg (.Call (.Name "range" p) [e1, e2] [] pos) none (iRngM2 a c) := ⟨fun {ρ H σ T ds o σ' R} ok cd h q => by
  unfold iRngM2 at h
  split at h
  · rename_i i σ1 h1
    split at h
    · rename_i j σ2 h2
      split at h
      · rename_i hj
        cases h
        refine pi_sem (pi_range2 hg hm (pa_cons peS (pa_cons peS pa_nil hs2) (by rw [hs, hs2])) hs hs2) ?_
        refine semE_mono (ha.run ok cd h1) fun v H1 p => ?_
        refine semE_mono (hc.run p.ok p.cd h2) fun v2 H2 p2 => ?_
        have e := World.int_of (L := (v, D.int i) :: (T ++ sl ρ σ')) p2.ok.w
        subst e
        have e := World.int_of (L := T ++ sl ρ σ') p2.ok.tail.w
        subst e
        obtain ⟨z1, z2⟩ := okR_iff hj.1
        obtain ⟨z3, z4⟩ := okR_iff hj.2
        exact ⟨i, j, rfl, ⟨z1, z2, z3, z4⟩, q _ _ _ yl_range (fun _ => up_noVw _ _) trivial ⟨p2.ok.tail.tail, fun e => ⟨(p2.cd e).1, (p2.cd e).2.tail.tail⟩, fun n => p2.nv (p.nv n), fun e => (p.sm e).trans (p2.sm e)⟩⟩
      · cases h
    · cases h
  · cases h⟩
/-- range(a, b, -1) -/
def down (hi : Int) : Nat → List D
  | 0 => []
  | n + 1 => .int hi :: down (hi - 1) n
theorem down_len (n : Nat) : ∀ hi, (down hi n).length = n := by
  induction n with
  | zero => exact fun _ => rfl
  | succ n ih => intro hi; simp [down, ih]
theorem down_get : ∀ (n : Nat) (hi : Int) (i : Nat) (d : D), (down hi n)[i]? = some d → d = .int (hi + (i : Nat) * (-1)) ∧ i < n
  | 0, hi, i, d, h => by simp [down] at h
  | n + 1, hi, 0, d, h => by simp [down] at h; subst h; simp
  | n + 1, hi, i + 1, d, h => by
    obtain ⟨h1, h2⟩ := down_get n (hi - 1) i d (by simpa [down] using h)
    refine ⟨?_, by omega⟩
    rw [h1]
    congr 1
    omega
theorem down_noVw (n : Nat) : ∀ hi, noVws (down hi n) = true := by
  induction n with
  | zero => exact fun _ => rfl
  | succ n ih => intro hi; simp [down, noVws, D.noVw, ih]
theorem yl_rangeD {hi : Int} {n : Nat} : Yl K (Itc hi (-1) n) [] (down hi n) where
  go := fun {H L i d} w h => (down_get n hi i d h).2
  yld := fun {H H' L i d x} w h y => by
    obtain ⟨e, y⟩ := y
    subst e y
    rw [(down_get n hi i d h).1]
    exact World.int _ w
  stop := fun {H L i} w h => by rw [down_len] at h; exact h
/-- reversed(x) -/
theorem yl_rev {a : Addr} {f : Fl} {ds : List D} (hf : f ≠ .own) : Yl K (Itv K a ds.length) [(.ref a, .lst f ds)] ds.reverse where
  go := fun {H L i d} w h => by
    obtain ⟨hi, _⟩ := List.getElem?_eq_some_iff.mp h
    rw [List.length_reverse] at hi
    rw [List.getElem?_reverse hi] at h
    obtain ⟨_, vs, e, ht, l1, _, w⟩ := World.openL w
    cases e
    obtain ⟨v, hv, _⟩ := w.pick l1 h
    exact ⟨hi, vs, v, ht, hv⟩
  yld := fun {H H' L i d x} w h y => by
    obtain ⟨hi, _⟩ := List.getElem?_eq_some_iff.mp h
    rw [List.length_reverse] at hi
    rw [List.getElem?_reverse hi] at h
    obtain ⟨e, y⟩ := y
    subst e
    have w' := World.dup (noOwn_lst w hf) w
    obtain ⟨_, vs, e, ht, l1, _, w⟩ := World.openL w'
    cases e
    obtain ⟨v, hv, w⟩ := w.pick l1 h
    have e := y vs ht
    rw [hv] at e
    cases e
    exact w
  stop := fun {H L i} w h => by rw [List.length_reverse] at h; exact h
theorem yl_revT {a : Addr} {ds : List D} : Yl K (ItvT K a ds.length) [(.ref a, .tup ds)] ds.reverse where
  go := fun {H L i d} w h => by
    obtain ⟨hi, _⟩ := List.getElem?_eq_some_iff.mp h
    rw [List.length_reverse] at hi
    rw [List.getElem?_reverse hi] at h
    obtain ⟨_, vs, e, ht, l1, _, w⟩ := World.openT w
    cases e
    obtain ⟨v, hv, _⟩ := w.pick l1 h
    exact ⟨hi, vs, v, .of ht, hv⟩
  yld := fun {H H' L i d x} w h y => by
    obtain ⟨hi, _⟩ := List.getElem?_eq_some_iff.mp h
    rw [List.length_reverse] at hi
    rw [List.getElem?_reverse hi] at h
    obtain ⟨e, y⟩ := y
    subst e
    have w' := World.dup (World.tup_noOwn w) w
    obtain ⟨_, vs, e, ht, l1, _, w⟩ := World.openT w'
    cases e
    obtain ⟨v, hv, w⟩ := w.pick l1 h
    have e := y vs (.of ht)
    rw [hv] at e
    cases e
    exact w
  stop := fun {H L i} w h => by rw [List.length_reverse] at h; exact h
def iRevM (a : M) : MI := fun σ => match a σ with
  | some (x, σ1) => (match x.items with
    | some ds => some (ds.reverse, none, σ1)
    | none => none)
  | none => none
theorem noVws_rev {ds : List D} (h : noVws ds = true) : noVws ds.reverse = true := by
  rw [noVws_all, List.all_eq_true] at h ⊢
  exact fun x hx => h x (List.mem_reverse.mp hx)
theorem si_rev {p pos : Pos} (hg : Gl X "reversed") (hm : X.mg "reversed" = none) (ha : SE b X e1 a) (hs : starEach [e1] X.env = (false, eval e1 X.env) :: starEach [] X.env := by rfl) : SI b X tg (.Call (.Name "reversed" p) [e1] [] pos) none (iRevM a) := ⟨fun {ρ H σ T ds o σ' R} ok cd h q => by
  unfold iRevM at h
  split at h
  · rename_i x σ1 h1
    split at h
    · rename_i ds' hd
      cases h
      refine pi_sem (pi_revA hg hm peS hs) ?_
      refine semE_mono (ha.run ok cd h1) fun v H1 p => ?_
      cases x <;> simp only [D.items] at hd <;> try cases hd
      · obtain ⟨a, vs, rfl, ht, l1, n, w⟩ := World.openT (L := T ++ sl ρ σ') p.ok.w
        exact ⟨a, vs, rfl, .inr ⟨.of ht, q _ _ _ (by rw [l1]; exact yl_revT) (fun e => noVws_rev (NT.head (p.cd e).2)) trivial p⟩⟩
      · rename_i f xs
        have okf : Pst X.K b H ρ σ σ' T [(v, (D.lst f xs).frz)] H1 := ⟨Ok.lift (T1 := [(v, D.lst f xs)]) (T2 := [(v, (D.lst f xs).frz)]) p.ok fun L w => World.frz w, fun e => ⟨(p.cd e).1, (p.cd e).2.tail.cons (noVw_frz (p.cd e).2.head)⟩, p.nv, p.sm⟩
        have e : ∃ g, (D.lst f xs).frz = .lst g ds' ∧ g ≠ .own := by
          cases f <;> simp only [D.items, Option.some.injEq] at hd <;> subst hd
          · exact ⟨.frz, rfl, by decide⟩
          · exact ⟨.frz, rfl, by decide⟩
          · exact ⟨.vw, rfl, by decide⟩
          · exact ⟨.scr, rfl, by decide⟩
        obtain ⟨g, e, hg⟩ := e
        rw [e] at okf
        obtain ⟨a, vs, rfl, ht, l1, _, w⟩ := World.openL (L := T ++ sl ρ σ') okf.ok.w
        refine ⟨a, vs, rfl, .inl ⟨ht, q _ _ _ (by rw [l1]; exact yl_rev hg) (fun e => noVws_rev ?_) trivial okf⟩⟩
        have z := NT.head (okf.cd e).2
        cases g <;> simp_all [D.noVw]
    · cases h
  · cases h⟩
theorem cdT' {σ : Sg} {T : List (V × D)} (nv : NV σ) (nt : NT T) : Cd true σ T := fun _ => ⟨nv, nt⟩
/-- a list of one's own that holds nothing: each item as often as one likes -/
theorem World.itemOwn {H : Hp} {a : Addr} {vs : List V} {ds : List D} {j : Nat} {d : D} {L : List (V × D)} (hn : noOwns ds = true) (h : ds[j]? = some d) (w : World K H ((.ref a, .lst .own ds) :: L)) : ∃ vs v, H a = some (.lst vs) ∧ vs.length = ds.length ∧ vs[j]? = some v ∧ World K H ((v, d) :: (.ref a, .lst .own ds) :: L) := by
  obtain ⟨Z, fp, w, q⟩ := w
  obtain ⟨f1, f2, rfl, r, t⟩ := w.inv
  cases r with
  | own h1 r1 =>
    obtain ⟨v, f, h2, r2, _⟩ := r1.get h
    have e := r2.none_held (noOwns_mem hn (List.mem_of_getElem? h))
    subst e
    exact ⟨_, v, h1, r1.length, h2, Z, _, .cons (f1 := []) r2 (.cons (.own h1 r1) t), q⟩
theorem yl_own {a : Addr} {ds : List D} (hn : noOwns ds = true) : Yl K (Itl K a) [(.ref a, .lst .own ds)] ds where
  go := fun {H L i d} w h => by
    obtain ⟨vs, v, h1, h2, h3, _⟩ := World.itemOwn (vs := []) hn h w
    exact ⟨vs, v, .of h1, h3⟩
  yld := fun {H H' L i d x} w h y => by
    obtain ⟨e, y⟩ := y
    subst e
    obtain ⟨vs, v, h1, h2, h3, w'⟩ := World.itemOwn (vs := []) hn h w
    have e := y vs (.of h1)
    rw [h3] at e
    cases e
    exact w'
  stop := fun {H L i} w h => by
    obtain ⟨_, vs, e, ht, l1, _, w⟩ := World.openL w
    cases e
    exact ⟨vs, ht, by omega⟩
/-- the value of a slot walked: its own list is held meanwhile -/
def iTake (i : Nat) : MI := fun σ => match σ[i]? with
  | some (some (.lst .own xs)) => if noOwns xs = true then some (xs, some (.lst .own xs), σ.set i none) else some (frzs xs, none, σ.set i (some (.lst .frz (frzs xs))))
  | some (some d) => (match d.items with
    | some ds => some (ds, none, σ)
    | none => none)
  | _ => none
theorem si_take {i : Nat} {x : Str} {pos : Pos} (hN : X.N[i]? = some x := by rfl) (hv : Vis X.env.scope x := by first | exact Or.inl rfl | exact Or.inr (Or.inl rfl) | exact Or.inr (Or.inr rfl)) (hd : (x == ("__debug__" : Str)) = false := by decide)
    (hcd : (x == ("__classdict__" : Str)) = false := by decide) : SI true X tg (.Name x pos) (some i) (iTake i) := ⟨fun {ρ H σ T ds o σ' R} ok cd h q => by
  have nv := (cd rfl).1
  have nt := (cd rfl).2
  refine pi_sem (pi_seq (pe_var hN hv hd hcd)) ?_
  unfold iTake at h
  split at h
  · rename_i xs hx
    obtain ⟨v, hv', ok1⟩ := ok.take hx
    have nx : (D.lst Fl.own xs).noVw = true := nv i _ hx
    obtain ⟨a, vs, rfl, ht, l1, _, w⟩ := World.openL (L := T ++ sl ρ (σ.set i none)) ok1.w
    split at h
    · rename_i hn
      cases h
      exact ⟨.ref a, hv', a, rfl, .inl ⟨⟨vs, ht⟩, q _ _ H (yl_own hn) (fun _ => nx) ⟨.ref a, rfl, hv'⟩ ⟨ok1, cdT' (nv.set (fun _ e => nomatch e)) (nt.cons nx), fun n => n.set (fun _ e => nomatch e), fun e => nomatch e⟩⟩⟩
    · cases h
      have nf : noVws (frzs xs) = true := noVws_frzs nx
      have ok2 := ok1.lift (T1 := [(.ref a, D.lst .own xs)]) (T2 := [(.ref a, (D.lst .own xs).frz), (.ref a, (D.lst .own xs).frz)]) fun L w => (World.frz w).dup (noOwn_frz ok1.w.repd)
      have ok3 := Ok.back (T := (.ref a, (D.lst .own xs).frz) :: T) ok2 hv'
      rw [List.set_set] at ok3
      exact ⟨.ref a, hv', a, rfl, .inl ⟨⟨vs, ht⟩, q _ _ H (yl_list (f := .frz) (by decide)) (fun _ => nf) trivial ⟨ok3, cdT' (nv.set (fun d e => by cases e; exact nf)) (nt.cons (d := .lst .frz (frzs xs)) nf), fun n => n.set (fun d e => by cases e; exact nf), fun e => nomatch e⟩⟩⟩
  · rename_i d hne hx
    split at h
    · rename_i ds' hds
      cases h
      obtain ⟨v, hv', ok1⟩ := ok.take hx
      have nd := nv i _ hx
      have no : d.noOwn = true := by
        obtain ⟨_, r⟩ := World.repd (L := T ++ sl ρ (σ.set i none)) ok1.w
        refine r.noOwn_of ?_
        cases r with
        | own h r => exact (hne _ rfl).elim
        | _ => rfl
      have ok2 := ok1.lift (T1 := [(v, d)]) (T2 := [(v, d), (v, d)]) fun L w => World.dup no w
      have ok3 := Ok.back (T := (v, d) :: T) ok2 hv'
      have e : (σ.set i none).set i (some d) = σ := by
        rw [List.set_set]
        obtain ⟨h1, h2⟩ := List.getElem?_eq_some_iff.mp hx
        rw [← h2, List.set_getElem_self]
      rw [e] at ok3
      have ps : Pst X.K true H ρ σ σ T [(v, d)] H := ⟨ok3, cdT' nv (nt.cons nd), id, fun e => nomatch e⟩
      cases d <;> simp only [D.items] at hds <;> try cases hds
      · obtain ⟨a, vs, rfl, ht, l1, n, w⟩ := World.openT (L := T ++ sl ρ σ) ok3.w
        exact ⟨.ref a, hv', a, rfl, .inr ⟨⟨vs, .of ht⟩, q _ _ H yl_tup (fun e => nd) trivial ps⟩⟩
      · rename_i f xs
        obtain ⟨a, vs, rfl, ht, l1, _, w⟩ := World.openL (L := T ++ sl ρ σ) ok3.w
        have hf : f ≠ .own := fun e => by subst e; simp [D.noOwn] at no
        have e2 : ds = xs := by cases f <;> simp_all
        subst e2
        refine ⟨.ref a, hv', a, rfl, .inl ⟨⟨vs, ht⟩, q _ _ H (yl_list hf) (fun e => ?_) trivial ps⟩⟩
        cases f <;> simp_all [D.noVw]
    · cases h
  · cases h⟩
end
end Py
/-! Layer «Py», part H: targets, statements, loops. -/
namespace Py
open PySem PySem.Spec PyProof.Rows L2

/-! ### slots that are kept -/
structure Kp (ws : List Nat) (ρ ρ' : L2.St) : Prop where
  len : ρ'.length = ρ.length
  keep : ∀ j, j ∉ ws → ρ'[j]? = ρ[j]?
theorem Kp.refl {ws : List Nat} {ρ : L2.St} : Kp ws ρ ρ := ⟨rfl, fun _ _ => rfl⟩
theorem Kp.trans {ws ws' : List Nat} {ρ ρ1 ρ2 : L2.St} (h : Kp ws ρ ρ1) (h' : Kp ws' ρ1 ρ2) : Kp (ws ++ ws') ρ ρ2 := ⟨h'.len.trans h.len, fun j n => (h'.keep j fun m => n (List.mem_append_right _ m)).trans (h.keep j fun m => n (List.mem_append_left _ m))⟩
theorem Kp.mono {ws ws' : List Nat} {ρ ρ' : L2.St} (h : Kp ws ρ ρ') (s : ∀ j ∈ ws, j ∈ ws') : Kp ws' ρ ρ' := ⟨h.len, fun j n => h.keep j fun m => n (s j m)⟩
theorem Kp.left {ws ws' : List Nat} {ρ ρ' : L2.St} (h : Kp ws ρ ρ') : Kp (ws ++ ws') ρ ρ' := h.mono fun _ m => List.mem_append_left _ m
theorem Kp.right {ws ws' : List Nat} {ρ ρ' : L2.St} (h : Kp ws' ρ ρ') : Kp (ws ++ ws') ρ ρ' := h.mono fun _ m => List.mem_append_right _ m
theorem Kp.same {ws : List Nat} {ρ ρ1 ρ2 : L2.St} (h : Kp ws ρ ρ1) (h' : Kp ws ρ1 ρ2) : Kp ws ρ ρ2 := (h.trans h').mono fun j m => (List.mem_append.mp m).elim id id
theorem Kp.set {i : Nat} {ρ : L2.St} {o : Option V} : Kp [i] ρ (ρ.set i o) := ⟨by rw [List.length_set], fun j n => by rw [List.getElem?_set_ne (fun e => n (by rw [← e]; exact List.mem_singleton_self _))]⟩

/-! ### targets -/
def semG (X : Cx) (tg : Expr) : TG := fun v ρ H Q => ∀ (pins : List (Addr × Obj)) (s : Shared) (u : Value), Inv X pins ρ H s → RelV v u → wpAny (model X.prog X.w) X.A (assign tg X.env u) (fun _ s' => ∃ ρ' H', Inv X pins ρ' H' s' ∧ Q ρ' H') X.xe s
def semGs (X : Cx) (ts : List Expr) : TGs := fun vs ρ H Q => ∀ (pins : List (Addr × Obj)) (s : Shared) (us : List Value), Inv X pins ρ H s → Vals vs us → wpAny (model X.prog X.w) X.A (assignInOrder ((assignEach ts X.env).map (·.2)) us) (fun _ s' => ∃ ρ' H', Inv X pins ρ' H' s' ∧ Q ρ' H') X.xe s
theorem pgS {X : Cx} {tg : Expr} : PG X tg (semG X tg) := ⟨fun pins s _ _ _ u _ I r h => h pins s u I r⟩
theorem pgsS {X : Cx} {ts : List Expr} : PGs X ts (semGs X ts) := ⟨fun pins s _ _ _ us _ I r h => h pins s us I r⟩
theorem pg_sem {X : Cx} {tg : Expr} {t : TG} (p : PG X tg t) {v : V} {ρ : L2.St} {H : Hp} {Q : L2.St → Hp → Prop} (h : t v ρ H Q) : semG X tg v ρ H Q := fun pins s u I r => p.run pins s ρ H v u Q I r h
theorem pgs_sem {X : Cx} {ts : List Expr} {t : TGs} (p : PGs X ts t) {vs : List V} {ρ : L2.St} {H : Hp} {Q : L2.St → Hp → Prop} (h : t vs ρ H Q) : semGs X ts vs ρ H Q := fun pins s us I r => p.run pins s ρ H vs us Q I r h
theorem semG_mono {X : Cx} {tg : Expr} {v : V} {ρ : L2.St} {H : Hp} {Q Q' : L2.St → Hp → Prop} (q : semG X tg v ρ H Q) (h : ∀ ρ' H', Q ρ' H' → Q' ρ' H') : semG X tg v ρ H Q' := fun pins s u I r => thn (q pins s u I r) fun _ _ ⟨ρ', H', I', z⟩ => ⟨ρ', H', I', h _ _ z⟩
abbrev MG := D → Sg → Option Sg
abbrev MGs := List D → Sg → Option Sg
structure SG (X : Cx) (tg : Expr) (ws : List Nat) (g : MG) : Prop where
  run : ∀ {ρ : L2.St} {H : Hp} {σ : Sg} {T : List (V × D)} {v : V} {d : D} {σ' : Sg} {Q : L2.St → Hp → Prop}, Ok X.K H ρ σ ((v, d) :: T) → NV σ → NT ((v, d) :: T) → g d σ = some σ' → (∀ ρ' H', Kp ws ρ ρ' → Ok X.K H' ρ' σ' T → NV σ' → Q ρ' H') → semG X tg v ρ H Q
structure SGs (X : Cx) (ts : List Expr) (ws : List Nat) (g : MGs) : Prop where
  run : ∀ {ρ : L2.St} {H : Hp} {σ : Sg} {T : List (V × D)} {vs : List V} {ds : List D} {σ' : Sg} {Q : L2.St → Hp → Prop}, vs.length = ds.length → Ok X.K H ρ σ (vs.zip ds ++ T) → NV σ → NT (vs.zip ds ++ T) → g ds σ = some σ' → (∀ ρ' H', Kp ws ρ ρ' → Ok X.K H' ρ' σ' T → NV σ' → Q ρ' H') → semGs X ts vs ρ H Q
section
variable {X : Cx} {b : Bool} {e1 e2 : Expr} {a c : M} {pos : Pos}
def gNameM (i : Nat) : MG := fun d σ => if i < σ.length then some (σ.set i (some d)) else none
theorem sg_name {i : Nat} {x : Str} (hN : X.N.Nodup) (hi : X.N[i]? = some x := by rfl) (hx : Loc X.env.scope x := by first | exact Or.inl rfl | exact Or.inr rfl) (hf : X.fn x = true ∨ X.env.scope.names.lookup x = some .local := by first | exact .inl rfl | exact .inr rfl | assumption) : SG X (.Name x pos) [i] (gNameM i) := ⟨fun {ρ H σ T v d σ' Q} ok nv nt h q => by
  unfold gNameM at h
  split at h
  · rename_i hl
    cases h
    exact pg_sem (pg_name hN hi hx hf) (q _ _ .set (ok.put hl) (nv.set fun d e => by cases e; exact nt.head))
  · cases h⟩
def gsNilM : MGs := fun ds σ => match ds with
  | [] => some σ
  | _ => none
def gsConsM (g : MG) (gs : MGs) : MGs := fun ds σ => match ds with
  | d :: r => (match g d σ with
    | some σ1 => gs r σ1
    | none => none)
  | [] => none
theorem sgs_nil : SGs X [] [] gsNilM := ⟨fun {ρ H σ T vs ds σ' Q} hl ok nv nt h q => by
  unfold gsNilM at h
  split at h
  · cases h
    have e := List.eq_nil_of_length_eq_zero hl
    subst e
    exact pgs_sem pgs_nil ⟨rfl, q _ _ .refl ok nv⟩
  · cases h⟩
theorem sgs_cons {ts : List Expr} {w1 w2 : List Nat} {g : MG} {gs : MGs} (h1 : SG X e1 w1 g) (h2 : SGs X ts w2 gs) (hs : (assignEach (e1 :: ts) X.env).map (·.2) = assign e1 X.env :: (assignEach ts X.env).map (·.2) := by rfl) : SGs X (e1 :: ts) (w1 ++ w2) (gsConsM g gs) := ⟨fun {ρ H σ T vs ds σ' Q} hl ok nv nt h q => by
  unfold gsConsM at h
  split at h
  · rename_i d r
    split at h
    · rename_i σ1 hg
      match vs, hl with
      | v :: vr, hl =>
        refine pgs_sem (pgs_cons pgS pgsS hs) ⟨v, vr, rfl, ?_⟩
        refine h1.run (T := vr.zip r ++ T) ok nv nt hg fun ρ1 H1 k1 ok1 nv1 => ?_
        exact h2.run (by simpa using hl) ok1 nv1 nt.tail h fun ρ2 H2 k2 ok2 nv2 => q _ _ (k1.trans k2) ok2 nv2
    · cases h
  · cases h⟩
def gTupM (n : Nat) (g : MGs) : MG := fun d σ => match d with
  | .tup xs => if xs.length = n then g xs σ else none
  | _ => none
theorem sg_tup {es : List Expr} {k n : Nat} {ws : List Nat} {g : MGs} (hc : X.calm = true) (h : SGs X es ws g) (hn : (assignEach es X.env).length = n := by rfl) (hst : (assignEach es X.env).findIdx? (·.1) = none := by rfl) : SG X (.Tuple es k pos) ws (gTupM n g) := ⟨fun {ρ H σ T v d σ' Q} ok nv nt e q => by
  unfold gTupM at e
  split at e
  · rename_i xs
    split at e
    · rename_i hl
      obtain ⟨a, vs, rfl, ht, l1, no, w⟩ := World.openT (L := T ++ sl ρ σ) ok.w
      refine pg_sem (pg_tup hc pgsS hn hst) ⟨a, vs, rfl, .of ht, l1.trans hl, ?_⟩
      refine h.run l1 ⟨ok.len, ok.al, by rw [List.append_assoc]; exact w⟩ nv (nt_zip (NT.head nt) nt.tail) e q
    · cases e
  · cases e⟩

/-! ### statements -/
inductive Fo where
  | nx | bk | ct | rt (d : D)
abbrev MS := Sg → Option (Fo × Sg)
def semS (X : Cx) (st : Stmt) : TS := fun D ρ H => ∀ (pins : List (Addr × Obj)) (s : Shared), Inv X pins ρ H s → wpAny (model X.prog X.w) X.A (exec st X.env) (SP X pins D) X.xe s
def semSs (X : Cx) (st : List Stmt) : TS := fun D ρ H => ∀ (pins : List (Addr × Obj)) (s : Shared), Inv X pins ρ H s → wpAny (model X.prog X.w) X.A (execs st X.env) (SP X pins D) X.xe s
theorem psS {st : Stmt} : PS X st (semS X st) := ⟨fun pins s _ _ _ I h => h pins s I⟩
theorem pssS {st : List Stmt} : PSs X st (semSs X st) := ⟨fun pins s _ _ _ I h => h pins s I⟩
theorem ps_sem {st : Stmt} {t : TS} (p : PS X st t) {ρ : L2.St} {H : Hp} {D : Ends} (h : t D ρ H) : semS X st D ρ H := fun pins s I => p.run pins s ρ H D I h
theorem pss_sem {st : List Stmt} {t : TS} (p : PSs X st t) {ρ : L2.St} {H : Hp} {D : Ends} (h : t D ρ H) : semSs X st D ρ H := fun pins s I => p.run pins s ρ H D I h
def Fin (K : PySem.W.Frag) (E : Ends) (ρ : L2.St) (ws : List Nat) (T : List (V × D)) (f : Fo) (σ' : Sg) : Prop := match f with
  | .nx => ∀ ρ' H', Kp ws ρ ρ' → Ok K H' ρ' σ' T → NV σ' → E.nx ρ' H'
  | .bk => ∀ ρ' H', Kp ws ρ ρ' → Ok K H' ρ' σ' T → NV σ' → E.bk ρ' H'
  | .ct => ∀ ρ' H', Kp ws ρ ρ' → Ok K H' ρ' σ' T → NV σ' → E.ct ρ' H'
  | .rt d => ∀ v ρ' H', Kp ws ρ ρ' → Ok K H' ρ' σ' ((v, d) :: T) → NV σ' → d.noVw = true → E.rt v H'
theorem Fin.kp {K : PySem.W.Frag} {E : Ends} {ρ ρ1 : L2.St} {ws w1 w2 : List Nat} {T : List (V × D)} {f : Fo} {σ' : Sg} (k : Kp w1 ρ ρ1) (hs : ∀ j ∈ w1 ++ w2, j ∈ ws) (F : Fin K E ρ ws T f σ') : Fin K E ρ1 w2 T f σ' := by
  cases f with
  | nx => exact fun ρ' H' k' => F ρ' H' ((k.trans k').mono hs)
  | bk => exact fun ρ' H' k' => F ρ' H' ((k.trans k').mono hs)
  | ct => exact fun ρ' H' k' => F ρ' H' ((k.trans k').mono hs)
  | rt d => exact fun v ρ' H' k' => F v ρ' H' ((k.trans k').mono hs)
structure SS (X : Cx) (st : Stmt) (ws : List Nat) (m : MS) : Prop where
  run : ∀ {ρ : L2.St} {H : Hp} {σ : Sg} {T : List (V × D)} {f : Fo} {σ' : Sg} {E : Ends}, Ok X.K H ρ σ T → NV σ → NT T → m σ = some (f, σ') → Fin X.K E ρ ws T f σ' → semS X st E ρ H
structure SSs (X : Cx) (st : List Stmt) (ws : List Nat) (m : MS) : Prop where
  run : ∀ {ρ : L2.St} {H : Hp} {σ : Sg} {T : List (V × D)} {f : Fo} {σ' : Sg} {E : Ends}, Ok X.K H ρ σ T → NV σ → NT T → m σ = some (f, σ') → Fin X.K E ρ ws T f σ' → semSs X st E ρ H
def sNil : MS := fun σ => some (.nx, σ)
def sSeq (m1 m2 : MS) : MS := fun σ => match m1 σ with
  | some (.nx, σ1) => m2 σ1
  | r => r
variable {st : Stmt} {sts : List Stmt} {w1 w2 ws : List Nat} {s1 s2 : MS}
theorem sss_nil : SSs X [] [] sNil := ⟨fun {ρ H σ T f σ' E} ok nv nt h F => by
  cases h
  exact pss_sem pss_nil (F ρ H .refl ok nv)⟩
theorem sss_one (h1 : SS X st ws s1) : SSs X [st] ws s1 := ⟨fun ok nv nt h F => pss_sem (pss_one psS) (h1.run ok nv nt h F)⟩
theorem sss_cons (h1 : SS X st w1 s1) (h2 : SSs X sts w2 s2) : SSs X (st :: sts) (w1 ++ w2) (sSeq s1 s2) := ⟨fun {ρ H σ T f σ' E} ok nv nt h F => by
  refine pss_sem (pss_cons psS pssS) ?_
  unfold sSeq at h
  split at h
  · rename_i σ1 hm
    refine h1.run (f := .nx) ok nv nt hm fun ρ1 H1 k1 ok1 nv1 => ?_
    exact h2.run ok1 nv1 nt h (F.kp k1 fun j m => m)
  · rename_i hne
    have e : ∀ f0 σ0, s1 σ = some (f0, σ0) → f0 ≠ .nx := fun f0 σ0 e1 e2 => hne σ0 (by rw [e1, e2])
    cases f with
    | nx => exact absurd rfl (e _ _ h)
    | bk => exact h1.run (f := .bk) ok nv nt h fun ρ' H' k' => F ρ' H' k'.left
    | ct => exact h1.run (f := .ct) ok nv nt h fun ρ' H' k' => F ρ' H' k'.left
    | rt d => exact h1.run (f := .rt d) ok nv nt h fun v ρ' H' k' => F v ρ' H' k'.left⟩
def sExpr (m : M) : MS := fun σ => match m σ with
  | some (_, σ1) => some (.nx, σ1)
  | none => none
theorem Pst.nvt {K : PySem.W.Frag} {ρ : L2.St} {σ σ' : Sg} {T T' : List (V × D)} {H0 H : Hp} (p : Pst K true H0 ρ σ σ' T T' H) : NV σ' ∧ NT (T' ++ T) := p.cd rfl
theorem cdT {σ : Sg} {T : List (V × D)} (nv : NV σ) (nt : NT T) : Cd true σ T := fun _ => ⟨nv, nt⟩
theorem ss_expr (he : SE true X e1 a) (hs : swapsWith e1 none pos.line X.env = pure false := by rfl) : SS X (.Expr e1 pos) [] (sExpr a) := ⟨fun {ρ H σ T f σ' E} ok nv nt h F => by
  unfold sExpr at h
  split at h
  · rename_i d σ1 h1
    cases h
    exact ps_sem (ps_expr peS hs) (semE_mono (he.run ok (cdT nv nt) h1) fun v H' p => F ρ H' .refl p.ok.tail p.nvt.1)
  · cases h⟩
def sSet (i : Nat) (m : M) : MS := fun σ => match m σ with
  | some (d, σ1) => if i < σ1.length then some (.nx, σ1.set i (some d)) else none
  | none => none
theorem ss_set {i : Nat} {x : Str} {pos' : Pos} (hN : X.N.Nodup) (he : SE true X e1 a) (hi : X.N[i]? = some x := by rfl) (hx : Loc X.env.scope x := by first | exact Or.inl rfl | exact Or.inr rfl) (hs : swapsWith e1 (some (.Name x pos')) pos.line X.env = pure false := by rfl) (hf : X.fn x = true ∨ X.env.scope.names.lookup x = some .local := by first | exact .inl rfl | exact .inr rfl | assumption) :
    SS X (.Assign [.Name x pos'] e1 pos) [i] (sSet i a) := ⟨fun {ρ H σ T f σ' E} ok nv nt h F => by
  unfold sSet at h
  split at h
  · rename_i d σ1 h1
    split at h
    · rename_i hl
      cases h
      refine ps_sem (ps_set hN hi hx peS hs hf) (semE_mono (he.run ok (cdT nv nt) h1) fun v H' p => ?_)
      exact F _ H' .set (p.ok.put hl) (p.nvt.1.set fun d e => by cases e; exact p.nvt.2.head)
    · cases h
  · cases h⟩
def sAsg (m : M) (g : MG) : MS := fun σ => match m σ with
  | some (d, σ1) => (match g d σ1 with
    | some σ2 => some (.nx, σ2)
    | none => none)
  | none => none
theorem ss_asg {tg : Expr} {g : MG} (he : SE true X e1 a) (hg : SG X tg ws g) (hs : swapsWithSole [tg] e1 pos.line X.env = pure false := by rfl) (hw : swappedStores [tg] e1 X.env = pure none := by rfl) (h1 : (assignEach [tg] X.env).map (·.2) = [assign tg X.env] := by rfl) :
    SS X (.Assign [tg] e1 pos) ws (sAsg a g) := ⟨fun {ρ H σ T f σ' E} ok nv nt h F => by
  unfold sAsg at h
  split at h
  · rename_i d σ1 hm
    split at h
    · rename_i σ2 hgs
      cases h
      refine ps_sem (ps_asg peS pgS hs hw h1) (semE_mono (he.run ok (cdT nv nt) hm) fun v H' p => ?_)
      exact hg.run p.ok p.nvt.1 p.nvt.2 hgs fun ρ' H'' k ok' nv' => F ρ' H'' k ok' nv'
    · cases h
  · cases h⟩
def sPar (i j : Nat) (m : MA) : MS := fun σ => match m σ with
  | some ([x, y], σ1) => if i < σ1.length ∧ j < σ1.length then some (.nx, (σ1.set i (some x)).set j (some y)) else none
  | _ => none
theorem ss_par {i j : Nat} {x y : Str} {ma : MA} {px py pt : Pos} {kt k2 pt2} (hc : X.calm = true) (hN : X.N.Nodup) (ha : SA true X [e1, e2] ma) (hi : X.N[i]? = some x := by rfl) (hj : X.N[j]? = some y := by rfl) (hij : i ≠ j := by decide)
    (hx : X.env.scope.names.lookup x = some .local := by rfl) (hy : X.env.scope.names.lookup y = some .local := by rfl)
    (hw : swappedStores [.Tuple [.Name x px, .Name y py] kt pt] (.Tuple [e1, e2] k2 pt2) X.env = pure (some [x, y]) := by rfl)
    (hs : swapsWithSole [.Tuple [.Name x px, .Name y py] kt pt] (.Tuple [e1, e2] k2 pt2) pos.line X.env = pure false := by rfl) :
    SS X (.Assign [.Tuple [.Name x px, .Name y py] kt pt] (.Tuple [e1, e2] k2 pt2) pos) [i, j] (sPar i j ma) := ⟨fun {ρ H σ T f σ' E} ok nv nt h F => by
  unfold sPar at h
  split at h
  · rename_i d1 d2 σ1 hm
    split at h
    · rename_i hl
      cases h
      refine ps_sem (ps_par hc hN hi hj hij hx hy paS hw hs) (semA_mono (ha.run ok (cdT nv nt) hm) fun vs H' ⟨hl2, p⟩ => ?_)
      match vs, hl2 with
      | [v, w], _ =>
        refine ⟨v, w, rfl, ?_⟩
        have ok1 := Ok.put (T := (w, d2) :: T) p.ok hl.1
        have ok2 := Ok.put (T := T) ok1 (i := j) (by rw [List.length_set]; exact hl.2)
        refine F _ H' ?_ ok2 ((p.nvt.1.set fun d e => by cases e; exact p.nvt.2 (v, d1) List.mem_cons_self).set fun d e => by cases e; exact p.nvt.2 (w, d2) (List.mem_cons_of_mem _ List.mem_cons_self))
        exact Kp.trans (ws := [i]) (ws' := [j]) .set .set
    · cases h
  · cases h⟩
def sIf (c : MT) (m1 m2 : MS) : MS := fun σ => match c σ with
  | some (true, σ1) => m1 σ1
  | some (false, σ1) => m2 σ1
  | none => none
theorem ss_if {ec : Expr} {sa sb : List Stmt} {tc : MT} (hc : ST true X ec tc) (ha : SSs X sa w1 s1) (hb : SSs X sb w2 s2) : SS X (.If ec sa sb pos) (w1 ++ w2) (sIf tc s1 s2) := ⟨fun {ρ H σ T f σ' E} ok nv nt h F => by
  refine ps_sem (ps_if ptS pssS pssS) ?_
  unfold sIf at h
  split at h
  · rename_i σ1 h1
    refine semT_mono (hc.run ok (cdT nv nt) h1) fun v H1 ⟨e, p⟩ => ?_
    subst e
    exact iteT (ha.run p.ok p.nvt.1 p.nvt.2 h (F.kp (w1 := []) .refl fun j m => List.mem_append_left _ (by simpa using m)))
  · rename_i σ1 h1
    refine semT_mono (hc.run ok (cdT nv nt) h1) fun v H1 ⟨e, p⟩ => ?_
    subst e
    exact iteF (hb.run p.ok p.nvt.1 p.nvt.2 h (F.kp (w1 := []) .refl fun j m => List.mem_append_right _ (by simpa using m)))
  · cases h⟩
def sRet (m : M) : MS := fun σ => match m σ with
  | some (d, σ1) => some (.rt d, σ1)
  | none => none
theorem ss_ret (he : SE true X e1 a) : SS X (.Return (some e1) pos) [] (sRet a) := ⟨fun {ρ H σ T f σ' E} ok nv nt h F => by
  unfold sRet at h
  split at h
  · rename_i d σ1 h1
    cases h
    exact ps_sem (ps_ret peS) (semE_mono (he.run ok (cdT nv nt) h1) fun v H' p => F v ρ H' .refl p.ok p.nvt.1 p.nvt.2.head)
  · cases h⟩
def sRetN : MS := fun σ => some (.rt .non, σ)
theorem ss_retN : SS X (.Return none pos) [] sRetN := ⟨fun {ρ H σ T f σ' E} ok nv nt h F => by
  cases h
  exact ps_sem ps_retN (F .non ρ H .refl ⟨ok.len, ok.al, World.non ok.w⟩ nv rfl)⟩
def sBreak : MS := fun σ => some (.bk, σ)
def sCont : MS := fun σ => some (.ct, σ)
theorem ss_break : SS X (.Break pos) [] sBreak := ⟨fun {ρ H σ T f σ' E} ok nv nt h F => by
  cases h
  exact ps_sem ps_break (F ρ H .refl ok nv)⟩
theorem ss_cont : SS X (.Continue pos) [] sCont := ⟨fun {ρ H σ T f σ' E} ok nv nt h F => by
  cases h
  exact ps_sem ps_continue (F ρ H .refl ok nv)⟩
theorem ss_pass : SS X (.Pass pos) [] sNil := ⟨fun {ρ H σ T f σ' E} ok nv nt h F => by
  cases h
  exact ps_sem ps_pass (F ρ H .refl ok nv)⟩
theorem ss_doc {x : Str} {j : Nat} {p p' : Pos} : SS X (.Expr (.Constant (.str x) j p) p') [] sNil := ⟨fun {ρ H σ T f σ' E} ok nv nt h F => by
  cases h
  exact ps_sem ps_doc (F ρ H .refl ok nv)⟩
/-- name op= e: ints -/
def sAug (i : Nat) (f : D → D → Option D) (m : M) : MS := fun σ => match σ[i]? with
  | some (some (.int x)) => (match m σ with
    | some (d, σ1) => (match f (.int x) d with
      | some z => if i < σ1.length then some (.nx, σ1.set i (some z)) else none
      | none => none)
    | none => none)
  | _ => none
theorem ss_aug {i : Nat} {x : Str} {op : Operator} {g : Int → Int → Int} {f : D → D → Option D} {pos' : Pos} (hN : X.N.Nodup) (he : SE true X e1 a) (ho : PIp X op (ipI g)) (hf' : f = kI fun i j => some (.int (g i j)) := by rfl) (hi : X.N[i]? = some x := by rfl) (hx : Loc X.env.scope x := by first | exact Or.inl rfl | exact Or.inr rfl) (hf : X.fn x = true ∨ X.env.scope.names.lookup x = some .local := by first | exact .inl rfl | exact .inr rfl | assumption) :
    SS X (.AugAssign (.Name x pos') op e1 pos) [i] (sAug i f a) := ⟨fun {ρ H σ T fo σ' E} ok nv nt h F => by
  subst hf'
  unfold sAug at h
  split at h
  · rename_i n hx0
    split at h
    · rename_i d σ1 h1
      split at h
      · rename_i z hz
        split at h
        · rename_i hl
          cases h
          obtain ⟨v, hv, ok1⟩ := ok.take hx0
          have ev := World.int_of (L := T ++ sl ρ (σ.set i none)) ok1.w
          subst ev
          refine ps_sem (ps_aug hN hi hx peS ho hf) ⟨.int n, hv, semE_mono (he.run ok (cdT nv nt) h1) fun v H' p => ?_⟩
          cases d <;> simp only [kI] at hz <;> cases hz
          rename_i m
          have ev := World.int_of (L := T ++ sl ρ σ1) p.ok.w
          subst ev
          refine ⟨n, m, rfl, rfl, F _ H' .set (Ok.put ⟨p.ok.len, p.ok.al, World.int _ p.ok.tail.w⟩ hl) (p.nvt.1.set fun d e => by cases e; rfl)⟩
        · cases h
      · cases h
    · cases h
  · cases h⟩
/-! ### while -/
def sWhile (c : MT) (m : MS) : Nat → MS
  | 0 => fun _ => none
  | n + 1 => fun σ => match c σ with
    | some (false, σ1) => some (.nx, σ1)
    | some (true, σ1) => (match m σ1 with
      | some (.nx, σ2) => sWhile c m n σ2
      | some (.ct, σ2) => sWhile c m n σ2
      | some (.bk, σ2) => some (.nx, σ2)
      | some (.rt d, σ2) => some (.rt d, σ2)
      | none => none)
    | none => none
theorem ss_while {ec : Expr} {body : List Stmt} {tc : MT} {n : Nat} (hp : PassesOwn (model X.prog X.w) X.A X.env X.xe) (hc : ST true X ec tc) (hb : SSs X body ws s1) : SS X (.While ec body [] pos) ws (sWhile tc s1 n) := ⟨fun {ρ H σ T f σ' E} ok nv nt h F => by
  refine ps_sem (ps_while hp ptS pssS) ?_
  refine ⟨fun m ρ' H' => ∃ σ1, Kp ws ρ ρ' ∧ Ok X.K H' ρ' σ1 T ∧ NV σ1 ∧ sWhile tc s1 m σ1 = some (f, σ'), ⟨n, σ, .refl, ok, nv, h⟩, ?_⟩
  rintro m ρ1 H1 ⟨σ1, k1, ok1, nv1, h1⟩
  cases m with
  | zero => cases h1
  | succ m =>
    simp only [sWhile] at h1
    split at h1
    · rename_i σ2 h2
      cases h1
      refine semT_mono (hc.run ok1 (cdT nv1 nt) h2) fun v H2 ⟨e, p⟩ => ?_
      subst e
      exact iteF (F ρ1 H2 k1 p.ok p.nvt.1)
    · rename_i σ2 h2
      refine semT_mono (hc.run ok1 (cdT nv1 nt) h2) fun v H2 ⟨e, p⟩ => ?_
      subst e
      refine iteT ⟨fun ρ' H' => ∃ σ1, Kp ws ρ ρ' ∧ Ok X.K H' ρ' σ1 T ∧ NV σ1 ∧ sWhile tc s1 m σ1 = some (f, σ'), fun ρ' H' q => ⟨m, Nat.lt_succ_self _, q⟩, ?_⟩
      split at h1
      · rename_i σ3 h3
        exact hb.run (f := .nx) p.ok p.nvt.1 nt h3 fun ρ' H' k' ok' nv' => ⟨σ3, k1.same k', ok', nv', h1⟩
      · rename_i σ3 h3
        exact hb.run (f := .ct) p.ok p.nvt.1 nt h3 fun ρ' H' k' ok' nv' => ⟨σ3, k1.same k', ok', nv', h1⟩
      · rename_i σ3 h3
        cases h1
        exact hb.run (f := .bk) p.ok p.nvt.1 nt h3 fun ρ' H' k' ok' nv' => F ρ' H' (k1.same k') ok' nv'
      · rename_i d σ3 h3
        cases h1
        exact hb.run (f := .rt d) p.ok p.nvt.1 nt h3 fun v ρ' H' k' ok' nv' => F v ρ' H' (k1.same k') ok' nv'
      · cases h1
    · cases h1⟩
/-! ### for -/
def sEach (g : MG) (m : MS) : List D → MS
  | [] => fun σ => some (.nx, σ)
  | d :: r => fun σ => match g d σ with
    | some σ1 => (match m σ1 with
      | some (.nx, σ2) => sEach g m r σ2
      | some (.ct, σ2) => sEach g m r σ2
      | some (.bk, σ2) => some (.nx, σ2)
      | some (.rt d, σ2) => some (.rt d, σ2)
      | none => none)
    | none => none
def sFor (bk : Option Nat) (mi : MI) (g : MG) (m : MS) : MS := fun σ => match mi σ with
  | some (ds, o, σ1) => (match sEach g m ds σ1 with
    | some (f, σ2) => some (f, gB bk o σ2)
    | none => none)
  | none => none
theorem Ok.drops {K : PySem.W.Frag} {H : Hp} {ρ : L2.St} {σ : Sg} {T : List (V × D)} : ∀ {hold : List (V × D)}, Ok K H ρ σ (hold ++ T) → Ok K H ρ σ T
  | [], ok => ok
  | _ :: _, ok => Ok.drops ok.tail
theorem NT.drops {T : List (V × D)} {hold : List (V × D)} (h : NT (hold ++ T)) : NT T := fun p m => h p (List.mem_append_right _ m)
/-- what was held comes back -/
theorem ok_gB {K : PySem.W.Frag} {H : Hp} {ρ ρ0 : L2.St} {σ : Sg} {hold T : List (V × D)} {bk : Option Nat} {o : Option D} {ws : List Nat} (ok : Ok K H ρ σ (hold ++ T)) (nv : NV σ) (nt : NT (hold ++ T)) (hb : Back ρ0 hold bk o) (k : Kp ws ρ0 ρ) (hw : ∀ i, bk = some i → i ∉ ws) : Ok K H ρ (gB bk o σ) T ∧ NV (gB bk o σ) := by
  match bk, o, hb with
  | some i, some d, hb =>
    obtain ⟨v, rfl, hv⟩ := hb
    have hv2 : ρ[i]? = some (some v) := by rw [k.keep i (hw i rfl)]; exact hv
    exact ⟨Ok.back ok hv2, nv.set fun d' e => by cases e; exact nt.head⟩
  | some i, none, _ => exact ⟨ok.drops, nv⟩
  | none, _, _ => exact ⟨ok.drops, nv⟩
theorem ss_for {tg iter : Expr} {body : List Stmt} {bk : Option Nat} {mi : MI} {g : MG} (hp : PassesOwn (model X.prog X.w) X.A X.env X.xe) (hc : X.calm = true) (hi : SI true X tg iter bk mi) (hg : SG X tg w1 g) (hb : SSs X body w2 s1) (hw : ∀ i, bk = some i → i ∉ w1 ++ w2 := by first | exact fun i e => nomatch e | decide) (hs : ∀ x, foldedSetIterable iter X.env x = pure x := by intro _; rfl) :
    SS X (.For tg iter body [] pos) (w1 ++ w2) (sFor bk mi g s1) := ⟨fun {ρ H σ T f σ' E} ok nv nt h F => by
  refine ps_sem (ps_for hp hc piS pgS pssS hs) ?_
  unfold sFor at h
  split at h
  · rename_i ds o σ1 h1
    split at h
    · rename_i fo σe he
      cases h
      refine hi.run ok (cdT nv nt) h1 fun J hold H1 y nd bck p => ?_
      refine ⟨fun i m ρ' H' => m = ds.length - i ∧ i ≤ ds.length ∧ ∃ σ2, Kp (w1 ++ w2) ρ ρ' ∧ Ok X.K H' ρ' σ2 (hold ++ T) ∧ NV σ2 ∧ sEach g s1 (ds.drop i) σ2 = some (f, σe), ⟨ds.length, rfl, Nat.zero_le _, σ1, .refl, p.ok, p.nvt.1, he⟩, ?_⟩
      rintro i m ρ2 H2 ⟨rfl, hil, σ2, k2, ok2, nv2, h2⟩
      have w : World X.K H2 (hold ++ (T ++ sl ρ2 σ2)) := by have q := ok2.w; rw [List.append_assoc] at q; exact q
      by_cases hlt : i < ds.length
      · have hd : ds[i]? = some ds[i] := List.getElem?_eq_getElem hlt
        rw [List.drop_eq_getElem_cons hlt] at h2
        simp only [sEach] at h2
        refine .inr ⟨y.go w hd, fun ρ' H' => i + 1 ≤ ds.length ∧ ∃ σ2, Kp (w1 ++ w2) ρ ρ' ∧ Ok X.K H' ρ' σ2 (hold ++ T) ∧ NV σ2 ∧ sEach g s1 (ds.drop (i + 1)) σ2 = some (f, σe), fun ρ' H' q => ⟨ds.length - (i + 1), by omega, rfl, q⟩, fun x H3 hy => ?_⟩
        have w3 := y.yld w hd hy
        have ok3 : Ok X.K H3 ρ2 σ2 ((x, ds[i]) :: (hold ++ T)) := ⟨ok2.len, ok2.al, by show World X.K H3 ((x, ds[i]) :: ((hold ++ T) ++ sl ρ2 σ2)); rw [List.append_assoc]; exact w3⟩
        have nd3 : (ds[i]).noVw = true := noVws_mem (nd rfl) (List.getElem_mem hlt)
        split at h2
        · rename_i σ4 h4
          refine hg.run ok3 nv2 (p.nvt.2.cons nd3) h4 fun ρ4 H4 k4 ok4 nv4 => ?_
          split at h2
          · rename_i σ5 h5
            exact hb.run (f := .nx) ok4 nv4 p.nvt.2 h5 fun ρ5 H5 k5 ok5 nv5 => ⟨hlt, σ5, k2.same (k4.trans k5), ok5, nv5, h2⟩
          · rename_i σ5 h5
            exact hb.run (f := .ct) ok4 nv4 p.nvt.2 h5 fun ρ5 H5 k5 ok5 nv5 => ⟨hlt, σ5, k2.same (k4.trans k5), ok5, nv5, h2⟩
          · rename_i σ5 h5
            cases h2
            refine hb.run (f := .bk) ok4 nv4 p.nvt.2 h5 fun ρ5 H5 k5 ok5 nv5 => ?_
            obtain ⟨okb, nvb⟩ := ok_gB ok5 nv5 p.nvt.2 bck (k2.same (k4.trans k5)) hw
            exact F ρ5 H5 (k2.same (k4.trans k5)) okb nvb
          · rename_i d σ5 h5
            cases h2
            refine hb.run (f := .rt d) ok4 nv4 p.nvt.2 h5 fun v ρ5 H5 k5 ok5 nv5 nd5 => ?_
            have ok6 : Ok X.K H5 ρ5 σe (hold ++ ((v, d) :: T)) := Ok.temps (T := (v, d) :: (hold ++ T)) ok5 fun L w => w.perm ((List.perm_middle (l₁ := hold) (l₂ := T) (a := (v, d))).symm.append_right L)
            have nt6 : NT (hold ++ ((v, d) :: T)) := fun q m => by
              rcases List.mem_append.mp m with m | m
              · exact p.nvt.2 q (List.mem_append_left _ m)
              · rcases List.mem_cons.mp m with e | m
                · rw [e]; exact nd5
                · exact p.nvt.2 q (List.mem_append_right _ m)
            obtain ⟨okb, nvb⟩ := ok_gB ok6 nv5 nt6 bck (k2.same (k4.trans k5)) hw
            exact F v ρ5 H5 (k2.same (k4.trans k5)) okb nvb nd5
          · cases h2
        · cases h2
      · have e : i = ds.length := by omega
        subst e
        rw [List.drop_length] at h2
        cases h2
        obtain ⟨okb, nvb⟩ := ok_gB ok2 nv2 p.nvt.2 bck k2 hw
        exact .inl ⟨y.stop w (Nat.le_refl _), F ρ2 H2 k2 okb nvb⟩
    · cases h
  · cases h⟩
end
end Py
/-! Layer «Py», part I: lists changed by place, along paths. -/
namespace Py
open PySem PySem.Spec PyProof.Rows L2

def dAt : D → List Nat → Option D
  | d, [] => some d
  | .lst .own xs, j :: js => (match xs[j]? with
    | some x => dAt x js
    | none => none)
  | _, _ :: _ => none
def dPut : D → List Nat → D → D
  | _, [], e => e
  | .lst .own xs, j :: js, e => (match xs[j]? with
    | some x => .lst .own (xs.set j (dPut x js e))
    | none => .lst .own xs)
  | d, _ :: _, _ => d
def Walk (H : Hp) : V → List Nat → V → Prop
  | v, [], w => w = v
  | v, j :: js, w => ∃ a vs v', v = .ref a ∧ H a = some (.lst vs) ∧ vs[j]? = some v' ∧ Walk H v' js w
theorem Walk.same {H H' : Hp} (hs : Same H H') : ∀ {js : List Nat} {v w : V}, Walk H v js w → Walk H' v js w
  | [], _, _, h => h
  | j :: js, _, _, h => by
    obtain ⟨a, vs, v', e, h1, h2, h3⟩ := h
    exact ⟨a, vs, v', e, hs _ _ h1, h2, Walk.same hs h3⟩
theorem Walk.snoc {H : Hp} {j : Nat} {a : Addr} {vs : List V} {w' : V} (ha : H a = some (.lst vs)) (hj : vs[j]? = some w') : ∀ {js : List Nat} {v : V}, Walk H v js (.ref a) → Walk H v (js ++ [j]) w'
  | [], v, h => ⟨a, vs, w', h.symm, ha, hj, rfl⟩
  | i :: js, v, h => by
    obtain ⟨b, ws, v', e, h1, h2, h3⟩ := h
    exact ⟨b, ws, v', e, h1, h2, Walk.snoc ha hj h3⟩
section
variable {K : PySem.W.Frag} {Z : Addr → Prop} {H : Hp} {L : List (V × D)}
theorem Rep.ownInv {v : V} {xs : List D} {fp : List Addr} (r : Rep K Z H v (.lst .own xs) fp) : ∃ a vs f, v = .ref a ∧ fp = a :: f ∧ H a = some (.lst vs) ∧ Reps K Z H vs xs f := by
  cases r with
  | own h r => exact ⟨_, _, _, rfl, rfl, h, r⟩
theorem Rep.walkAt : ∀ {js : List Nat} {v w : V} {d : D} {xs : List D} {fp : List Addr}, Rep K Z H v d fp → dAt d js = some (.lst .own xs) → Walk H v js w → ∃ p vs, w = .ref p ∧ H p = some (.lst vs) ∧ vs.length = xs.length
  | [], v, w, d, xs, fp, r, h, hw => by
    cases h
    obtain ⟨a, vs, f, rfl, _, h1, r1⟩ := r.ownInv
    exact ⟨a, vs, hw, h1, r1.length⟩
  | j :: js, v, w, d, xs, fp, r, h, hw => by
    match d, h, r with
    | .lst .own ds, h, r =>
      simp only [dAt] at h
      split at h
      · rename_i x hx
        obtain ⟨a, vs, f, rfl, _, h1, r1⟩ := r.ownInv
        obtain ⟨b, ws, v', e, h2, h3, h4⟩ := hw
        cases e
        rw [h1] at h2
        cases h2
        obtain ⟨v'', g, q1, q2, _⟩ := r1.get hx
        rw [h3] at q1
        cases q1
        exact Rep.walkAt q2 h h4
      · cases h
/-- one item's object is written; the others stay -/
theorem Reps.pathAt : ∀ {ds : List D} {vs : List V} {fp : List Addr} {j : Nat} {x : D}, Reps K Z H vs ds fp → noVws ds = true → fp.Nodup → ds[j]? = some x →
    ∃ v pre f post, vs[j]? = some v ∧ Rep K Z H v x f ∧ fp = pre ++ f ++ post ∧
      (∀ {p : Addr} {ys : List V} {o : HO} {d' : D} {f' : List Addr}, p ∈ f → H p = some (.lst ys) → ¬ Z p → Rep K Z (upd H p o) v d' f' → Reps K Z (upd H p o) vs (ds.set j d') (pre ++ f' ++ post))
  | [], _, _, _, _, _, _, _, h => by simp at h
  | d :: ds, _, _, 0, x, r, nv, nd, h => by
    obtain ⟨v, vr, f1, f2, rfl, rfl, r1, t⟩ := r.inv_cons
    have e := Option.some.inj h
    subst e
    simp only [noVws, Bool.and_eq_true] at nv
    refine ⟨v, [], f1, f2, rfl, r1, rfl, fun {p ys o d' f'} m hp nz r' => ?_⟩
    have np : p ∉ f2 := fun m2 => (List.nodup_append.mp nd).2.2 p m p m2 rfl
    exact .cons r' (t.write hp nz np nv.2)
  | d :: ds, _, _, j + 1, x, r, nv, nd, h => by
    obtain ⟨v, vr, f1, f2, rfl, rfl, r1, t⟩ := r.inv_cons
    simp only [noVws, Bool.and_eq_true] at nv
    obtain ⟨n1, n2, n3⟩ := List.nodup_append.mp nd
    obtain ⟨w, pre, f, post, h1, h2, rfl, h4⟩ := t.pathAt nv.2 n2 (j := j) h
    refine ⟨w, f1 ++ pre, f, post, h1, h2, by simp [List.append_assoc], fun {p ys o d' f'} m hp nz r' => ?_⟩
    have np : p ∉ f1 := fun m1 => n3 p m1 p (List.mem_append_left _ (List.mem_append_right _ m)) rfl
    have z := Reps.cons (r1.write hp nz np nv.1) (h4 m hp nz r')
    simpa [List.append_assoc] using z
theorem Rep.path : ∀ {js : List Nat} {v : V} {d : D} {xs : List D} {fp : List Addr} {p : Addr}, Rep K Z H v d fp → d.noVw = true → fp.Nodup → (∀ a ∈ fp, ¬ Z a) → dAt d js = some (.lst .own xs) → Walk H v js (.ref p) →
    ∃ vs pre f post, fp = pre ++ (p :: f) ++ post ∧ H p = some (.lst vs) ∧ Reps K Z H vs xs f ∧
      ∀ (vs' : List V) (xs' : List D) (h : List Addr), Reps K Z (upd H p (.lst vs')) vs' xs' h → Rep K Z (upd H p (.lst vs')) v (dPut d js (.lst .own xs')) (pre ++ (p :: h) ++ post)
  | [], v, d, xs, fp, p, r, nv, nd, nz, h, hw => by
    cases h
    obtain ⟨a, vs, f, rfl, rfl, h1, r1⟩ := r.ownInv
    have e : p = a := by cases hw; rfl
    subst e
    exact ⟨vs, [], f, [], by simp, h1, r1, fun vs' xs' h q => by simpa [dPut] using Rep.own upd_same q⟩
  | j :: js, v, d, xs, fp, p, r, nv, nd, nz, h, hw => by
    match d, h, r, nv with
    | .lst .own ds, h, r, nv =>
      simp only [dAt] at h
      split at h
      · rename_i x hx
        obtain ⟨a, vs, f, rfl, rfl, h1, r1⟩ := r.ownInv
        obtain ⟨b, ws, v', e, h2, h3, h4⟩ := hw
        cases e
        rw [h1] at h2
        cases h2
        obtain ⟨na, nd'⟩ := List.nodup_cons.mp nd
        have nvx : x.noVw = true := noVws_mem (xs := ds) nv (List.mem_of_getElem? hx)
        obtain ⟨v1, pre, f0, post, k1, k2, k3, k4⟩ := r1.pathAt nv nd' hx
        rw [h3] at k1
        cases k1
        have ndf : f0.Nodup := by
          rw [k3] at nd'
          exact (nd'.sublist (by simpa [List.append_assoc] using (List.sublist_append_left f0 post).trans (List.sublist_append_right pre _)))
        have nz0 : ∀ a ∈ f0, ¬ Z a := fun a m => nz a (List.mem_cons_of_mem _ (by rw [k3]; exact List.mem_append_left _ (List.mem_append_right _ m)))
        obtain ⟨vs1, pr, ff, po, e1, e2, e3, e4⟩ := k2.path nvx ndf nz0 h h4
        have pm : p ∈ f0 := by rw [e1]; simp
        have nap : a ≠ p := fun e => na (by rw [k3, e]; exact List.mem_append_left _ (List.mem_append_right _ pm))
        refine ⟨vs1, a :: (pre ++ pr), ff, po ++ post, by rw [k3, e1]; simp [List.append_assoc], e2, e3, fun vs' xs' h' q => ?_⟩
        have rx := k4 pm e2 (nz0 p pm) (e4 vs' xs' h' q)
        have z := Rep.own (a := a) (by rw [upd_ne nap]; exact h1) rx
        simp only [dPut, hx]
        simpa [List.append_assoc] using z
      · cases h
theorem World.putPath {v : V} {d : D} {js : List Nat} {xs : List D} {ws : List V} {es : List D} {p : Addr} (hl : ws.length = es.length) (nd : d.noVw = true) (ne : noVws es = true) (nL : ∀ q ∈ L, q.2.noVw = true) (hd : dAt d js = some (.lst .own xs)) (hw : Walk H v js (.ref p)) :
    World K H ((v, d) :: (ws.zip es ++ L)) → ∃ vs, H p = some (.lst vs) ∧ vs.length = xs.length ∧
      ∀ (vs' : List V) (xs' : List D), noVws xs' = true → (∀ (Z : Addr → Prop) (f g : List Addr), Reps K Z H vs xs f → Reps K Z H ws es g → (f ++ g).Nodup → ∃ h, Reps K Z H vs' xs' h ∧ h.Nodup ∧ ∀ b ∈ h, b ∈ f ++ g) →
        World K (upd H p (.lst vs')) ((v, dPut d js (.lst .own xs')) :: L) := fun ⟨Z, fp, w, ndp, nz, zt⟩ => by
  obtain ⟨f1, f2, rfl, r, t⟩ := w.inv
  obtain ⟨g1, g2, rfl, q, t⟩ := t.items hl
  obtain ⟨n1, n2, n3⟩ := List.nodup_append.mp ndp
  obtain ⟨vs, pre, f, post, rfl, hp, rv, hput⟩ := r.path nd n1 (fun a m => nz a (List.mem_append_left _ m)) hd hw
  refine ⟨vs, hp, rv.length, fun vs' xs' nv hr => ?_⟩
  have pin : p ∈ pre ++ (p :: f) ++ post := by simp
  have zp : ¬ Z p := nz p (List.mem_append_left _ pin)
  obtain ⟨m1, m2, m3⟩ := List.nodup_append.mp n2
  have ndpf : (p :: f).Nodup := n1.sublist (by simpa [List.append_assoc] using (List.sublist_append_left (p :: f) post).trans (List.sublist_append_right pre _))
  obtain ⟨npf, ndf⟩ := List.nodup_cons.mp ndpf
  have fin : ∀ a ∈ f, a ∈ pre ++ (p :: f) ++ post := fun a m => List.mem_append_left _ (List.mem_append_right _ (List.mem_cons_of_mem _ m))
  have ndfg : (f ++ g1).Nodup := List.nodup_append.mpr ⟨ndf, m1, fun a ha b hb => n3 a (fin a ha) b (List.mem_append_left _ hb)⟩
  obtain ⟨h, rh, ndh, sub⟩ := hr Z f g1 rv q ndfg
  have pg1 : p ∉ g1 := fun m => n3 p pin p (List.mem_append_left _ m) rfl
  have pg2 : p ∉ g2 := fun m => n3 p pin p (List.mem_append_right _ m) rfl
  have ph : p ∉ h := fun m => by
    rcases List.mem_append.mp (sub p m) with m | m
    · exact npf m
    · exact pg1 m
  have rput := hput vs' xs' h (rh.write hp zp ph nv)
  refine ⟨Z, (pre ++ (p :: h) ++ post) ++ g2, .cons rput (t.write hp zp pg2 nL), ?_, fun b m z => ?_, fun b z => ?_⟩
  · -- no address twice
    have a1 : (pre ++ (p :: f) ++ post).Nodup := n1
    obtain ⟨b1, b2, b3⟩ := List.nodup_append.mp a1
    obtain ⟨c1, c2, c3⟩ := List.nodup_append.mp b1
    have hin : ∀ b ∈ h, b ∈ f ∨ b ∈ g1 := fun b m => List.mem_append.mp (sub b m)
    have preh : ∀ a ∈ pre, ∀ b ∈ p :: h, a ≠ b := fun a ha b hb => by
      rcases List.mem_cons.mp hb with e | hb
      · subst e
        exact c3 a ha b List.mem_cons_self
      · rcases hin b hb with m | m
        · exact c3 a ha b (List.mem_cons_of_mem _ m)
        · exact n3 a (List.mem_append_left _ (List.mem_append_left _ ha)) b (List.mem_append_left _ m)
    have hpost : ∀ a ∈ p :: h, ∀ b ∈ post, a ≠ b := fun a ha b hb => by
      rcases List.mem_cons.mp ha with e | ha
      · subst e
        exact b3 a (List.mem_append_right _ List.mem_cons_self) b hb
      · rcases hin a ha with m | m
        · exact b3 a (List.mem_append_right _ (List.mem_cons_of_mem _ m)) b hb
        · exact fun e => n3 b (List.mem_append_right _ hb) a (List.mem_append_left _ m) e.symm
    refine List.nodup_append.mpr ⟨List.nodup_append.mpr ⟨List.nodup_append.mpr ⟨c1, List.nodup_cons.mpr ⟨ph, ndh⟩, preh⟩, b2, fun a ha b hb => ?_⟩, m2, fun a ha b hb => ?_⟩
    · rcases List.mem_append.mp ha with ha | ha
      · exact b3 a (List.mem_append_left _ ha) b hb
      · exact hpost a ha b hb
    · rcases List.mem_append.mp ha with ha | ha
      · rcases List.mem_append.mp ha with ha | ha
        · exact n3 a (List.mem_append_left _ (List.mem_append_left _ ha)) b (List.mem_append_right _ hb)
        · rcases List.mem_cons.mp ha with e | ha
          · subst e
            exact n3 a pin b (List.mem_append_right _ hb)
          · rcases hin a ha with m | m
            · exact n3 a (fin a m) b (List.mem_append_right _ hb)
            · exact m3 a m b hb
      · exact n3 a (List.mem_append_right _ ha) b (List.mem_append_right _ hb)
  · rcases List.mem_append.mp m with m | m
    · rcases List.mem_append.mp m with m | m
      · rcases List.mem_append.mp m with m | m
        · exact nz b (List.mem_append_left _ (List.mem_append_left _ (List.mem_append_left _ m))) z
        · rcases List.mem_cons.mp m with e | m
          · subst e
            exact zp z
          · rcases List.mem_append.mp (sub b m) with m | m
            · exact nz b (List.mem_append_left _ (fin b m)) z
            · exact nz b (List.mem_append_right _ (List.mem_append_left _ m)) z
      · exact nz b (List.mem_append_left _ (List.mem_append_right _ m)) z
    · exact nz b (List.mem_append_right _ (List.mem_append_right _ m)) z
  · by_cases e : b = p
    · subst e
      exact ⟨_, upd_same⟩
    · obtain ⟨o, q⟩ := zt b z
      exact ⟨o, by rw [upd_ne e]; exact q⟩
theorem World.walkAt {v w : V} {d : D} {js : List Nat} {xs : List D} (W : World K H ((v, d) :: L)) (hd : dAt d js = some (.lst .own xs)) (hw : Walk H v js w) : ∃ p vs, w = .ref p ∧ H p = some (.lst vs) ∧ vs.length = xs.length := by
  obtain ⟨_, r⟩ := W.repd
  exact r.walkAt hd hw
end
end Py
/-! Layer «Py», part J: stores to items, append, pop, op= upon items. -/
namespace Py
open PySem PySem.Spec PyProof.Rows L2
/-! ### meanings that leave the slots as they are -/
class KeepM (m : M) : Prop where
  keep : ∀ {σ : Sg} {d : D} {σ' : Sg}, m σ = some (d, σ') → σ' = σ
class KeepA (m : MA) : Prop where
  keep : ∀ {σ : Sg} {d : List D} {σ' : Sg}, m σ = some (d, σ') → σ' = σ
class KeepT (m : MT) : Prop where
  keep : ∀ {σ : Sg} {d : Bool} {σ' : Sg}, m σ = some (d, σ') → σ' = σ
instance {i : Nat} : KeepM (mVar i) := ⟨fun {σ d σ'} h => by unfold mVar at h; split at h <;> cases h; rfl⟩
instance {d : D} : KeepM (mC d) := ⟨fun h => by cases h; rfl⟩
instance {f : D → Option D} {a : M} [KeepM a] : KeepM (m1 f a) := ⟨fun {σ d σ'} h => by
  unfold m1 at h
  split at h
  · rename_i h1
    split at h
    · cases h
      exact KeepM.keep h1
    · cases h
  · cases h⟩
instance {f : D → D → Option D} {a b : M} [KeepM a] [KeepM b] : KeepM (m2 f a b) := ⟨fun {σ d σ'} h => by
  unfold m2 at h
  split at h
  · rename_i h1
    split at h
    · rename_i h2
      split at h
      · cases h
        exact (KeepM.keep h2).trans (KeepM.keep h1)
      · cases h
    · cases h
  · cases h⟩
instance : KeepA aNil := ⟨fun h => by cases h; rfl⟩
instance {a : M} {r : MA} [KeepM a] [KeepA r] : KeepA (aCons a r) := ⟨fun {σ d σ'} h => by
  unfold aCons at h
  split at h
  · rename_i h1
    split at h
    · rename_i h2
      cases h
      exact (KeepA.keep h2).trans (KeepM.keep h1)
    · cases h
  · cases h⟩
instance {f : List D → Option D} {r : MA} [KeepA r] : KeepM (mA f r) := ⟨fun {σ d σ'} h => by
  unfold mA at h
  split at h
  · rename_i h1
    split at h
    · cases h
      exact KeepA.keep h1
    · cases h
  · cases h⟩
instance {T : Ty} {a : M} [KeepM a] : KeepM (mIsa T a) := ⟨fun {σ d σ'} h => by
  unfold mIsa at h
  split at h
  · rename_i h1
    cases h
    exact KeepM.keep h1
  · cases h⟩
instance {a b : MT} [KeepT a] [KeepT b] : KeepT (tAndM a b) := ⟨fun {σ d σ'} h => by
  unfold tAndM at h
  split at h
  · rename_i h1
    exact (KeepT.keep h).trans (KeepT.keep h1)
  · rename_i h1
    cases h
    exact KeepT.keep h1
  · cases h⟩
instance {a b : MT} [KeepT a] [KeepT b] : KeepT (tOrM a b) := ⟨fun {σ d σ'} h => by
  unfold tOrM at h
  split at h
  · rename_i h1
    cases h
    exact KeepT.keep h1
  · rename_i h1
    exact (KeepT.keep h).trans (KeepT.keep h1)
  · cases h⟩
instance {a : MT} [KeepT a] : KeepT (tNotM a) := ⟨fun {σ d σ'} h => by
  unfold tNotM at h
  split at h
  · rename_i h1
    cases h
    exact KeepT.keep h1
  · cases h⟩
instance {a : M} [KeepM a] : KeepT (Py.tB a) := ⟨fun {σ d σ'} h => by
  unfold Py.tB at h
  split at h
  · rename_i h1
    cases h
    exact KeepM.keep h1
  · cases h⟩
instance {a : M} [KeepM a] : KeepT (tVal a) := ⟨fun {σ d σ'} h => by
  unfold tVal at h
  split at h
  · rename_i h1
    split at h
    · cases h
      exact KeepM.keep h1
    · cases h
  · cases h⟩
instance {c : MT} {a b : M} [KeepT c] [KeepM a] [KeepM b] : KeepM (mIf c a b) := ⟨fun {σ d σ'} h => by
  unfold mIf at h
  split at h
  · rename_i h1
    exact (KeepM.keep h).trans (KeepT.keep h1)
  · rename_i h1
    exact (KeepM.keep h).trans (KeepT.keep h1)
  · cases h⟩
/-- a pure int -/
def nInt (m : M) (σ : Sg) : Option Int := match m σ with
  | some (.int n, _) => some n
  | _ => none
/-- a path: the places from the slot's own list down -/
abbrev MP := Sg → Option (List Nat)
def pRoot (r : Nat) : MP := fun σ => match σ[r]? with
  | some (some _) => some []
  | _ => none
def pIx (r : Nat) (p : MP) (n : M) : MP := fun σ => match p σ with
  | some js => (match σ[r]? with
    | some (some d) => (match dAt d js with
      | some (.lst .own xs) => (match nInt n σ with
        | some i => (match ixN xs.length i with
          | some j => some (js ++ [j])
          | none => none)
        | none => none)
      | _ => none)
    | _ => none)
  | none => none
structure SPt (X : Cx) (e : Expr) (r : Nat) (mp : MP) : Prop where
  run : ∀ {ρ : L2.St} {H : Hp} {σ : Sg} {T : List (V × D)} {js : List Nat} {Q : VK}, Ok X.K H ρ σ T → mp σ = some js →
    (∀ w H', Same H H' → Ok X.K H' ρ σ T → (∀ v, ρ[r]? = some (some v) → Walk H' v js w) → Q w H') → semE X e ρ H Q
section
variable {X : Cx} {e1 e2 : Expr} {a c : M} {pos : Pos} {r : Nat} {mp : MP}
theorem int_run {m : M} [KeepM m] (h : SE false X e1 m) {ρ : L2.St} {H : Hp} {σ : Sg} {T : List (V × D)} {n : Int} {Q : VK} (ok : Ok X.K H ρ σ T) (e : nInt m σ = some n) (q : ∀ H', Same H H' → Ok X.K H' ρ σ T → Q (.int n) H') : semE X e1 ρ H Q := by
  unfold nInt at e
  split at e
  · rename_i h1
    cases e
    have k := KeepM.keep h1
    subst k
    refine semE_mono (h.run ok (fun z => nomatch z) h1) fun v H' p => ?_
    have ev := World.int_of (L := T ++ sl ρ _) p.ok.w
    subst ev
    exact q H' (p.sm rfl) p.ok.tail
  · cases e
theorem sp_name {x : Str} (hN : X.N[r]? = some x := by rfl) (hv : Vis X.env.scope x := by first | exact Or.inl rfl | exact Or.inr (Or.inl rfl) | exact Or.inr (Or.inr rfl)) (hd : (x == ("__debug__" : Str)) = false := by decide)
    (hcd : (x == ("__classdict__" : Str)) = false := by decide) : SPt X (.Name x pos) r (pRoot r) := ⟨fun {ρ H σ T js Q} ok h q => by
  unfold pRoot at h
  split at h
  · rename_i d hd0
    cases h
    obtain ⟨v, hv'⟩ := ok.al r d hd0
    exact pe_sem (pe_var hN hv hd hcd) ⟨v, hv', q v H (Same.refl _) ok fun v' e => by rw [hv'] at e; cases e; rfl⟩
  · cases h⟩
theorem Ok.walkAt {K : PySem.W.Frag} {H : Hp} {ρ : L2.St} {σ : Sg} {T : List (V × D)} {d : D} {v w : V} {js : List Nat} {xs : List D} (ok : Ok K H ρ σ T) (hσ : σ[r]? = some (some d)) (hρ : ρ[r]? = some (some v)) (hd : dAt d js = some (.lst .own xs)) (hw : Walk H v js w) : ∃ p vs, w = .ref p ∧ H p = some (.lst vs) ∧ vs.length = xs.length := by
  obtain ⟨v', e, ok'⟩ := ok.take hσ
  rw [hρ] at e
  cases e
  exact World.walkAt (L := T ++ sl ρ (σ.set r none)) ok'.w hd hw
theorem sp_ix [KeepM c] (hp : SPt X e1 r mp) (hc : SE false X e2 c) (hs : PlainIx e2 := by exact fun _ _ => rfl) : SPt X (.Subscript e1 e2 pos) r (pIx r mp c) := ⟨fun {ρ H σ T js Q} ok h q => by
  unfold pIx at h
  split at h
  · rename_i js0 h0
    split at h
    · rename_i d hd
      split at h
      · rename_i xs hx
        split at h
        · rename_i n hn
          split at h
          · rename_i j hj
            cases h
            refine pe_sem (pe_ix ix_list peS peS hs) ?_
            refine hp.run ok h0 fun w H1 s1 ok1 wk => ?_
            refine int_run hc ok1 hn fun H2 s2 ok2 => ?_
            obtain ⟨v, hv⟩ := ok.al r d hd
            obtain ⟨p, vs, rfl, hp2, hl⟩ := ok2.walkAt hd hv hx ((wk v hv).same s2)
            have hj2 : j < vs.length := by
              have := (ixN_seq hj).2.1
              omega
            refine ⟨p, vs, n, vs[j], rfl, rfl, .of hp2, ?_, q _ H2 (s1.trans s2) ok2 fun v' e => ?_⟩
            · unfold atI
              rw [hl, hj]
              exact List.getElem?_eq_getElem hj2
            · rw [hv] at e
              cases e
              exact Walk.snoc hp2 (List.getElem?_eq_getElem hj2) ((wk v hv).same s2)
          · cases h
        · cases h
      · cases h
    · cases h
  · cases h⟩
/-! ### what is put -/
mutual
theorem noVw_put : ∀ {d : D} {js : List Nat} {e : D}, d.noVw = true → e.noVw = true → (dPut d js e).noVw = true
  | d, [], e, _, he => he
  | .lst .own xs, j :: js, e, hd, he => by
    simp only [dPut]
    split
    · rename_i x hx
      exact noVws_set hd (noVw_put (noVws_mem (xs := xs) hd (List.mem_of_getElem? hx)) he) j
    · exact hd
  | .non, _ :: _, _, hd, _ => hd
  | .bl _, _ :: _, _, hd, _ => hd
  | .int _, _ :: _, _, hd, _ => hd
  | .str _, _ :: _, _, hd, _ => hd
  | .tup _, _ :: _, _, hd, _ => hd
  | .lst .frz _, _ :: _, _, hd, _ => hd
  | .lst .vw _, _ :: _, _, hd, _ => hd
  | .lst .scr _, _ :: _, _, hd, _ => hd
theorem noVws_set : ∀ {xs : List D} {d : D}, noVws xs = true → d.noVw = true → ∀ j : Nat, noVws (xs.set j d) = true
  | [], _, h, _, _ => h
  | x :: xs, d, h, hd, 0 => by
    simp only [noVws, List.set, Bool.and_eq_true] at h ⊢
    exact ⟨hd, h.2⟩
  | x :: xs, d, h, hd, j + 1 => by
    simp only [noVws, List.set, Bool.and_eq_true] at h ⊢
    exact ⟨h.1, noVws_set h.2 hd j⟩
end
theorem dAt_noVw : ∀ {js : List Nat} {d x : D}, d.noVw = true → dAt d js = some x → x.noVw = true
  | [], d, x, h, e => by cases e; exact h
  | j :: js, d, x, h, e => by
    match d, h, e with
    | .lst .own ds, h, e =>
      simp only [dAt] at e
      split at e
      · rename_i y hy
        exact dAt_noVw (noVws_mem (xs := ds) h (List.mem_of_getElem? hy)) e
      · cases e
/-- the list at a path of slot r, changed by f (which takes in the new items es) -/
def upAt (r : Nat) (js : List Nat) (f : List D → Option (List D)) (σ : Sg) : Option Sg := match σ[r]? with
  | some (some d) => (match dAt d js with
    | some (.lst .own xs) => (match f xs with
      | some xs' => some (σ.set r (some (dPut d js (.lst .own xs'))))
      | none => none)
    | _ => none)
  | _ => none
theorem upAt_run {K : PySem.W.Frag} {H : Hp} {ρ : L2.St} {σ σ' : Sg} {T : List (V × D)} {js : List Nat} {w : V} {ws : List V} {es : List D} {f : List D → Option (List D)} (hl : ws.length = es.length) (ok : Ok K H ρ σ (ws.zip es ++ T)) (nv : NV σ) (nt : NT (ws.zip es ++ T)) (wk : ∀ v, ρ[r]? = some (some v) → Walk H v js w) (h : upAt r js f σ = some σ')
    (hnv : ∀ xs xs', f xs = some xs' → noVws xs = true → noVws xs' = true) :
    ∃ p vs xs xs', w = .ref p ∧ H p = some (.lst vs) ∧ vs.length = xs.length ∧ f xs = some xs' ∧ NV σ' ∧
      ∀ vs', (∀ (Z : Addr → Prop) (g k : List Addr), Reps K Z H vs xs g → Reps K Z H ws es k → (g ++ k).Nodup → ∃ h, Reps K Z H vs' xs' h ∧ h.Nodup ∧ ∀ b ∈ h, b ∈ g ++ k) → Ok K (upd H p (.lst vs')) ρ σ' T := by
  unfold upAt at h
  split at h
  · rename_i d hd
    split at h
    · rename_i xs hx
      split at h
      · rename_i xs' hf
        cases h
        obtain ⟨v, hv⟩ := ok.al r d hd
        obtain ⟨p, vs, rfl, hp, hl2⟩ := ok.walkAt hd hv hx (wk v hv)
        obtain ⟨v', e, ok1⟩ := ok.take hd
        rw [hv] at e
        cases e
        have nd := nv r d hd
        have nx : noVws xs = true := dAt_noVw nd hx
        have nv1 : NV (σ.set r none) := nv.set fun _ e => nomatch e
        have nL : ∀ q ∈ T ++ sl ρ (σ.set r none), q.2.noVw = true := NT.all nv1 nt.drops
        have w1 : World K H ((v, d) :: (ws.zip es ++ (T ++ sl ρ (σ.set r none)))) := by
          have q := ok1.w
          rw [← List.append_assoc]
          exact q
        obtain ⟨vs2, hp2, hl3, hput⟩ := w1.putPath hl nd (nv_zip hl nt) nL hx (wk v hv)
        rw [hp] at hp2
        cases hp2
        have nx' := hnv xs xs' hf nx
        refine ⟨p, vs, xs, xs', rfl, hp, hl2, hf, nv.set fun d' e => by cases e; exact noVw_put nd nx', fun vs' hr => ?_⟩
        have w2 := hput vs' xs' nx' hr
        have ok2 : Ok K (upd H p (.lst vs')) ρ (σ.set r none) ((v, dPut d js (.lst .own xs')) :: T) := ⟨ok1.len, ok1.al, w2⟩
        have ok3 := Ok.back ok2 hv
        rw [List.set_set] at ok3
        exact ok3
      · cases h
    · cases h
  · cases h
/-! ### path[i] = .. -/
def gSubM (r : Nat) (mp : MP) (n : M) : MG := fun d σ => match mp σ with
  | some js => (match nInt n σ with
    | some i => upAt r js (fun xs => (ixN xs.length i).map fun j => xs.set j d) σ
    | none => none)
  | none => none
theorem nodup_sub {α : Type} {l m : List α} (h : l.Sublist m) (n : m.Nodup) : l.Nodup := n.sublist h
theorem rep_set {K : PySem.W.Frag} {Z : Addr → Prop} {H : Hp} {vs : List V} {xs : List D} {v : V} {d : D} {j : Nat} (hj : j < xs.length) {f g : List Addr} (rf : Reps K Z H vs xs f) (rg : Reps K Z H [v] [d] g) (nd : (f ++ g).Nodup) : ∃ h, Reps K Z H (vs.set j v) (xs.set j d) h ∧ h.Nodup ∧ ∀ b ∈ h, b ∈ f ++ g := by
  obtain ⟨v0, vr, g1, g2, e, rfl, rd, t⟩ := rg.inv_cons
  cases e
  obtain ⟨_, rfl⟩ := t.inv_nil
  obtain ⟨pre, old, post, rfl, r'⟩ := rf.setAt hj rd
  refine ⟨_, r', ?_, fun b m => ?_⟩
  · have p : List.Perm (pre ++ g1 ++ post) (pre ++ post ++ g1) := by
      rw [List.append_assoc, List.append_assoc]
      exact List.Perm.append_left _ List.perm_append_comm
    refine p.nodup_iff.mpr (nodup_sub ?_ nd)
    rw [List.append_nil]
    refine List.Sublist.append ?_ (List.Sublist.refl _)
    rw [List.append_assoc]
    exact List.Sublist.append (List.Sublist.refl _) (List.sublist_append_right _ _)
  · simp only [List.mem_append, List.append_nil] at m ⊢
    rcases m with (m | m) | m
    · exact .inl (.inl (.inl m))
    · exact .inr m
    · exact .inl (.inr m)
theorem sg_sub [KeepM c] (hp : SPt X e1 r mp) (hc : SE false X e2 c)
    (ha : ∀ v, assign (.Subscript e1 e2 pos) X.env v = (do
      let ov ← holding [v] (eval e1 X.env)
      let iv ← holding [v, ov] (eval e2 X.env)
      standAt pos
      holding [v, ov, iv] (setItem ov iv v)
      release [v, ov, iv] []) := by intro _; rfl) : SG X (.Subscript e1 e2 pos) [] (gSubM r mp c) := ⟨fun {ρ H σ T v d σ' Q} ok nv nt h q => by
  unfold gSubM at h
  split at h
  · rename_i js hjs
    split at h
    · rename_i i hi
      refine pg_sem (pg_sub peS peS set_list ha) ?_
      refine hp.run ok hjs fun w H1 s1 ok1 wk => ?_
      refine int_run hc ok1 hi fun H2 s2 ok2 => ?_
      have nd : d.noVw = true := nt.head
      obtain ⟨p, vs, xs, xs', rfl, hp2, hl, hf, nv', fin⟩ := upAt_run (T := T) (ws := [v]) (es := [d]) rfl ok2 nv nt (fun v' e => (wk v' e).same s2) h (fun xs xs' e n => by
        cases q : ixN xs.length i with
        | none => rw [q] at e; cases e
        | some j => rw [q] at e; cases e; exact noVws_set n nd j)
      cases q2 : ixN xs.length i with
      | none => rw [q2] at hf; cases hf
      | some j =>
        rw [q2] at hf
        cases hf
        refine ⟨p, vs, i, j, rfl, rfl, hp2, by rw [hl]; exact q2, q ρ _ .refl (fin (vs.set j v) fun Z f g rf rg nd => rep_set (ixN_seq q2).2.1 rf rg nd) nv'⟩
    · cases h
  · cases h⟩
/-! ### path.append(e) -/
def sApp (r : Nat) (m : M) : MS := fun σ => match m σ with
  | some (d, σ1) => (match upAt r [] (fun xs => if xs.length < 16777216 then some (xs ++ [d]) else none) σ1 with
    | some σ2 => some (.nx, σ2)
    | none => none)
  | none => none
def sAppN (r : Nat) (m : M) : MS := fun σ => match σ[r]? with
  | some (some (.lst .own _)) => sApp r m σ
  | _ => none
def sAppP (r : Nat) (mp : MP) (m : M) : MS := fun σ => match mp σ with
  | some js => (match m σ with
    | some (d, _) => if d.noVw = true then (match upAt r js (fun xs => if xs.length < 16777216 then some (xs ++ [d]) else none) σ with
        | some σ2 => some (.nx, σ2)
        | none => none) else none
    | none => none)
  | none => none
theorem app_nv {d : D} (nd : d.noVw = true) (xs xs' : List D) (e : (if xs.length < 16777216 then some (xs ++ [d]) else none) = some xs') (n : noVws xs = true) : noVws xs' = true := by
  split at e <;> cases e
  rw [noVws_append, n]
  simp [noVws, nd]
abbrev appE (e1 e2 : Expr) (apos cpos : Pos) : Expr := .Call (.Attribute e1 "append" apos) [e2] [] cpos
theorem pe_append {xs e : Expr} {tx te : TE} {apos cpos : Pos} (hx : PE X xs tx) (he : PE X e te) (hbase : attributeBase xs "append" X.env (eval xs X.env) = eval xs X.env := by rfl)
    (hfew : ((backTo cpos (starEach [e] X.env)).all (fun x => !x.1) && (backToKw cpos (keywordEach [] X.env)).all (fun x => x.1.isSome)
      && decide (([e] : List Expr).length + ([] : List Keyword).length + (if ([] : List Keyword).isEmpty then 0 else 1) < 30)) = true := by rfl)
    (hline : (apos.endLine == cpos.line) = true := by rfl) (hs : starEach [e] X.env = (false, eval e X.env) :: starEach [] X.env := by rfl) (hplain : (backTo cpos (starEach [] X.env)).any (·.1) = false := by rfl) :
    PE X (appE xs e apos cpos) (tBM X.K "list" rAppend tx (tCons te tNil)) :=
  pe_bm PySem.F.plainAttrs_list PySem.F.slot_list_append PySem.F.type_list_append mt_append hx (pa_cons he pa_nil hs) hbase hfew hline hs hplain
theorem ss_app {x : Str} {p0 apos cpos : Pos} (he : SE true X e2 a) (hN : X.N[r]? = some x := by rfl) (hv : Vis X.env.scope x := by first | exact Or.inl rfl | exact Or.inr (Or.inl rfl) | exact Or.inr (Or.inr rfl)) (hd : (x == ("__debug__" : Str)) = false := by decide)
    (hcd : (x == ("__classdict__" : Str)) = false := by decide) (hbase : attributeBase (.Name x p0) "append" X.env (eval (.Name x p0) X.env) = eval (.Name x p0) X.env := by rfl)
    (hfew : ((backTo cpos (starEach [e2] X.env)).all (fun x => !x.1) && (backToKw cpos (keywordEach [] X.env)).all (fun x => x.1.isSome)
      && decide (([e2] : List Expr).length + ([] : List Keyword).length + (if ([] : List Keyword).isEmpty then 0 else 1) < 30)) = true := by rfl)
    (hline : (apos.endLine == cpos.line) = true := by rfl) (hs : starEach [e2] X.env = (false, eval e2 X.env) :: starEach [] X.env := by rfl) (hplain : (backTo cpos (starEach [] X.env)).any (·.1) = false := by rfl)
    (hsw : swapsWith (appE (.Name x p0) e2 apos cpos) none pos.line X.env = pure false := by rfl) :
    SS X (.Expr (appE (.Name x p0) e2 apos cpos) pos) [] (sAppN r a) := ⟨fun {ρ H σ T f σ' E} ok nv nt h F => by
  unfold sAppN at h
  split at h
  · rename_i xs0 hr0
    unfold sApp at h
    split at h
    · rename_i d σ1 h1
      split at h
      · rename_i σ2 h2
        cases h
        refine ps_sem (ps_expr (pe_append (pe_var hN hv hd hcd) peS hbase hfew hline hs hplain) hsw) ?_
        obtain ⟨v, hv', ok0⟩ := ok.take hr0
        obtain ⟨p0, vs0, rfl, _, _, hp0, _⟩ := World.openL (L := T ++ sl ρ (σ.set r none)) ok0.w
        refine ⟨.ref p0, hv', .inl ⟨rfl, vs0, .of (hp0 (by decide))⟩, ?_⟩
        refine semE_mono (he.run ok (cdT nv nt) h1) fun w H1 p1 => ?_
        obtain ⟨p, vs, xs, xs', e, hp, hl, hf, nv', fin⟩ := upAt_run (T := T) (ws := [w]) (es := [d]) (w := .ref p0) rfl p1.ok p1.nvt.1 p1.nvt.2 (fun v' e => by rw [hv'] at e; cases e; rfl) h2 (app_nv p1.nvt.2.head)
        cases e
        split at hf <;> cases hf
        rename_i hz
        refine ⟨p0, vs, w, rfl, rfl, hp, by rw [hl, sizeLine_eq]; exact hz, ?_⟩
        exact F ρ _ .refl (fin (vs ++ [w]) fun Z f g rf rg nd => ⟨_, rf.append rg, nd, fun b m => m⟩) nv'
      · cases h
    · cases h
  · cases h⟩
theorem ss_appP {apos cpos : Pos} [KeepM c] (hp : SPt X e1 r mp) (he : SE false X e2 c) (hbase : attributeBase e1 "append" X.env (eval e1 X.env) = eval e1 X.env := by rfl)
    (hfew : ((backTo cpos (starEach [e2] X.env)).all (fun x => !x.1) && (backToKw cpos (keywordEach [] X.env)).all (fun x => x.1.isSome)
      && decide (([e2] : List Expr).length + ([] : List Keyword).length + (if ([] : List Keyword).isEmpty then 0 else 1) < 30)) = true := by rfl)
    (hline : (apos.endLine == cpos.line) = true := by rfl) (hs : starEach [e2] X.env = (false, eval e2 X.env) :: starEach [] X.env := by rfl) (hplain : (backTo cpos (starEach [] X.env)).any (·.1) = false := by rfl)
    (hsw : swapsWith (appE e1 e2 apos cpos) none pos.line X.env = pure false := by rfl) : SS X (.Expr (appE e1 e2 apos cpos) pos) [] (sAppP r mp c) := ⟨fun {ρ H σ T f σ' E} ok nv nt h F => by
  unfold sAppP at h
  split at h
  · rename_i js hjs
    split at h
    · rename_i d σ1 h1
      split at h
      · rename_i nd
        split at h
        · rename_i σ2 h2
          cases h
          refine ps_sem (ps_expr (pe_append peS peS hbase hfew hline hs hplain) hsw) ?_
          have k := KeepM.keep h1
          subst k
          refine hp.run ok hjs fun w H1 s1 ok1 wk => ?_
          -- what stands there
          have h2' := h2
          unfold upAt at h2'
          split at h2'
          · rename_i d0 hd0
            split at h2'
            · rename_i xs0 hx0
              obtain ⟨v0, hv0⟩ := ok.al r d0 hd0
              obtain ⟨p0, vs0, rfl, hp0, _⟩ := ok1.walkAt hd0 hv0 hx0 (wk v0 hv0)
              refine ⟨.inl ⟨rfl, vs0, .of hp0⟩, ?_⟩
              refine semE_mono (he.run ok1 (fun z => nomatch z) h1) fun u H2 p2 => ?_
              obtain ⟨p, vs, xs, xs', e, hp2, hl, hf, nv', fin⟩ := upAt_run (T := T) (ws := [u]) (es := [d]) (w := .ref p0) rfl p2.ok nv (nt.cons nd) (fun v' e => (wk v' e).same (p2.sm rfl)) h2 (app_nv nd)
              cases e
              split at hf <;> cases hf
              rename_i hz
              refine ⟨p0, vs, u, rfl, rfl, hp2, by rw [hl, sizeLine_eq]; exact hz, ?_⟩
              exact F ρ _ .refl (fin (vs ++ [u]) fun Z f g rf rg nd => ⟨_, rf.append rg, nd, fun b m => m⟩) nv'
            · cases h2'
          · cases h2'
        · cases h
      · cases h
    · cases h
  · cases h⟩
end
end Py
/-! Layer «Py», part K: defs and their calls. -/
namespace Py
open PySem PySem.Spec PyProof.Rows L2

abbrev Fn := List D → Option (D × Sg)
/-- what a def does: N names, the body's meaning -/
def fnD (N : Nat) (m : MS) : Fn := fun ds => match m (ds.map some ++ List.replicate (N - ds.length) none) with
  | some (.rt d, σ) => some (d, σ)
  | some (.nx, σ) => some (.non, σ)
  | _ => none
/-- the arguments' own places as the def leaves them (it does not store to their names) -/
def kept (ws : List Nat) : Nat → List V → Sg → List (V × D)
  | i, v :: vs, o :: σ => (if i ∈ ws then [] else match o with
    | some d => [(v, d)]
    | none => []) ++ kept ws (i + 1) vs σ
  | _, _, _ => []
def spOf (K : PySem.W.Frag) (n : Nat) (ws : List Nat) (fn : Fn) : Sp := fun vs H Q _ => vs.length = n ∧ ∃ ds T r σ', vs.length = ds.length ∧ World K H (vs.zip ds ++ T) ∧ NT (vs.zip ds ++ T) ∧ fn ds = some (r, σ') ∧
  ∀ v H', World K H' ((v, r) :: (kept ws 0 vs σ' ++ T)) → r.noVw = true → NV σ' → Q v H'
section
variable {K : PySem.W.Frag} {H : Hp}
theorem kept_sub {ws : List Nat} : ∀ {vs : List V} {σ : Sg} {ρ : L2.St} {i : Nat}, (∀ j, j < vs.length → i + j ∉ ws → ρ[j]? = (vs[j]?).map some) → (kept ws i vs σ).Sublist (sl ρ σ)
  | [], σ, ρ, i, _ => by simp [kept]
  | v :: vs, [], ρ, i, _ => by simp [kept]
  | v :: vs, o :: σ, ρ, i, h => by
    cases ρ with
    | nil =>
      -- every name is stored to
      have e : ∀ (vs : List V) (σ : Sg) (i : Nat), (∀ j, j < vs.length → i + j ∉ ws → ([] : L2.St)[j]? = (vs[j]?).map some) → kept ws i vs σ = [] := by
        intro vs
        induction vs with
        | nil => intro σ i _; simp [kept]
        | cons v vs ih =>
          intro σ i h
          cases σ with
          | nil => simp [kept]
          | cons o σ =>
            have hi : i ∈ ws := by
              by_cases q : i ∈ ws
              · exact q
              · have := h 0 (by simp) (by simpa using q)
                simp at this
            simp only [kept, if_pos hi, List.nil_append]
            refine ih σ (i + 1) fun j hj n => ?_
            have := h (j + 1) (by simpa using hj) (by rw [show i + (j + 1) = i + 1 + j by omega]; exact n)
            simpa using this
      rw [e _ _ _ h]
      simp
    | cons x ρ =>
      have ih := kept_sub (ws := ws) (vs := vs) (σ := σ) (ρ := ρ) (i := i + 1) fun j hj n => by
        have := h (j + 1) (by simpa using hj) (by rw [show i + (j + 1) = i + 1 + j by omega]; exact n)
        simpa using this
      by_cases hi : i ∈ ws
      · simp only [kept, if_pos hi, List.nil_append]
        cases x with
        | none => cases o <;> exact ih
        | some x => cases o with
          | none => exact ih
          | some d => exact ih.trans (List.sublist_cons_self _ _)
      · have e0 := h 0 (by simp) (by simpa using hi)
        have e : x = some v := by simpa using e0
        subst e
        simp only [kept, if_neg hi]
        cases o with
        | none => exact ih
        | some d => exact ih.cons_cons _
theorem start_get {N : List Str} {vs : List V} {j : Nat} (h : j < vs.length) : (L2.start N vs)[j]? = (vs[j]?).map some := by
  unfold L2.start
  rw [List.getElem?_append_left (by simpa using h), List.getElem?_map]
theorem sl_start : ∀ {vs : List V} {ds : List D} {k k' : Nat}, vs.length = ds.length → sl (vs.map some ++ List.replicate k none) (ds.map some ++ List.replicate k' none) = vs.zip ds
  | [], [], k, k', _ => by
    have e : ∀ (ρ : L2.St) (k' : Nat), sl ρ (List.replicate k' none) = [] := by
      intro ρ
      induction ρ with
      | nil => intro k'; cases k' <;> rfl
      | cons a ρ ih =>
        intro k'
        cases k' with
        | zero => cases a <;> rfl
        | succ k' => cases a <;> exact ih k'
    exact e _ _
  | [], _ :: _, _, _, h => by simp at h
  | _ :: _, [], _, _, h => by simp at h
  | v :: vs, d :: ds, k, k', h => congrArg ((v, d) :: ·) (sl_start (vs := vs) (ds := ds) (by simpa using h))
theorem ok_start {N : List Str} {vs : List V} {ds : List D} {T : List (V × D)} (hl : vs.length = ds.length) (w : World K H (vs.zip ds ++ T)) : Ok K H (L2.start N vs) (ds.map some ++ List.replicate (N.length - ds.length) none) T where
  len := by unfold L2.start; simp [hl]
  al := fun i d h => by
    have hi : i < ds.length := by
      by_cases q : i < ds.length
      · exact q
      · rw [List.getElem?_append_right (by simpa using q)] at h
        simp [List.getElem?_replicate] at h
    have hv : i < vs.length := by omega
    exact ⟨vs[i], by rw [start_get hv, List.getElem?_eq_getElem hv]; rfl⟩
  w := by
    unfold L2.start
    rw [sl_start hl]
    exact w.perm List.perm_append_comm
theorem nv_start {ds : List D} (h : noVws ds = true) (k : Nat) : NV (ds.map some ++ List.replicate k none) := fun i d e => by
  by_cases q : i < ds.length
  · rw [List.getElem?_append_left (by simpa using q), List.getElem?_map, List.getElem?_eq_getElem q] at e
    cases e
    exact noVws_mem h (List.getElem_mem q)
  · rw [List.getElem?_append_right (by simpa using q)] at e
    simp [List.getElem?_replicate] at e
theorem nv_zip0 {vs : List V} {ds : List D} {T : List (V × D)} (hl : vs.length = ds.length) (t : NT (vs.zip ds ++ T)) : noVws ds = true := nv_zip hl t
end
section
variable {P : Program} {w : PySem.World} {K : PySem.W.Frag} {mg : Str → Option Value} {base : Heap} {x qual : Str} {params : Arguments} {body : List Stmt} {scope : Scope} {f : Addr} {fd : FuncData}
/-- a def keeps the promise that it does what its body means -/
theorem fn_ok {N ps : List Str} {k : Nat} {ws : List Nat} {m : MS} (F : FunD K x qual params body scope [] [] f fd) (S : FnScope N ps scope)
    (hb : ∀ (cdv : Value) (A : Around) (outer : List Env) (s : Shared) (H : Hp) (E : XK), Room k (A.deeper (envOfC qual scope s.heap.objs.size f cdv)) → SSs (cxOf CX0 P w K mg base N qual scope f cdv A outer s H E).nox body ws m) :
    FnOk P w K mg base CX0 (k + 1) f fd ps (spOf K ps.length ws (fnD N.length m)) := by
  refine F.ok S (fun vs H Q E h => h.1) (fun cdv A outer s H vs Q E hr h => ⟨_, PSs.nox pssS, ?_⟩)
  obtain ⟨hn, ds, T, r, σ', hl, hw, nt, hf, q⟩ := h
  have SB := hb cdv A outer s H E hr
  have ok := ok_start (K := K) (N := N) hl hw
  have nd := nv_zip hl nt
  have nv := nv_start nd (N.length - ds.length)
  have fin : ∀ {d : D} {σ1 : Sg} {v : V} {ρ' : L2.St} {H' : Hp}, Kp ws (L2.start N vs) ρ' → Ok K H' ρ' σ1 ((v, d) :: T) → World K H' ((v, d) :: (kept ws 0 vs σ1 ++ T)) := fun {d σ1 v ρ' H'} kp ok' => by
    have sub := kept_sub (ws := ws) (vs := vs) (σ := σ1) (ρ := ρ') (i := 0) fun j hj n => by
      rw [kp.keep j (by simpa using n), start_get hj]
    have w1 : World K H' ((v, d) :: (T ++ sl ρ' σ1)) := ok'.w
    have w2 := w1.perm ((List.perm_append_comm (l₁ := T) (l₂ := sl ρ' σ1)).cons (v, d))
    exact w2.sub (((sub.append (List.Sublist.refl T))).cons_cons (v, d))
  unfold fnD at hf
  split at hf
  · rename_i d σ1 hm
    cases hf
    exact SB.run (f := .rt r) ok nv nt.drops hm fun v ρ' H' kp ok' nv' hr' => q v H' (fin kp ok') hr' nv'
  · rename_i σ1 hm
    cases hf
    exact SB.run (f := .nx) ok nv nt.drops hm fun ρ' H' kp ok' nv' => q .non H' (fin kp ⟨ok'.len, ok'.al, World.non ok'.w⟩) rfl nv'
  · cases hf
end
/-! ### arguments, some of them lent -/
/-- the value of a slot as an argument: taken out if it holds lists of its own -/
def mLend (i : Nat) : M := fun σ => match σ[i]? with
  | some (some d) => if d.noOwn = true then some (d, σ) else some (d, σ.set i none)
  | _ => none
structure SL (X : Cx) (es : List Expr) (ld : List (Option Nat)) (m : MA) : Prop where
  run : ∀ {ρ : L2.St} {H : Hp} {σ : Sg} {T : List (V × D)} {ds : List D} {σ' : Sg}, Ok X.K H ρ σ T → NV σ → NT T → m σ = some (ds, σ') → semA X es ρ H fun vs H' => vs.length = ds.length ∧ ld.length = ds.length ∧ (∀ (j i : Nat) (v : V), ld[j]? = some (some i) → vs[j]? = some v → ρ[i]? = some (some v)) ∧ Pst X.K true H ρ σ σ' T (vs.zip ds) H'
section
variable {X : Cx} {e1 : Expr} {es : List Expr} {a : M} {ma : MA} {ld : List (Option Nat)} {pos : Pos}
theorem sl_nil : SL X [] [] aNil := ⟨fun ok nv nt h => by cases h; exact pa_sem pa_nil ⟨rfl, rfl, (fun j i v h => by simp at h), ok, cdT nv nt, id, fun e => nomatch e⟩⟩
theorem sl_val (ha : SE true X e1 a) (hr : SL X es ld ma) (hs : starEach (e1 :: es) X.env = (false, eval e1 X.env) :: starEach es X.env := by rfl) : SL X (e1 :: es) (none :: ld) (aCons a ma) := ⟨fun {ρ H σ T d σ'} ok nv nt h => by
  unfold aCons at h
  split at h
  · rename_i x σ1 h1
    split at h
    · rename_i xs σ2 h2
      cases h
      refine pa_sem (pa_cons peS paS hs) ?_
      refine semE_mono (ha.run ok (cdT nv nt) h1) fun v H1 p1 => ?_
      refine semA_mono (hr.run p1.ok p1.nvt.1 p1.nvt.2 h2) fun vs H2 ⟨hl, hl2, hld, p2⟩ => ?_
      have pp : List.Perm (vs.zip xs ++ ([(v, x)] ++ T)) ((v :: vs).zip (x :: xs) ++ T) := by
        show List.Perm (vs.zip xs ++ (v, x) :: T) ((v, x) :: (vs.zip xs ++ T))
        exact List.perm_middle
      refine ⟨by simp [hl], by simp [hl2], fun j i v' h1' h2' => ?_, Ok.temps p2.ok fun L w => w.perm (pp.append_right L), fun e => ⟨p2.nvt.1, fun q m => p2.nvt.2 q (pp.mem_iff.mpr m)⟩, fun n => p2.nv (p1.nv n), fun e => nomatch e⟩
      cases j with
      | zero => simp at h1'
      | succ j => exact hld j i v' (by simpa using h1') (by simpa using h2')
    · cases h
  · cases h⟩
theorem sl_lend {i : Nat} {x : Str} {p : Pos} (hr : SL X es ld ma) (hN : X.N[i]? = some x := by rfl) (hv : Vis X.env.scope x := by first | exact Or.inl rfl | exact Or.inr (Or.inl rfl) | exact Or.inr (Or.inr rfl)) (hd : (x == ("__debug__" : Str)) = false := by decide)
    (hcd : (x == ("__classdict__" : Str)) = false := by decide) (hs : starEach (.Name x p :: es) X.env = (false, eval (.Name x p) X.env) :: starEach es X.env := by rfl) : SL X (.Name x p :: es) (some i :: ld) (aCons (mLend i) ma) := ⟨fun {ρ H σ T d σ'} ok nv nt h => by
  unfold aCons at h
  split at h
  · rename_i d0 σ1 h1
    split at h
    · rename_i xs σ2 h2
      cases h
      refine pa_sem (pa_cons (pe_var hN hv hd hcd) paS hs) ?_
      unfold mLend at h1
      split at h1
      · rename_i d1 hd1
        obtain ⟨v, hv', okt⟩ := ok.take hd1
        have nd1 := nv i d1 hd1
        have both : ∃ (ok1 : Ok X.K H ρ σ1 ((v, d0) :: T)), d0 = d1 ∧ NV σ1 := by
          split at h1
          · rename_i no
            cases h1
            have ok2 := (okt.lift (T1 := [(v, d0)]) (T2 := [(v, d0), (v, d0)]) fun L w => World.dup no w)
            have ok3 := Ok.back (T := (v, d0) :: T) ok2 hv'
            have e : (σ.set i none).set i (some d0) = σ := by
              rw [List.set_set]
              obtain ⟨h1, h2⟩ := List.getElem?_eq_some_iff.mp hd1
              rw [← h2, List.set_getElem_self]
            rw [e] at ok3
            exact ⟨ok3, rfl, nv⟩
          · cases h1
            exact ⟨okt, rfl, nv.set fun _ e => nomatch e⟩
        obtain ⟨ok1, e0, nv1⟩ := both
        subst e0
        refine ⟨v, hv', ?_⟩
        refine semA_mono (hr.run ok1 nv1 (nt.cons nd1) h2) fun vs H2 ⟨hl, hl2, hld, p2⟩ => ?_
        have pp : List.Perm (vs.zip xs ++ ([(v, d0)] ++ T)) ((v :: vs).zip (d0 :: xs) ++ T) := by
          show List.Perm (vs.zip xs ++ (v, d0) :: T) ((v, d0) :: (vs.zip xs ++ T))
          exact List.perm_middle
        refine ⟨by simp [hl], by simp [hl2], fun j i' v' h1' h2' => ?_, Ok.temps p2.ok fun L w => w.perm (pp.append_right L), fun e => ⟨p2.nvt.1, fun q m => p2.nvt.2 q (pp.mem_iff.mpr m)⟩, fun n => p2.nvt.1, fun e => nomatch e⟩
        cases j with
        | zero =>
          simp at h1' h2'
          subst h1' h2'
          exact hv'
        | succ j => exact hld j i' v' (by simpa using h1') (by simpa using h2')
      · cases h1
    · cases h
  · cases h⟩
/-- what was lent comes back -/
def putB (ws : List Nat) : Nat → List (Option Nat) → Sg → Sg → Sg
  | j, some i :: r, o :: σc, σ => putB ws (j + 1) r σc (if j ∈ ws then σ else match σ[i]?, o with
    | some none, some d => σ.set i (some d)
    | _, _ => σ)
  | j, none :: r, _ :: σc, σ => putB ws (j + 1) r σc σ
  | _, _, _, σ => σ
theorem putB_ok {K : PySem.W.Frag} {H : Hp} {ρ : L2.St} {ws : List Nat} : ∀ {vs : List V} {ld : List (Option Nat)} {σc σ : Sg} {T : List (V × D)} {j : Nat}, (∀ (k i : Nat) (v : V), ld[k]? = some (some i) → vs[k]? = some v → ρ[i]? = some (some v)) → vs.length = ld.length → NV σc → NV σ → Ok K H ρ σ (kept ws j vs σc ++ T) → Ok K H ρ (putB ws j ld σc σ) T ∧ NV (putB ws j ld σc σ)
  | [], [], σc, σ, T, j, _, _, nc, nv, ok => by
    have e : kept ws j [] σc = [] := by simp [kept]
    rw [e] at ok
    have e2 : putB ws j [] σc σ = σ := by simp [putB]
    rw [e2]
    exact ⟨ok, nv⟩
  | [], _ :: _, _, _, _, _, _, h, _, _, _ => by simp at h
  | _ :: _, [], _, _, _, _, _, h, _, _, _ => by simp at h
  | v :: vs, l :: ld, [], σ, T, j, hld, hl, nc, nv, ok => by
    have e : kept ws j (v :: vs) [] = [] := by simp [kept]
    rw [e] at ok
    have e2 : putB ws j (l :: ld) [] σ = σ := by cases l <;> simp [putB]
    rw [e2]
    exact ⟨ok, nv⟩
  | v :: vs, l :: ld, o :: σc, σ, T, j, hld, hl, nc, nv, ok => by
    have nc' : NV σc := fun i d e => nc (i + 1) d e
    have hld' : ∀ (k i : Nat) (v : V), ld[k]? = some (some i) → vs[k]? = some v → ρ[i]? = some (some v) := fun k i v' a b => hld (k + 1) i v' a b
    have hl' : vs.length = ld.length := by simpa using hl
    simp only [kept] at ok
    rw [List.append_assoc] at ok
    cases l with
    | none =>
      simp only [putB]
      exact putB_ok (vs := vs) hld' hl' nc' nv (Ok.drops ok)
    | some i =>
      simp only [putB]
      have hv : ρ[i]? = some (some v) := hld 0 i v rfl rfl
      by_cases hj : j ∈ ws
      · rw [if_pos hj]
        rw [if_pos hj] at ok
        exact putB_ok (vs := vs) hld' hl' nc' nv ok
      · rw [if_neg hj]
        rw [if_neg hj] at ok
        split
        · rename_i d hσ
          have ok2 : Ok K H ρ σ ((v, d) :: (kept ws (j + 1) vs σc ++ T)) := ok
          exact putB_ok (vs := vs) hld' hl' nc' (nv.set fun d' e => by cases e; exact nc 0 d rfl) (Ok.back ok2 hv)
        · exact putB_ok (vs := vs) hld' hl' nc' nv (Ok.drops ok)
def mCall (ws : List Nat) (ld : List (Option Nat)) (fn : Fn) (ma : MA) : M := fun σ => match ma σ with
  | some (ds, σ1) => (match fn ds with
    | some (r, σc) => some (r, putB ws 0 ld σc σ1)
    | none => none)
  | none => none
theorem call_run {n : Nat} {ws : List Nat} {fn : Fn} (ha : SL X es ld ma) (hn : ld.length = n) {ρ : L2.St} {H : Hp} {σ : Sg} {T : List (V × D)} {d : D} {σ' : Sg} (ok : Ok X.K H ρ σ T) (nv : NV σ) (nt : NT T) (h : mCall ws ld fn ma σ = some (d, σ')) :
    semA X es ρ H fun vs H1 => spOf X.K n ws fn (vs ++ []) H1 (fun v H' => Pst X.K true H ρ σ σ' T [(v, d)] H') E0 := by
  unfold mCall at h
  split at h
  · rename_i ds σ1 h1
    split at h
    · rename_i r σc hf
      cases h
      refine semA_mono (ha.run ok nv nt h1) fun vs H1 ⟨hl, hl2, hld, p⟩ => ?_
      rw [List.append_nil]
      refine ⟨by omega, ds, T ++ sl ρ σ1, d, σc, hl, ?_, ?_, hf, fun v H' w hr nvc => ?_⟩
      · have q := p.ok.w
        rw [List.append_assoc] at q
        exact q
      · exact nt_zip (nv_zip hl p.nvt.2) fun q m => NT.all p.nvt.1 nt q m
      · have ok2 : Ok X.K H' ρ σ1 (kept ws 0 vs σc ++ ((v, d) :: T)) := ⟨p.ok.len, p.ok.al, by
          refine w.perm ?_
          rw [List.append_assoc]
          exact (List.perm_middle (l₁ := kept ws 0 vs σc) (l₂ := T ++ sl ρ σ1) (a := (v, d))).symm⟩
        obtain ⟨ok3, nv3⟩ := putB_ok hld (by omega) nvc p.nvt.1 ok2
        exact ⟨ok3, cdT nv3 (nt.cons hr), fun _ => nv3, fun e => nomatch e⟩
    · cases h
  · cases h
theorem se_call {x : Str} {p : Pos} {k : Nat} {f : Addr} {fd : FuncData} {ps : List Str} {ws : List Nat} {fn : Fn} (F : FnOk X.prog X.w X.K X.mg X.base CX0 k f fd ps (spOf X.K ps.length ws fn)) (hr : Room k X.A) (hg : Gl X x) (hm : X.mg x = some (.ref f)) (hk : PySem.W.keepIn X.K (.ref f) = true) (hb : Binds X.K fd ps [])
    (ha : SL X (e1 :: es) ld ma) (hn : ld.length = ps.length := by rfl) (hdb : (x == ("__debug__" : Str)) = false := by decide) (he : starEach (e1 :: es) X.env = (false, eval e1 X.env) :: starEach es X.env := by rfl) (hpl : (backTo pos (starEach es X.env)).any (·.1) = false := by rfl) :
    SE true X (.Call (.Name x p) (e1 :: es) [] pos) (mCall ws ld fn ma) := ⟨fun {ρ H σ T d σ'} ok cd h =>
  pe_sem (pe_call F hr hg hm hk hb .nil pass0 paS hdb he hpl) (call_run (n := ps.length) ha hn ok (cd rfl).1 (cd rfl).2 h)⟩
theorem se_call0 {x : Str} {p : Pos} {k : Nat} {f : Addr} {fd : FuncData} {ws : List Nat} {fn : Fn} (F : FnOk X.prog X.w X.K X.mg X.base CX0 k f fd [] (spOf X.K 0 ws fn)) (hr : Room k X.A) (hg : Gl X x) (hm : X.mg x = some (.ref f)) (hk : PySem.W.keepIn X.K (.ref f) = true) (hb : Binds X.K fd [] [])
    (hdb : (x == ("__debug__" : Str)) = false := by decide) :
    SE true X (.Call (.Name x p) [] [] pos) (mCall ws [] fn aNil) := ⟨fun {ρ H σ T d σ'} ok cd h => by
  refine pe_sem (pe_call0 F hr hg hm hk hb .nil pass0 hdb) ?_
  unfold mCall aNil at h
  simp only at h
  split at h
  · rename_i r σc hf
    cases h
    refine ⟨rfl, [], T ++ sl ρ σ, d, σc, rfl, ok.w, fun q m => NT.all (cd rfl).1 (cd rfl).2 q m, hf, fun v H' w hr nvc => ?_⟩
    have e : putB ws 0 [] σc σ = σ := by simp [putB]
    rw [e]
    have e2 : kept ws 0 [] σc = [] := by simp [kept]
    rw [List.append_nil, e2] at w
    exact ⟨⟨ok.len, ok.al, w⟩, cdT (cd rfl).1 ((cd rfl).2.cons hr), id, fun e => nomatch e⟩
  · cases h⟩
end
end Py
/-! Layer «Py», part L: list comprehensions. -/
namespace Py
open PySem PySem.Spec PyProof.Rows L2

/-- the slots of a block's own names forgotten -/
def wipeD (σ : Sg) : List Nat → Sg
  | [] => σ
  | v :: vs => (wipeD σ vs).set v none
/-- a slot as it stood in σ -/
def put1 (σ : Sg) (i : Nat) (τ : Sg) : Sg := match σ[i]? with
  | some o => τ.set i o
  | none => τ
/-- .. and put back as they stood in σ -/
def unwipe (σ : Sg) : List Nat → Sg → Sg
  | [], τ => τ
  | v :: vs, τ => unwipe σ vs (put1 (wipeD σ vs) v τ)
/-- these slots are empty -/
def Wn (τ : Sg) (vs : List Nat) : Prop := ∀ v ∈ vs, ∀ d, τ[v]? ≠ some (some d)
section
variable {K : PySem.W.Frag} {H : Hp} {T : List (V × D)}
theorem wipeD_len (σ : Sg) : ∀ vs, (wipeD σ vs).length = σ.length
  | [] => rfl
  | v :: vs => by simp [wipeD, wipeD_len σ vs]
theorem NV.wipe {σ : Sg} (h : NV σ) : ∀ vs, NV (wipeD σ vs)
  | [] => h
  | v :: vs => (NV.wipe h vs).set fun _ e => nomatch e
theorem wipeD_none {σ : Sg} {v : Nat} : ∀ {vs : List Nat}, v ∈ vs → v < σ.length → (wipeD σ vs)[v]? = some none
  | w :: vs, h, hl => by
    by_cases e : w = v
    · subst e
      simp only [wipeD]
      rw [List.getElem?_set_self (by rw [wipeD_len]; exact hl)]
    · simp only [wipeD]
      rw [List.getElem?_set_ne e]
      rcases List.mem_cons.mp h with q | q
      · exact absurd q.symm e
      · exact wipeD_none q hl
theorem Wn.set_none {τ : Sg} {i : Nat} (h : Wn τ [i]) : τ.set i none = τ := by
  by_cases hi : i < τ.length
  · have e : τ[i] = none := by
      cases q : τ[i] with
      | none => rfl
      | some d => exact absurd (by rw [List.getElem?_eq_getElem hi, q]) (h i (List.mem_singleton_self _) d)
    rw [← e, List.set_getElem_self]
  · exact List.set_eq_of_length_le (by omega)
theorem wipeD_wn (σ : Sg) : ∀ vs : List Nat, Wn (wipeD σ vs) vs
  | [], _, h, _ => nomatch h
  | w :: vs, v, h, d => by
    intro e
    simp only [wipeD] at e
    by_cases q : w = v
    · subst q
      by_cases hi : w < (wipeD σ vs).length
      · rw [List.getElem?_set_self hi] at e; cases e
      · rw [List.getElem?_eq_none (by simpa using hi)] at e; cases e
    · rw [List.getElem?_set_ne q] at e
      rcases List.mem_cons.mp h with z | z
      · exact q z.symm
      · exact wipeD_wn σ vs v z d e
/-- one slot wiped: what stood there is held -/
theorem Ok.wipe1 {ρ : L2.St} {σ : Sg} {i : Nat} (ok : Ok K H ρ σ T) : ∃ held : List (V × D), (NV σ → NT held) ∧ Ok K H (ρ.set i none) (σ.set i none) (held ++ T) ∧
    ∀ {H' : Hp} {τ : Sg} {T' : List (V × D)}, τ.length = σ.length → Wn τ [i] → Ok K H' (ρ.set i none) τ (held ++ T') → Ok K H' ρ (put1 σ i τ) T' := by
  have weak : ∀ {H : Hp} {τ : Sg} {T : List (V × D)}, Ok K H (ρ.set i none) (τ.set i none) T → Ok K H ρ (τ.set i none) T := fun {H τ T} o => by
    refine ⟨by have := o.len; simpa using this, fun j d hj => ?_, ?_⟩
    · obtain ⟨v, e⟩ := o.al j d hj
      by_cases q : i = j
      · subst q
        by_cases hi : i < ρ.length
        · rw [List.getElem?_set_self hi] at e; cases e
        · rw [List.getElem?_eq_none (by simpa using hi)] at e; cases e
      · rw [List.getElem?_set_ne q] at e
        exact ⟨v, e⟩
    · have w := o.w
      rw [sl_set_none] at w
      exact w
  have strong : ∀ {H : Hp} {τ : Sg} {T : List (V × D)}, Ok K H ρ (τ.set i none) T → Ok K H (ρ.set i none) (τ.set i none) T := fun {H τ T} o => by
    refine ⟨by have := o.len; simpa using this, fun j d hj => ?_, ?_⟩
    · by_cases q : i = j
      · subst q
        by_cases hi : i < τ.length
        · rw [List.getElem?_set_self hi] at hj; cases hj
        · rw [List.getElem?_eq_none (by simpa using hi)] at hj; cases hj
      · rw [List.getElem?_set_ne q]
        exact o.al j d hj
    · rw [sl_set_none]
      exact o.w
  cases h : σ[i]? with
  | none =>
    have hi : ¬ i < σ.length := fun q => by rw [List.getElem?_eq_getElem q] at h; cases h
    refine ⟨[], (fun _ p m => nomatch m), strong ok.drop, fun {H' τ T'} hl wn o => ?_⟩
    rw [← wn.set_none] at o
    have := weak o
    rw [wn.set_none] at this
    unfold put1
    rw [h]
    exact this
  | some o =>
    cases o with
    | none =>
      refine ⟨[], (fun _ p m => nomatch m), strong ok.drop, fun {H' τ T'} hl wn o => ?_⟩
      rw [← wn.set_none] at o
      unfold put1
      rw [h]
      exact weak o
    | some d =>
      obtain ⟨v, hv, ok1⟩ := ok.take h
      refine ⟨[(v, d)], fun nv => NT.cons (nv i d h) (fun p m => nomatch m), strong ok1, fun {H' τ T'} hl wn o => ?_⟩
      rw [← wn.set_none] at o
      have q := Ok.back (T := T') (weak o) hv
      rw [List.set_set] at q
      unfold put1
      rw [h]
      exact q
theorem put1_len (σ : Sg) (i : Nat) (τ : Sg) : (put1 σ i τ).length = τ.length := by
  unfold put1
  split <;> simp
theorem Ok.wipes {ρ : L2.St} {σ : Sg} (ok : Ok K H ρ σ T) : ∀ (vs : List Nat), ∃ held : List (V × D), (NV σ → NT held) ∧ Ok K H (L2.wipe ρ vs) (wipeD σ vs) (held ++ T) ∧
    ∀ {H' : Hp} {τ : Sg} {T' : List (V × D)}, τ.length = σ.length → Wn τ vs → Ok K H' (L2.wipe ρ vs) τ (held ++ T') → Ok K H' ρ (unwipe σ vs τ) T'
  | [] => ⟨[], (fun _ p m => nomatch m), ok, fun _ _ o => o⟩
  | v :: vs => by
    obtain ⟨held, n1, ok1, back1⟩ := Ok.wipes ok vs
    obtain ⟨held2, n2, ok2, back2⟩ := Ok.wipe1 (i := v) ok1
    refine ⟨held2 ++ held, fun nv p m => (List.mem_append.mp m).elim (n2 (nv.wipe vs) p) (n1 nv p), by rw [List.append_assoc]; exact ok2, fun {H' τ T'} hl wn o => ?_⟩
    rw [List.append_assoc] at o
    have q := back2 (τ := τ) (by rw [wipeD_len]; exact hl) (fun u hu d => by
      have e : u = v := by simpa using hu
      subst e
      exact wn u List.mem_cons_self d) o
    refine back1 (by rw [put1_len]; exact hl) (fun u hu d e => ?_) q
    unfold put1 at e
    split at e
    · rename_i o' ho
      by_cases z : v = u
      · subst z
        by_cases hi : v < τ.length
        · rw [List.getElem?_set_self hi] at e
          have e := Option.some.inj e
          subst e
          exact wipeD_wn σ vs v hu d ho
        · rw [List.getElem?_eq_none (by simpa using hi)] at e; cases e
      · rw [List.getElem?_set_ne z] at e
        exact wn u (List.mem_cons_of_mem _ hu) d e
    · exact wn u (List.mem_cons_of_mem _ hu) d e
theorem NV.put1 {σ τ : Sg} (h : NV σ) (ht : NV τ) (i : Nat) : NV (put1 σ i τ) := by
  unfold Py.put1
  split
  · rename_i o ho
    exact ht.set fun d e => h i d (by rw [ho, e])
  · exact ht
theorem NV.unwipe {σ : Sg} (h : NV σ) : ∀ (vs : List Nat) {τ : Sg}, NV τ → NV (unwipe σ vs τ)
  | [], _, ht => ht
  | v :: vs, τ, ht => NV.unwipe h vs (NV.put1 (h.wipe vs) ht v)
end
/-! ### [e for .. in .. if ..] -/
def lcEach (g : MG) (tt : MT) (me : M) (vs : List Nat) : List D → Sg → Option (List D × Sg)
  | [], σ => some ([], σ)
  | d :: r, σ => match g d (wipeD σ vs) with
    | some σ1 => (match tt σ1 with
      | some (true, σ2) => (match me σ2 with
        | some (x, σ3) => (match lcEach g tt me vs r σ3 with
          | some (xs, σ4) => some (x :: xs, σ4)
          | none => none)
        | none => none)
      | some (false, σ2) => lcEach g tt me vs r σ2
      | none => none)
    | none => none
def mLc (bk : Option Nat) (mi : MI) (g : MG) (tt : MT) (me : M) (vs : List Nat) : M := fun σ => match mi σ with
  | some (ds, o, σ1) => (match lcEach g tt me vs ds σ1 with
    | some (xs, σ2) => if xs.length ≤ 16777216 then some (.lst .own xs, gB bk o (unwipe σ1 vs (wipeD σ2 vs))) else none
    | none => none)
  | none => none
/-- the tests of a comprehension -/
def semTs (X : Cx) (ifs : List Expr) : TT := fun ρ H Q => ∀ (pins : List (Addr × Obj)) (s : Shared), Inv X pins ρ H s →
  wpAny (model X.prog X.w) X.A (forIn ifs true fun c r => if r = true then do let ok ← isTrue c X.env (eval c X.env); pure (ForInStep.yield ok) else pure (ForInStep.yield r)) (TP X pins ρ Q) X.xe s
theorem ptsS {X : Cx} {ifs : List Expr} : PTs X ifs (semTs X ifs) := ⟨fun pins s _ _ _ I h => h pins s I⟩
structure STs (X : Cx) (ifs : List Expr) (m : MT) : Prop where
  run : ∀ {ρ : L2.St} {H : Hp} {σ : Sg} {T : List (V × D)} {k : Bool} {σ' : Sg}, Ok X.K H ρ σ T → NV σ → NT T → m σ = some (k, σ') → semTs X ifs ρ H fun v H' => v = k ∧ Pst X.K true H ρ σ σ' T [] H'
def tYesM : MT := fun σ => some (true, σ)
theorem sts_nil {X : Cx} : STs X [] tYesM := ⟨fun {ρ H σ T k σ'} ok nv nt h pins s I => by
  cases h
  exact pts_nil.run pins s ρ H _ I ⟨rfl, ok, cdT nv nt, id, fun e => nomatch e⟩⟩
theorem sts_one {X : Cx} {c : Expr} {m : MT} (h : ST true X c m) : STs X [c] m := ⟨fun {ρ H σ T k σ'} ok nv nt e pins s I => (pts_one ptS).run pins s ρ H _ I (h.run ok (cdT nv nt) e)⟩
section
variable {X : Cx} {elt tg iter : Expr} {ifs : List Expr} {scope : Scope} {own : List (Str × Nat)} {pos : Pos} {bk : Option Nat} {mi : MI} {g : MG} {tt : MT} {me : M} {ws : List Nat}
theorem wipe_len (ρ : L2.St) (vs : List Nat) : (L2.wipe ρ vs).length = ρ.length := L2.wipe_length ρ vs
theorem wipe_out' {ρ : L2.St} {i : Nat} : ∀ {vs : List Nat}, i ∉ vs → (L2.wipe ρ vs)[i]? = ρ[i]?
  | [], _ => rfl
  | v :: vs, h => by
    have h1 : v ≠ i := fun e => h (by rw [e]; exact List.mem_cons_self)
    unfold L2.wipe
    rw [List.getElem?_set_ne h1]
    exact wipe_out' fun m => h (List.mem_cons_of_mem _ m)
theorem wipe_in {ρ : L2.St} {i : Nat} : ∀ {vs : List Nat}, i ∈ vs → i < ρ.length → (L2.wipe ρ vs)[i]? = some none
  | v :: vs, h, hl => by
    unfold L2.wipe
    by_cases e : v = i
    · subst e
      rw [List.getElem?_set_self (by rw [L2.wipe_length]; exact hl)]
    · rw [List.getElem?_set_ne e]
      rcases List.mem_cons.mp h with z | z
      · exact absurd z.symm e
      · exact wipe_in z hl
theorem wipe_kp {ρ ρ2 : L2.St} {vs : List Nat} (k : Kp ws (L2.wipe ρ vs) ρ2) (hs : ∀ j ∈ ws, j ∈ vs) : L2.wipe ρ2 vs = L2.wipe ρ vs := by
  have hl : ρ2.length = ρ.length := k.len.trans (wipe_len ρ vs)
  apply List.ext_getElem?
  intro i
  by_cases h : i ∈ vs
  · by_cases q : i < ρ.length
    · rw [wipe_in h q, wipe_in h (by omega)]
    · rw [List.getElem?_eq_none (by rw [wipe_len]; omega), List.getElem?_eq_none (by rw [wipe_len]; omega)]
  · rw [wipe_out' h, wipe_out' h, k.keep i fun m => h (hs i m), wipe_out' h]
theorem Ok.wipeDrop {K : PySem.W.Frag} {H : Hp} {ρ : L2.St} {σ : Sg} {T : List (V × D)} (ok : Ok K H ρ σ T) (vs : List Nat) : Ok K H (L2.wipe ρ vs) (wipeD σ vs) T := by
  obtain ⟨held, _, ok1, _⟩ := ok.wipes vs
  exact ok1.drops
/-- the reading of a comprehension -/
theorem lc_run (hi : SI true X tg iter bk mi) (hws : ∀ j ∈ ws, j ∈ own.map (·.2))
    (hg : ∀ (s : Shared) (H : Hp) (C : Addr) (cl : List (Str × Addr)) (fp : List Addr), SG (X.blk s H scope (compEnvC scope cl C X.env) fp) tg ws g)
    (ht : ∀ (s : Shared) (H : Hp) (C : Addr) (cl : List (Str × Addr)) (fp : List Addr), STs (X.blk s H scope (compEnvC scope cl C X.env) fp) ifs tt)
    (he : ∀ (s : Shared) (H : Hp) (C : Addr) (cl : List (Str × Addr)) (fp : List Addr), SE true (X.blk s H scope (compEnvC scope cl C X.env) fp) elt me)
    {ρ : L2.St} {H : Hp} {σ : Sg} {T : List (V × D)} {d : D} {σ' : Sg} {Q : VK} (ok : Ok X.K H ρ σ T) (nv : NV σ) (nt : NT T) (h : mLc bk mi g tt me (own.map (·.2)) σ = some (d, σ')) (hQ : ∀ v H', Pst X.K true H ρ σ σ' T [(v, d)] H' → Q v H') :
    ∃ (gr : TG) (tr : TT) (er : TE), (∀ (s : Shared) (H : Hp) (C : Addr) (cl : List (Str × Addr)) (fp : List Addr), PG (X.blk s H scope (compEnvC scope cl C X.env) fp) tg gr) ∧ (∀ (s : Shared) (H : Hp) (C : Addr) (cl : List (Str × Addr)) (fp : List Addr), PTs (X.blk s H scope (compEnvC scope cl C X.env) fp) ifs tr) ∧
      (∀ (s : Shared) (H : Hp) (C : Addr) (cl : List (Str × Addr)) (fp : List Addr), PE (X.blk s H scope (compEnvC scope cl C X.env) fp) elt er) ∧ tLc (semI X tg iter) gr tr er (own.map (·.2)) ρ H Q := by
  refine ⟨fun v ρ H Q => ∀ (s : Shared) (H0 : Hp) (C : Addr) (cl : List (Str × Addr)) (fp : List Addr), semG (X.blk s H0 scope (compEnvC scope cl C X.env) fp) tg v ρ H Q,
    fun ρ H Q => ∀ (s : Shared) (H0 : Hp) (C : Addr) (cl : List (Str × Addr)) (fp : List Addr), semTs (X.blk s H0 scope (compEnvC scope cl C X.env) fp) ifs ρ H Q,
    fun ρ H Q => ∀ (s : Shared) (H0 : Hp) (C : Addr) (cl : List (Str × Addr)) (fp : List Addr), semE (X.blk s H0 scope (compEnvC scope cl C X.env) fp) elt ρ H Q,
    fun s0 H0 C cl fp => ⟨fun pins s ρ H v u Q I r h => h s0 H0 C cl fp pins s u I r⟩, fun s0 H0 C cl fp => ⟨fun pins s ρ H Q I h => h s0 H0 C cl fp pins s I⟩, fun s0 H0 C cl fp => ⟨fun pins s ρ H Q I h => h s0 H0 C cl fp pins s I⟩, ?_⟩
  unfold mLc at h
  split at h
  · rename_i ds o σ1 h1
    split at h
    · rename_i xs σe hE
      split at h
      · rename_i hz
        cases h
        refine hi.run ok (cdT nv nt) h1 fun J hold H1 y nd bck p D0 hD => ?_
        obtain ⟨held, nheld, okw, back⟩ := p.ok.wipes (own.map (·.2))
        have nT : NT (held ++ (hold ++ T)) := fun q m => (List.mem_append.mp m).elim (nheld p.nvt.1 q) (p.nvt.2 q)
        refine ⟨fun i m H' => m = ds.length - i ∧ i ≤ ds.length ∧ ∃ σ2 acc ys, Ok X.K H' (L2.wipe ρ (own.map (·.2))) (wipeD σ2 (own.map (·.2))) ((.ref D0, .lst .own acc) :: (held ++ (hold ++ T))) ∧ NV σ2 ∧ noVws acc = true ∧ lcEach g tt me (own.map (·.2)) (ds.drop i) σ2 = some (ys, σe) ∧ acc ++ ys = xs,
          ⟨ds.length, rfl, Nat.zero_le _, σ1, [], xs, ⟨okw.len, okw.al, World.newLst (vs := []) rfl hD okw.w⟩, p.nvt.1, rfl, hE, rfl⟩, ?_⟩
        rintro i m H2 ⟨rfl, hil, σ2, acc, ys, ok2, nv2, na, h2, hxs⟩
        have perm1 : ∀ (L : List (V × D)), List.Perm (((V.ref D0, D.lst .own acc) :: (held ++ (hold ++ T))) ++ L) (hold ++ ((V.ref D0, D.lst .own acc) :: (held ++ (T ++ L)))) := fun L => by
          refine List.Perm.trans ?_ (List.perm_middle (l₁ := hold)).symm
          refine List.Perm.cons _ ?_
          show List.Perm ((held ++ (hold ++ T)) ++ L) (hold ++ (held ++ (T ++ L)))
          rw [List.append_assoc, List.append_assoc, ← List.append_assoc held, ← List.append_assoc hold]
          exact (List.perm_append_comm (l₁ := held) (l₂ := hold)).append_right _
        have w : World X.K H2 (hold ++ ((.ref D0, .lst .own acc) :: (held ++ (T ++ sl (L2.wipe ρ (own.map (·.2))) (wipeD σ2 (own.map (·.2))))))) := ok2.w.perm (perm1 _)
        by_cases hlt : i < ds.length
        · have hd : ds[i]? = some ds[i] := List.getElem?_eq_getElem hlt
          rw [List.drop_eq_getElem_cons hlt] at h2
          simp only [lcEach] at h2
          refine .inr ⟨y.go w hd, fun H' => i + 1 ≤ ds.length ∧ ∃ σ2 acc ys, Ok X.K H' (L2.wipe ρ (own.map (·.2))) (wipeD σ2 (own.map (·.2))) ((.ref D0, .lst .own acc) :: (held ++ (hold ++ T))) ∧ NV σ2 ∧ noVws acc = true ∧ lcEach g tt me (own.map (·.2)) (ds.drop (i + 1)) σ2 = some (ys, σe) ∧ acc ++ ys = xs, fun H' q => ⟨ds.length - (i + 1), by omega, rfl, q⟩, fun x H3 hy s0 H0 C cl fp => ?_⟩
          have w3 := y.yld w hd hy
          have ok3 : Ok X.K H3 (L2.wipe ρ (own.map (·.2))) (wipeD σ2 (own.map (·.2))) ((x, ds[i]) :: ((.ref D0, .lst .own acc) :: (held ++ (hold ++ T)))) := ⟨ok2.len, ok2.al, w3.perm ((perm1 _).symm.cons _)⟩
          have nd3 : (ds[i]).noVw = true := noVws_mem (nd rfl) (List.getElem_mem hlt)
          have nt3 : NT ((V.ref D0, D.lst .own acc) :: (held ++ (hold ++ T))) := nT.cons (d := .lst .own acc) na
          split at h2
          · rename_i σ4 h4
            refine (hg s0 H0 C cl fp).run ok3 (nv2.wipe _) (nt3.cons nd3) h4 fun ρ4 H4 k4 ok4 nv4 => ?_
            refine ⟨wipe_kp k4 hws, fun s5 H5 C5 cl5 fp5 => ?_⟩
            have turn : ∀ {ρ5 : L2.St} {H5 : Hp} {σ5 : Sg} {L : List (V × D)}, L2.wipe ρ5 (own.map (·.2)) = L2.wipe ρ (own.map (·.2)) → Ok X.K H5 ρ5 σ5 L → Ok X.K H5 (L2.wipe ρ (own.map (·.2))) (wipeD σ5 (own.map (·.2))) L := fun e o => by
              have q := o.wipeDrop (own.map (·.2))
              rw [e] at q
              exact q
            split at h2
            · rename_i σ5 h5
              refine fun pins s I => thn ((ht s5 H5 C5 cl5 fp5).run ok4 nv4 nt3 h5 pins s I) fun _ _ z => tp_mono (fun b H6 ⟨eb, p6⟩ => ?_) z
              subst eb
              refine iteT fun s7 H7 C7 cl7 fp7 => ?_
              split at h2
              · rename_i x1 σ6 h6
                split at h2
                · rename_i xs1 σ7 h7
                  cases h2
                  refine semE_mono ((he s7 H7 C7 cl7 fp7).run p6.ok (cdT p6.nvt.1 nt3) h6) fun v8 H8 p8 => ?_
                  have w8 : World X.K H8 ((.ref D0, .lst .own acc) :: (([v8].zip [x1]) ++ ((held ++ (hold ++ T)) ++ sl ρ4 σ6))) := World.swap p8.ok.w
                  have nx1 : x1.noVw = true := p8.nvt.2.head
                  obtain ⟨vs, hv, hlv, hput⟩ := World.put (ws := [v8]) (es := [x1]) rfl na (by simp [noVws, nx1]) (fun q m => NT.all p8.nvt.1 nT q m) w8
                  have hlen : acc.length < 16777216 := by
                    have : xs.length = acc.length + (xs1.length + 1) := by rw [← hxs]; simp
                    omega
                  refine ⟨vs, hv, by rw [hlv, sizeLine_eq]; exact hlen, hlt, σ6, acc ++ [x1], xs1, ?_, p8.nvt.1, by rw [noVws_append, na]; simp [noVws, nx1], h7, by simpa using hxs⟩
                  have w9 := hput (vs ++ [v8]) (acc ++ [x1]) (by rw [noVws_append, na]; simp [noVws, nx1]) fun Z f g rf rg ndd => ⟨_, rf.append rg, ndd, fun b m => m⟩
                  exact turn (wipe_kp k4 hws) ⟨p8.ok.len, p8.ok.al, w9⟩
                · cases h2
              · cases h2
            · rename_i σ5 h5
              refine fun pins s I => thn ((ht s5 H5 C5 cl5 fp5).run ok4 nv4 nt3 h5 pins s I) fun _ _ z => tp_mono (fun b H6 ⟨eb, p6⟩ => ?_) z
              subst eb
              exact iteF ⟨hlt, σ5, acc, ys, turn (wipe_kp k4 hws) p6.ok, p6.nvt.1, na, h2, hxs⟩
            · cases h2
          · cases h2
        · have e : i = ds.length := by omega
          subst e
          rw [List.drop_length] at h2
          cases h2
          rw [List.append_nil] at hxs
          subst hxs
          refine .inl ⟨y.stop w (Nat.le_refl _), hQ _ _ ?_⟩
          have hl2 : (wipeD σe (own.map (·.2))).length = σ1.length := by
            have a := ok2.len
            have b := p.ok.len
            rw [wipe_len] at a
            omega
          have ok5 := back (T' := (.ref D0, .lst .own acc) :: (hold ++ T)) hl2 (wipeD_wn _ _) (Ok.temps ok2 fun L w => w.perm ((List.perm_middle (l₁ := held) (a := (V.ref D0, D.lst .own acc))).symm.append_right L))
          have ok6 : Ok X.K H2 ρ (unwipe σ1 (own.map (·.2)) (wipeD σe (own.map (·.2)))) (hold ++ ((.ref D0, .lst .own acc) :: T)) := Ok.temps ok5 fun L w => w.perm ((List.perm_middle (l₁ := hold) (a := (V.ref D0, D.lst .own acc))).symm.append_right L)
          have nt6 : NT (hold ++ ((V.ref D0, D.lst .own acc) :: T)) := fun q m => by
            rcases List.mem_append.mp m with m | m
            · exact p.nvt.2 q (List.mem_append_left _ m)
            · rcases List.mem_cons.mp m with e | m
              · rw [e]; exact na
              · exact nt q m
          obtain ⟨okb, nvb⟩ := ok_gB (ws := []) ok6 (p.nvt.1.unwipe _ (nv2.wipe _)) nt6 bck .refl (fun _ _ m => nomatch m)
          exact ⟨okb, cdT nvb (nt.cons (d := .lst .own acc) na), fun _ => nvb, fun e => nomatch e⟩
      · cases h
    · cases h
  · cases h
theorem se_lc (hc : X.calm = true) (hN : X.N.Nodup) (ok : BlkOk X.N X.env.scope scope own) (hi : SI true X tg iter bk mi)
    (hg : ∀ (s : Shared) (H : Hp) (C : Addr) (cl : List (Str × Addr)) (fp : List Addr), SG (X.blk s H scope (compEnvC scope cl C X.env) fp) tg ws g)
    (ht : ∀ (s : Shared) (H : Hp) (C : Addr) (cl : List (Str × Addr)) (fp : List Addr), STs (X.blk s H scope (compEnvC scope cl C X.env) fp) ifs tt)
    (he : ∀ (s : Shared) (H : Hp) (C : Addr) (cl : List (Str × Addr)) (fp : List Addr), SE true (X.blk s H scope (compEnvC scope cl C X.env) fp) elt me)
    (hws : ∀ j ∈ ws, j ∈ own.map (·.2) := by decide) (hs : ∀ x, foldedSetIterable iter X.env x = pure x := by intro _; rfl) :
    SE true X (.ListComp elt [⟨tg, iter, ifs, 0⟩] scope pos) (mLc bk mi g tt me (own.map (·.2))) := ⟨fun {ρ H σ T d σ'} o cd h => by
  obtain ⟨gr, tr, er, pg, pt, pe, q⟩ := lc_run hi hws hg ht he o (cd rfl).1 (cd rfl).2 h fun _ _ p => p
  exact pe_sem (pe_lc hc hN piS ok pg pt pe hs) q⟩
/-- y = [..] on one line, y a local -/
theorem ss_setLc {i : Nat} {y : Str} {py spos : Pos} (hc : X.calm = true) (hN : X.N.Nodup) (ok : BlkOk X.N X.env.scope scope own) (hi : SI true X tg iter bk mi)
    (hg : ∀ (s : Shared) (H : Hp) (C : Addr) (cl : List (Str × Addr)) (fp : List Addr), SG (X.blk s H scope (compEnvC scope cl C X.env) fp) tg ws g)
    (ht : ∀ (s : Shared) (H : Hp) (C : Addr) (cl : List (Str × Addr)) (fp : List Addr), STs (X.blk s H scope (compEnvC scope cl C X.env) fp) ifs tt)
    (he : ∀ (s : Shared) (H : Hp) (C : Addr) (cl : List (Str × Addr)) (fp : List Addr), SE true (X.blk s H scope (compEnvC scope cl C X.env) fp) elt me)
    (hsw : swapsWith (.ListComp elt [⟨tg, iter, ifs, 0⟩] scope pos) (some (.Name y py)) spos.line X.env = pure true) (hy : X.N[i]? = some y := by rfl) (hyl : X.env.scope.names.lookup y = some .local := by rfl)
    (hws : ∀ j ∈ ws, j ∈ own.map (·.2) := by decide) (hs : ∀ x, foldedSetIterable iter X.env x = pure x := by intro _; rfl) :
    SS X (.Assign [.Name y py] (.ListComp elt [⟨tg, iter, ifs, 0⟩] scope pos) spos) [i] (sSet i (mLc bk mi g tt me (own.map (·.2)))) := ⟨fun {ρ H σ T f σ' E} o nv nt h F => by
  unfold sSet at h
  split at h
  · rename_i d σ1 h1
    split at h
    · rename_i hl
      cases h
      obtain ⟨gr, tr, er, pg, pt, pe, q⟩ := lc_run (Q := fun v H' => E.nx (ρ.set i (some v)) H') hi hws hg ht he o nv nt h1 fun v H' p => F _ H' .set (p.ok.put hl) (p.nvt.1.set fun d e => by cases e; exact p.nvt.2.head)
      exact ps_sem (ps_setLc hc hN hy hyl hsw piS ok pg pt pe hs) q
    · cases h
  · cases h⟩
end
end Py
/-! Layer «Py», part M: small things that the printed proofs use. -/
namespace Py
open PySem PySem.Spec PyProof.Rows L2

def fu : Nat := 1000000
def kPlus : D → D → Option D := kI fun i j => some (.int (i + j))
section
variable {X : Cx} {e : Expr} {st : List Stmt}
theorem st_up {m : MT} (h : ST false X e m) : ST true X e m := ⟨fun {ρ H σ T k σ'} ok cd hm => semT_mono (h.run ok (fun z => nomatch z) hm) fun v H' ⟨q, p⟩ => ⟨q, p.ok, fun _ => ⟨p.nv (cd rfl).1, (cd rfl).2⟩, p.nv, fun e => nomatch e⟩⟩
theorem SSs.mono {ws ws' : List Nat} {m : MS} (h : SSs X st ws m) (hs : ∀ j ∈ ws, j ∈ ws') : SSs X st ws' m := ⟨fun ok nv nt hm F => h.run ok nv nt hm (F.kp (w1 := []) .refl fun j q => hs j (by simpa using q))⟩
end
/-- a def of the module, as its callers need it -/
structure UF (P : Program) (w : PySem.World) (K : PySem.W.Frag) (mg : Str → Option Value) (base : Heap) (x : Str) (k : Nat) (ps : List Str) (ws : List Nat) (fn : Fn) : Prop where
  ex : ∃ (f : Addr) (fd : FuncData), mg x = some (.ref f) ∧ PySem.W.keepIn K (.ref f) = true ∧ Binds K fd ps [] ∧ FnOk P w K mg base CX0 k f fd ps (spOf K ps.length ws fn)
/-- its text -/
abbrev FnP (K : PySem.W.Frag) (x : Str) (st : Stmt) (f : Addr) (fd : FuncData) : Prop := FunD K x x (defArgs st) (defBody st) (defScope st) [] [] f fd
structure SaysIn (fas : List He.Fa) (dds : List He.DefD) (K : PySem.W.Frag) (mg : Str → Option Value) : Prop where
  ex : ∃ h : Heap, K.In h ∧ h.Ns mainGlobals mg ∧ He.SaysD fas dds K
section
variable {fas : List He.Fa} {dds : List He.DefD} {K : PySem.W.Frag} {mg : Str → Option Value}
theorem SaysIn.free (Y : SaysIn fas dds K mg) (k : Nat) {x : Str} (h : fas[k]? = some (.free x)) : mg x = none := by
  obtain ⟨hp, X, G, c⟩ := Y.ex
  exact He.free_ok X G (c.fact k (f := .free x) h)
theorem SaysIn.def_ (Y : SaysIn fas dds K mg) (k : Nat) {x : Str} {st : Stmt} (h : dds[k]? = some ⟨(x, none), x, x, defArgs st, defBody st, defScope st, [], []⟩) (hg : fas[k]? = some (.glo x)) : ∃ (f : Addr) (fd : FuncData), mg x = some (.ref f) ∧ FnP K x st f fd := by
  obtain ⟨hp, X, G, c⟩ := Y.ex
  obtain ⟨fd, F⟩ := c.def_ k h
  exact ⟨_, fd, He.glo_ok X G (c.fact k (f := .glo x) hg), F⟩
end
end Py
/-! Layer «Py», part N: sorted. -/
namespace Py
open PySem PySem.Spec PyProof.Rows L2

def alikes (xs : List D) : Bool := xs.all fun x => xs.all fun y => PySem.W.alike x.py y.py
def sortable (xs : List D) : Bool := (xs.all fun x => match x with
    | .tup (_ :: _) => true
    | _ => false) || xs.all fun x => match x with
    | .non => false
    | .tup _ => false
    | _ => true
def fSortB (b : Bool) : D → Option D
  | .lst _ xs => if alikes xs = true ∧ sortable xs = true ∧ fits 60 xs = true ∧ xs.length ≤ 16777216 then some (.lst .own (xs.mergeSort (PySem.W.dataLe b D.py))) else none
  | _ => none
abbrev fSort : D → Option D := fSortB false
def rSortA (K : PySem.W.Frag) (b : Bool) : List V → Hp → VK → Prop := fun vs H Q => ∃ (a : Addr) (xs : List V) (ds : List D), vs = [V.ref a] ∧ SqL K H a xs ∧ xs.length = ds.length ∧ (∀ p ∈ xs.zip ds, Dp K H p.1 p.2.py) ∧ alikes ds = true ∧ sortable ds = true ∧ fits 60 ds = true ∧ ds.length ≤ 16777216 ∧
  ∀ (zs : List (V × D)) (p : Addr), zs.Perm (xs.zip ds) → zs.map (·.2) = ds.mergeSort (PySem.W.dataLe b D.py) → H p = none → Q (.ref p) (upd H p (.lst (zs.map (·.1))))
theorem fits_mem {n : Nat} : ∀ {xs : List D}, fits n xs = true → ∀ x ∈ xs, x.fit n = true
  | _ :: _, h, x, m => by
    simp only [fits, Bool.and_eq_true] at h
    rcases List.mem_cons.mp m with e | m
    · rw [e]; exact h.1
    · exact fits_mem h.2 x m
theorem each_vals {R : Value → V × D → Prop} (hr : ∀ u p, R u p ↔ RelV p.1 u) : ∀ {us : List Value} {zs : List (V × D)}, PySem.W.EachIs R us zs → Vals (zs.map (·.1)) us
  | _, _, .nil => .nil
  | _, _, .cons h t => .cons ((hr _ _).mp h) (each_vals hr t)
theorem vals_each : ∀ {us : List Value} {xs : List V} {ds : List D}, Vals xs us → xs.length = ds.length → PySem.W.EachIs (fun u (p : V × D) => RelV p.1 u) us (xs.zip ds)
  | _, _, [], .nil, _ => .nil
  | _, _, _ :: _, .nil, h => by simp at h
  | _, _, [], .cons _ _, h => by simp at h
  | _, _, d :: ds, .cons r t, h => .cons r (vals_each t (by simpa using h))
theorem zip_snd : ∀ {xs : List V} {ds : List D}, xs.length = ds.length → (xs.zip ds).map (·.2) = ds
  | [], [], _ => rfl
  | [], _ :: _, h => by simp at h
  | _ :: _, [], h => by simp at h
  | x :: xs, d :: ds, h => congrArg (d :: ·) (zip_snd (xs := xs) (ds := ds) (by simpa using h))
theorem sortable_of {ds : List D} (h : sortable ds = true) {α : Type} (bs : List α) (f : α → D) (hb : ∀ b ∈ bs, f b ∈ ds) : PySem.W.Sortable (bs.map fun b => (f b).py) := by
  unfold sortable at h
  rcases Bool.or_eq_true_iff.mp h with h | h
  · refine .inl fun d hd => ?_
    obtain ⟨b, m, rfl⟩ := List.mem_map.mp hd
    have := List.all_eq_true.mp h (f b) (hb b m)
    generalize f b = x at this ⊢
    cases x with
    | tup xs => cases xs with
      | nil => cases this
      | cons x r => exact ⟨x.py, pys r, rfl⟩
    | _ => cases this
  · refine .inr fun d hd => ?_
    obtain ⟨b, m, rfl⟩ := List.mem_map.mp hd
    have := List.all_eq_true.mp h (f b) (hb b m)
    generalize f b = x at this ⊢
    cases x with
    | non => cases this
    | tup xs => cases this
    | lst f xs => exact ⟨(by intro e; simp [D.py] at e), by intro xs e; simp [D.py] at e⟩
    | _ => exact ⟨(by intro e; simp [D.py] at e), by intro xs e; simp [D.py] at e⟩
theorem mem_zip {xs : List V} {ds : List D} {p : V × D} (h : p ∈ xs.zip ds) : p.1 ∈ xs ∧ p.2 ∈ ds := List.of_mem_zip h
section
variable {X : Cx}
theorem sort_run {b : Bool} {kw : List (Str × Value)} {pins : List (Addr × Obj)} {s : Shared} {ρ : L2.St} {H : Hp} {vs : List V} {us : List Value} {Q : VK} (I : Inv X pins ρ H s) (r : Vals vs us) (hu : X.A.units + 64 < cLine) (h : rSortA X.K b vs H Q)
    (hgo : ∀ {l : Addr} {its : List Value} {bs : List (V × D)} {Q : Value → Shared → Prop}, s.heap.IsList l its.toArray → PySem.W.EachIs (fun u (p : V × D) => RelV p.1 u) its bs → PySem.W.EachIs (fun v (p : V × D) => ∃ as, Reads s.heap v p.2.py as) its bs → PySem.W.AllAlike (bs.map fun p => p.2.py) → PySem.W.Sortable (bs.map fun p => p.2.py) → bs.length ≤ sizeLine →
      (∀ p, p ∈ bs → X.A.units + 2 + p.2.py.depth < cLine) → (∀ out, out.length = bs.length → PySem.W.EachIs (fun u (p : V × D) => RelV p.1 u) out (bs.mergeSort (PySem.W.dataLe b fun p => p.2.py)) → Q (.ref (s.heap.objs.size + 1)) { s with heap := sortedAll s.heap its (List.toArray out) }) →
      wpAny (model X.prog X.w) X.A (call (.builtin "sorted") [.ref l] kw) Q X.xe s) :
    wpAny (model X.prog X.w) X.A (call (.builtin "sorted") us kw) (EP X pins ρ Q) X.xe s := by
  obtain ⟨a, xs, ds, rfl, hs, hl, hd, ha, hk, hf, hz, q⟩ := h
  obtain ⟨its, rv, hlst, _⟩ := I.list hs
  obtain rfl := Vals.ref1 r
  have e := vals_each rv hl
  have hlz : (xs.zip ds).length = ds.length := by rw [List.length_zip, hl, Nat.min_self]
  have hmem : ∀ p ∈ xs.zip ds, p.2 ∈ ds := fun p m => (mem_zip m).2
  refine hgo (bs := xs.zip ds) hlst.isList e ?_ ?_ ?_ (by rw [hlz, sizeLine_eq]; exact hz) (fun p m => ?_) fun out h1 h2 => ?_
  · have go : ∀ {us : List Value} {zs : List (V × D)}, PySem.W.EachIs (fun u (p : V × D) => RelV p.1 u) us zs → (∀ p ∈ zs, Dp X.K H p.1 p.2.py) → PySem.W.EachIs (fun v (p : V × D) => ∃ as, Reads s.heap v p.2.py as) us zs := by
      intro us zs z
      induction z with
      | nil => exact fun _ => .nil
      | cons h t ih => exact fun hh => .cons (Dp.reads I _ _ _ (hh _ List.mem_cons_self) h) (ih fun p m => hh p (List.mem_cons_of_mem _ m))
    exact go e hd
  · intro d hd' d' hd''
    obtain ⟨p, m, rfl⟩ := List.mem_map.mp hd'
    obtain ⟨p', m', rfl⟩ := List.mem_map.mp hd''
    exact List.all_eq_true.mp (List.all_eq_true.mp ha p.2 (hmem p m)) p'.2 (hmem p' m')
  · exact sortable_of hk (xs.zip ds) (fun p => p.2) hmem
  · have := (fit_lay p.2 60 (fits_mem hf _ (hmem p m))).2
    omega
  · obtain ⟨ep, he'⟩ := PyProof.Rows.sortedAll_at s.heap its out.toArray
    have hp : ((xs.zip ds).mergeSort (PySem.W.dataLe b fun p => p.2.py)).Perm (xs.zip ds) := List.mergeSort_perm _ _
    have hv := each_vals (fun u p => Iff.rfl) h2
    have hm : ((xs.zip ds).mergeSort (PySem.W.dataLe b fun p => p.2.py)).map (·.2) = ds.mergeSort (PySem.W.dataLe b D.py) :=
      (PySem.W.sort_maps (r := PySem.W.dataLe b fun p : V × D => p.2.py) (s := PySem.W.dataLe b D.py) (fun p : V × D => p.2) (fun x _ y _ => rfl)).trans (congrArg (·.mergeSort (PySem.W.dataLe b D.py)) (zip_snd hl))
    have hlen : (((xs.zip ds).mergeSort (PySem.W.dataLe b fun p => p.2.py)).map (·.1)).length ≤ sizeLine := by
      rw [List.length_map, hp.length_eq, hlz, sizeLine_eq]
      exact hz
    exact ⟨.ref _, upd H (s.heap.objs.size + 1) (.lst _), I.laid (t' := s.toks) (fun _ _ => PyProof.Rows.sortedAll_old) (Nat.le_succ _) ⟨hlen, out, ep, hv, he'⟩, rfl, q _ _ hp hm (I.hok.fresh (Nat.le_succ _))⟩
theorem cr_sortA (hu : X.A.units + 64 < cLine) : CallR X (.builtin "sorted") (rSortA X.K false) := fun pins s ρ H vs us Q I r h => sort_run I r hu h fun h1 h2 h3 h4 h5 h6 h7 h8 => PySem.W.sorted_data h1 h2 h3 h4 h5 h6 h7 h8
theorem cr_sortRA {b : Bool} (hu : X.A.units + 64 < cLine) : CallRK X (.builtin "sorted") [Str.ofString "reverse"] (fun vs zs H Q => zs = [.bl b] ∧ rSortA X.K b vs H Q) := by
  intro pins s ρ H vs zs us ws Q I r rz ⟨e, h⟩
  subst e
  obtain ⟨w1, rfl, e1⟩ := vals1 rz
  obtain rfl : w1 = Value.bool b := e1
  exact sort_run I r hu h fun h1 h2 h3 h4 h5 h6 h7 h8 => PySem.W.sorted_rev_data h1 h2 h3 h4 h5 h6 h7 h8
end
section
variable {K : PySem.W.Frag}
theorem zip_split : ∀ (zs : List (V × D)), zs = (zs.map (·.1)).zip (zs.map (·.2))
  | [] => rfl
  | (v, d) :: zs => congrArg ((v, d) :: ·) (zip_split zs)
theorem World.dps {H : Hp} {xs : List V} {ds : List D} {L : List (V × D)} (w : World K H (xs.zip ds ++ L)) : ∀ p ∈ xs.zip ds, Dp K H p.1 p.2.py := fun p m => by
  obtain ⟨l1, l2, e⟩ := List.append_of_mem (List.mem_append_left L m)
  have w2 : World K H ((p.1, p.2) :: (l1 ++ l2)) := by
    rw [e] at w
    exact w.perm List.perm_middle
  exact w2.dp
theorem o_sortB {b : Bool} : OpA K (rSortA K b) (k1 (fSortB b)) := a1
    (fun {H L x dx z Q} w e q => by
      cases dx with
      | lst f xs =>
        simp only [fSortB] at e
        split at e
        · rename_i hz
          cases e
          obtain ⟨a, vs, rfl, hs, hl, _, w1⟩ := w.openL
          refine ⟨a, vs, xs, rfl, hs, hl, w1.dps, hz.1, hz.2.1, hz.2.2.1, hz.2.2.2, fun zs p hp hm hn => q _ _ ?_ (same_upd hn)⟩
          rw [← hm]
          refine World.newLst (by simp) hn ?_
          rw [← zip_split]
          exact w1.perm (hp.symm.append_right _)
        · cases e
      | _ => cases e)
    (fun {dx z} e n => by
      cases dx with
      | lst f xs =>
        simp only [fSortB] at e
        split at e
        · cases e
          have n' : noVws xs = true := by cases f <;> simp_all [D.noVw]
          show noVws _ = true
          rw [noVws_all]
          exact List.all_eq_true.mpr fun x m => noVws_mem n' ((List.mergeSort_perm _ _).mem_iff.mp m)
        · cases e
      | _ => cases e)
abbrev o_sort : OpA K (rSortA K false) (k1 fSort) := o_sortB
end
section
variable {X : Cx} {e1 : Expr} {a : M} {b : Bool}
/-- sorted(e, reverse=k) -/
theorem se_sortR {k : Bool} {x : Str} {p pos kpos cpos : Pos} {j : Nat} {es : List Expr} {ma : MA} (hu : X.A.units + 64 < cLine) (hx : x = ("sorted" : Str) := by rfl) (hg : Gl X x) (hm : X.mg x = none) (hv : bootBuiltins x = some (.builtin "sorted")) (ha : SA b X (e1 :: es) ma)
    (hn : x ≠ "__name__" := by decide) (hdb : (x == ("__debug__" : Str)) = false := by decide)
    (he : backTo pos (starEach (e1 :: es) X.env) = (false, eval e1 X.env) :: backTo pos (starEach es X.env) := by rfl) (hpl : (backTo pos (starEach (e1 :: es) X.env)).any (·.1) = false := by rfl)
    (hall : (backToKw pos (keywordEach [⟨some "reverse", .Constant (.bool k) j cpos, kpos⟩] X.env)).all (·.1.isSome) = true := by rfl) (hnone : (backToKw pos (keywordEach [⟨some "reverse", .Constant (.bool k) j cpos, kpos⟩] X.env)).any (·.1.isNone) = false := by rfl) (hks : (backToKw pos (keywordEach [⟨some "reverse", .Constant (.bool k) j cpos, kpos⟩] X.env)).filterMap (·.1) = [Str.ofString "reverse"] := by rfl) :
    SE b X (.Call (.Name x p) (e1 :: es) [⟨some "reverse", .Constant (.bool k) j cpos, kpos⟩] pos) (mA (k1 (fSortB k)) ma) :=
  ⟨fun ok cd h => pe_sem (pe_callBK (cr_sortRA (b := k) hu) hg hm hv paS (pk_cons pe_bl pk_nil) hn hdb he hpl hall hnone hks)
    (semA_mono (args_run o_sortB ha ok cd h fun _ _ p => p) fun vs H1 q => ⟨rfl, q⟩)⟩
end
end Py
/-! Layer «Py», part O: list(range), pop, path[i] op= e, defs that call themselves, the script. -/
namespace Py
open PySem PySem.Spec PyProof.Rows L2

/-! ### list(range(..)) -/
theorem rgV_up (lo : Int) (n : Nat) : ((List.range n).map fun i => V.int (lo + (i : Nat))).zip (up lo n) = (up lo n).map fun d => match d with
    | .int i => (V.int i, d)
    | _ => (V.non, d) := by
  induction n generalizing lo with
  | zero => rfl
  | succ n ih =>
    rw [List.range_succ_eq_map, List.map_cons, List.map_map]
    simp only [up, List.zip_cons_cons, List.map_cons]
    refine List.cons_eq_cons.mpr ⟨by simp, ?_⟩
    rw [← ih (lo + 1)]
    congr 1
    apply List.map_congr_left
    intro i _
    simp only [Function.comp]
    congr 1
    omega
theorem World.ups {K : PySem.W.Frag} {H : Hp} {L : List (V × D)} (w : World K H L) : ∀ (n : Nat) (lo : Int), World K H (((List.range n).map fun i => V.int (lo + (i : Nat))).zip (up lo n) ++ L) := by
  intro n
  induction n with
  | zero => exact fun lo => w
  | succ n ih =>
    intro lo
    have q := ih (lo + 1)
    rw [rgV_up] at q ⊢
    simp only [up, List.map_cons]
    exact World.int lo q
def rgOk (a b : Int) : Bool := okR a && okR b && decide ((b - a).toNat ≤ 16777216)
theorem rgOk_iff {a b : Int} (h : rgOk a b = true) : RgOk a b := by
  unfold rgOk at h
  simp only [Bool.and_eq_true, decide_eq_true_eq] at h
  obtain ⟨⟨h1, h2⟩, h3⟩ := h
  exact ⟨(okR_iff h1).1, (okR_iff h1).2, (okR_iff h2).1, (okR_iff h2).2, h3⟩
def mLRg (a b : M) : M := fun σ => match a σ with
  | some (.int i, σ1) => (match b σ1 with
    | some (.int j, σ2) => if rgOk i j = true then some (.lst .own (up i (j - i).toNat), σ2) else none
    | _ => none)
  | _ => none
def mLRg1 (b : M) : M := fun σ => match b σ with
  | some (.int j, σ2) => if rgOk 0 j = true then some (.lst .own (up 0 (j - 0).toNat), σ2) else none
  | _ => none
section
variable {X : Cx} {b : Bool} {e1 e2 : Expr} {a c : M}
theorem lrg_end {ρ : L2.St} {H0 H : Hp} {σ σ' : Sg} {T : List (V × D)} {i j : Int} {Q : VK} (p : Pst X.K b H0 ρ σ σ' T [] H) (h : rgOk i j = true) (hQ : ∀ v H', Pst X.K b H0 ρ σ σ' T [(v, .lst .own (up i (j - i).toNat))] H' → Q v H') : RgOk i j ∧ ∀ q, H q = none → Q (.ref q) (upd H q (.lst (rgV i j))) :=
  ⟨rgOk_iff h, fun q hq => hQ _ _ ⟨⟨p.ok.len, p.ok.al, World.newLst (by rw [rgV_length, up_len]) hq (World.ups p.ok.w _ _)⟩, fun e => ⟨(p.cd e).1, NT.cons (d := .lst .own _) (up_noVw _ _) (p.cd e).2⟩, p.nv, fun e => (p.sm e).trans (same_upd hq)⟩⟩
theorem se_listRg2 {p p2 pos pos2 : Pos} (hc : X.calm = true) (hg : Gl X "list") (hm : X.mg "list" = none) (hg2 : Gl X "range") (hm2 : X.mg "range" = none) (ha : SE b X e1 a) (hb : SE b X e2 c) (na : starEach [e1, e2] X.env = (false, eval e1 X.env) :: starEach [e2] X.env := by rfl) (nb : starEach [e2] X.env = (false, eval e2 X.env) :: starEach [] X.env := by rfl)
    (hp : (backTo pos2 (starEach [e2] X.env)).any (·.1) = false := by rfl) (nc : starEach [.Call (.Name "range" p2) [e1, e2] [] pos2] X.env = (false, eval (.Call (.Name "range" p2) [e1, e2] [] pos2) X.env) :: starEach [] X.env := by rfl) :
    SE b X (.Call (.Name "list" p) [.Call (.Name "range" p2) [e1, e2] [] pos2] [] pos) (mLRg a c) := ⟨fun {ρ H σ T d σ'} ok cd h => by
  unfold mLRg at h
  split at h
  · rename_i i σ1 h1
    split at h
    · rename_i j σ2 h2
      split at h
      · rename_i hr
        cases h
        refine pe_sem (pe_listRg hc hg hm (prg_2 hg2 hm2 peS peS na nb hp) nc) ?_
        refine semE_mono (ha.run ok cd h1) fun v1 H1 p1 => ?_
        refine semE_mono (hb.run p1.ok p1.cd h2) fun v2 H2 p2 => ?_
        have ev2 := World.int_of (L := ([(v1, D.int i)] ++ T) ++ sl ρ σ') p2.ok.w
        have okt := p2.ok.tail
        have ev1 := World.int_of (L := T ++ sl ρ σ') okt.w
        subst ev1 ev2
        exact ⟨i, j, rfl, rfl, lrg_end ⟨okt.tail, fun e => ⟨(p2.cd e).1, (p2.cd e).2.tail.tail⟩, fun n => p2.nv (p1.nv n), fun e => (p1.sm e).trans (p2.sm e)⟩ hr fun v H' p => p⟩
      · cases h
    · cases h
  · cases h⟩
theorem se_listRg1 {p p2 pos pos2 : Pos} (hc : X.calm = true) (hg : Gl X "list") (hm : X.mg "list" = none) (hg2 : Gl X "range") (hm2 : X.mg "range" = none) (hb : SE b X e2 c) (nb : starEach [e2] X.env = (false, eval e2 X.env) :: starEach [] X.env := by rfl)
    (nc : starEach [.Call (.Name "range" p2) [e2] [] pos2] X.env = (false, eval (.Call (.Name "range" p2) [e2] [] pos2) X.env) :: starEach [] X.env := by rfl) :
    SE b X (.Call (.Name "list" p) [.Call (.Name "range" p2) [e2] [] pos2] [] pos) (mLRg1 c) := ⟨fun {ρ H σ T d σ'} ok cd h => by
  unfold mLRg1 at h
  split at h
  · rename_i j σ2 h2
    split at h
    · rename_i hr
      cases h
      refine pe_sem (pe_listRg hc hg hm (prg_1 hg2 hm2 peS nb) nc) ?_
      refine semE_mono (hb.run ok cd h2) fun v2 H2 p2 => ?_
      have ev2 := World.int_of (L := T ++ sl ρ σ') p2.ok.w
      subst ev2
      exact ⟨j, rfl, lrg_end ⟨p2.ok.tail, fun e => ⟨(p2.cd e).1, (p2.cd e).2.tail⟩, p2.nv, p2.sm⟩ hr fun v H' p => p⟩
    · cases h
  · cases h⟩
end
/-! ### path.pop() -/
/-- the last item of the list at a path, taken off -/
def popAt (r : Nat) (js : List Nat) (σ : Sg) : Option (D × Sg) := match σ[r]? with
  | some (some d) => (match dAt d js with
    | some (.lst .own xs) => (match xs.getLast? with
      | some x => if x.noOwn = true then some (x, σ.set r (some (dPut d js (.lst .own xs.dropLast)))) else none
      | none => none)
    | _ => none)
  | _ => none
def sPopP (r : Nat) (mp : MP) : MS := fun σ => match mp σ with
  | some js => (match upAt r js (fun xs => if xs.isEmpty = true then none else some xs.dropLast) σ with
    | some σ1 => some (.nx, σ1)
    | none => none)
  | none => none
theorem noVws_dropLast {xs : List D} (h : noVws xs = true) : noVws xs.dropLast = true := by
  rw [noVws_all]
  exact List.all_eq_true.mpr fun x m => noVws_mem h (List.dropLast_subset xs m)
theorem reps_dropLast {K : PySem.W.Frag} {Z : Addr → Prop} {H : Hp} : ∀ {vs : List V} {xs : List D} {f : List Addr}, Reps K Z H vs xs f → f.Nodup → ∃ h, Reps K Z H vs.dropLast xs.dropLast h ∧ h.Nodup ∧ ∀ b ∈ h, b ∈ f
  | _, _, _, .nil, nd => ⟨[], .nil, nd, fun b m => m⟩
  | _, _, _, .cons (vs := []) (ds := []) (f1 := f1) (f2 := f2) r t, nd => by
    exact ⟨[], .nil, List.nodup_nil, fun b m => nomatch m⟩
  | _, _, _, .cons (vs := v :: vs) (ds := []) r t, nd => by have := t.length; simp at this
  | _, _, _, .cons (vs := []) (ds := d :: ds) r t, nd => by have := t.length; simp at this
  | _, _, _, .cons (vs := v :: vs) (ds := d :: ds) (f1 := f1) (f2 := f2) r t, nd => by
    obtain ⟨n1, n2, n3⟩ := List.nodup_append.mp nd
    obtain ⟨h, rh, nh, sub⟩ := reps_dropLast t n2
    exact ⟨f1 ++ h, .cons r rh, List.nodup_append.mpr ⟨n1, nh, fun a ha b hb e => n3 a ha b (sub b hb) e⟩, fun b m => (List.mem_append.mp m).elim (List.mem_append_left _) fun m => List.mem_append_right _ (sub b m)⟩
abbrev popE (e1 : Expr) (apos cpos : Pos) : Expr := .Call (.Attribute e1 "pop" apos) [] [] cpos
section
variable {X : Cx} {e1 e2 e3 : Expr} {r : Nat} {mp : MP} {a c : M} {pos : Pos}
theorem pop_nv (xs xs' : List D) (e : (if xs.isEmpty = true then none else some xs.dropLast) = some xs') (n : noVws xs = true) : noVws xs' = true := by
  split at e <;> cases e
  exact noVws_dropLast n
theorem ss_popP {apos cpos : Pos} (hp : SPt X e1 r mp) (hbase : attributeBase e1 "pop" X.env (eval e1 X.env) = eval e1 X.env := by rfl) (hline : (apos.endLine == cpos.line) = true := by rfl)
    (hsw : swapsWith (popE e1 apos cpos) none pos.line X.env = pure false := by rfl) : SS X (.Expr (popE e1 apos cpos) pos) [] (sPopP r mp) := ⟨fun {ρ H σ T f σ' E} ok nv nt h F => by
  unfold sPopP at h
  split at h
  · rename_i js hjs
    split at h
    · rename_i σ1 h1
      cases h
      refine ps_sem (ps_expr (pe_bm0 PySem.F.plainAttrs_list PySem.F.slot_list_pop PySem.F.type_list_pop mt_pop peS hbase hline) hsw) ?_
      refine hp.run ok hjs fun w H1 s1 ok1 wk => ?_
      obtain ⟨p, vs, xs, xs', rfl, hp2, hl, hf, nv', fin⟩ := upAt_run (T := T) (ws := []) (es := []) rfl ok1 nv nt wk h1 pop_nv
      split at hf <;> cases hf
      rename_i hz
      have hlen : 0 < xs.length := by
        cases xs with
        | nil => exact absurd rfl hz
        | cons x r => exact Nat.succ_pos _
      have hlt : vs.length - 1 < vs.length := by omega
      refine ⟨.inl ⟨rfl, vs, .of hp2⟩, p, vs, vs[vs.length - 1], rfl, rfl, hp2, List.getElem?_eq_getElem hlt, ?_⟩
      refine F ρ _ .refl (fin vs.dropLast fun Z f g rf rg nd => ?_) nv'
      obtain ⟨_, rfl⟩ := rg.inv_nil
      rw [List.append_nil] at nd ⊢
      exact reps_dropLast rf nd
    · cases h
  · cases h⟩
/-! ### path[i] op= e : ints -/
theorem pget_list {X : Cx} : PGet X (rIxL X.K) := by
  intro pins s σ H x y v u Q I rx ry h
  obtain ⟨p, xs, i, z, rfl, rfl, hq, he, q⟩ := h
  cases rx
  obtain ⟨t, rfl⟩ := ry
  obtain ⟨its, r, pl, hz⟩ := I.list hq
  obtain ⟨j, h1, h2, h3, h4, h5⟩ := atI_get he
  obtain ⟨w, ew, rw'⟩ := r.get h2
  have hl := r.length
  have hn := line63
  have fin : EP X pins σ Q w s := ⟨z, H, I, rw', q⟩
  by_cases h0 : 0 ≤ i
  · have hj : i.toNat = j := by
      rw [seqIndex_of h0 h5] at h1
      exact Option.some.inj h1
    exact wpAny_getItem_list pl.isList h0 (by omega) (by rw [hj]; simpa using ew) fin
  · have hj : (i + (its.toArray.size : Int)).toNat = j := by
      rw [seqIndex_neg (by omega) h4] at h1
      rw [List.size_toArray, ← hl]
      exact Option.some.inj h1
    exact wpAny_getItem_list_neg pl.isList (by omega) (by rw [List.size_toArray] <;> omega) (by omega) (by rw [hj]; simpa using ew) fin
theorem Rep.walkReps {K : PySem.W.Frag} {Z : Addr → Prop} {H : Hp} : ∀ {js : List Nat} {v w : V} {d : D} {xs : List D} {fp : List Addr}, Rep K Z H v d fp → dAt d js = some (.lst .own xs) → Walk H v js w → ∃ p vs f, w = .ref p ∧ H p = some (.lst vs) ∧ Reps K Z H vs xs f
  | [], v, w, d, xs, fp, r, h, hw => by
    cases h
    obtain ⟨a, vs, f, rfl, _, h1, r1⟩ := r.ownInv
    exact ⟨a, vs, f, hw, h1, r1⟩
  | j :: js, v, w, d, xs, fp, r, h, hw => by
    match d, h, r with
    | .lst .own ds, h, r =>
      simp only [dAt] at h
      split at h
      · rename_i x hx
        obtain ⟨a, vs, f, rfl, _, h1, r1⟩ := r.ownInv
        obtain ⟨b, ws, v', e, h2, h3, h4⟩ := hw
        cases e
        rw [h1] at h2
        cases h2
        obtain ⟨v'', g, q1, q2, _⟩ := r1.get hx
        rw [h3] at q1
        cases q1
        exact Rep.walkReps q2 h h4
      · cases h
theorem Ok.walkInt {K : PySem.W.Frag} {H : Hp} {ρ : L2.St} {σ : Sg} {T : List (V × D)} {d : D} {v w : V} {js : List Nat} {xs : List D} {j : Nat} {x : Int} (ok : Ok K H ρ σ T) (hσ : σ[r]? = some (some d)) (hρ : ρ[r]? = some (some v)) (hd : dAt d js = some (.lst .own xs)) (hw : Walk H v js w) (hx : xs[j]? = some (.int x)) : ∃ p vs, w = .ref p ∧ H p = some (.lst vs) ∧ vs.length = xs.length ∧ vs[j]? = some (.int x) := by
  obtain ⟨v', e, ok'⟩ := ok.take hσ
  rw [hρ] at e
  cases e
  obtain ⟨_, rp⟩ := World.repd (L := T ++ sl ρ (σ.set r none)) ok'.w
  obtain ⟨p, vs, f, rfl, hp, rr⟩ := rp.walkReps hd hw
  obtain ⟨u, g, hu, ru, _⟩ := rr.get hx
  cases ru
  exact ⟨p, vs, rfl, hp, rr.length, hu⟩
/-- what stands at path[i] : its path, place, number -/
def intAt (r : Nat) (mp : MP) (n : M) (σ : Sg) : Option (List Nat × Int × Int) := match mp σ with
  | some js => (match nInt n σ with
    | some i => (match σ[r]? with
      | some (some d) => (match dAt d js with
        | some (.lst .own xs) => (match ixN xs.length i with
          | some j => (match xs[j]? with
            | some (.int x) => some (js, i, x)
            | _ => none)
          | none => none)
        | _ => none)
      | _ => none)
    | none => none)
  | none => none
def sAugP (r : Nat) (mp : MP) (n : M) (f : D → D → Option D) (m : M) : MS := fun σ => match intAt r mp n σ with
  | some (js, i, x) => (match nInt m σ with
    | some k => (match f (.int x) (.int k) with
      | some z => (match upAt r js (fun xs => (ixN xs.length i).map fun j => xs.set j z) σ with
        | some σ1 => some (.nx, σ1)
        | none => none)
      | none => none)
    | none => none)
  | none => none
theorem intAt_inv {n : M} {σ : Sg} {js : List Nat} {i x : Int} (h : intAt r mp n σ = some (js, i, x)) : ∃ d xs j, mp σ = some js ∧ nInt n σ = some i ∧ σ[r]? = some (some d) ∧ dAt d js = some (.lst .own xs) ∧ ixN xs.length i = some j ∧ xs[j]? = some (.int x) := by
  unfold intAt at h
  split at h
  · rename_i js0 h1
    split at h
    · rename_i i0 h2
      split at h
      · rename_i d h3
        split at h
        · rename_i xs h4
          split at h
          · rename_i j h5
            split at h
            · rename_i x0 h6
              cases h
              exact ⟨d, xs, j, h1, h2, h3, h4, h5, h6⟩
            · cases h
          · cases h
        · cases h
      · cases h
    · cases h
  · cases h
theorem ss_augP {op : Operator} {g : Int → Int → Int} {f : D → D → Option D} {tpos : Pos} [KeepM c] [KeepM a] (hp : SPt X e1 r mp) (hc : SE false X e2 c) (he : SE false X e3 a) (ho : PIp X op (ipI g)) (hf' : f = kI fun i j => some (.int (g i j)) := by rfl)
    (ha : ∀ ov iv new, augStore e2 ov iv new = (do holding [new, ov, iv] (setItem ov iv new); release [new, ov, iv] []; pure .next) := by intros; rfl) :
    SS X (.AugAssign (.Subscript e1 e2 tpos) op e3 pos) [] (sAugP r mp c f a) := ⟨fun {ρ H σ T fo σ' E} ok nv nt h F => by
  subst hf'
  unfold sAugP at h
  split at h
  · rename_i js i x hx
    obtain ⟨d, xs0, j, hjs, hi, hd0, hx0, hj, hxj⟩ := intAt_inv hx
    split at h
    · rename_i k hk
      split at h
      · rename_i z hz
        have ez : z = .int (g x k) := by simpa [kI] using hz.symm
        subst ez
        split at h
        · rename_i σ1 h1
          cases h
          refine ps_sem (ps_augS peS peS pget_list peS ho set_list ha) ?_
          refine hp.run ok hjs fun w H1 s1 ok1 wk => ?_
          refine int_run hc ok1 hi fun H2 s2 ok2 => ?_
          obtain ⟨v0, hv0⟩ := ok.al r d hd0
          obtain ⟨p0, vs0, rfl, hp0, hl0, hvj⟩ := ok2.walkInt hd0 hv0 hx0 ((wk v0 hv0).same s2) hxj
          refine ⟨p0, vs0, i, .int x, rfl, rfl, .of hp0, ?_, ?_⟩
          · unfold atI
            rw [hl0, hj]
            exact hvj
          refine int_run he ok2 hk fun H3 s3 ok3 => ?_
          obtain ⟨p, vs, xs, xs', e, hp2, hl, hf, nv', fin⟩ := upAt_run (T := T) (ws := [.int (g x k)]) (es := [.int (g x k)]) (w := .ref p0) rfl (Ok.lift (T1 := []) (T2 := [(.int (g x k), .int (g x k))]) ok3 fun L w => World.int (g x k) w) nv (nt.cons rfl) (fun v' e => ((wk v' e).same s2).same s3) h1 (fun xs xs' e n => by
            cases q : ixN xs.length i with
            | none => rw [q] at e; cases e
            | some j => rw [q] at e; cases e; exact noVws_set n rfl j)
          cases e
          have hd3 : H3 p0 = some (.lst vs0) := s3 _ _ hp0
          rw [hd3] at hp2
          cases hp2
          have hj2 : ixN xs.length i = some j := by rw [← hl, hl0]; exact hj
          rw [hj2] at hf
          cases hf
          refine ⟨x, k, rfl, rfl, p0, vs0, i, j, rfl, rfl, hd3, by rw [hl0]; exact hj, ?_⟩
          exact F ρ _ .refl (fin (vs0.set j (.int (g x k))) fun Z f g rf rg nd => rep_set (ixN_seq hj2).2.1 rf rg nd) nv'
        · cases h
      · cases h
    · cases h
  · cases h⟩
end
/-! ### defs that call themselves: by the depth of their calls -/
def fnR (N : Nat) (m : Fn → MS) : Nat → Fn
  | 0 => fun _ => none
  | n + 1 => fnD N (m (fnR N m n))
theorem fn_none {P : Program} {w : PySem.World} {K : PySem.W.Frag} {mg : Str → Option Value} {base : Heap} {k : Nat} {f : Addr} {fd : FuncData} {ps : List Str} {n : Nat} {ws : List Nat} (hn : n = ps.length) : FnOk P w K mg base CX0 k f fd ps (spOf K n ws fun _ => none) :=
  ⟨fun vs H Q E h => hn ▸ h.1, fun A outer s H args us vs Q E hr he hb hv h => by
    obtain ⟨_, ds, T, r, σ, _, _, _, z, _⟩ := h
    cases z⟩
/-! ### the script -/
theorem world_scr {K : PySem.W.Frag} {H : Hp} {a : Addr} {ns : List Int} (h : SqL K H a (ns.map V.int)) : World K H [(.ref a, .lst .scr (ns.map D.int))] := by
  refine ⟨fun b => b = a ∧ ∃ o, H b = some o, [], .cons (f1 := []) (.scr ?_) .nil, List.nodup_nil, fun _ m => (List.not_mem_nil m).elim, fun b z => z.2⟩
  rcases h with h | h
  · refine .inl ⟨⟨rfl, ?_⟩, h⟩
    rcases h with h | ⟨o, h⟩
    · exact ⟨_, h⟩
    · exact ⟨_, h⟩
  · exact .inr h
theorem sp_law {K : PySem.W.Frag} {H : Hp} {a : Addr} {ns : List Int} {ws : List Nat} {fn : Fn} {E : XK} (hS : SqL K H a (ns.map V.int)) (h : ∃ σ, fn [.lst .scr (ns.map D.int)] = some (.bl true, σ)) : spOf K 1 ws fn [.ref a] H (fun v _ => v = .bl true) E := by
  obtain ⟨σ, h⟩ := h
  have nvs : ∀ ns : List Int, noVws (ns.map D.int) = true := fun ns => by
    induction ns with
    | nil => rfl
    | cons n r ih => exact ih
  refine ⟨rfl, [.lst .scr (ns.map D.int)], [], .bl true, σ, rfl, world_scr hS, NT.cons (d := .lst .scr _) (nvs ns) (fun _ m => nomatch m), h, fun v H' w _ _ => ?_⟩
  obtain ⟨_, r⟩ := w.repd
  cases r
  rfl
end Py
/-! Layer «Py», part P: x[i], x[j] = x[j], x[i]. -/
namespace Py
open PySem PySem.Spec PyProof.Rows L2

def swapL (xs : List D) (i j : Int) : Option (List D) := match ixN xs.length i with
  | some p => (match ixN xs.length j with
    | some q => (match xs[p]? with
      | some dp => (match xs[q]? with
        | some dq => some ((xs.set p dq).set q dp)
        | none => none)
      | none => none)
    | none => none)
  | none => none
def sSwap (r a b : Nat) : MS := fun σ => match σ[r]? with
  | some (some (.lst .own xs)) => (match σ[a]? with
    | some (some (.int i)) => (match σ[b]? with
      | some (some (.int j)) => (match swapL xs i j with
        | some xs' => some (.nx, σ.set r (some (.lst .own xs')))
        | none => none)
      | _ => none)
    | _ => none)
  | _ => none
theorem swapL_inv {xs xs' : List D} {i j : Int} (h : swapL xs i j = some xs') : ∃ p q dp dq, ixN xs.length i = some p ∧ ixN xs.length j = some q ∧ xs[p]? = some dp ∧ xs[q]? = some dq ∧ xs' = (xs.set p dq).set q dp := by
  unfold swapL at h
  split at h
  · rename_i p hp
    split at h
    · rename_i q hq
      split at h
      · rename_i dp hdp
        split at h
        · rename_i dq hdq
          cases h
          exact ⟨p, q, dp, dq, hp, hq, hdp, hdq, rfl⟩
        · cases h
      · cases h
    · cases h
  · cases h
section
variable {K : PySem.W.Frag} {Z : Addr → Prop} {H : Hp}
theorem pm3 {α : Type} (a b c : List α) : (a ++ (b ++ c)).Perm (b ++ (a ++ c)) := by
  rw [← List.append_assoc, ← List.append_assoc]
  exact List.perm_append_comm.append_right _
theorem Reps.trade : ∀ {xs : List D} {vs : List V} {f g : List Addr} {q : Nat} {v vq : V} {d dq : D}, Rep K Z H v d g → Reps K Z H vs xs f → xs[q]? = some dq → vs[q]? = some vq → ∃ g' h, Rep K Z H vq dq g' ∧ Reps K Z H (vs.set q v) (xs.set q d) h ∧ (g' ++ h).Perm (g ++ f)
  | [], _, _, _, _, _, _, _, _, _, _, h, _ => by simp at h
  | x :: xs, vs, f, g, 0, v, vq, d, dq, rv, r, h1, h2 => by
    obtain ⟨u, vr, f1, f2, rfl, rfl, r1, t⟩ := r.inv_cons
    have e1 : x = dq := by simpa using h1
    have e2 : u = vq := by simpa using h2
    subst e1 e2
    exact ⟨f1, g ++ f2, r1, .cons rv t, pm3 _ _ _⟩
  | x :: xs, vs, f, g, q + 1, v, vq, d, dq, rv, r, h1, h2 => by
    obtain ⟨u, vr, f1, f2, rfl, rfl, r1, t⟩ := r.inv_cons
    obtain ⟨g', h, ra, rb, pm⟩ := Reps.trade (xs := xs) rv t (by simpa using h1) (by simpa using h2)
    exact ⟨g', f1 ++ h, ra, .cons r1 rb, (pm3 _ _ _).trans ((pm.append_left f1).trans (pm3 _ _ _))⟩
theorem Reps.swap2 : ∀ {xs : List D} {vs : List V} {f : List Addr} {p q : Nat} {vp vq : V} {dp dq : D}, Reps K Z H vs xs f → xs[p]? = some dp → vs[p]? = some vp → xs[q]? = some dq → vs[q]? = some vq → ∃ h, Reps K Z H ((vs.set p vq).set q vp) ((xs.set p dq).set q dp) h ∧ h.Perm f
  | [], _, _, _, _, _, _, _, _, _, h, _, _, _ => by simp at h
  | x :: xs, vs, f, 0, 0, vp, vq, dp, dq, r, h1, h2, h3, h4 => by
    obtain ⟨u, vr, f1, f2, rfl, rfl, r1, t⟩ := r.inv_cons
    have e1 : x = dp := by simpa using h1
    have e2 : u = vp := by simpa using h2
    subst e1 e2
    exact ⟨f1 ++ f2, .cons r1 t, .refl _⟩
  | x :: xs, vs, f, 0, q + 1, vp, vq, dp, dq, r, h1, h2, h3, h4 => by
    obtain ⟨u, vr, f1, f2, rfl, rfl, r1, t⟩ := r.inv_cons
    have e1 : x = dp := by simpa using h1
    have e2 : u = vp := by simpa using h2
    subst e1 e2
    obtain ⟨g', h, ra, rb, pm⟩ := Reps.trade r1 t (by simpa using h3) (by simpa using h4)
    exact ⟨g' ++ h, .cons ra rb, pm⟩
  | x :: xs, vs, f, p + 1, 0, vp, vq, dp, dq, r, h1, h2, h3, h4 => by
    obtain ⟨u, vr, f1, f2, rfl, rfl, r1, t⟩ := r.inv_cons
    have e1 : x = dq := by simpa using h3
    have e2 : u = vq := by simpa using h4
    subst e1 e2
    obtain ⟨g', h, ra, rb, pm⟩ := Reps.trade r1 t (by simpa using h1) (by simpa using h2)
    exact ⟨g' ++ h, .cons ra rb, pm⟩
  | x :: xs, vs, f, p + 1, q + 1, vp, vq, dp, dq, r, h1, h2, h3, h4 => by
    obtain ⟨u, vr, f1, f2, rfl, rfl, r1, t⟩ := r.inv_cons
    obtain ⟨h, ra, pm⟩ := Reps.swap2 t (by simpa using h1) (by simpa using h2) (by simpa using h3) (by simpa using h4)
    exact ⟨f1 ++ h, .cons r1 ra, pm.append_left f1⟩
end
section
variable {X : Cx} {r a b : Nat}
abbrev sub2 (x i : Str) (p1 p2 p3 : Pos) : Expr := .Subscript (.Name x p1) (.Name i p2) p3
theorem ss_swap {x i j : Str} {p1 p2 p3 q1 q2 q3 r1 r2 r3 s1 s2 s3 pt1 pt2 pos : Pos} {k1 k2 : Nat} (hc : X.calm = true) (hx : X.N[r]? = some x := by rfl) (hi : X.N[a]? = some i := by rfl) (hj : X.N[b]? = some j := by rfl)
    (vx : Vis X.env.scope x := by first | exact Or.inl rfl | exact Or.inr (Or.inl rfl)) (vi : Vis X.env.scope i := by first | exact Or.inl rfl | exact Or.inr (Or.inl rfl)) (vj : Vis X.env.scope j := by first | exact Or.inl rfl | exact Or.inr (Or.inl rfl))
    (dx : (x == ("__debug__" : Str)) = false := by decide) (di : (i == ("__debug__" : Str)) = false := by decide) (dj : (j == ("__debug__" : Str)) = false := by decide)
    (cx : (x == ("__classdict__" : Str)) = false := by decide) (ci : (i == ("__classdict__" : Str)) = false := by decide) (cj : (j == ("__classdict__" : Str)) = false := by decide)
    (hs : swapsWithSole [.Tuple [sub2 x i p1 p2 p3, sub2 x j q1 q2 q3] k1 pt1] (.Tuple [sub2 x j r1 r2 r3, sub2 x i s1 s2 s3] k2 pt2) pos.line X.env = pure false := by rfl) (hw : swappedStores [.Tuple [sub2 x i p1 p2 p3, sub2 x j q1 q2 q3] k1 pt1] (.Tuple [sub2 x j r1 r2 r3, sub2 x i s1 s2 s3] k2 pt2) X.env = pure none := by rfl) :
    SS X (.Assign [.Tuple [sub2 x i p1 p2 p3, sub2 x j q1 q2 q3] k1 pt1] (.Tuple [sub2 x j r1 r2 r3, sub2 x i s1 s2 s3] k2 pt2) pos) [] (sSwap r a b) := ⟨fun {ρ H σ T f σ' E} ok nv nt h F => by
  unfold sSwap at h
  split at h
  · rename_i xs hr
    split at h
    · rename_i i0 ha
      split at h
      · rename_i j0 hb
        split at h
        · rename_i xs' hsw
          cases h
          obtain ⟨p, q, dp, dq, hp, hq, hdp, hdq, rfl⟩ := swapL_inv hsw
          have int_at : ∀ {c : Nat} {n : Int}, σ[c]? = some (some (.int n)) → ρ[c]? = some (some (.int n)) := fun {c n} hc => by
            obtain ⟨v, hv, okc⟩ := ok.take hc
            have e := World.int_of (L := T ++ sl ρ (σ.set c none)) okc.w
            subst e
            exact hv
          have vi0 := int_at ha
          have vj0 := int_at hb
          obtain ⟨v, hv, ok1⟩ := ok.take hr
          have nv1 : NV (σ.set r none) := nv.set fun _ e => nomatch e
          have nL : ∀ z ∈ T ++ sl ρ (σ.set r none), z.2.noVw = true := NT.all nv1 nt
          have nx : noVws xs = true := nv r _ hr
          obtain ⟨p0, vs0, rfl, _, hl0, hh, _⟩ := World.openL (L := T ++ sl ρ (σ.set r none)) ok1.w
          have hH := hh (by decide)
          have hp1 := (ixN_seq hp).2.1
          have hq1 := (ixN_seq hq).2.1
          have ep : vs0[p]? = some vs0[p] := List.getElem?_eq_getElem (by omega)
          have eq : vs0[q]? = some vs0[q] := List.getElem?_eq_getElem (by omega)
          have W := World.put (ws := []) (es := []) (L := T ++ sl ρ (σ.set r none)) rfl nx rfl nL ok1.w
          obtain ⟨vs1, hH1, hl1, fin⟩ := W
          rw [hH] at hH1
          cases hH1
          refine ps_sem (ps_asg (pe_tup (pa_cons (pe_ix ix_list (pe_var hx vx dx cx) (pe_var hj vj dj cj) (fun _ _ => rfl)) (pa_cons (pe_ix ix_list (pe_var hx vx dx cx) (pe_var hi vi di ci) (fun _ _ => rfl)) pa_nil rfl) rfl))
            (pg_tup hc (pgs_cons (pg_sub (pe_var hx vx dx cx) (pe_var hi vi di ci) set_list (by intro _; rfl)) (pgs_cons (pg_sub (pe_var hx vx dx cx) (pe_var hj vj dj cj) set_list (by intro _; rfl)) pgs_nil rfl) rfl) rfl rfl) hs hw rfl) ?_
          have at_ : ∀ {n : Int} {k : Nat}, ixN xs.length n = some k → k < xs.length → ∀ {w : V}, vs0[k]? = some w → atI vs0 n = some w := fun {n k} e _ {w} ew => by
            unfold atI
            rw [hl0, e]
            exact ew
          refine ⟨_, hv, _, vj0, p0, vs0, j0, vs0[q], rfl, rfl, .of hH, at_ hq hq1 eq, ?_⟩
          refine ⟨_, hv, _, vi0, p0, vs0, i0, vs0[p], rfl, rfl, .of hH, at_ hp hp1 ep, ?_⟩
          refine ⟨by rw [sizeLine_eq]; exact Nat.le_of_ble_eq_true rfl, fun t ht => ?_⟩
          have hpt : p0 ≠ t := fun e => by rw [e] at hH; rw [hH] at ht; cases ht
          refine ⟨t, [vs0[q], vs0[p]], rfl, .of upd_same, rfl, ?_⟩
          have h1 : upd H t (.tup [vs0[q], vs0[p]]) p0 = some (.lst vs0) := by rw [upd_ne hpt]; exact hH
          refine ⟨_, _, rfl, _, hv, _, vi0, p0, vs0, i0, p, rfl, rfl, h1, by rw [hl0]; exact hp, ?_⟩
          refine ⟨_, _, rfl, _, hv, _, vj0, p0, vs0.set p vs0[q], j0, q, rfl, rfl, upd_same, by rw [List.length_set, hl0]; exact hq, ?_⟩
          refine ⟨rfl, ?_⟩
          rw [upd_upd]
          have nx2 : noVws ((xs.set p dq).set q dp) = true := noVws_set (noVws_set nx (noVws_mem nx (List.mem_of_getElem? hdq)) p) (noVws_mem nx (List.mem_of_getElem? hdp)) q
          have w2 := fin ((vs0.set p vs0[q]).set q vs0[p]) ((xs.set p dq).set q dp) nx2 fun Z f g rf rg nd => by
            obtain ⟨h, rh, pm⟩ := rf.swap2 hdp ep hdq eq
            obtain ⟨_, rfl⟩ := rg.inv_nil
            rw [List.append_nil] at nd ⊢
            exact ⟨h, rh, pm.nodup_iff.mpr nd, fun b m => pm.mem_iff.mp m⟩
          have w3 : World X.K (upd (upd H t (.tup [vs0[q], vs0[p]])) p0 (.lst ((vs0.set p vs0[q]).set q vs0[p]))) ((.ref p0, .lst .own ((xs.set p dq).set q dp)) :: (T ++ sl ρ (σ.set r none))) := by
            refine w2.same fun z o e => ?_
            by_cases hz : z = p0
            · subst hz
              rw [upd_same] at e ⊢
              exact e
            · rw [upd_ne hz] at e ⊢
              by_cases hzt : z = t
              · subst hzt
                rw [ht] at e
                cases e
              · rw [upd_ne hzt]
                exact e
          have ok3 : Ok X.K (upd (upd H t (.tup [vs0[q], vs0[p]])) p0 (.lst ((vs0.set p vs0[q]).set q vs0[p]))) ρ (σ.set r none) ((.ref p0, .lst .own ((xs.set p dq).set q dp)) :: T) := ⟨ok1.len, ok1.al, w3⟩
          have ok4 := Ok.back ok3 hv
          rw [List.set_set] at ok4
          exact F ρ _ .refl ok4 (nv.set fun d e => by cases e; exact nx2)
        · cases h
      · cases h
    · cases h
  · cases h⟩
end
end Py
/-! Layer «Py», part Q: an argument that is lent after the later ones are reckoned. -/
namespace Py
open PySem PySem.Spec PyProof.Rows L2
def aLate (i : Nat) (r : MA) : MA := fun σ => match σ[i]? with
  | some (some _) => (match r σ with
    | some (xs, σ1) => (match mLend i σ1 with
      | some (x, σ2) => some (x :: xs, σ2)
      | none => none)
    | none => none)
  | _ => none
section
variable {X : Cx} {es : List Expr} {ma : MA} {ld : List (Option Nat)}
theorem sl_late {i : Nat} {x : Str} {p : Pos} (hr : SL X es ld ma) (hN : X.N[i]? = some x := by rfl) (hv : Vis X.env.scope x := by first | exact Or.inl rfl | exact Or.inr (Or.inl rfl) | exact Or.inr (Or.inr rfl)) (hd : (x == ("__debug__" : Str)) = false := by decide)
    (hcd : (x == ("__classdict__" : Str)) = false := by decide) (hs : starEach (.Name x p :: es) X.env = (false, eval (.Name x p) X.env) :: starEach es X.env := by rfl) : SL X (.Name x p :: es) (some i :: ld) (aLate i ma) := ⟨fun {ρ H σ T d σ'} ok nv nt h => by
  unfold aLate at h
  split at h
  · rename_i dd hdd
    split at h
    · rename_i xs σ1 h1
      split at h
      · rename_i d0 σ2 h2
        cases h
        refine pa_sem (pa_cons (pe_var hN hv hd hcd) paS hs) ?_
        obtain ⟨v, hv', _⟩ := ok.take hdd
        refine ⟨v, hv', ?_⟩
        refine semA_mono (hr.run ok nv nt h1) fun vs H2 ⟨hl, hl2, hld, p2⟩ => ?_
        unfold mLend at h2
        split at h2
        · rename_i d1 hd1
          obtain ⟨v2, hv2, okt⟩ := p2.ok.take hd1
          have ev : v2 = v := by
            rw [hv'] at hv2
            cases hv2
            rfl
          subst ev
          have nd1 := p2.nvt.1 i d1 hd1
          have both : ∃ (ok1 : Ok X.K H2 ρ σ' ((v2, d0) :: (vs.zip xs ++ T))), d0 = d1 ∧ NV σ' := by
            split at h2
            · rename_i no
              cases h2
              have ok2 := (okt.lift (T1 := [(v2, d0)]) (T2 := [(v2, d0), (v2, d0)]) fun L w => World.dup no w)
              have ok3 := Ok.back (T := (v2, d0) :: (vs.zip xs ++ T)) ok2 hv'
              have e : (σ'.set i none).set i (some d0) = σ' := by
                rw [List.set_set]
                obtain ⟨h1, h2⟩ := List.getElem?_eq_some_iff.mp hd1
                rw [← h2, List.set_getElem_self]
              rw [e] at ok3
              exact ⟨ok3, rfl, p2.nvt.1⟩
            · cases h2
              exact ⟨okt, rfl, p2.nvt.1.set fun _ e => nomatch e⟩
          obtain ⟨ok1, e0, nv1⟩ := both
          subst e0
          refine ⟨by simp [hl], by simp [hl2], fun j i' v' h1' h2' => ?_, ok1, cdT nv1 (p2.nvt.2.cons nd1), fun n => nv1, fun e => nomatch e⟩
          cases j with
          | zero =>
            simp at h1' h2'
            subst h1' h2'
            exact hv'
          | succ j => exact hld j i' v' (by simpa using h1') (by simpa using h2')
        · cases h2
      · cases h
    · cases h
  · cases h⟩
end
end Py
/-! Layer «Py», part R: a name for an item that is a list of its own (row = rows[k], then row.append(..)): the outer list rests pinned meanwhile. -/
namespace Py
open PySem PySem.Spec PyProof.Rows L2

def cut (H : Hp) (a : Addr) : Hp := fun b => if b = a then none else H b
theorem hcut_ne {H : Hp} {a b : Addr} (h : b ≠ a) : cut H a b = H b := by unfold cut; rw [if_neg h]
theorem hcut_same {H : Hp} {a : Addr} : cut H a a = none := by unfold cut; rw [if_pos rfl]
theorem hcut_some {H : Hp} {a b : Addr} {o : HO} (h : cut H a b = some o) : b ≠ a ∧ H b = some o := by
  by_cases e : b = a
  · subst e
    rw [hcut_same] at h
    cases h
  · rw [hcut_ne e] at h
    exact ⟨e, h⟩
section
variable {P : Program} {w : PySem.World} {H : Hp} {h : Heap} {a b : Addr} {vs : List V}
theorem ObjOk_cut (ha : H a = some (.lst vs)) : ∀ {o : HO}, ObjOk P w H h b o → ObjOk P w (cut H a) h b o
  | .lst xs, x => x
  | .tup xs, x => x
  | .dK kvs, x => x
  | .dT kvs, x => by
    obtain ⟨x1, x2, xs, x3, x4⟩ := x
    refine ⟨x1, x2, xs, L2.Paired.mapP x3 fun p q r => ⟨r.1, ?_, r.2.2⟩, x4⟩
    rw [hcut_ne (fun e => by rw [e, ha] at r; cases r.2.1)]
    exact r.2.1
  | .set S n, x => x
  | .ins C dx fs, x => by
    obtain ⟨x1, x2⟩ := x
    refine ⟨?_, x2⟩
    rw [hcut_ne (fun e => by rw [e, ha] at x1; cases x1)]
    exact x1
  | .own x, y => y
  | .xd fs, x => x
  | .met f x, y => y
  | .rng lo hi, x => x
  | .frz o u, x => ⟨x.1, ObjOk_cut ha x.2⟩
  | .tbl ps, x => x
  | .ext φ, x => x
theorem ObjOk_upd {o1 : HO} (ha : H a = none) : ∀ {o : HO}, ObjOk P w H h b o → ObjOk P w (upd H a o1) h b o
  | .lst xs, x => x
  | .tup xs, x => x
  | .dK kvs, x => x
  | .dT kvs, x => by
    obtain ⟨x1, x2, xs, x3, x4⟩ := x
    refine ⟨x1, x2, xs, L2.Paired.mapP x3 fun p q r => ⟨r.1, ?_, r.2.2⟩, x4⟩
    rw [upd_ne (fun e => by rw [e, ha] at r; cases r.2.1)]
    exact r.2.1
  | .set S n, x => x
  | .ins C dx fs, x => by
    obtain ⟨x1, x2⟩ := x
    refine ⟨?_, x2⟩
    rw [upd_ne (fun e => by rw [e, ha] at x1; cases x1)]
    exact x1
  | .own x, y => y
  | .xd fs, x => x
  | .met f x, y => y
  | .rng lo hi, x => x
  | .frz o u, x => ⟨x.1, ObjOk_upd ha x.2⟩
  | .tbl ps, x => x
  | .ext φ, x => x
theorem HOk_cut (ha : H a = some (.lst vs)) (hk : HOk P w H h) : HOk P w (cut H a) h := fun b o e => ObjOk_cut ha (hk b o (hcut_some e).2)
theorem HOk_back (ha : H a = none) (hk : HOk P w H h) (ho : ObjOk P w H h a (.lst vs)) : HOk P w (upd H a (.lst vs)) h := fun b o e => by
  by_cases q : b = a
  · subst q
    rw [upd_same] at e
    cases e
    exact ho
  · rw [upd_ne q] at e
    exact ObjOk_upd ha (hk b o e)
end
/-- a list is pinned for a while -/
theorem Inv_pin {X : Cx} {pins : List (Addr × Obj)} {ρ : L2.St} {H : Hp} {s : Shared} {a : Addr} {vs : List V} (I : Inv X pins ρ H s) (ha : H a = some (.lst vs)) :
    ∃ o, Inv X ((a, o) :: pins) ρ (cut H a) s ∧ ∀ ρ' H' s', Inv X ((a, o) :: pins) ρ' H' s' → H' a = none ∧ Inv X pins ρ' (upd H' a (.lst vs)) s' := by
  obtain ⟨hsz, its, n, hv, ho⟩ := I.hok a _ ha
  refine ⟨{ cls := .type "list", data := .seq its.toArray n }, ⟨I.ok, I.os, I.bare, ⟨I.base.keep, I.base.slot, fun b o e n x => ?_, I.base.there, fun b xs e => ?_, fun b o u e => ?_, fun b ps e => ?_⟩, I.loc, I.cell, ?_, fun x c e => ?_, fun p m => ?_, HOk_cut ha I.hok, I.len⟩, fun ρ' H' s' I' => ?_⟩
  · have := I.base.free b o e n x
    by_cases q : b = a
    · subst q; exact hcut_same
    · rw [hcut_ne q]; exact this
  · have := I.base.tups b xs e
    rw [hcut_ne (fun q => by rw [q, ha] at this; cases this)]
    exact this
  · have := I.base.frzs b o u e
    rw [hcut_ne (fun q => by rw [q, ha] at this; cases this)]
    exact this
  · obtain ⟨more, this⟩ := I.base.tbls b ps e
    refine ⟨more, ?_⟩
    rw [hcut_ne (fun q => by rw [q, ha] at this; cases this)]
    exact this
  · have := I.free
    by_cases q : X.env.locals = a
    · rw [q]; exact hcut_same
    · rw [hcut_ne q]; exact this
  · have := I.freeC x c e
    by_cases q : c = a
    · rw [q]; exact hcut_same
    · rw [hcut_ne q]; exact this
  · have old : ∀ p ∈ X.pn ++ pins, s.heap.get? p.1 = some p.2 ∧ cut H a p.1 = none ∧ p.1 ≠ X.env.locals ∧ p.1 ∉ X.fs ∧ ∀ v, p.2.data ≠ .cell v := fun p m => by
      obtain ⟨p1, p2, p3⟩ := I.pin p m
      refine ⟨p1, ?_, p3⟩
      by_cases q : p.1 = a
      · rw [q]; exact hcut_same
      · rw [hcut_ne q]; exact p2
    rcases List.mem_append.mp m with m | m
    · exact old p (List.mem_append_left _ m)
    · rcases List.mem_cons.mp m with e | m
      · subst e
        refine ⟨ho, hcut_same, fun e => ?_, fun m => ?_, fun v e => by cases e⟩
        · have e : a = X.env.locals := e
          have := I.free
          rw [← e, ha] at this
          cases this
        · obtain ⟨_, o, hob, _⟩ := I.ok.funs.mem m
          have := I.base.free a o hob (I.ok.frf a m) fun z => I.ok.exfs a z m
          rw [ha] at this
          cases this
      · exact old p (List.mem_append_right _ m)
  · obtain ⟨q1, q2, q3, q4, q5⟩ := I'.pin (a, _) (List.mem_append_right _ List.mem_cons_self)
    simp only at q1 q2 q3 q4
    refine ⟨q2, ⟨I'.ok, I'.os, I'.bare, ⟨I'.base.keep, I'.base.slot, fun b o e n x => ?_, I'.base.there, fun b xs e => ?_, fun b o u e => ?_, fun b ps e => ?_⟩, I'.loc, I'.cell, ?_, fun x c e => ?_, fun p m => ?_, ?_, I'.len⟩⟩
    · have h1 := I'.base.free b o e n x
      by_cases q : b = a
      · subst q
        have h2 := I.base.free b o e n x
        rw [ha] at h2
        cases h2
      · rw [upd_ne q]; exact h1
    · have := I'.base.tups b xs e
      rw [upd_ne (fun q => by rw [q, q2] at this; cases this)]
      exact this
    · have := I'.base.frzs b o u e
      rw [upd_ne (fun q => by rw [q, q2] at this; cases this)]
      exact this
    · obtain ⟨more, this⟩ := I'.base.tbls b ps e
      refine ⟨more, ?_⟩
      rw [upd_ne (fun q => by rw [q, q2] at this; cases this)]
      exact this
    · rw [upd_ne (Ne.symm q3)]
      exact I'.free
    · have h1 := I'.freeC x c e
      have hne : c ≠ a := fun q => by
        have := I.freeC x c e
        rw [q, ha] at this
        cases this
      rw [upd_ne hne]
      exact h1
    · obtain ⟨p1, p2, p3⟩ := I'.pin p (by
        rcases List.mem_append.mp m with m | m
        · exact List.mem_append_left _ m
        · exact List.mem_append_right _ (List.mem_cons_of_mem _ m))
      have hne : p.1 ≠ a := fun q => by
        have := (I.pin p m).2.1
        rw [q, ha] at this
        cases this
      exact ⟨p1, by rw [upd_ne hne]; exact p2, p3⟩
    · exact HOk_back q2 I'.hok ⟨hsz, its, n, hv, q1⟩
/-! ### worlds without the list -/
section
variable {K : PySem.W.Frag} {Z : Addr → Prop} {H : Hp}
mutual
theorem Rep.cut {a : Addr} {xs : List V} (ha : H a = some (.lst xs)) (nz : ¬ Z a) : ∀ {v : V} {d : D} {fp : List Addr}, Rep K Z H v d fp → a ∉ fp → d.noVw = true → Rep K Z (cut H a) v d fp
  | _, _, _, .non, _, _ => .non
  | _, _, _, .bl b, _, _ => .bl b
  | _, _, _, .int i, _, _ => .int i
  | _, _, _, .str x, _, _ => .str x
  | _, _, _, .tup (a := b) h r, _, n => .tup (by rw [hcut_ne (fun e => by rw [e, ha] at h; cases h)]; exact h) (r.cut ha nz (by simp) n)
  | _, _, _, .own (a := b) h r, m, n => .own (by
      rw [hcut_ne (fun e => m (by rw [e]; exact List.mem_cons_self))]; exact h) (r.cut ha nz (fun e => m (List.mem_cons_of_mem _ e)) n)
  | _, _, _, .frz (a := b) z h r, _, n => .frz z (by rw [hcut_ne (fun e => nz (by rw [← e]; exact z))]; exact h) (r.cut ha nz (by simp) n)
  | _, _, _, .vw h r, _, n => by simp [D.noVw] at n
  | _, _, _, .scr (a := b) h, _, _ => .scr (h.imp (fun q => ⟨q.1, by
      have e : b ≠ a := fun e => nz (by rw [← e]; exact q.1)
      exact q.2.imp (fun z => by rw [hcut_ne e]; exact z) fun ⟨o, z⟩ => ⟨o, by rw [hcut_ne e]; exact z⟩⟩) id)
theorem Reps.cut {a : Addr} {xs : List V} (ha : H a = some (.lst xs)) (nz : ¬ Z a) : ∀ {vs : List V} {ds : List D} {fp : List Addr}, Reps K Z H vs ds fp → a ∉ fp → noVws ds = true → Reps K Z (cut H a) vs ds fp
  | _, _, _, .nil, _, _ => .nil
  | _, _, _, .cons r t, m, n => by
    simp only [noVws, Bool.and_eq_true] at n
    exact .cons (r.cut ha nz (fun e => m (List.mem_append_left _ e)) n.1) (t.cut ha nz (fun e => m (List.mem_append_right _ e)) n.2)
end
theorem Wd.cut {a : Addr} {xs : List V} (ha : H a = some (.lst xs)) (nz : ¬ Z a) : ∀ {L : List (V × D)} {fp : List Addr}, Wd K Z H L fp → a ∉ fp → (∀ p ∈ L, p.2.noVw = true) → Wd K Z (Py.cut H a) L fp
  | _, _, .nil, _, _ => .nil
  | _, _, .cons r t, m, n => .cons (r.cut ha nz (fun e => m (List.mem_append_left _ e)) (n _ List.mem_cons_self))
      (Wd.cut ha nz t (fun e => m (List.mem_append_right _ e)) fun p hp => n p (List.mem_cons_of_mem _ hp))
theorem World.cutL {v : V} {xs : List D} {L : List (V × D)} (nx : noVws xs = true) (nL : ∀ p ∈ L, p.2.noVw = true) : World K H ((v, .lst .own xs) :: L) →
    ∃ a vs, v = .ref a ∧ H a = some (.lst vs) ∧ vs.length = xs.length ∧ World K (Py.cut H a) (vs.zip xs ++ L) := fun ⟨Z, fp, w, nd, nz, zt⟩ => by
  obtain ⟨f1, f2, rfl, r, t⟩ := w.inv
  cases r with
  | own h r =>
    rename_i a vs fa w0
    obtain ⟨na, nd⟩ := List.nodup_cons.mp (show (a :: (fa ++ f2)).Nodup from nd)
    have za : ¬ Z a := nz a List.mem_cons_self
    refine ⟨a, vs, rfl, h, r.length, Z, fa ++ f2, .ofItems (r.cut h za (fun m => na (List.mem_append_left _ m)) nx) (t.cut h za (fun m => na (List.mem_append_right _ m)) nL), nd, fun b m => nz b (List.mem_cons_of_mem _ m), fun b z => ?_⟩
    obtain ⟨o, e⟩ := zt b z
    exact ⟨o, by rw [hcut_ne (fun q => za (by rw [← q]; exact z))]; exact e⟩
end
/-! ### the rule -/
def sAlias (r k row : Nat) (m : MS) : MS := fun σ => match σ[r]? with
  | some (some (.lst .own xs)) => (match σ[k]? with
    | some (some (.int i)) => (match ixN xs.length i with
      | some j => (match xs[j]? with
        | some x => if row < σ.length then (match m ((σ.set r none).set row (some x)) with
          | some (f, σ') => (match σ'[row]? with
            | some (some x') => some (f, (σ'.set row none).set r (some (.lst .own (xs.set j x'))))
            | _ => none)
          | none => none) else none
        | none => none)
      | none => none)
    | _ => none)
  | _ => none
theorem zipA_split : ∀ {vs : List V} {xs : List D} {j : Nat} {v : V} {x : D}, vs[j]? = some v → xs[j]? = some x → ∃ R, List.Perm (vs.zip xs) ((v, x) :: R) ∧ ∀ y, List.Perm (vs.zip (xs.set j y)) ((v, y) :: R)
  | [], _, _, _, _, h, _ => by simp at h
  | _ :: _, [], _, _, _, _, h => by simp at h
  | a :: vs, b :: xs, 0, v, x, h1, h2 => by
    have e1 : a = v := by simpa using h1
    have e2 : b = x := by simpa using h2
    subst e1 e2
    exact ⟨vs.zip xs, .refl _, fun y => .refl _⟩
  | a :: vs, b :: xs, j + 1, v, x, h1, h2 => by
    obtain ⟨R, p, q⟩ := zipA_split (vs := vs) (xs := xs) (j := j) (v := v) (x := x) (by simpa using h1) (by simpa using h2)
    exact ⟨(a, b) :: R, (p.cons _).trans (.swap _ _ _), fun y => ((q y).cons _).trans (.swap _ _ _)⟩
section
variable {X : Cx} {r k row : Nat} {rest : List Stmt} {ws : List Nat} {m : MS}
theorem sss_alias {xr xk xw : Str} {p1 p2 p3 p4 pos : Pos} (h : SSs X rest ws m) (hN : X.N.Nodup) (hw : row ∉ ws) (hr : r ∉ ws) (hne : r ≠ row)
    (nr : X.N[r]? = some xr := by rfl) (nk : X.N[k]? = some xk := by rfl) (nw : X.N[row]? = some xw := by rfl)
    (vr : Vis X.env.scope xr := by first | exact Or.inl rfl | exact Or.inr (Or.inl rfl)) (vk : Vis X.env.scope xk := by first | exact Or.inl rfl | exact Or.inr (Or.inl rfl)) (lw : Loc X.env.scope xw := by first | exact Or.inl rfl | exact Or.inr rfl)
    (dr : (xr == ("__debug__" : Str)) = false := by decide) (dk : (xk == ("__debug__" : Str)) = false := by decide)
    (cr : (xr == ("__classdict__" : Str)) = false := by decide) (ck : (xk == ("__classdict__" : Str)) = false := by decide)
    (hs : swapsWith (.Subscript (.Name xr p1) (.Name xk p2) p3) (some (.Name xw p4)) pos.line X.env = pure false := by rfl)
    (hf : X.fn xw = true ∨ X.env.scope.names.lookup xw = some .local := by first | exact .inl rfl | exact .inr rfl | assumption) :
    SSs X (.Assign [.Name xw p4] (.Subscript (.Name xr p1) (.Name xk p2) p3) pos :: rest) (row :: ws) (sAlias r k row m) := ⟨fun {ρ H σ T f σ' E} ok nv nt hm F => by
  unfold sAlias at hm
  split at hm
  · rename_i xs hr0
    split at hm
    · rename_i i hk0
      split at hm
      · rename_i j hj
        split at hm
        · rename_i x hx
          split at hm
          · rename_i hrow
            split at hm
            · rename_i f2 σ2 hm2
              split at hm
              · rename_i x' hx'
                cases hm
                have int_at : ρ[k]? = some (some (.int i)) := by
                  obtain ⟨v, hv, okc⟩ := ok.take hk0
                  have e := World.int_of (L := T ++ sl ρ (σ.set k none)) okc.w
                  subst e
                  exact hv
                obtain ⟨v, hv, ok1⟩ := ok.take hr0
                have nv1 : NV (σ.set r none) := nv.set fun _ e => nomatch e
                have nx : noVws xs = true := nv r _ hr0
                have nL : ∀ z ∈ T ++ sl ρ (σ.set r none), z.2.noVw = true := NT.all nv1 nt
                obtain ⟨a, vs, rfl, hH, hl, w1⟩ := World.cutL (L := T ++ sl ρ (σ.set r none)) nx nL ok1.w
                have hj1 := (ixN_seq hj).2.1
                have hvj : vs[j]? = some vs[j] := List.getElem?_eq_getElem (by omega)
                obtain ⟨R, pR, qR⟩ := zipA_split hvj hx
                have hxv : x.noVw = true := noVws_mem nx (List.mem_of_getElem? hx)
                have nR : NT (R ++ T) := fun p m => (List.mem_append.mp m).elim (fun m => by
                  have m2 : p ∈ vs.zip xs := pR.mem_iff.mpr (List.mem_cons_of_mem _ m)
                  exact noVws_mem nx (List.of_mem_zip m2).2) (nt p)
                have ok2 : Ok X.K (cut H a) ρ (σ.set r none) ((vs[j], x) :: (R ++ T)) := ⟨ok1.len, ok1.al, by
                  rw [← List.append_assoc] at w1
                  exact w1.perm ((pR.append_right T).append_right _)⟩
                have ok3 := Ok.put (i := row) ok2 (by rw [List.length_set]; exact hrow)
                have nv3 : NV ((σ.set r none).set row (some x)) := nv1.set fun d e => by cases e; exact hxv
                have ex : atI vs i = some vs[j] := by
                  have hj' : ixN vs.length i = some j := by rw [hl]; exact hj
                  unfold atI
                  rw [hj']
                  exact hvj
                refine pss_sem (pss_cons (ps_set hN nw lw (pe_ix ix_list (pe_var nr vr dr cr) (pe_var nk vk dk ck) (fun _ _ => rfl)) hs hf) pssS) ?_
                refine ⟨_, hv, _, int_at, a, vs, i, vs[j], rfl, rfl, .of hH, ex, ?_⟩
                show semSs X rest E (ρ.set row (some vs[j])) H
                intro pins s I
                obtain ⟨o, I1, back⟩ := Inv_pin I hH
                have kp0 : Kp [row] ρ (ρ.set row (some vs[j])) := .set
                have hrho : row < ρ.length := by rw [ok.len]; exact hrow
                -- what the rest leaves is put together again
                have fin : ∀ {ρ' : L2.St} {H' : Hp} {T2 : List (V × D)}, Kp ws (ρ.set row (some vs[j])) ρ' → Ok X.K H' ρ' σ2 (T2 ++ (R ++ T)) → NV σ2 → H' a = none → Kp (row :: ws) ρ ρ' ∧ Ok X.K (upd H' a (.lst vs)) ρ' ((σ2.set row none).set r (some (.lst .own (xs.set j x')))) (T2 ++ T) ∧ NV ((σ2.set row none).set r (some (.lst .own (xs.set j x')))) := fun {ρ' H' T2} kp ok' nv' hn => by
                  have kk : Kp (row :: ws) ρ ρ' := (kp0.trans kp).mono fun q m => m
                  obtain ⟨v', hv', ok4⟩ := ok'.take hx'
                  have ev : v' = vs[j] := by
                    rw [kp.keep row hw, List.getElem?_set_self hrho] at hv'
                    cases hv'
                    rfl
                  subst ev
                  have hxv' : x'.noVw = true := nv' row _ hx'
                  have hrr : ρ'[r]? = some (some (.ref a)) := by
                    rw [kp.keep r hr, List.getElem?_set_ne (fun e => hne e.symm)]
                    exact hv
                  have w4 : World X.K H' (vs.zip (xs.set j x') ++ (T2 ++ T ++ sl ρ' (σ2.set row none))) := by
                    refine ok4.w.perm ?_
                    have p1 : List.Perm ((vs[j], x') :: (T2 ++ (R ++ T)) ++ sl ρ' (σ2.set row none)) (((vs[j], x') :: R) ++ (T2 ++ T ++ sl ρ' (σ2.set row none))) := by
                      have : List.Perm (T2 ++ (R ++ T)) (R ++ (T2 ++ T)) := by
                        rw [← List.append_assoc, ← List.append_assoc]
                        exact List.perm_append_comm.append_right T
                      have := (this.append_right (sl ρ' (σ2.set row none))).cons (vs[j], x')
                      simpa [List.append_assoc] using this
                    exact p1.trans ((qR x').symm.append_right _)
                  have w5 := World.newLst (K := X.K) (p := a) (vs := vs) (xs := xs.set j x') (L := T2 ++ T ++ sl ρ' (σ2.set row none)) (by rw [List.length_set]; exact hl) hn w4
                  have ok5 : Ok X.K (upd H' a (.lst vs)) ρ' (σ2.set row none) ((.ref a, .lst .own (xs.set j x')) :: (T2 ++ T)) := ⟨ok4.len, ok4.al, w5⟩
                  exact ⟨kk, ok5.back hrr, (nv'.set (i := row) (o := none) fun _ e => nomatch e).set fun d e => by cases e; exact noVws_set nx hxv' j⟩
                let E2 : Ends := { nx := fun ρ' H' => H' a = none → E.nx ρ' (upd H' a (.lst vs)), bk := fun ρ' H' => H' a = none → E.bk ρ' (upd H' a (.lst vs)), ct := fun ρ' H' => H' a = none → E.ct ρ' (upd H' a (.lst vs)), rt := fun v H' => H' a = none → E.rt v (upd H' a (.lst vs)) }
                have F2 : Fin X.K E2 (ρ.set row (some vs[j])) ws (R ++ T) f σ2 := by
                  cases f with
                  | nx => exact fun ρ' H' kp ok' nv' hn => let ⟨q1, q2, q3⟩ := fin (T2 := []) kp ok' nv' hn; F ρ' _ q1 q2 q3
                  | bk => exact fun ρ' H' kp ok' nv' hn => let ⟨q1, q2, q3⟩ := fin (T2 := []) kp ok' nv' hn; F ρ' _ q1 q2 q3
                  | ct => exact fun ρ' H' kp ok' nv' hn => let ⟨q1, q2, q3⟩ := fin (T2 := []) kp ok' nv' hn; F ρ' _ q1 q2 q3
                  | rt d => exact fun v ρ' H' kp ok' nv' hd hn => let ⟨q1, q2, q3⟩ := fin (T2 := [(v, d)]) kp ok' nv' hn; F v ρ' _ q1 q2 q3 hd
                refine thn (h.run (E := E2) ok3 nv3 nR hm2 F2 ((a, o) :: pins) s I1) fun fl s' q => ?_
                cases fl with
                | next =>
                  obtain ⟨ρ', H', I', q⟩ := q
                  obtain ⟨hn, I''⟩ := back ρ' H' s' I'
                  exact ⟨ρ', _, I'', q hn⟩
                | brk =>
                  obtain ⟨ρ', H', I', q⟩ := q
                  obtain ⟨hn, I''⟩ := back ρ' H' s' I'
                  exact ⟨ρ', _, I'', q hn⟩
                | cont =>
                  obtain ⟨ρ', H', I', q⟩ := q
                  obtain ⟨hn, I''⟩ := back ρ' H' s' I'
                  exact ⟨ρ', _, I'', q hn⟩
                | ret u =>
                  obtain ⟨v, ρ', H', I', rv, q⟩ := q
                  obtain ⟨hn, I''⟩ := back ρ' H' s' I'
                  exact ⟨v, ρ', _, I'', rv, q hn⟩
              · cases hm
            · cases hm
          · cases hm
        · cases hm
      · cases hm
    · cases hm
  · cases hm⟩
end
end Py
/-! Layer «Py», part S: tuple(reversed(tuple)), reversed(range), pop as a value. -/
namespace Py.RevTT
open PySem PySem.Spec PyProof.Rows
theorem tup_at {g g' : Heap} {t : Addr} {xs : Array Value} (x : IsTup g t xs) (e : ∀ o, g.get? t = some o → g'.get? t = some o) : IsTup g' t xs := let ⟨o, ho, r⟩ := x; ⟨o, e _ ho, r⟩
section
variable {P : Program} {w : PySem.World} {A : Around} {E : Value → Shared → Prop} {s : Shared}
theorem walk {it t : Addr} {xs : Array Value} (calm : A.handled = none) (ne : t ≠ it) (small : xs.size ≤ sizeLine) :
    Walks P w A it [it, t] [it] xs.size (fun j v => xs[xs.size - 1 - j]? = some v) (fun j g => j ≤ xs.size ∧ RT.IsRt g it t ((xs.size : Int) - 1 - (j : Int)) ∧ IsTup g t xs) where
  sub := fun c hc => by simp at hc; simp [hc]
  frame := fun _ _ _ st keep => ⟨st.1, st.2.1.at fun o e => keep it (by simp) o e, tup_at st.2.2 fun o e => keep t (by simp) o e⟩
  item := fun j s Q E hj st hQ => by
    have ej : (xs.size : Int) - 1 - (j : Int) = ((xs.size - 1 - j : Nat) : Int) := by omega
    have on := st.2.1
    rw [ej] at on
    have got : xs[xs.size - 1 - j]? = some (xs[xs.size - 1 - j]'(by omega)) := Array.getElem?_eq_getElem (by omega)
    refine RT.next_rt_item on st.2.2 got small fun g on' but => ?_
    have ej2 : ((xs.size - 1 - j : Nat) : Int) - 1 = (xs.size : Int) - 1 - ((j + 1 : Nat) : Int) := by omega
    rw [ej2] at on'
    exact hQ _ g (s.toks + 1) got ⟨hj, on', tup_at st.2.2 fun o eo => (but.2 t ne).trans eo⟩ fun c o hc eo => (but.2 c (fun e => hc (by simp [e]))).trans eo
  done := fun s Q E st hQ => by
    have ej : (xs.size : Int) - 1 - (xs.size : Int) = -1 := by omega
    have on := st.2.1
    rw [ej] at on
    exact RT.next_rt_end calm on fun g keep => hQ g s.toks fun c o hc eo => keep c o (fun e => hc (by simp [e])) eo
  self := fun _ _ _ _ st hQ => RT.iter_rt st.2.1 hQ
theorem noLen : typeLookup (.type "reversed") "__len__" = pure none := by rw [typeLookup_type, builtinLookup_eq_fast]; kernel_rfl
theorem slotH : Slot "reversed" "__length_hint__" "reversed.__length_hint__" := .of (owner := "reversed") (n := "__length_hint__") (by rw [typeLookup_type, builtinLookup_eq_fast]; kernel_rfl)
  (by decide +kernel) (by decide +kernel) (by decide +kernel) (by first | exact .inl (by decide +kernel) | exact .inr (by decide +kernel)) (by rw [isSubtype_type]; kernel_rfl)
theorem entryH : entryFor table "reversed.__length_hint__" = some Builtin.«reversed.__length_hint__» := entryFor_of_tree (by kernel_rfl)
theorem argsH (a : Value) : argsOk "reversed.__length_hint__" ⟨[a], []⟩ := by
  unfold argsOk
  rw [signature?_of (id := "reversed.__length_hint__") (n := "__length_hint__".toList.reverse) (o := ['d', 'e', 's', 'r', 'e', 'v', 'e', 'r']) (by kernel_rfl) RT.owner_rt]
  kernel_rfl
/-- how many are to come -/
theorem call_hint {it t : Addr} {xs : Array Value} {Q : Value → Shared → Prop} (on : RT.IsRt s.heap it t ((xs.size : Int) - 1)) (tup : IsTup s.heap t xs) (small : xs.size ≤ sizeLine)
    (hQ : ∀ q tk, Q (.int xs.size q) { s with toks := tk }) : wpAny (model P w) A (call (.builtin "reversed.__length_hint__") [.ref it]) Q E s := by
  obtain ⟨o, ho, hc, hd⟩ := id on
  rw [sizeLine_eq] at small
  refine wpAny_call_entry slotH on.typeIs entryH ?_ (argsH _)
  unfold Builtin.«reversed.__length_hint__»
  refine wpAny_bind (wpAny_of_eq (a := Value.ref it) rfl ?_)
  refine wpAny_bind (wpAny_field ho hd (x := .ref t) rfl ?_)
  have e0 : (Value.ref t == Value.none) = false := rfl
  try simp only [e0, Bool.false_eq_true, if_false]
  try dsimp only
  refine wpAny_bind (PyProof.Rows.len_tuple tup (by omega) ?_)
  refine wpAny_bind (wpAny_of_eq (a := some (xs.size : Int)) rfl ?_)
  refine wpAny_bind (wpAny_field (s := { s with toks := s.toks + 1 + 1 }) ho hd (x := rawInt ((xs.size : Int) - 1)) rfl ?_)
  show wpAny _ _ (if (xs.size : Int) < (xs.size : Int) - 1 + 1 then _ else retInt ((xs.size : Int) - 1 + 1)) _ _ _
  rw [if_neg (by omega), show (xs.size : Int) - 1 + 1 = xs.size by omega]
  exact wpAny_bind (wpAny_mkInt (wpAny_pure ⟨_, rfl, hQ _ _⟩))
theorem room {it t : Addr} {xs : Array Value} {Q : Bool → Shared → Prop} (on : RT.IsRt s.heap it t ((xs.size : Int) - 1)) (tup : IsTup s.heap t xs) (small : xs.size ≤ sizeLine)
    (hQ : ∀ tk, Q ((xs.size : Int) != 0) { s with toks := tk }) : wpAny (model P w) A (Builtin.List.listLengthHint (.ref it)) Q E s := by
  have hT := on.typeIs
  have small' := small
  rw [sizeLine_eq] at small'
  have f1 : Builtin.List.listFitsIndex (xs.size : Int) = true := by
    show (decide (-(2 ^ 63 : Int) ≤ (xs.size : Int)) && decide ((xs.size : Int) < 2 ^ 63)) = true
    rw [decide_eq_true (by omega), decide_eq_true (by omega)]
    rfl
  have f2 : Builtin.List.listTooLong (xs.size : Int).toNat = false := by
    show decide ((xs.size : Int).toNat > sizeLine) = false
    rw [sizeLine_eq]
    exact decide_eq_false (by omega)
  have f3 : ¬ ((xs.size : Int) < 0) := by omega
  unfold Builtin.List.listLengthHint
  refine wpAny_bind (wpAny_specialOf hT noLen ?_)
  refine wpAny_bind (m := specialOf (Value.ref it) (Str.ofString "__length_hint__")) (wpAny_specialOf hT slotH.lookup ?_)
  generalize hid : ("reversed.__length_hint__" : String) = id0
  wp_delta
  rw [show splitId id0 = some ("reversed", "__length_hint__") from by subst hid; decide +kernel]
  subst hid
  refine wpAny_bind (wpAny_isInstance (b := true) hT (by rw [isSubtype_type]; kernel_rfl) ?_)
  rw [if_neg (by decide)]
  dsimp only
  rw [if_neg (by decide +kernel)]
  refine wpAny_bind (wpAny_rule ?_)
  refine wpAny_bind (wpAny_of_eq (slotH.bind _) ?_)
  dsimp only
  refine wpAny_bind (wpAny_attempt (call_hint on tup small fun q tk => ?_))
  generalize hn : (xs.size : Int) = n at f1 f2 f3 hQ
  dsimp only
  have ea : asInt? (.int n q) = pure (some n) := rfl
  rw [ea]
  refine wpAny_bind (wpAny_pure ?_)
  dsimp only
  rw [f1, if_neg (by decide), if_neg f3, f2, if_neg (by decide)]
  exact wpAny_pure (hQ tk)
/-- list building over reversed(tuple) -/
theorem gather {it t : Addr} {xs : Array Value} {Q : List Value → Shared → Prop} (calm : A.handled = none) (on : RT.IsRt s.heap it t ((xs.size : Int) - 1)) (tup : IsTup s.heap t xs) (ne : t ≠ it) (small : xs.size ≤ sizeLine)
    (hQ : ∀ (g : Heap) (tk : Nat) (acc : Array Value), (∀ c o, c ≠ it → s.heap.get? c = some o → g.get? c = some o) → ItemsOf (fun j v => xs[xs.size - 1 - j]? = some v) acc xs.size → Q acc.toList { s with heap := g, toks := tk }) :
    wpAny (model P w) A (collect (.ref it)) Q E s := by
  have W := (walk (P := P) (w := w) (A := A.in1) (it := it) (t := t) (xs := xs) calm ne small).toS
  obtain ⟨oi, hoi, _⟩ := id on
  obtain ⟨ot, hot, _⟩ := id tup
  have ni : s.heap.objs.size ≠ it := Nat.ne_of_gt (Heap.lt_size hoi)
  have nt : s.heap.objs.size ≠ t := Nat.ne_of_gt (Heap.lt_size hot)
  have nf : s.heap.objs.size ∉ [it, t] := by
    simp only [List.mem_cons, List.not_mem_nil, or_false, not_or]
    exact ⟨ni, nt⟩
  unfold collect
  refine wpAny_bind (wpAny_runValue (codeAny_builtin F.entry_proto_collect ?_))
  rw [Around.under_plainId F.plain_proto_collect _]
  refine wpAny_bind (m := newList []) (wpAny_newObj_type ?_)
  refine wpAny_pure ⟨plainId_quiet F.plain_list_iadd _, codeAny_builtin F.entry_list_iadd ?_⟩
  rw [Around.under_plainId F.plain_list_iadd _]
  let L0 : Obj := { cls := .type "list", data := .seq ([] : List Value).toArray }
  have hS : (s.heap.push L0).get? s.heap.objs.size = some L0 := Heap.get?_push_size _ rfl
  have on1 : RT.IsRt (s.heap.push L0) it t ((xs.size : Int) - 1) := on.at fun o e => Heap.get?_push_of_some _ e
  have tup1 : IsTup (s.heap.push L0) t xs := tup_at tup fun o e => Heap.get?_push_of_some _ e
  have hT : ({ s with heap := s.heap.push L0 } : Shared).TypeIs (.ref it) "reversed" := RT.IsRt.typeIs (s := { s with heap := s.heap.push L0 }) on1
  have apart : Builtin.List.listSameRef (.ref s.heap.objs.size) (.ref it) = false := by simp [Builtin.List.listSameRef, ni]
  show wpAny _ A.in1 (Builtin.List.listExtendWith (.ref s.heap.objs.size) (.ref it) (.ref s.heap.objs.size)) _ _ { s with heap := s.heap.push L0 }
  unfold Builtin.List.listExtendWith
  refine wpAny_bind (wpAny_typeOf hT ?_)
  rw [if_neg (by rw [apart]; decide)]
  refine wpAny_bind (RT.iter_rt (s := { s with heap := s.heap.push L0 }) on1 ?_)
  refine wpAny_bind (wpAny_holding ?_)
  refine room (s := { s with heap := s.heap.push L0 }) on1 tup1 small fun tk => ?_
  have e0 : ((xs.size : Nat) : Int) - 1 - ((0 : Nat) : Int) = (xs.size : Int) - 1 := by omega
  dsimp only
  by_cases hz : ((xs.size : Int) != 0) = true
  · rw [if_pos (by rw [hz]; rfl)]
    refine wpAny_bind (wpAny_rule ?_)
    refine wpAny_bind (m := Builtin.List.listTouch (Value.ref s.heap.objs.size)) ?_
    show wpAny _ A.in1 (updateSeq s.heap.objs.size (·.push .none) >>= fun _ => updateSeq s.heap.objs.size (·.pop)) _ _ _
    refine wpAny_bind (wpAny_updateSeq hS rfl ?_)
    have hS2 := Heap.get?_update_self (Obj.mapSeq (·.push Value.none)) hS rfl
    refine wpAny_updateSeq hS2 rfl ?_
    have hS3 := Heap.get?_update_self (Obj.mapSeq (·.pop)) hS2 rfl
    have oth : ∀ c o, c ≠ s.heap.objs.size → (s.heap.push L0).get? c = some o → (((s.heap.push L0).update s.heap.objs.size (Obj.mapSeq (·.push Value.none))).update s.heap.objs.size (Obj.mapSeq (·.pop))).get? c = some o :=
      fun c o hc e => (Heap.get?_update_other _ _ (Ne.symm hc)).trans ((Heap.get?_update_other _ _ (Ne.symm hc)).trans e)
    refine wpAny_pure ⟨plainId_quiet F.plain_extend_loop _, codeAny_extend_loopS W small _ nf _ xs.size 0 _ _ _ rfl (Nat.zero_le _) ⟨Nat.zero_le _, RT.IsRt.at (by rw [e0]; exact on1) fun o e => oth it o (Ne.symm ni) e, tup_at tup1 fun o e => oth t o (Ne.symm nt) e⟩ hS3 (ItemsOf.nil _) fun s' acc' c' mv hS' got => ?_⟩
    refine wpAny_bind (m := load s.heap.objs.size) (wpAny_load hS' ?_)
    refine wpAny_pure ?_
    rw [Moved.eq_with mv]
    refine hQ s'.heap s'.toks acc' (fun c o hc e => mv.heap c o (fun hm => ?_) (oth c o (fun z => ?_) (Heap.get?_push_of_some _ e))) got
    · rcases List.mem_cons.mp hm with z | hm
      · exact absurd (Heap.lt_size e) (by rw [z]; exact Nat.lt_irrefl _)
      · exact hc (List.mem_singleton.mp hm)
    · exact absurd (Heap.lt_size e) (by rw [z]; exact Nat.lt_irrefl _)
  · rw [if_neg (by
      rw [Bool.or_eq_true, not_or]
      exact ⟨hz, by decide +kernel⟩)]
    have oth : ∀ c o, c ≠ s.heap.objs.size → (s.heap.push L0).get? c = some o → (s.heap.push L0).get? c = some o := fun _ _ _ e => e
    refine wpAny_pure ⟨plainId_quiet F.plain_extend_loop _, codeAny_extend_loopS W small _ nf _ xs.size 0 _ _ _ rfl (Nat.zero_le _) ⟨Nat.zero_le _, RT.IsRt.at (by rw [e0]; exact on1) fun o e => oth it o (Ne.symm ni) e, tup_at tup1 fun o e => oth t o (Ne.symm nt) e⟩ hS (ItemsOf.nil _) fun s' acc' c' mv hS' got => ?_⟩
    refine wpAny_bind (m := load s.heap.objs.size) (wpAny_load hS' ?_)
    refine wpAny_pure ?_
    rw [Moved.eq_with mv]
    refine hQ s'.heap s'.toks acc' (fun c o hc e => mv.heap c o (fun hm => ?_) (oth c o (fun z => ?_) (Heap.get?_push_of_some _ e))) got
    · rcases List.mem_cons.mp hm with z | hm
      · exact absurd (Heap.lt_size e) (by rw [z]; exact Nat.lt_irrefl _)
      · exact hc (List.mem_singleton.mp hm)
    · exact absurd (Heap.lt_size e) (by rw [z]; exact Nat.lt_irrefl _)
theorem made {it t : Addr} {xs : Array Value} {Q1 : Value → Shared → Prop} (calm : A.handled = none) (on : RT.IsRt s.heap it t ((xs.size : Int) - 1)) (tup : IsTup s.heap t xs) (ne : t ≠ it) (small : xs.size ≤ sizeLine)
    (hq : ∀ (g : Heap) (tk : Nat) (acc : Array Value), (∀ c o, c ≠ it → s.heap.get? c = some o → g.get? c = some o) → ItemsOf (fun j v => xs[xs.size - 1 - j]? = some v) acc xs.size →
      Q1 (.ref g.objs.size) { s with heap := g.push { cls := .type "tuple", data := .seq acc }, toks := tk }) :
    codeAny (model P w) A (.call (.builtin "tuple.__new__") ⟨[.type "tuple", .ref it], []⟩) (wants Q1 E) s := by
  refine codeAny_of_tree ?_
  refine wpAny_bind (m := checkBuiltinCall "tuple.__new__" ⟨[.type "tuple", .ref it], []⟩) (wpAny_of_eq (F.newCall_tuple_1 _) (wpAny_pure ⟨plainId_quiet F.plain_tuple_new _, codeAny_builtin F.entry_tuple_new ?_⟩))
  rw [Around.under_plainId F.plain_tuple_new _]
  have q1 := sub_tuple_self
  have q2 := init_tuple_lookup
  have q3 := madeHere_tuple
  have q4 : s.TypeIs (.ref it) "reversed" := on.typeIs
  have q5 : A.in1.handled = none := calm
  wp_walk using wpAny_typeOf q4, gather (A := A.in1) q5 on tup ne small
  intro g tk acc keep got
  have ea : acc.toList.toArray = acc := by simp
  show wpAny _ _ (Builtin.Tuple.tupleExact acc.toList.toArray >>= fun v => ret v) _ _ _
  rw [ea]
  unfold Builtin.Tuple.tupleExact
  refine wpAny_bind (wpAny_newObj_type ?_ (by show acc.size ≤ sizeLine; rw [got.1]; exact small))
  exact wpAny_pure (hq g tk acc keep got)
theorem call_tup {it t : Addr} {xs : Array Value} {Q : Value → Shared → Prop} (calm : A.handled = none) (on : RT.IsRt s.heap it t ((xs.size : Int) - 1)) (tup : IsTup s.heap t xs) (ne : t ≠ it) (small : xs.size ≤ sizeLine)
    (hQ : ∀ (g : Heap) (tk : Nat) (acc : Array Value), (∀ c o, c ≠ it → s.heap.get? c = some o → g.get? c = some o) → ItemsOf (fun j v => xs[xs.size - 1 - j]? = some v) acc xs.size →
      Q (.ref g.objs.size) { s with heap := g.push { cls := .type "tuple", data := .seq acc }, toks := tk }) :
    wpAny (model P w) A (call (.type "tuple") [.ref it]) Q E s := by
  refine callType_codes (Q₁ := fun obj s1 => s1.TypeIs obj "tuple" ∧ Q obj s1) F.called_tuple (F.typeCall_tuple_1 _) F.entry_object_init ?_ fun obj s1 h1 => ?_
  · exact made (A := A.in1) calm on tup ne small fun g tk acc keep got => ⟨⟨_, Heap.get?_push_size _ rfl, rfl⟩, hQ g tk acc keep got⟩
  · exact ⟨h1.1, F.args_object_init_2 obj _, object_init_meets F.called_tuple.init.lookup F.called_tuple.made (by decide) P w A.in1 _ s1 ⟨h1.1, rfl, h1.2⟩⟩
end
end Py.RevTT
namespace Py
open PySem PySem.Spec PyProof.Rows L2
section
variable {X : Cx} {b : Bool} {e1 e2 : Expr} {a c : M} {pos : Pos}
/-! ### tuple(reversed(x)) -/
def tTupRevT (K : PySem.W.Frag) (te : TE) : TE := fun σ H Q => te σ H fun v H1 => ∃ (a : Addr) (xs : List V), v = .ref a ∧ SqT K H1 a xs ∧ ∀ q, H1 q = none → Q (.ref q) (upd H1 q (.tup xs.reverse))
theorem pe_tupRevT {e : Expr} {te : TE} {p p2 pos2 : Pos} (hc : X.calm = true) (hg : Gl X "tuple") (hm : X.mg "tuple" = none) (hg2 : Gl X "reversed") (hm2 : X.mg "reversed" = none) (he : PE X e te)
    (hs : starEach [e] X.env = (false, eval e X.env) :: starEach [] X.env := by rfl)
    (hs2 : starEach [.Call (.Name "reversed" p2) [e] [] pos2] X.env = (false, eval (.Call (.Name "reversed" p2) [e] [] pos2) X.env) :: starEach [] X.env := by rfl) :
    PE X (.Call (.Name "tuple" p) [.Call (.Name "reversed" p2) [e] [] pos2] [] pos) (tTupRevT X.K te) := ⟨fun pins s σ H Q I h => by
  refine Call_ (ld_blt I hg hm boot_tuple (PyProof.Rows.callWith_type1 (args_cons (Call_ (ld_blt I hg2 hm2 PyProof.Rows.boot_reversed (PyProof.Rows.callWith_type1 (args_cons (thn (he.run pins s σ H _ I h) fun u s1 ⟨v, H1, I1, r1, q1⟩ => args_nil ?_) hs) hs rfl))) hs2) hs2 rfl))
  obtain ⟨t, xs, ev, hq, q⟩ := q1
  subst ev
  obtain rfl : u = Value.ref t := r1
  obtain ⟨its, rv, tup, hz⟩ := I1.tuple hq
  have hz2 : its.toArray.size ≤ sizeLine := by rw [List.size_toArray, ← rv.length]; exact hz
  refine RT.call_reversed_tup tup (fun A E Q q => PyProof.Rows.len_tuple tup (by rw [sizeLine_eq] at hz2; omega) q) (args_nil ?_)
  have I2 : Inv X pins σ H1 { s1 with heap := s1.heap.push (RT.rtObj t ((its.toArray.size : Int) - 1)), toks := s1.toks + 1 + 1 } := I1.kept (t' := s1.toks + 1 + 1) fun c o e => Heap.get?_push_of_some _ e
  obtain ⟨f0, f1, f2, f3, f4, f5⟩ := I1.fpOk (H' := H1) (b := s1.heap.objs.size) (Nat.le_refl _) (I1.hok.fresh (Nat.le_refl _))
  have on : RT.IsRt (s1.heap.push (RT.rtObj t ((its.toArray.size : Int) - 1))) s1.heap.objs.size t ((its.toArray.size : Int) - 1) := ⟨_, Heap.get?_push_size _ rfl, rfl, rfl⟩
  obtain ⟨ot, hot, _⟩ := id tup
  have ne : t ≠ s1.heap.objs.size := Nat.ne_of_lt (Heap.lt_size hot)
  refine RevTT.call_tup (s := { s1 with heap := s1.heap.push (RT.rtObj t ((its.toArray.size : Int) - 1)), toks := s1.toks + 1 + 1 }) (I1.ok.hd hc) on (RevTT.tup_at tup fun o e => Heap.get?_push_of_some _ e) ne hz2 fun g tk acc keep got => ?_
  have I3 : Inv X pins σ H1 { s1 with heap := g, toks := tk } := I2.turned (t' := tk) (fun c o hc e => keep c o hc e) f0 f1 f3 f4 f5
  have hz3 : xs.reverse.length ≤ sizeLine := by rw [List.length_reverse]; exact hz
  have made : IsTup (g.push { cls := .type "tuple", data := .seq acc }) g.objs.size acc.toList.toArray := by
    rw [Array.toArray_toList]
    exact IsTup.new _ _
  have I4 := I3.laid (t' := tk) (a := g.objs.size) (o := .tup xs.reverse) (h' := g.push { cls := .type "tuple", data := .seq acc }) (fun c o e => Heap.get?_push_of_some _ e) (Nat.le_refl _) (show ObjOk X.prog X.w _ _ _ (.tup xs.reverse) from ⟨hz3, acc.toList, RT.vals_rev rv got, made⟩)
  exact ⟨.ref g.objs.size, _, I4, rfl, q _ (I3.hok.fresh (Nat.le_refl _))⟩⟩
def fRevT : D → Option D
  | .tup xs => some (.tup xs.reverse)
  | .lst _ xs => if noOwns xs = true then some (.tup xs.reverse) else none
  | _ => none
theorem noOwns_revs {xs : List D} (h : noOwns xs = true) : noOwns xs.reverse = true := by
  rw [noOwns_all, List.all_eq_true] at h ⊢
  exact fun x m => h x (List.mem_reverse.mp m)
theorem zip_revs {vs : List V} {xs : List D} (h : vs.length = xs.length) : List.Perm (vs.zip xs) (vs.reverse.zip xs.reverse) := by
  have e : vs.reverse.zip xs.reverse = (vs.zip xs).reverse := by
    unfold List.zip
    rw [List.reverse_zipWith h]
  rw [e]
  exact (List.reverse_perm _).symm
theorem se_tupRev {p p2 pos2 : Pos} (hc : X.calm = true) (hg : Gl X "tuple") (hm : X.mg "tuple" = none) (hg2 : Gl X "reversed") (hm2 : X.mg "reversed" = none) (ha : SE b X e1 a)
    (hs : starEach [e1] X.env = (false, eval e1 X.env) :: starEach [] X.env := by rfl)
    (hs2 : starEach [.Call (.Name "reversed" p2) [e1] [] pos2] X.env = (false, eval (.Call (.Name "reversed" p2) [e1] [] pos2) X.env) :: starEach [] X.env := by rfl) :
    SE b X (.Call (.Name "tuple" p) [.Call (.Name "reversed" p2) [e1] [] pos2] [] pos) (m1 fRevT a) := ⟨fun {ρ H σ T d σ'} ok cd h => by
  unfold m1 at h
  split at h
  · rename_i x σ1 h1
    split at h
    · rename_i z hz
      cases h
      cases x with
      | tup xs =>
        cases hz
        refine pe_sem (pe_tupRevT hc hg hm hg2 hm2 peS hs hs2) ?_
        refine semE_mono (ha.run ok cd h1) fun v H1 p => ?_
        obtain ⟨t, vs, rfl, ht, hl, hn, w⟩ := World.openT (L := T ++ sl ρ σ') p.ok.w
        refine ⟨t, vs, rfl, .of ht, fun q hq => ?_⟩
        have w2 := World.newTup (L := T ++ sl ρ σ') (by simp [hl]) (noOwns_revs hn) hq (w.perm ((zip_revs hl).append_right _))
        refine ⟨⟨p.ok.len, p.ok.al, w2⟩, fun e => ⟨(p.cd e).1, NT.cons ?_ (p.cd e).2.tail⟩, p.nv, fun e => (p.sm e).trans (same_upd hq)⟩
        exact noVws_rev (NT.head (p.cd e).2)
      | lst f xs =>
        simp only [fRevT] at hz
        split at hz
        · rename_i hn
          cases hz
          refine pe_sem (RT.pe_tupRev hc hg hm hg2 hm2 peS hs hs2) ?_
          refine semE_mono (ha.run ok cd h1) fun v H1 p => ?_
          obtain ⟨t, vs, rfl, ht, hl, _, w⟩ := World.openL (L := T ++ sl ρ σ') p.ok.w
          refine ⟨t, vs, rfl, ht, fun q hq => ?_⟩
          have w2 := World.newTup (L := T ++ sl ρ σ') (by simp [hl]) (noOwns_revs hn) hq (w.perm ((zip_revs hl).append_right _))
          refine ⟨⟨p.ok.len, p.ok.al, w2⟩, fun e => ⟨(p.cd e).1, NT.cons ?_ (p.cd e).2.tail⟩, p.nv, fun e => (p.sm e).trans (same_upd hq)⟩
          have hv : (D.lst f xs).noVw = true := NT.head (p.cd e).2
          have : noVws xs = true := by cases f <;> simp_all [D.noVw]
          exact noVws_rev this
        · cases hz
      | non => cases hz
      | bl k => cases hz
      | int i => cases hz
      | str s => cases hz
    · cases h
  · cases h⟩
/-! ### for .. in reversed(range(..)) -/
theorem up_rev : ∀ (n : Nat) (lo : Int), (up lo n).reverse = down (lo + (n : Int) - 1) n
  | 0, lo => rfl
  | n + 1, lo => by
    have e : up lo (n + 1) = up lo n ++ [.int (lo + n)] := by
      have go : ∀ (n : Nat) (lo : Int), up lo (n + 1) = up lo n ++ [.int (lo + n)] := by
        intro n
        induction n with
        | zero => intro lo; simp [up]
        | succ n ih =>
          intro lo
          rw [up, ih (lo + 1), up]
          have : lo + 1 + (n : Int) = lo + ((n + 1 : Nat) : Int) := by omega
          rw [this]
          rfl
      exact go n lo
    rw [e, List.reverse_append, up_rev n lo]
    have e1 : lo + ((n + 1 : Nat) : Int) - 1 = lo + n := by omega
    have e2 : lo + (n : Int) - 1 = lo + n - 1 := by omega
    rw [e1]
    rfl
def iRevRng1 (a : M) : MI := fun σ => match a σ with
  | some (.int j, σ1) => if okR j = true then some ((up 0 j.toNat).reverse, none, σ1) else none
  | _ => none
def iRevRng2 (a c : M) : MI := fun σ => match a σ with
  | some (.int i, σ1) => (match c σ1 with
    | some (.int j, σ2) => if okR i = true ∧ okR j = true then some ((up i (j - i).toNat).reverse, none, σ2) else none
    | _ => none)
  | _ => none
theorem okR_wide {j : Int} (h : okR j = true) : -(2 ^ 62) ≤ j ∧ j < 2 ^ 62 := by
  obtain ⟨h1, h2⟩ := okR_iff h
  exact ⟨by omega, by omega⟩
variable {tg : Expr}
theorem si_revRng1 {p p2 pos2 : Pos} (hg : Gl X "reversed") (hm : X.mg "reversed" = none) (hg2 : Gl X "range") (hm2 : X.mg "range" = none) (ha : SE b X e1 a) (hs : starEach [e1] X.env = (false, eval e1 X.env) :: starEach [] X.env := by rfl)
    (hs2 : starEach [.Call (.Name "range" p2) [e1] [] pos2] X.env = (false, eval (.Call (.Name "range" p2) [e1] [] pos2) X.env) :: starEach [] X.env := by rfl) :
    SI b X tg (.Call (.Name "reversed" p) [.Call (.Name "range" p2) [e1] [] pos2] [] pos) none (iRevRng1 a) := ⟨fun {ρ H σ T ds o σ' R} ok cd h q => by
  unfold iRevRng1 at h
  split at h
  · rename_i j σ1 h1
    split at h
    · rename_i hj
      cases h
      refine pi_sem (pi_revR hg hm (prg_1 hg2 hm2 peS hs) hs2) ?_
      refine semE_mono (ha.run ok cd h1) fun v H1 p => ?_
      have e := World.int_of (L := T ++ sl ρ σ') p.ok.w
      subst e
      obtain ⟨z1, z2⟩ := okR_wide hj
      refine ⟨j, rfl, by decide, by decide, z1, z2, ?_⟩
      have ej : (j - 0).toNat = j.toNat := by omega
      rw [ej]
      refine q _ _ _ (by rw [up_rev]; exact yl_rangeD) (fun _ => noVws_rev (up_noVw _ _)) trivial ⟨p.ok.tail, fun e => ⟨(p.cd e).1, (p.cd e).2.tail⟩, p.nv, p.sm⟩
    · cases h
  · cases h⟩
theorem si_revRng2 {p p2 pos2 : Pos} (hg : Gl X "reversed") (hm : X.mg "reversed" = none) (hg2 : Gl X "range") (hm2 : X.mg "range" = none) (ha : SE b X e1 a) (hb : SE b X e2 c) (na : starEach [e1, e2] X.env = (false, eval e1 X.env) :: starEach [e2] X.env := by rfl)
    (nb : starEach [e2] X.env = (false, eval e2 X.env) :: starEach [] X.env := by rfl) (hp : (backTo pos2 (starEach [e2] X.env)).any (·.1) = false := by rfl)
    (hs2 : starEach [.Call (.Name "range" p2) [e1, e2] [] pos2] X.env = (false, eval (.Call (.Name "range" p2) [e1, e2] [] pos2) X.env) :: starEach [] X.env := by rfl) :
    SI b X tg (.Call (.Name "reversed" p) [.Call (.Name "range" p2) [e1, e2] [] pos2] [] pos) none (iRevRng2 a c) := ⟨fun {ρ H σ T ds o σ' R} ok cd h q => by
  unfold iRevRng2 at h
  split at h
  · rename_i i σ1 h1
    split at h
    · rename_i j σ2 h2
      split at h
      · rename_i hj
        cases h
        refine pi_sem (pi_revR hg hm (prg_2 hg2 hm2 peS peS na nb hp) hs2) ?_
        refine semE_mono (ha.run ok cd h1) fun v H1 p => ?_
        refine semE_mono (hb.run p.ok p.cd h2) fun v2 H2 p2 => ?_
        have e := World.int_of (L := (v, D.int i) :: (T ++ sl ρ σ')) p2.ok.w
        subst e
        have e := World.int_of (L := T ++ sl ρ σ') p2.ok.tail.w
        subst e
        obtain ⟨z1, z2⟩ := okR_wide hj.1
        obtain ⟨z3, z4⟩ := okR_wide hj.2
        refine ⟨i, j, rfl, rfl, z1, z2, z3, z4, ?_⟩
        exact q _ _ _ (by rw [up_rev]; exact yl_rangeD) (fun _ => noVws_rev (up_noVw _ _)) trivial ⟨p2.ok.tail.tail, fun e => ⟨(p2.cd e).1, (p2.cd e).2.tail.tail⟩, fun n => p2.nv (p.nv n), fun e => (p.sm e).trans (p2.sm e)⟩
      · cases h
    · cases h
  · cases h⟩
end
end Py
namespace Py
open PySem PySem.Spec PyProof.Rows L2
/-! ### x = path.pop() -/
theorem pk_view : ∀ {d : D}, d.noOwn = true → d.view = d
  | .non, _ => rfl
  | .bl _, _ => rfl
  | .int _, _ => rfl
  | .str _, _ => rfl
  | .tup _, _ => rfl
  | .lst .own _, h => by cases h
  | .lst .frz _, _ => rfl
  | .lst .vw _, _ => rfl
  | .lst .scr _, _ => rfl
section
variable {K : PySem.W.Frag} {H : Hp}
theorem World.peekW : ∀ {js : List Nat} {d : D} {v0 w : V} {xs : List D} {n : Nat} {x : D} {L : List (V × D)}, World K H ((v0, d.view) :: L) → dAt d js = some (.lst .own xs) → Walk H v0 js w → xs[n]? = some x → x.noOwn = true →
    ∃ p vs v, w = .ref p ∧ H p = some (.lst vs) ∧ vs.length = xs.length ∧ vs[n]? = some v ∧ World K H ((v, x) :: L)
  | [], d, v0, w, xs, n, x, L, wd, hd, hw, hx, no => by
    have hd : d = .lst .own xs := by
      cases d <;> simpa [dAt] using hd
    subst hd
    have hw : w = v0 := hw
    subst hw
    obtain ⟨a, vs, rfl, _, hl, hH, w2⟩ := World.openL wd
    have hl2 : (views xs).length = xs.length := by rw [views_map, List.length_map]
    obtain ⟨v, hv, w3⟩ := w2.pick hl (j := n) (d := x) (by rw [views_map, List.getElem?_map, hx, Option.map_some]; exact congrArg some (pk_view no))
    exact ⟨a, vs, v, rfl, hH (by decide), by rw [hl, hl2], hv, w3⟩
  | j :: js, d, v0, w, xs, n, x, L, wd, hd, hw, hx, no => by
    unfold dAt at hd
    split at hd
    · rename_i e; cases e
    · rename_i ys j' js' e
      cases e
      split at hd
      · rename_i y hy
        obtain ⟨a, vs, rfl, _, hl, hH, w2⟩ := World.openL wd
        obtain ⟨v1, hv1, w3⟩ := w2.pick hl (j := j) (d := y.view) (by rw [views_map, List.getElem?_map, hy]; rfl)
        obtain ⟨a', vs', v', e1, e2, e3, e4⟩ := hw
        cases e1
        rw [hH (by decide)] at e2
        cases e2
        rw [hv1] at e3
        cases e3
        exact World.peekW w3 hd e4 hx no
      · cases hd
    · cases hd
theorem Ok.peek {ρ : L2.St} {σ : Sg} {T : List (V × D)} {r : Nat} {js : List Nat} {d : D} {xs : List D} {n : Nat} {x : D} {w : V} (ok : Ok K H ρ σ T) (hd : σ[r]? = some (some d)) (hx : dAt d js = some (.lst .own xs)) (hn : xs[n]? = some x) (no : x.noOwn = true)
    (wk : ∀ v, ρ[r]? = some (some v) → Walk H v js w) : ∃ p vs v, w = .ref p ∧ H p = some (.lst vs) ∧ vs.length = xs.length ∧ vs[n]? = some v ∧ Ok K H ρ σ ((v, x) :: T) := by
  obtain ⟨v0, hv0, ok1⟩ := ok.take hd
  obtain ⟨p, vs, v, e1, e2, e3, e4, w4⟩ := World.peekW (World.view (L := T ++ sl ρ (σ.set r none)) ok1.w) hx (wk v0 hv0) hn no
  refine ⟨p, vs, v, e1, e2, e3, e4, ?_⟩
  have ok2 : Ok K H ρ (σ.set r none) ((v0, d) :: (v, x) :: T) := ⟨ok1.len, ok1.al, w4.swap⟩
  have ok3 := ok2.back hv0
  have e : (σ.set r none).set r (some d) = σ := by
    rw [List.set_set]
    obtain ⟨h1, h2⟩ := List.getElem?_eq_some_iff.mp hd
    rw [← h2, List.set_getElem_self]
  rw [e] at ok3
  exact ok3
end
def sPopSet (i r : Nat) (mp : MP) : MS := fun σ => match mp σ with
  | some js => (match popAt r js σ with
    | some (x, σ1) => if i < σ1.length then some (.nx, σ1.set i (some x)) else none
    | none => none)
  | none => none
section
variable {X : Cx} {e1 : Expr} {r i : Nat} {mp : MP} {pos : Pos}
theorem ss_popSet {x : Str} {pos' apos cpos : Pos} (hN : X.N.Nodup) (hp : SPt X e1 r mp) (hi : X.N[i]? = some x := by rfl) (hx : Loc X.env.scope x := by first | exact Or.inl rfl | exact Or.inr rfl)
    (hbase : attributeBase e1 "pop" X.env (eval e1 X.env) = eval e1 X.env := by rfl) (hline : (apos.endLine == cpos.line) = true := by rfl)
    (hs : swapsWith (popE e1 apos cpos) (some (.Name x pos')) pos.line X.env = pure false := by rfl) (hf : X.fn x = true ∨ X.env.scope.names.lookup x = some .local := by first | exact .inl rfl | exact .inr rfl | assumption) :
    SS X (.Assign [.Name x pos'] (popE e1 apos cpos) pos) [i] (sPopSet i r mp) := ⟨fun {ρ H σ T f σ' E} ok nv nt h F => by
  unfold sPopSet at h
  split at h
  · rename_i js hjs
    split at h
    · rename_i y σ1 h1
      split at h
      · rename_i hl
        cases h
        unfold popAt at h1
        split at h1
        · rename_i d hd
          split at h1
          · rename_i xs hxs
            split at h1
            · rename_i y' hy
              split at h1
              · rename_i no
                cases h1
                refine ps_sem (ps_set hN hi hx (pe_bm0 PySem.F.plainAttrs_list PySem.F.slot_list_pop PySem.F.type_list_pop mt_pop peS hbase hline) hs hf) ?_
                refine hp.run ok hjs fun w H1 s1 ok1 wk => ?_
                have hlast : xs[xs.length - 1]? = some y := by rw [← List.getLast?_eq_getElem?]; exact hy
                obtain ⟨p, vs, v, rfl, hp2, hl2, hv, ok2⟩ := ok1.peek hd hxs hlast no wk
                have ny : y.noVw = true := by
                  have := dAt_noVw (nv r d hd) hxs
                  exact noVws_mem (show noVws xs = true from this) (List.mem_of_getElem? hlast)
                have hup : upAt r js (fun xs => if xs.isEmpty = true then none else some xs.dropLast) σ = some (σ.set r (some (dPut d js (.lst .own xs.dropLast)))) := by
                  unfold upAt
                  rw [hd]
                  simp only [hxs]
                  have : xs.isEmpty = false := by
                    cases xs with
                    | nil => simp at hlast
                    | cons a l => rfl
                  rw [if_neg (by rw [this]; decide)]
                obtain ⟨p', vs', xs', xs'', e1, hp3, hl3, hf3, nv', fin⟩ := upAt_run (T := (v, y) :: T) (ws := []) (es := []) rfl ok2 nv (nt.cons ny) wk hup pop_nv
                cases e1
                rw [hp2] at hp3
                cases hp3
                split at hf3 <;> cases hf3
                have hlt : vs.length - 1 < vs.length := by
                  have := (List.getElem?_eq_some_iff.mp hv).1
                  omega
                have hv2 : vs[vs.length - 1]? = some v := by rw [hl2]; exact hv
                refine ⟨.inl ⟨rfl, vs, .of hp2⟩, p, vs, v, rfl, rfl, hp2, hv2, ?_⟩
                have ok3 := fin vs.dropLast fun Z f g rf rg nd => by
                  obtain ⟨_, rfl⟩ := rg.inv_nil
                  rw [List.append_nil] at nd ⊢
                  exact reps_dropLast rf nd
                exact F _ _ .set (ok3.put hl) (nv'.set fun d e => by cases e; exact ny)
              · cases h1
            · cases h1
          · cases h1
        · cases h1
      · cases h
    · cases h
  · cases h⟩
end
end Py
/-! Layer «Py», part T: len(set(xs)), xs a list of tuples, nested. -/
namespace Py.SN
open PySem PySem.Spec PyProof.Rows L2
mutual
/-- whole numbers, None and tuples of these: no text -/
def pl : NestedKey → Bool
  | .none => true
  | .num _ => true
  | .text _ => false
  | .tup ks => pls ks
def pls : List NestedKey → Bool
  | [] => true
  | k :: ks => pl k && pls ks
end
section
variable {P : Program} {w : PySem.World}
/-- no class's instance, n levels down -/
def Cls (P : Program) (w : PySem.World) (n : Nat) (s : Shared) (v : Value) : Prop := ∀ (B : Around) (F : Value → Shared → Prop) (R : Bool → Shared → Prop), R false s → wpAny (model P w) B (ofAClassStatement n v) R F s
/-- its hash hangs on its value alone, n levels down -/
def Vh (P : Program) (w : PySem.World) (n : Nat) (s : Shared) (v : Value) : Prop := ∀ (B : Around) (F : Value → Shared → Prop) (R : Bool → Shared → Prop), R true s → wpAny (model P w) B (hashByValue n v) R F s
theorem Cls.tuple {n m : Nat} {s : Shared} {b : Addr} {ob : Obj} {its : Array Value} (g : s.heap.get? b = some ob) (c : ob.cls = .type "tuple") (d : ob.data = .seq its m) (al : ∀ v ∈ its.toList, Cls P w n s v) : Cls P w (n + 1) s (.ref b) := fun B F R q => by
  have ty : s.TypeIs (.ref b) "tuple" := ⟨ob, g, c⟩
  unfold ofAClassStatement
  refine wpAny_bind (wpAny_typeOf ty ?_)
  dsimp only
  have tt : (("tuple" : String) == "tuple") = true := by decide
  simp only [tt, if_true, Bool.not_true, Bool.false_eq_true, if_false]
  try refine wpAny_bind (wpAny_pure ?_)
  try simp only [Bool.not_true, Bool.false_eq_true, if_false]
  show wpAny _ _ (seqItems? (.ref b) >>= _) _ _ s
  refine wpAny_bind (wpAny_seqItems g d ?_)
  dsimp only
  refine wpAny_bind ?_
  show wpAny _ _ (forIn its _ _) _ _ s
  rw [← Array.forIn_toList]
  refine wpAny_forIn_list _ (fun l z s2 => z.1 = none ∧ s2 = s ∧ ∀ v ∈ l, Cls P w n s v) _ ?_ ?_ _ _ ⟨rfl, rfl, al⟩
  · rintro v l z s2 ⟨_, rfl, al2⟩
    refine wpAny_bind (al2 v List.mem_cons_self _ _ _ ?_)
    simp only [Bool.false_eq_true, if_false]
    exact wpAny_pure ⟨rfl, rfl, fun u hu => al2 u (.tail _ hu)⟩
  · rintro ⟨z1, z2⟩ s2 ⟨e1, rfl, _⟩
    simp only at e1
    subst e1
    exact wpAny_pure q
theorem Vh.tuple {n m : Nat} {s : Shared} {b : Addr} {ob : Obj} {its : Array Value} (g : s.heap.get? b = some ob) (c : ob.cls = .type "tuple") (d : ob.data = .seq its m) (al : ∀ v ∈ its.toList, Vh P w n s v) : Vh P w (n + 1) s (.ref b) := fun B F R q => by
  have ty : s.TypeIs (.ref b) "tuple" := ⟨ob, g, c⟩
  unfold hashByValue
  refine wpAny_bind (wpAny_specialOf ty PySem.F.slot_tuple_hash.lookup ?_)
  show wpAny _ _ (seqItems? (.ref b) >>= _) _ _ s
  refine wpAny_bind (wpAny_seqItems g d ?_)
  refine wpAny_bind ?_
  show wpAny _ _ (forIn its _ _) _ _ s
  rw [← Array.forIn_toList]
  refine wpAny_forIn_list _ (fun l z s2 => z.1 = none ∧ s2 = s ∧ ∀ v ∈ l, Vh P w n s v) _ ?_ ?_ _ _ ⟨rfl, rfl, al⟩
  · rintro v l z s2 ⟨_, rfl, al2⟩
    refine wpAny_bind (al2 v List.mem_cons_self _ _ _ ?_)
    simp only [Bool.not_true, Bool.false_eq_true, if_false]
    exact wpAny_pure ⟨rfl, rfl, fun u hu => al2 u (.tail _ hu)⟩
  · rintro ⟨z1, z2⟩ s2 ⟨e1, rfl, _⟩
    simp only at e1
    subst e1
    exact wpAny_pure q
mutual
theorem cls_key : ∀ (k : NestedKey) (v : Value) (n : Nat) (s : Shared), NestedIs s.heap k v → k.depth ≤ n → Cls P w n s v
  | .none, _, n, s, x, _ => by cases x; exact fun B F R q => by cases n <;> exact wpAny_pure q
  | .num i, _, n, s, x, _ => by cases x <;> exact fun B F R q => by cases n <;> exact wpAny_pure q
  | .text y, _, n, s, x, _ => by cases x; exact fun B F R q => by cases n <;> exact wpAny_pure q
  | .tup ks, _, 0, s, _, le => by simp [NestedKey.depth] at le
  | .tup ks, _, n + 1, s, x, le => by
    cases x with
    | tup g c d al => exact .tuple g c d (cls_keys ks _ n s al (by simp only [NestedKey.depth] at le; omega))
theorem cls_keys : ∀ (ks : List NestedKey) (us : List Value) (n : Nat) (s : Shared), NestedAll s.heap ks us → NestedKey.depthAll ks ≤ n → ∀ v ∈ us, Cls P w n s v
  | [], _, _, _, x, _, v, hv => by cases x; cases hv
  | k :: ks, _, n, s, x, le, v, hv => by
    cases x with
    | cons y z =>
      simp only [NestedKey.depthAll] at le
      rcases List.mem_cons.mp hv with rfl | hv
      · exact cls_key k _ n s y (by omega)
      · exact cls_keys ks _ n s z (by omega) v hv
end
mutual
theorem vh_key : ∀ (k : NestedKey) (v : Value) (n : Nat) (s : Shared), NestedIs s.heap k v → k.depth ≤ n → pl k = true → Vh P w n s v
  | .none, _, n, s, x, _, _ => by cases x; exact fun B F R q => by cases n <;> exact wpAny_pure q
  | .num i, _, n, s, x, _, _ => by cases x <;> exact fun B F R q => by cases n <;> exact wpAny_pure q
  | .text y, _, n, s, x, _, e => by cases e
  | .tup ks, _, 0, s, _, le, _ => by simp [NestedKey.depth] at le
  | .tup ks, _, n + 1, s, x, le, e => by
    cases x with
    | tup g c d al => exact .tuple g c d (vh_keys ks _ n s al (by simp only [NestedKey.depth] at le; omega) e)
theorem vh_keys : ∀ (ks : List NestedKey) (us : List Value) (n : Nat) (s : Shared), NestedAll s.heap ks us → NestedKey.depthAll ks ≤ n → pls ks = true → ∀ v ∈ us, Vh P w n s v
  | [], _, _, _, x, _, _, v, hv => by cases x; cases hv
  | k :: ks, _, n, s, x, le, e, v, hv => by
    cases x with
    | cons y z =>
      simp only [NestedKey.depthAll] at le
      have e2 : pl k = true ∧ pls ks = true := by simpa [pls] using e
      rcases List.mem_cons.mp hv with rfl | hv
      · exact vh_key k _ n s y (by omega) e2.1
      · exact vh_keys ks _ n s z (by omega) e2.2 v hv
end
end
/-- the tuple at b is the key k -/
structure Kt (g : Heap) (k : NestedKey) (b : Addr) : Prop where
  is : NestedIs g k (.ref b)
  dp : k.depth ≤ 8
  pl : pl k = true
theorem Kt.keep {g g' : Heap} {k : NestedKey} {b : Addr} (x : Kt g k b) (e : ∀ c o, g.get? c = some o → g'.get? c = some o) : Kt g' k b := ⟨NestedIs.at (fun c o _ _ h _ => e c o h) k _ x.is, x.dp, x.pl⟩
theorem Kt.but {g g' : Heap} {k : NestedKey} {a b : Addr} {o : Obj} {es : Array (Int × Value)} {ep : Nat} {t : SetTable} (x : Kt g k b) (ho : g.get? a = some o) (hd : o.data = .set es ep t) (sb : Heap.SameBut a g g') : Kt g' k b :=
  ⟨NestedIs.at (fun c oc vs n h hs => by
    refine (sb.2 c fun ec => ?_).trans h
    subst ec
    rw [ho] at h
    cases h
    rw [hd] at hs
    cases hs) k _ x.is, x.dp, x.pl⟩
section
variable {P : Program} {w : PySem.World} {A : Around} {E : Value → Shared → Prop} {s : Shared}
theorem unseen {k : NestedKey} {b : Addr} {Q : Bool → Shared → Prop} (x : Kt s.heap k b) {ys : List Value} (hy : ∀ y ∈ ys, ∃ k2 c, y = Value.ref c ∧ Kt s.heap k2 c) (q : Q false s) : wpAny (model P w) A (searchCouldBeSeen (.ref b) ys) Q E s := by
  unfold searchCouldBeSeen
  refine wpAny_bind ?_
  refine wpAny_forIn_list _ (fun l z s2 => z.1 = none ∧ s2 = s ∧ ∀ y ∈ l, ∃ k2 c, y = Value.ref c ∧ Kt s2.heap k2 c) _ ?_ ?_ _ _ ⟨rfl, rfl, hy⟩
  · rintro v l z s2 ⟨_, rfl, al⟩
    obtain ⟨k2, c, rfl, y⟩ := al v List.mem_cons_self
    have al2 := fun u hu => al u (.tail _ hu)
    dsimp only
    by_cases very : (b == c || (carriedByValue (.ref b) && carriedByValue (.ref c))) = true
    · exact wp_if_pos very (wpAny_pure ⟨rfl, rfl, al2⟩)
    · refine wp_if_neg very ?_
      refine wpAny_bind (quiet_key k _ 8 _ x.is x.dp _ _ _ ?_)
      simp only [Bool.not_true, Bool.false_eq_true, if_false]
      refine wpAny_bind (quiet_key k2 _ 8 _ y.is y.dp _ _ _ ?_)
      simp only [Bool.not_true, Bool.false_eq_true, if_false]
      refine wpAny_bind (cls_key k _ 8 _ x.is x.dp _ _ _ ?_)
      simp only [Bool.false_eq_true, if_false]
      refine wpAny_bind (cls_key k2 _ 8 _ y.is y.dp _ _ _ ?_)
      simp only [Bool.false_eq_true, if_false]
      exact wpAny_pure ⟨rfl, rfl, al2⟩
  · rintro ⟨z1, z2⟩ s2 ⟨e1, rfl, _⟩
    simp only at e1
    subst e1
    exact wpAny_pure q
end
/-! ### the table -/
abbrev prb (m : Nat) (h : Int) (c : Nat) : SetTable.Probe := nth m (runAt m (SetTable.bits h % (m + 1)) (SetTable.bits h)) c
theorem prb_add (m : Nat) (h : Int) (c q : Nat) : nth m (prb m h c) q = prb m h (c + q) := (nth_add m c _ q).symm
theorem nth_dummy (m : Nat) : ∀ (n : Nat) (p : SetTable.Probe), p.dummy = none → (nth m p n).dummy = none
  | 0, _, h => h
  | n + 1, p, h => nth_dummy m n (adv m p) (by unfold adv; split <;> exact h)
/-- one look along the way, from the step c on -/
theorem look {t : SetTable} {hs : List Int} (T : TabOk t hs) (f : Nat → Int) (h : Int) {c K : Nat} (cK : c ≤ K) (top : K < 10 * SetTable.turns t.mask) (free : way t.mask h K ∉ t.place.toList) (full : ∀ x, x < K → way t.mask h x ∈ t.place.toList) :
    (∃ q i, c ≤ q ∧ q < K ∧ t.place.toList[i]? = some (way t.mask h q) ∧ (∀ q2 i2, c ≤ q2 → q2 < q → t.place.toList[i2]? = some (way t.mask h q2) → f i2 ≠ h) ∧ t.probe f h (prb t.mask h c) = some (.candidate (way t.mask h q) i (prb t.mask h (q + 1)))) ∨
    ((∀ q2 i2, c ≤ q2 → q2 < K → t.place.toList[i2]? = some (way t.mask h q2) → f i2 ≠ h) ∧ t.probe f h (prb t.mask h c) = some (.empty (way t.mask h K) none)) := by
  have sh : ∀ q, c ≤ q → (nth t.mask (prb t.mask h c) (q - c)).j = way t.mask h q := fun q hq => by
    rw [prb_add, show c + (q - c) = q by omega]
  rcases go_spec t T.ris T.dm f h (10 * SetTable.turns t.mask) (K - c) (prb t.mask h c) (nth_dummy _ _ _ rfl) (by omega) (fun q hq => by
      rw [prb_add]
      exact full (c + q) (by omega)) (by rw [sh K cK]; exact free) with ⟨q, i, h1, h2, _, h4, h5⟩ | ⟨h1, h2⟩
  · left
    rw [prb_add] at h2 h5
    rw [prb_add, show c + (q + 1) = c + q + 1 by omega] at h5
    refine ⟨c + q, i, by omega, by omega, h2, fun q2 i2 a b e => h4 (q2 - c) i2 (by omega) (by rw [sh q2 a]; exact e), h5⟩
  · right
    rw [sh K cK] at h2
    exact ⟨fun q2 i2 a b e => h1 (q2 - c) i2 (by omega) (by rw [sh q2 a]; exact e), h2⟩

/-! ### the set -/
abbrev hsh (w : PySem.World) (k : NestedKey) : Int := k.hash w
abbrev hsN (w : PySem.World) (L : List (Addr × NestedKey)) : List Int := L.map fun p => hsh w p.2
abbrev rowN (w : PySem.World) (L : List (Addr × NestedKey)) : List (Int × Value) := L.map fun p => (hsh w p.2, Value.ref p.1)
/-- the set at a: of the tuples L -/
structure Sn (w : PySem.World) (g : Heap) (a : Addr) (L : List (Addr × NestedKey)) (es : Array (Int × Value)) (ep : Nat) (t : SetTable) : Prop where
  ob : ∃ o, g.get? a = some o ∧ o.ExactSet ∧ o.data = .set es ep t
  rows : es.toList = rowN w L
  tab : TabOk t (hsN w L)
  once : (L.map (·.2)).Nodup
  at_ : ∀ p ∈ L, Kt g p.2 p.1
  plain : t.plain = true
  led : w.params.followText "set-order" = true ∨ t.led = true
  room : L.length * 5 < t.mask * 3
  few : L.length < 64
theorem rows_size {w : PySem.World} {L : List (Addr × NestedKey)} {es : Array (Int × Value)} (h : es.toList = rowN w L) : es.size = L.length := by
  rw [← Array.length_toList, h, List.length_map]
theorem fits_of {t : SetTable} {n : Nat} (d : t.dummies = #[]) (p : t.place.size = n) (l : n ≤ t.mask) : t.fits n = true := by
  unfold SetTable.fits SetTable.fill
  rw [d, Bool.and_eq_true, beq_iff_eq, decide_eq_true_eq]
  show t.place.size = n ∧ t.place.size + 0 ≤ t.mask
  omega
section
variable {P : Program} {w : PySem.World} {A : Around} {E : Value → Shared → Prop} {s : Shared} {a : Addr} {L : List (Addr × NestedKey)} {es : Array (Int × Value)} {ep : Nat} {t : SetTable} {g : Heap}
theorem Sn.size (R : Sn w g a L es ep t) : es.size = L.length := rows_size R.rows
theorem Sn.places (R : Sn w g a L es ep t) : t.place.size = L.length := by rw [R.tab.sz, List.length_map]
theorem Sn.fits (R : Sn w g a L es ep t) : t.fits es.size = true := by
  have := R.room
  exact fits_of R.tab.dm (by rw [R.places, R.size]) (by rw [R.size]; omega)
theorem Sn.row (R : Sn w g a L es ep t) {i : Nat} {p : Addr × NestedKey} (h : L[i]? = some p) : es[i]? = some (hsh w p.2, Value.ref p.1) := by
  rw [← Array.getElem?_toList, R.rows, List.getElem?_map, h]
  rfl
theorem Sn.stays (R : Sn w g a L es ep t) : ¬ t.gaveWay = true := by
  unfold SetTable.gaveWay
  rw [mask_odd R.tab.mok]
  decide
theorem seek (R : Sn w s.heap a L es ep t) {x : Addr} {k : NestedKey} (hx : Kt s.heap k x) (hu : A.units + 8 < cLine) {K : Nat} (top : K < 10 * SetTable.turns t.mask) (free : way t.mask (hsh w k) K ∉ t.place.toList)
    (full : ∀ c, c < K → way t.mask (hsh w k) c ∈ t.place.toList) {Q : SetFound → Shared → Prop} (old : k ∈ L.map (·.2) → Q (.there none) s) (new : k ∉ L.map (·.2) → Q (.free (way t.mask (hsh w k) K) false) s) :
    ∀ (n c : Nat) (st : Option SetTable.Probe), st.getD (t.probeStart (hsh w k)) = prb t.mask (hsh w k) c → c ≤ K → K < c + n →
      (∀ (i : Nat) p, L[i]? = some p → p.2 = k → ∃ c2, c ≤ c2 ∧ c2 < K ∧ t.place.toList[i]? = some (way t.mask (hsh w k) c2)) → wpAny (model P w) A (setSearchFrom a (.ref x) (hsh w k) true n st) Q E s
  | 0, c, _, _, h1, h2, _ => by omega
  | n + 1, c, st, from_, h1, h2, ahead => by
    obtain ⟨o, ho, hex, hd⟩ := R.ob
    have same : ∀ (i : Nat) p, L[i]? = some p → p.2 = k → (fun i => (es[i]?.map (·.1)).getD 0) i = hsh w k := fun i p hp e => by
      show (es[i]?.map (·.1)).getD 0 = _
      rw [R.row hp, ← e]
      rfl
    rw [setSearchFrom_succ]
    refine wpAny_bind (wpAny_setState_of ho hd R.fits ?_)
    dsimp only
    refine wp_if_neg R.stays ?_
    try refine wpAny_bind (wpAny_pure ?_)
    rw [from_]
    rcases look R.tab (fun i => (es[i]?.map (·.1)).getD 0) (hsh w k) h1 top free full with ⟨q, i, q1, q2, q3, q4, q5⟩ | ⟨q4, q5⟩
    · rw [q5]
      dsimp only
      have il : i < L.length := by
        have := (List.getElem?_eq_some_iff.mp q3).1
        rw [Array.length_toList, R.places] at this
        exact this
      obtain ⟨p, hp⟩ : ∃ p, L[i]? = some p := ⟨_, List.getElem?_eq_getElem il⟩
      have pm : p ∈ L := List.mem_of_getElem? hp
      have sl : t.slot (way t.mask (hsh w k) q) = .live i := slot_live R.tab.ris q3
      have main : wpAny (model P w) A (searchRest a (.ref x) (hsh w k) true n es t (way t.mask (hsh w k) q) i (prb t.mask (hsh w k) (q + 1))) Q E s := by
        unfold searchRest
        rw [R.row hp]
        dsimp only
        refine wpAny_bind (wpAny_holding ((nestedKind P w).eqBool (x := p.2) (y := k) hu ⟨(R.at_ p pm).is, (R.at_ p pm).dp⟩ ⟨hx.is, hx.dp⟩ ?_))
        refine wpAny_bind (wpAny_setState_of ho hd R.fits ?_)
        dsimp only
        by_cases e : p.2 = k
        · exact wp_if_pos (by simp [e]) (wpAny_pure (old (List.mem_map.mpr ⟨p, pm, e⟩)))
        · refine wp_if_neg (by simp [e]) ?_
          try refine wpAny_bind (wpAny_pure ?_)
          rw [sameMem]
          dsimp only
          simp only [if_true, sl, R.row hp]
          refine wpAny_bind (wpAny_isSame_ref_self (wpAny_bind (wpAny_pure ?_)))
          simp only [if_true]
          refine wp_if_neg (by simp [e]) ?_
          refine seek R hx hu top free full old new n (q + 1) _ rfl (by omega) (by omega) fun i2 p2 g1 g2 => ?_
          obtain ⟨c2, a1, a2, a3⟩ := ahead i2 p2 g1 g2
          refine ⟨c2, ?_, a2, a3⟩
          refine Nat.lt_of_not_le fun z => ?_
          rcases Nat.lt_or_eq_of_le z with z | rfl
          · exact q4 c2 i2 a1 z a3 (same i2 p2 g1 g2)
          · have s2 := slot_live R.tab.ris a3
            rw [sl] at s2
            injection s2 with s2
            rw [← s2, hp] at g1
            exact e ((congrArg Prod.snd (Option.some.inj g1)).trans g2)
      by_cases ld : t.led = true
      · refine wp_if_neg (by simp [ld]) ?_
        try refine wpAny_bind (wpAny_pure ?_)
        exact main
      · refine wp_if_pos (by simp [ld]) ?_
        refine wpAny_bind (unseen hx (fun y hy => ?_) ?_)
        · obtain ⟨v, hv, rfl⟩ := List.mem_map.mp hy
          have hv2 : v ∈ es.toList := by simpa using (show v ∈ es ∧ v.1 = hsh w k by simpa using hv).1
          rw [R.rows] at hv2
          obtain ⟨p2, m2, rfl⟩ := List.mem_map.mp hv2
          exact ⟨p2.2, p2.1, rfl, R.at_ p2 m2⟩
        · refine wp_if_neg (by decide) ?_
          try refine wpAny_bind (wpAny_pure ?_)
          exact main
    · rw [q5]
      dsimp only
      refine wpAny_pure (new fun hm => ?_)
      obtain ⟨p, pm, e⟩ := List.mem_map.mp hm
      obtain ⟨i, hp⟩ := List.mem_iff_getElem?.mp pm
      obtain ⟨c2, a1, a2, a3⟩ := ahead i p hp e
      exact q4 c2 i a1 a2 a3 (same i p hp e)
theorem search (R : Sn w s.heap a L es ep t) {x : Addr} {k : NestedKey} (hx : Kt s.heap k x) (hu : A.units + 8 < cLine) {Q : SetFound → Shared → Prop} (old : k ∈ L.map (·.2) → Q (.there none) s)
    (new : ∀ K, k ∉ L.map (·.2) → way t.mask (hsh w k) K ∉ t.place.toList → (∀ c, c < K → way t.mask (hsh w k) c ∈ t.place.toList) → Q (.free (way t.mask (hsh w k) K) false) s) : wpAny (model P w) A (setSearch a (.ref x) (hsh w k) true) Q E s := by
  have rm := R.room
  obtain ⟨K, top, free, full⟩ := R.tab.first (by rw [List.length_map]; omega) (hsh w k)
  have small : 10 * SetTable.turns t.mask ≤ 1420 := by
    unfold SetTable.turns
    rcases R.tab.mok with e | e | e <;> omega
  unfold setSearch
  refine seek R hx hu top free full old (fun no => new K no free full) 100000 0 none rfl (Nat.zero_le _) (by omega) fun i p hp e => ?_
  have il : i < t.place.toList.length := by
    have := (List.getElem?_eq_some_iff.mp hp).1
    rw [Array.length_toList, R.places]
    exact this
  obtain ⟨c, hc, e2⟩ := R.tab.before (i := i) free (by rw [List.getElem?_map, hp, ← e]; rfl) (List.getElem?_eq_getElem il)
  exact ⟨c, Nat.zero_le _, hc, by rw [List.getElem?_eq_getElem il, e2]⟩
/-- an entry more, at its place -/
def slip (L : List (Addr × NestedKey)) (j : Nat) (e : Addr × NestedKey) : List (Addr × NestedKey) := L.take j ++ e :: L.drop j
theorem slip_perm (L : List (Addr × NestedKey)) (j : Nat) (e : Addr × NestedKey) : (slip L j e).Perm (e :: L) := by
  have h : (slip L j e).Perm (e :: (L.take j ++ L.drop j)) := List.perm_middle
  rwa [List.take_append_drop] at h
/-- what the order brings together -/
theorem by_order {order : Array Nat} (rows : es.toList = rowN w L) (pm : order.toList.Perm (List.range L.length)) :
    ∃ M, (order.filterMap (es[·]?)).toList = rowN w M ∧ M.Perm L ∧ hsN w M = order.toList.map fun i => (es.map (·.1)).getD i 0 := by
  have at_ : ∀ (i : Nat) p, L[i]? = some p → es[i]? = some (hsh w p.2, Value.ref p.1) := fun i p h => by
    rw [← Array.getElem?_toList, rows, List.getElem?_map, h]
    rfl
  have all : ∀ l : List Nat, (∀ i ∈ l, i < L.length) → ∃ M, l.filterMap (fun i => es[i]?) = rowN w M ∧ l.filterMap (fun i => L[i]?) = M ∧ hsN w M = l.map fun i => (es.map (·.1)).getD i 0 := by
    intro l
    induction l with
    | nil => exact fun _ => ⟨[], rfl, rfl, rfl⟩
    | cons i l ih =>
      intro h
      obtain ⟨M, m1, m2, m3⟩ := ih fun j hj => h j (.tail _ hj)
      obtain ⟨p, hp⟩ : ∃ p, L[i]? = some p := ⟨_, List.getElem?_eq_getElem (h i (.head _))⟩
      have er := at_ i p hp
      refine ⟨p :: M, ?_, ?_, ?_⟩
      · rw [List.filterMap_cons_some er, m1]
        rfl
      · rw [List.filterMap_cons_some hp, m2]
      · have e5 : (es.map (·.1))[i]? = some (hsh w p.2) := by
          rw [Array.getElem?_map, er]
          rfl
        show hsh w p.2 :: hsN w M = (es.map (·.1)).getD i 0 :: _
        rw [m3, Array.getD_eq_getD_getElem?, e5]
        rfl
  obtain ⟨M, m1, m2, m3⟩ := all order.toList fun i hi => List.mem_range.mp (pm.mem_iff.mp hi)
  refine ⟨M, by first | (rw [Array.toList_filterMap]; exact m1) | simpa using m1, ?_, m3⟩
  have whole : ∀ l : List (Addr × NestedKey), (List.range l.length).filterMap (fun i => l[i]?) = l := by
    intro l
    induction l with
    | nil => rfl
    | cons x l ih =>
      rw [List.length_cons, List.range_succ_eq_map, List.filterMap_cons_some (by simp : (x :: l)[0]? = some x), List.filterMap_map]
      exact congrArg (x :: ·) ih
  have q := pm.filterMap fun i => L[i]?
  rwa [m2, whole] at q
/-- the table laid anew -/
theorem relay {o : Obj} (ho : s.heap.get? a = some o) (hex : o.ExactSet) (hd : o.data = .set es ep t) (rows : es.toList = rowN w L) (places : t.place.size = L.length) (dm : t.dummies = #[]) (le : L.length ≤ t.mask) (once : (L.map (·.2)).Nodup)
    (at_ : ∀ p ∈ L, Kt s.heap p.2 p.1) (pln : t.plain = true) (led : w.params.followText "set-order" = true ∨ t.led = true) (few : L.length < 64) {wanted M : Nat} (hw : SetTable.sizeAbove wanted - 1 = M) (hM : MaskOk M) (top : SetTable.sizeAbove wanted ≤ 128)
    (rm : L.length * 5 < M * 3) {Q : Unit → Shared → Prop} (hQ : ∀ g L2 es2 ep2 t2, Heap.SameBut a s.heap g → Sn w g a L2 es2 ep2 t2 → L2.Perm L → Q () { s with heap := g }) : wpAny (model P w) A (setRelay a wanted) Q E s := by
  have sz := rows_size rows
  obtain ⟨t2, order, r1, r2, r3, r4, r5, r6, r7⟩ := relaid_ok t (hs := es.map (·.1)) (wanted := wanted) hw hM (by rw [Array.size_map, sz]; omega)
  rw [Array.size_map, sz] at r2
  obtain ⟨M2, m1, m2, m3⟩ := by_order rows r2
  rw [← m3] at r3
  have sz2 : (order.filterMap (es[·]?)).size = L.length := (rows_size m1).trans m2.length_eq
  rw [setRelay_eq]
  refine wpAny_bind (wpAny_setState_of ho hd (fits_of dm (by rw [places, sz]) (by rw [sz]; exact le)) ?_)
  dsimp only
  refine wp_if_neg (by rw [sizeLine_eq]; omega) ?_
  try refine wpAny_bind (wpAny_pure ?_)
  rw [r1]
  dsimp only
  refine wpAny_bind ?_
  refine wp_if_neg (by rw [sz2, sz]; simp) ?_
  try refine wpAny_bind (wpAny_pure ?_)
  refine wpAny_pure ?_
  dsimp only
  refine wpAny_storeSet_of ho hd ?_ (by rw [sz2, sizeLine_eq]; omega)
  have but : Heap.SameBut a s.heap (s.heap.update a (Obj.putSet (order.filterMap (es[·]?)) t2)) := Heap.SameBut.update ..
  refine hQ _ M2 _ (ep + 1) t2 but ⟨⟨_, store_at ho hd, ⟨hex.1, hex.2.1, hex.2.2⟩, rfl⟩, m1, r3, (m2.map (·.2)).nodup_iff.mpr once, fun p hp => (at_ p (m2.mem_iff.mp hp)).but ho hd but, by rw [r6]; exact pln, by rw [r5]; exact led, ?_, by rw [m2.length_eq]; exact few⟩ m2
  rw [m2.length_eq, r4]
  exact rm
/-- adding -/
theorem add (R : Sn w s.heap a L es ep t) {x : Addr} {k : NestedKey} (hx : Kt s.heap k x) (hu : A.units + 8 < cLine) (few : L.length + 1 < 64) {Q : Bool → Shared → Prop}
    (hQ : ∀ b g L2 es2 ep2 t2, Heap.SameBut a s.heap g → Sn w g a L2 es2 ep2 t2 → (k ∈ L.map (·.2) → L2 = L) → (k ∉ L.map (·.2) → L2.Perm ((x, k) :: L)) → Q b { s with heap := g }) : wpAny (model P w) A (setAddHashed a (.ref x) (hsh w k)) Q E s := by
  obtain ⟨o, ho, hex, hd⟩ := R.ob
  have sz := R.size
  have rm := R.room
  unfold setAddHashed
  refine wpAny_holding ?_
  rw [show (100000 : Nat) = 99999 + 1 from rfl, setAddHashedIn_succ]
  refine wpAny_bind (wpAny_setState_of ho hd R.fits ?_)
  dsimp only
  refine wp_if_neg (by simp [byScan, Value.scannable]) ?_
  try refine wpAny_bind (wpAny_pure ?_)
  refine wpAny_bind (search R hx hu (fun is => ?_) fun K no free full => ?_)
  · exact wpAny_pure (hQ false s.heap L es ep t (.refl a _) R (fun _ => rfl) fun z => absurd is z)
  dsimp only
  refine wpAny_bind (wpAny_setState_of ho hd R.fits ?_)
  dsimp only
  obtain ⟨p1, p2, p3, p4, p5, p6, p7, p8, p9⟩ := R.tab.put free full
  have pln : (t.put (way t.mask (hsh w k) K)).1.plain = true := p6.trans R.plain
  generalize hj : SetTable.below t.place (way t.mask (hsh w k) K) = j at p1 p2 p3
  generalize hpt : t.put (way t.mask (hsh w k) K) = pt at p1 p3 p4 p5 p6 p7 p8 p9 pln ⊢
  obtain ⟨t2, j2⟩ := pt
  dsimp only at p1 p3 p4 p5 p6 p7 p8 p9 pln ⊢
  subst p1
  first
    | (refine wpAny_bind ?_; refine wp_if_pos pln ?_; refine vh_key k _ 8 _ hx.is hx.dp hx.pl _ _ _ ?_)
    | refine wp_if_pos pln (wpAny_bind (vh_key k _ 8 _ hx.is hx.dp hx.pl _ _ _ ?_))
  simp only [if_true]
  have pm := slip_perm L j2 (x, k)
  have ln : (slip L j2 (x, k)).length = L.length + 1 := pm.length_eq
  have rows2 : (SetTable.insertAt es j2 (hsh w k, Value.ref x)).toList = rowN w (slip L j2 (x, k)) := by
    rw [SetTable.toList_insertAt, R.rows]
    simp only [rowN, slip, List.map_append, List.map_cons, List.map_take, List.map_drop]
  have tab2 : TabOk t2 (hsN w (slip L j2 (x, k))) := by
    have e : hsN w (slip L j2 (x, k)) = (hsN w L).take j2 ++ hsh w k :: (hsN w L).drop j2 := by
      simp only [hsN, slip, List.map_append, List.map_cons, List.map_take, List.map_drop]
    rw [e]
    exact p3
  have once2 : ((slip L j2 (x, k)).map (·.2)).Nodup := (pm.map (·.2)).nodup_iff.mpr (List.nodup_cons.mpr ⟨no, R.once⟩)
  have sz2 := rows_size rows2
  rw [ln] at sz2
  generalize SetTable.insertAt es j2 (hsh w k, Value.ref x) = es2 at rows2 sz2 ⊢
  generalize slip L j2 (x, k) = L2 at pm ln rows2 tab2 once2
  refine wpAny_bind (wpAny_storeSet_of ho hd ?_ (by rw [sz2, sizeLine_eq]; omega))
  have but : Heap.SameBut a s.heap (s.heap.update a (Obj.putSet es2 t2)) := Heap.SameBut.update ..
  have ho2 := store_at (es' := es2) (t' := t2) ho hd
  generalize s.heap.update a (Obj.putSet es2 t2) = g2 at but ho2 ⊢
  have at2 : ∀ p ∈ L2, Kt g2 p.2 p.1 := fun p hp => by
    rcases List.mem_cons.mp (pm.mem_iff.mp hp) with rfl | hp
    · exact hx.but ho hd but
    · exact (R.at_ p hp).but ho hd but
  have led2 : w.params.followText "set-order" = true ∨ t2.led = true := by rw [p5]; exact R.led
  have pl2 : t2.place.size = L2.length := by rw [tab2.sz, List.length_map]
  have fill : t2.fill = L.length + 1 := by rw [p9, List.length_map]
  by_cases full2 : t2.tooFull = true
  · first
      | (refine wpAny_bind ?_; refine wp_if_pos (by simp [full2]) ?_)
      | (refine wp_if_pos (by simp [full2]) ?_; refine wpAny_bind ?_)
    have over : (L.length + 1) * 5 ≥ t2.mask * 3 := by
      unfold SetTable.tooFull at full2
      rw [decide_eq_true_eq, fill] at full2
      exact full2
    rw [sz]
    have two : (t.mask = 7 ∧ L.length = 4) ∨ (t.mask = 31 ∧ L.length = 18) := by
      rw [p4] at over
      rcases R.tab.mok with e | e | e <;> rw [e] at over rm
      · exact .inl ⟨e, by omega⟩
      · exact .inr ⟨e, by omega⟩
      · omega
    have go : ∀ M, SetTable.sizeAbove (SetTable.grown (L.length + 1)) - 1 = M → MaskOk M → SetTable.sizeAbove (SetTable.grown (L.length + 1)) ≤ 128 → (L.length + 1) * 5 < M * 3 →
        wpAny (model P w) A (setRelay a (SetTable.grown (L.length + 1))) (fun _ s2 => wpAny (model P w) A (pure true) Q E s2) E { s with heap := g2 } := fun M c1 c2 c3 c4 => by
      refine relay (s := { s with heap := g2 }) ho2 ⟨hex.1, hex.2.1, hex.2.2⟩ rfl rows2 pl2 tab2.dm (by rw [ln, p4]; rcases two with ⟨e, e2⟩ | ⟨e, e2⟩ <;> omega) once2 at2 pln led2 (by rw [ln]; exact few) c1 c2 c3 (by rw [ln]; exact c4) ?_
      exact fun g3 L3 es3 ep3 t3 but3 R3 pm3 => wpAny_pure (hQ true g3 L3 es3 ep3 t3 (but.trans but3) R3 (fun z => absurd z no) fun _ => pm3.trans pm)
    rcases two with ⟨_, e⟩ | ⟨_, e⟩
    · exact go 31 (by rw [e, size_20]) (.inr (.inl rfl)) (by rw [e, size_20]; decide) (by omega)
    · exact go 127 (by rw [e, size_76]) (.inr (.inr rfl)) (by rw [e, size_76]; decide) (by omega)
  · first
      | refine wp_if_neg (by simp [full2]) ?_
      | (refine wpAny_bind ?_; refine wp_if_neg (by simp [full2]) ?_; refine wpAny_pure ?_)
    refine wpAny_pure (hQ true g2 L2 es2 (ep + 1) t2 but ⟨⟨_, ho2, ⟨hex.1, hex.2.1, hex.2.2⟩, rfl⟩, rows2, tab2, once2, at2, pln, led2, ?_, by rw [ln]; exact few⟩ (fun z => absurd z no) fun _ => pm)
    unfold SetTable.tooFull at full2
    rw [decide_eq_true_eq, fill] at full2
    rw [ln]
    omega
end

/-! ### set(xs) -/
/-- the set has what the first i have -/
structure Has (ks : List (Addr × NestedKey)) (i : Nat) (L : List (Addr × NestedKey)) : Prop where
  sub : ∀ p ∈ L, p ∈ ks
  iff : ∀ k, k ∈ L.map (·.2) ↔ k ∈ (ks.take i).map (·.2)
  le : L.length ≤ i
theorem Has.next {ks L L2 : List (Addr × NestedKey)} {i : Nat} {p : Addr × NestedKey} (g : Has ks i L) (h : ks[i]? = some p) (old : p.2 ∈ L.map (·.2) → L2 = L) (new : p.2 ∉ L.map (·.2) → L2.Perm ((p.1, p.2) :: L)) : Has ks (i + 1) L2 := by
  have e : ks.take (i + 1) = ks.take i ++ [p] := by rw [List.take_succ, h]; rfl
  by_cases c : p.2 ∈ L.map (·.2)
  · rw [old c]
    refine ⟨g.sub, fun k => ?_, Nat.le_succ_of_le g.le⟩
    rw [e, List.map_append, List.mem_append, ← g.iff]
    refine ⟨.inl, fun z => z.elim id fun z => ?_⟩
    rw [List.mem_singleton.mp z]
    exact c
  · have pm := new c
    refine ⟨fun q hq => ?_, fun k => ?_, by rw [pm.length_eq]; exact Nat.succ_le_succ g.le⟩
    · rcases List.mem_cons.mp (pm.mem_iff.mp hq) with rfl | hq
      · exact List.mem_of_getElem? h
      · exact g.sub q hq
    · rw [(pm.map (·.2)).mem_iff, List.map_cons, List.mem_cons, g.iff, e, List.map_append, List.mem_append]
      exact ⟨fun z => z.elim (fun z => .inr (List.mem_singleton.mpr z)) .inl, fun z => z.elim .inr fun z => .inl (List.mem_singleton.mp z)⟩
/-- those that differ -/
def ded : List NestedKey → List NestedKey
  | [] => []
  | k :: ks => if k ∈ ded ks then ded ks else k :: ded ks
theorem ded_mem (k : NestedKey) : ∀ ks : List NestedKey, k ∈ ded ks ↔ k ∈ ks
  | [] => Iff.rfl
  | x :: ks => by
    unfold ded
    have ih := ded_mem k ks
    split
    · rename_i h
      rw [ih, List.mem_cons]
      exact ⟨.inr, fun z => z.elim (fun e => by rw [e]; exact (ded_mem x ks).mp h) id⟩
    · rw [List.mem_cons, ih, List.mem_cons]
theorem ded_nodup : ∀ ks : List NestedKey, (ded ks).Nodup
  | [] => List.nodup_nil
  | x :: ks => by
    unfold ded
    split
    · exact ded_nodup ks
    · rename_i h
      exact List.nodup_cons.mpr ⟨h, ded_nodup ks⟩
theorem nodup_len : ∀ {l m : List NestedKey}, l.Nodup → (∀ k ∈ l, k ∈ m) → l.length ≤ m.length
  | [], m, _, _ => Nat.zero_le _
  | x :: l, m, nd, sub => by
    obtain ⟨h1, h2⟩ := List.nodup_cons.mp nd
    have xm := sub x (.head _)
    have e := List.length_erase_of_mem xm
    have := nodup_len (m := m.erase x) h2 fun k hk => (List.mem_erase_of_ne (fun e => h1 (by rw [← e]; exact hk))).mpr (sub k (.tail _ hk))
    have := List.length_pos_of_mem xm
    rw [List.length_cons]
    omega
theorem Has.len {w : PySem.World} {g : Heap} {a : Addr} {ks L : List (Addr × NestedKey)} {es : Array (Int × Value)} {ep : Nat} {t : SetTable} (h : Has ks ks.length L) (R : Sn w g a L es ep t) : es.size = (ded (ks.map (·.2))).length := by
  have i := h.iff
  rw [List.take_length] at i
  rw [R.size, ← List.length_map (f := (·.2))]
  exact Nat.le_antisymm (nodup_len R.once fun k hk => (ded_mem k _).mpr ((i k).mp hk)) (nodup_len (ded_nodup _) fun k hk => (i k).mpr ((ded_mem k _).mp hk))
section
variable {P : Program} {w : PySem.World} {A : Around} {E : Value → Shared → Prop} {s : Shared}
theorem Sn.keep {g g2 : Heap} {a : Addr} {L : List (Addr × NestedKey)} {es : Array (Int × Value)} {ep : Nat} {t : SetTable} (R : Sn w g a L es ep t) (ha : ∀ o, g.get? a = some o → g2.get? a = some o) (hk : ∀ p ∈ L, Kt g2 p.2 p.1) : Sn w g2 a L es ep t :=
  ⟨let ⟨o, ho, r⟩ := R.ob; ⟨o, ha o ho, r⟩, R.rows, R.tab, R.once, hk, R.plain, R.led, R.room, R.few⟩
abbrev newSet (w : PySem.World) : Obj := { cls := .type "set", dict := none, data := .set #[] 0 (.fresh 0 0 (!w.params.followText "set-order")) }
theorem sn_new {g : Heap} {a : Addr} (h : g.get? a = some (newSet w)) : Sn w g a [] #[] 0 (.fresh 0 0 (!w.params.followText "set-order")) where
  ob := ⟨_, h, ⟨rfl, rfl, rfl⟩, rfl⟩
  rows := rfl
  tab := ⟨List.Pairwise.nil, rfl, rfl, .inl rfl, fun _ z => (by cases z), fun i h j z => (by simp at z)⟩
  once := List.nodup_nil
  at_ := fun _ z => (by cases z)
  plain := rfl
  led := by
    show _ ∨ (!w.params.followText "set-order") = true
    cases w.params.followText "set-order" <;> simp
  room := show 0 * 5 < 7 * 3 by decide
  few := show 0 < 64 by decide
theorem fill {I : Addr} {fp wr : List Addr} {G : Array GenState → Array GenState → Prop} {n : Nat} {Pv : Nat → Value → Prop} {St : Nat → Shared → Prop} {R : Result → Shared → Prop} (W : WalksS P w A.in1 I fp wr G n Pv St) {S : Addr} (out : S ∉ fp)
    (ks : List (Addr × NestedKey)) (hn : n = ks.length) (few : ks.length < 64) (val : ∀ i v, Pv i v → ∃ p, ks[i]? = some p ∧ v = .ref p.1) {g0 : Heap} (hk : ∀ p ∈ ks, Kt g0 p.2 p.1) (noS : g0.get? S = none) (noW : ∀ b ∈ wr, g0.get? b = none) (hu : A.in1.units + 8 < cLine) :
    ∀ (m i : Nat) (s : Shared), i + m = n → St i s → (∀ b o, g0.get? b = some o → s.heap.get? b = some o) → (∃ L es ep t, Sn w s.heap S L es ep t ∧ Has ks i L) →
      (∀ s2 L es ep t, Moved (S :: wr) G s s2 → Sn w s2.heap S L es ep t → Has ks n L → (∀ b o, g0.get? b = some o → s2.heap.get? b = some o) → R (.ok (.ret .none)) s2) → codeAny (model P w) A (.builtin "set.update.loop" ⟨[.ref S, .ref I], []⟩) R s := by
  have offW : S ∉ wr := fun h => out (W.sub _ h)
  have wider : ∀ b ∈ wr, b ∈ S :: wr := fun b hb => .tail _ hb
  have on : ∀ {s s2 : Shared}, Moved wr G s s2 → (∀ b o, g0.get? b = some o → s.heap.get? b = some o) → ∀ b o, g0.get? b = some o → s2.heap.get? b = some o := fun mv k b o e => mv.heap b o (fun hb => by rw [noW b hb] at e; cases e) (k b o e)
  intro m
  induction m with
  | zero =>
    rintro i s rfl st k0 ⟨L, es, ep, t, R0, g⟩ fin
    refine codeAny_builtin F.entry_set_update_loop ?_
    rw [Around.under_plainId F.plain_set_update_loop _]
    show wpAny _ A.in1 (pyNext (.ref I) >>= _) _ _ s
    refine wpAny_bind (W.done s _ _ st fun s2 mv => ?_)
    show wpAny _ A.in1 (ret Value.none) _ _ s2
    exact wpAny_pure (fin s2 L es ep t (mv.mono wider) (R0.keep (fun o e => mv.heap S o offW e) fun p hp => (hk p (g.sub p hp)).keep (on mv k0)) g (on mv k0))
  | succ m ih =>
    rintro i s en st k0 ⟨L, es, ep, t, R0, g⟩ fin
    refine codeAny_builtin F.entry_set_update_loop ?_
    rw [Around.under_plainId F.plain_set_update_loop _]
    show wpAny _ A.in1 (pyNext (.ref I) >>= _) _ _ s
    refine wpAny_bind (W.item i s _ _ (by omega) st fun v s2 hv st2 mv => ?_)
    obtain ⟨p, hp, rfl⟩ := val i v hv
    have k2 := on mv k0
    have R2 : Sn w s2.heap S L es ep t := R0.keep (fun o e => mv.heap S o offW e) fun q hq => (hk q (g.sub q hq)).keep k2
    have hx : Kt s2.heap p.2 p.1 := (hk p (List.mem_of_getElem? hp)).keep k2
    show wpAny _ A.in1 (holding [Value.ref p.1] (setAdd S (.ref p.1)) >>= _) _ _ s2
    refine wpAny_bind (wpAny_holding ?_)
    unfold setAdd
    refine wpAny_holding ?_
    refine wpAny_bind (pyHash_key p.2 _ _ _ _ hx.is (by have := hx.dp; omega) ?_)
    refine add (s := { s2 with toks := s2.toks + p.2.draws }) R2 hx hu (by have := g.le; have := (List.getElem?_eq_some_iff.mp hp).1; omega) fun b g3 L3 es3 ep3 t3 but R3 c1 c2 => ?_
    have g3' : Has ks (i + 1) L3 := g.next hp c1 c2
    have k3 : ∀ b o, g0.get? b = some o → g3.get? b = some o := fun b o e => (but.2 b fun z => by rw [z, noS] at e; cases e).trans (k2 b o e)
    have nS : ∀ b ∈ fp, b ≠ S := fun b hb z => out (z ▸ hb)
    refine wpAny_pure ⟨plainId_quiet F.plain_set_update_loop _, ih (i + 1) _ (by omega) (W.frame _ s2 _ _ st2 (Nat.le_add_right _ _) fun b hb o e => (but.2 b (nS b hb)).trans e) k3 ⟨L3, es3, ep3, t3, R3, g3'⟩ fun s4 L4 es4 ep4 t4 mv4 R4 g4 k4 => ?_⟩
    refine fin s4 L4 es4 ep4 t4 (Moved.trans W.gtrans ((mv.mono wider).then_heap (Nat.le_add_right _ _) fun b o hb e => ?_) mv4) R4 g4 k4
    exact (but.2 b fun z => hb (z ▸ List.mem_cons_self)).trans e
end

section
variable {P : Program} {w : PySem.World} {A : Around} {E : Value → Shared → Prop} {s : Shared}
/-- set(xs) -/
theorem call_set {l : Addr} {its : Array Value} {ks : List (Addr × NestedKey)} {Q : Value → Shared → Prop} (calm : A.handled = none) (hl : s.heap.IsList l its) (eit : its.toList = ks.map fun p => Value.ref p.1) (hk : ∀ p ∈ ks, Kt s.heap p.2 p.1)
    (few : ks.length < 64) (hu : A.units + 64 < cLine)
    (fin : ∀ (g : Heap) (tk : Nat) L es ep t, Sn w g s.heap.objs.size L es ep t → Has ks ks.length L → (∀ b o, s.heap.get? b = some o → g.get? b = some o) → Q (.ref s.heap.objs.size) { s with heap := g, toks := tk }) : wpAny (model P w) A (call (.type "set") [.ref l]) Q E s := by
  have isz : its.size = ks.length := by rw [← Array.length_toList, eit, List.length_map]
  obtain ⟨c, tl, hmro⟩ := F.called_set.mro
  have c1 := F.called_set.made; have c2 := F.called_set.sub; have c3 := F.called_set.notType; have c4 := F.called_set.canCreate; have c5 := F.typeCall_set_1 (.ref l)
  refine wpAny_call (codeAny_of_tree ?_)
  show wpAny _ _ (callAny (.type "set") _) _ _ _
  refine wpAny_pure ⟨Code.quiet_builtin _ (by decide +kernel), codeAny_builtin F.entry_type_call ?_⟩
  rw [Around.under_plain (weight_type_call_type "set" [.ref l] []) rfl]
  repeat any_goals (first | assumption | wp_step)
  generalize hg1 : s.heap.push (newSet w) = g1
  have here : g1.get? s.heap.objs.size = some (newSet w) := by rw [← hg1]; exact Heap.get?_push_size _ rfl
  refine codeAny_mono (code_set_led1 (.ref l) (E := E) (Q₁ := fun u s1 => u = .ref s.heap.objs.size ∧ s1 = { s with heap := g1 }) ⟨rfl, by rw [← hg1]⟩) fun r s1 hr => ?_
  match r, hr with
  | .error e, hr => exact hr
  | .ok (.ret u), hr =>
    obtain ⟨rfl, rfl⟩ := hr
    have ty : Shared.TypeIs { s with heap := g1 } (.ref s.heap.objs.size) "set" := ⟨_, here, rfl⟩
    have c6 := F.called_set.init.lookup; have c7 := F.called_set.init.bind (.ref s.heap.objs.size)
    repeat any_goals (first | assumption | wp_step)
    refine codeAny_mono (codeAny_call_builtin (R := wants (fun r s2 => r = .none ∧ ∃ g tk L es ep t, s2 = { s with heap := g, toks := tk } ∧ Sn w g s.heap.objs.size L es ep t ∧ Has ks ks.length L ∧ ∀ b o, s.heap.get? b = some o → g.get? b = some o) E)
      F.called_set.init.plain F.entry_set_init (check_set_init_1 ty ?_)) fun r s2 hr => ?_
    · obtain ⟨⟨lc, ld, lx, ls⟩, hol, e1, n1, e2⟩ := hl
      simp only at e1 e2
      subst e1; subst e2
      have keep1 : ∀ b o, s.heap.get? b = some o → g1.get? b = some o := fun b o e => by rw [← hg1]; exact Heap.get?_push_of_some _ e
      have hol1 := keep1 _ _ hol
      have b1 := F.sub_list_set; have b2 := F.sub_list_frozenset
      have b3 : (Value.type "list" == Value.type "dict") = false := by decide
      have hl1 : g1.IsList l its := ⟨_, hol1, rfl, n1, rfl⟩
      have ll : l < s.heap.objs.size := Heap.lt_size hol
      have sz1 : g1.objs.size = s.heap.objs.size + 1 := by rw [← hg1]; exact Heap.size_push ..
      unfold Builtin.«set.__init__» noKeywords Builtin.Frozenset.updateFrom
      generalize hit : pyIter = it
      wp_walk
      subst hit
      refine wpAny_pyIter_list hl1 ?_
      refine wpAny_bind (wpAny_runValue ?_)
      have calm3 : A.in1.in1.in1.handled = none := by simp [calm]
      have ne : l ≠ g1.objs.size := by rw [sz1]; exact Nat.ne_of_lt (Nat.lt_succ_of_lt ll)
      have out : s.heap.objs.size ∉ [g1.objs.size, l] := by
        simp only [List.mem_cons, List.not_mem_nil, or_false, not_or]
        exact ⟨by rw [sz1]; exact Nat.ne_of_lt (Nat.lt_succ_self _), Nat.ne_of_gt ll⟩
      have val : ∀ (i : Nat) (v : Value), its[i]? = some v → ∃ p, ks[i]? = some p ∧ v = .ref p.1 := fun i v e => by
        rw [← Array.getElem?_toList, eit, List.getElem?_map] at e
        cases ek : ks[i]? with
        | none => rw [ek] at e; cases e
        | some p =>
          rw [ek] at e
          exact ⟨p, rfl, (Option.some.inj e).symm⟩
      have gone : ∀ b, s.heap.objs.size ≤ b → s.heap.get? b = none := fun b le => by
        cases e : s.heap.get? b with
        | none => rfl
        | some o => exact absurd (Heap.lt_size e) (Nat.not_lt.mpr le)
      refine fill ((Walks.list calm3 _ l ne its).toS) out ks isz few val hk (gone _ (Nat.le_refl _)) (fun b hb => gone b (by rw [List.mem_singleton.mp hb, sz1]; exact Nat.le_succ _)) (by show A.units + 1 + 1 + 1 + 8 < cLine; omega) its.size 0 _ (by omega)
        ⟨⟨_, Heap.get?_push_size _ rfl, rfl, rfl⟩, hl1.push _⟩ (fun b o e => Heap.get?_push_of_some _ (keep1 b o e)) ⟨[], #[], 0, _, sn_new (Heap.get?_push_of_some _ here), fun _ z => (by cases z), fun k => (by simp), Nat.le_refl _⟩ ?_
      rintro ⟨g, gs, dr, tk, os⟩ L es ep t mv R4 has keep
      obtain rfl : gs = s.gens := mv.gens
      obtain rfl : dr = s.drawn := mv.drawn
      obtain rfl : os = s.os := mv.os
      show wpAny _ _ _ _ _ _
      refine wpAny_pure ?_
      show wpAny _ _ (ret Value.none) _ _ _
      rw [isz] at has
      exact wpAny_pure ⟨rfl, g, tk, L, es, ep, t, rfl, R4, has, keep⟩
    · match r, hr with
      | .error e, hr => exact hr
      | .ok (.ret u), hr =>
        obtain ⟨rfl, g, tk, L, es, ep, t, rfl, R4, has, keep⟩ := hr
        repeat any_goals (first | assumption | wp_step)
        exact fin _ _ _ _ _ _ R4 has keep
end

/-! ### len(set(xs)) in the layer -/
mutual
def kD : D → Option NestedKey
  | .non => some .none
  | .int i => some (.num i)
  | .tup ds => match kDs ds with
    | some ks => some (.tup ks)
    | none => none
  | _ => none
def kDs : List D → Option (List NestedKey)
  | [] => some []
  | d :: ds => match kD d with
    | some k => (match kDs ds with
      | some ks => some (k :: ks)
      | none => none)
    | none => none
end
/-- a tuple, not too deep, of numbers and tuples -/
def okK : NestedKey → Bool
  | .tup ks => decide ((NestedKey.tup ks).depth ≤ 8) && pls ks
  | _ => false
section
variable {X : Cx} {pins : List (Addr × Obj)} {σ : L2.St} {H : Hp} {s : Shared} {Z : Addr → Prop}
mutual
theorem key_is (I : Inv X pins σ H s) : ∀ {d : D} {v : V} {fp : List Addr} {k : NestedKey} {u : Value}, Rep X.K Z H v d fp → kD d = some k → RelV v u → NestedIs s.heap k u
  | .non, _, _, _, _, .non, e, r => by cases e; cases r; exact .none
  | .int i, _, _, _, _, .int _, e, r => by
    cases e
    obtain ⟨t, rfl⟩ := r
    exact .int i t
  | .tup ds, _, _, k, u, .tup h r0, e, r => by
    unfold kD at e
    split at e
    · rename_i ks e2
      cases e
      cases r
      obtain ⟨its, rv, ⟨o, ho, hc, n, hd⟩, _⟩ := I.tuple (.of h)
      exact .tup ho hc hd (keys_are I r0 e2 (by simpa using rv))
    · cases e
  | .bl _, _, _, _, _, _, e, _ => by cases e
  | .str _, _, _, _, _, _, e, _ => by cases e
  | .lst _ _, _, _, _, _, _, e, _ => by cases e
theorem keys_are (I : Inv X pins σ H s) : ∀ {ds : List D} {vs : List V} {fp : List Addr} {ks : List NestedKey} {us : List Value}, Reps X.K Z H vs ds fp → kDs ds = some ks → Vals vs us → NestedAll s.heap ks us
  | [], _, _, _, _, .nil, e, r => by cases e; cases r; exact .nil
  | d :: ds, _, _, _, _, .cons r0 t0, e, r => by
    unfold kDs at e
    split at e
    · rename_i k e1
      split at e
      · rename_i ks e2
        cases e
        cases r with
        | cons r1 r2 => exact .cons (key_is I r0 e1 r1) (keys_are I t0 e2 r2)
      · cases e
    · cases e
end
theorem addrs (ks : List NestedKey) : ∀ {us : List Value}, NestedAll s.heap ks us → ks.all okK = true → ∃ ps : List (Addr × NestedKey), us = (ps.map fun p => Value.ref p.1) ∧ ps.map (·.2) = ks ∧ ∀ p ∈ ps, Kt s.heap p.2 p.1 := by
  induction ks with
  | nil => intro us h _; cases h; exact ⟨[], rfl, rfl, fun _ z => by cases z⟩
  | cons k ks ih =>
    intro us h al
    rw [List.all_cons, Bool.and_eq_true] at al
    cases h with
    | cons h1 h2 =>
      obtain ⟨ps, e1, e2, e3⟩ := ih h2 al.2
      have ok := al.1
      cases h1 with
      | tup g c d r =>
        rename_i a o vs n ks1
        unfold okK at ok
        rw [Bool.and_eq_true, decide_eq_true_eq] at ok
        refine ⟨(a, .tup ks1) :: ps, by rw [e1]; rfl, by rw [← e2]; rfl, fun p hp => ?_⟩
        rcases List.mem_cons.mp hp with rfl | hp
        · exact ⟨.tup g c d r, ok.1, ok.2⟩
        · exact e3 p hp
      | _ => cases ok
end
def tLenSetN (K : PySem.W.Frag) (ta : TE) : TE := fun σ H Q => ta σ H fun x H1 => ∃ (l : Addr) (vs : List V) (ds : List D) (ks : List NestedKey) (Z : Addr → Prop) (fp : List Addr), x = V.ref l ∧ SqL K H1 l vs ∧ Reps K Z H1 vs ds fp ∧ kDs ds = some ks ∧ ks.all okK = true ∧ ks.length < 64 ∧ Q (.int (ded ks).length) H1
section
variable {X : Cx}
theorem pe_lenSetN {e : Expr} {te : TE} {p p2 q pos : Pos} (hc : X.calm = true) (hu : X.A.units + 64 < cLine) (hg : Gl X "len") (hm : X.mg "len" = none) (hg2 : Gl X "set") (hm2 : X.mg "set" = none) (he : PE X e te)
    (na : starEach [e] X.env = (false, eval e X.env) :: starEach [] X.env := by rfl) : PE X (.Call (.Name "len" p) [.Call (.Name "set" p2) [e] [] q] [] pos) (tLenSetN X.K te) := ⟨fun pins s σ H Q I h => by
  refine Call_ (ld_blt I hg hm PySem.boot_len ?_)
  refine callWith_builtin1 (args_cons ?_ rfl) rfl rfl
  refine Call_ (ld_blt I hg2 hm2 boot_set ?_)
  refine callWith_type1 (args_cons (thn (he.run pins s σ H _ I h) fun u s1 ⟨x, H1, I1, r1, q1⟩ => args_nil ?_) na) na rfl
  obtain ⟨l, vs, ds, ks, Z, fp, rfl, hq, rp, ek, al, few, q1⟩ := q1
  cases r1
  obtain ⟨its, rv, plain, hz⟩ := I1.list hq
  obtain ⟨ps, e1, e2, e3⟩ := addrs ks (keys_are I1 rp ek rv) al
  have lp : ps.length = ks.length := by rw [← e2, List.length_map]
  refine call_set (I1.ok.hd hc) plain.isList (ks := ps) (by simpa using e1) e3 (by omega) hu fun g tk L es ep t R has keep => ?_
  refine args_nil ?_
  obtain ⟨o, ho, hex, hd⟩ := R.ob
  have n := has.len R
  rw [e2] at n
  have few2 : (ded ks).length ≤ ks.length := nodup_len (ded_nodup ks) fun k hk => (ded_mem k ks).mp hk
  have I2 : Inv X pins σ H1 { s1 with heap := g, toks := tk } := I1.kept fun b o e => keep b o e
  exact call_len_set ho hex hd R.fits (by omega) ⟨.int (ded ks).length, H1, I2.tok _, ⟨_, by rw [n]⟩, q1⟩⟩
end
end Py.SN
namespace Py
open PySem PySem.Spec PyProof.Rows L2
def fLenSet : D → Option D
  | .lst .scr _ => none
  | .lst _ xs => match SN.kDs xs with
    | some ks => if ks.all SN.okK = true ∧ ks.length < 64 then some (.int (SN.ded ks).length) else none
    | none => none
  | _ => none
section
variable {b : Bool} {X : Cx} {e1 : Expr} {a : M} {pos : Pos}
theorem se_lenSet {p p2 pos2 : Pos} (hu : X.A.units + 64 < cLine) (hc : X.calm = true) (hg : Gl X "len") (hm : X.mg "len" = none) (hg2 : Gl X "set") (hm2 : X.mg "set" = none) (ha : SE b X e1 a)
    (hs : starEach [e1] X.env = (false, eval e1 X.env) :: starEach [] X.env := by rfl) : SE b X (.Call (.Name "len" p) [.Call (.Name "set" p2) [e1] [] pos2] [] pos) (m1 fLenSet a) := ⟨fun {ρ H σ T d σ'} ok cd h => by
  unfold m1 at h
  split at h
  · rename_i x σ1 h1
    split at h
    · rename_i z hz
      cases h
      cases x with
      | lst f xs =>
        have hf : f ≠ .scr := fun e => by subst e; cases hz
        have hz2 : (match SN.kDs xs with
          | some ks => if ks.all SN.okK = true ∧ ks.length < 64 then some (D.int (SN.ded ks).length) else none
          | none => none) = some d := by cases f <;> first | exact hz | exact absurd rfl hf
        split at hz2
        · rename_i ks ek
          split at hz2
          · rename_i hk
            cases hz2
            refine pe_sem (SN.pe_lenSetN hc hu hg hm hg2 hm2 peS hs) ?_
            refine semE_mono (ha.run ok cd h1) fun v H1 p => ?_
            have w := p.ok.w
            obtain ⟨Z, fp, wd, _⟩ := id w
            obtain ⟨f1, f2, rfl, r, _⟩ := wd.inv
            have post : Pst X.K b H ρ σ σ' T [(.int (SN.ded ks).length, .int (SN.ded ks).length)] H1 := ⟨⟨p.ok.len, p.ok.al, (World.tail w).int _⟩, fun e => ⟨(p.cd e).1, NT.cons rfl (p.cd e).2.tail⟩, p.nv, p.sm⟩
            cases r with
            | own h r => exact ⟨_, _, xs, ks, Z, _, rfl, .of h, r, ek, hk.1, hk.2, post⟩
            | frz z h r => exact ⟨_, _, xs, ks, Z, _, rfl, .of h, r, ek, hk.1, hk.2, post⟩
            | vw h r => exact ⟨_, _, xs, ks, Z, _, rfl, .of h, r, ek, hk.1, hk.2, post⟩
            | scr h => exact absurd rfl hf
          · cases hz2
        · cases hz2
      | tup xs => cases hz
      | non => cases hz
      | bl k => cases hz
      | int i => cases hz
      | str s => cases hz
    · cases h
  · cases h⟩
end
end Py
/-! Layer «Py», part U: len([e for x in xs if ..]), nothing in it changes anything: xs may be a look at a list of an own list. -/
namespace Py
open PySem PySem.Spec PyProof.Rows L2
/-- how many turns pass the test -/
def cntEach (i : Nat) (tt : MT) (me : M) (σ : Sg) : List D → Option Nat
  | [] => some 0
  | d :: r => match tt (σ.set i (some d)) with
    | some (true, σ2) => (match me σ2 with
      | some _ => (match cntEach i tt me σ r with
        | some n => some (n + 1)
        | none => none)
      | none => none)
    | some (false, _) => cntEach i tt me σ r
    | none => none
def mLenLc (a : M) (i : Nat) (tt : MT) (me : M) (vs : List Nat) : M := fun σ => match a σ with
  | some (x, σ1) => (match x.view.items with
    | some ds => (match cntEach i tt me (wipeD σ1 vs) ds with
      | some n => if n < 16777216 ∧ i < σ1.length then some (.int n, σ1) else none
      | none => none)
    | none => none)
  | none => none
structure STf (X : Cx) (ifs : List Expr) (m : MT) : Prop where
  run : ∀ {ρ : L2.St} {H : Hp} {σ : Sg} {T : List (V × D)} {k : Bool} {σ' : Sg}, Ok X.K H ρ σ T → Cd false σ T → m σ = some (k, σ') → semTs X ifs ρ H fun v H' => v = k ∧ Pst X.K false H ρ σ σ' T [] H'
theorem stf_nil {X : Cx} : STf X [] tYesM := ⟨fun {ρ H σ T k σ'} ok cd h pins s I => by
  cases h
  exact pts_nil.run pins s ρ H _ I ⟨rfl, ok, cd, id, fun _ => fun b x e => e⟩⟩
theorem stf_one {X : Cx} {c : Expr} {m : MT} (h : ST false X c m) : STf X [c] m := ⟨fun {ρ H σ T k σ'} ok cd e pins s I => (pts_one ptS).run pins s ρ H _ I (h.run ok cd e)⟩
/-- an iterator over vs, as long as nothing of H1 changes -/
structure Jt (J : It) (H1 : Hp) (vs : List V) : Prop where
  go : ∀ {H : Hp} {i : Nat}, Same H1 H → i < vs.length → J.go i H
  yld : ∀ {H H' : Hp} {i : Nat} {x : V}, Same H1 H → J.yld i H x H' → H' = H ∧ vs[i]? = some x
  stop : ∀ {H : Hp} {i : Nat}, Same H1 H → vs.length ≤ i → J.stop i H
theorem sqL_keep {K : PySem.W.Frag} {H H' : Hp} {a : Addr} {vs : List V} (h : SqL K H a vs) (s : Same H H') : SqL K H' a vs := h.elim (fun r => .inl (r.elim (fun e => .inl (s a _ e)) fun ⟨o, e⟩ => .inr ⟨o, s a _ e⟩)) .inr
theorem sqT_keep {K : PySem.W.Frag} {H H' : Hp} {a : Addr} {vs : List V} (h : SqT K H a vs) (s : Same H H') : SqT K H' a vs := h.elim (fun r => .inl (r.elim (fun e => .inl (s a _ e)) fun ⟨o, e⟩ => .inr ⟨o, s a _ e⟩)) .inr
theorem jt_l {K : PySem.W.Frag} {H1 : Hp} {a : Addr} {vs : List V} (h : SqL K H1 a vs) : Jt (Itl K a) H1 vs where
  go := fun {H i} s hi => ⟨vs, vs[i], sqL_keep h s, List.getElem?_eq_getElem hi⟩
  yld := fun {H H' i x} s y => ⟨y.1, y.2 vs (sqL_keep h s)⟩
  stop := fun {H i} s hi => ⟨vs, sqL_keep h s, hi⟩
theorem jt_t {K : PySem.W.Frag} {H1 : Hp} {a : Addr} {vs : List V} (h : SqT K H1 a vs) : Jt (Itt K a) H1 vs where
  go := fun {H i} s hi => ⟨vs, vs[i], sqT_keep h s, List.getElem?_eq_getElem hi⟩
  yld := fun {H H' i x} s y => ⟨y.1, y.2 vs (sqT_keep h s)⟩
  stop := fun {H i} s hi => ⟨vs, sqT_keep h s, hi⟩
theorem view_items {K : PySem.W.Frag} {H : Hp} {v : V} {d : D} {ds : List D} {L : List (V × D)} (w : World K H ((v, d.view) :: L)) (e : d.view.items = some ds) :
    ∃ a vs, v = .ref a ∧ vs.length = ds.length ∧ World K H (vs.zip ds ++ L) ∧ (SqL K H a vs ∨ SqT K H a vs) := by
  have hv : d.view ≠ d ∨ True := .inr trivial
  cases d with
  | tup xs =>
    cases e
    obtain ⟨a, vs, rfl, h, l, _, w2⟩ := World.openT w
    exact ⟨a, vs, rfl, l, w2, .inr (.of h)⟩
  | lst f xs =>
    cases f with
    | own =>
      cases e
      obtain ⟨a, vs, rfl, h, l, _, w2⟩ := World.openL w
      exact ⟨a, vs, rfl, l, w2, .inl h⟩
    | frz =>
      cases e
      obtain ⟨a, vs, rfl, h, l, _, w2⟩ := World.openL w
      exact ⟨a, vs, rfl, l, w2, .inl h⟩
    | vw =>
      cases e
      obtain ⟨a, vs, rfl, h, l, _, w2⟩ := World.openL w
      exact ⟨a, vs, rfl, l, w2, .inl h⟩
    | scr =>
      cases e
      obtain ⟨a, vs, rfl, h, l, _, w2⟩ := World.openL w
      exact ⟨a, vs, rfl, l, w2, .inl h⟩
  | non => cases e
  | bl k => cases e
  | int i => cases e
  | str s => cases e
section
variable {X : Cx} {elt iter : Expr} {ifs : List Expr} {scope : Scope} {own : List (Str × Nat)} {a : M} {tt : MT} {me : M} {i : Nat}
theorem len_core {vs0 : List Nat} {J : It} {vs : List V} {ds : List D} {ρ : L2.St} {H0 H1 : Hp} {σ1 : Sg} {T : List (V × D)} {n : Nat} {R : VK} (hvs : own.map (·.2) = vs0) (hJ : Jt J H1 vs) (hl : vs.length = ds.length) (ok1 : Ok X.K H1 ρ σ1 T) (w : World X.K H1 (vs.zip ds ++ (T ++ sl ρ σ1)))
    (hi : i ∈ vs0) (hn : cntEach i tt me (wipeD σ1 vs0) ds = some n) (hz : n < 16777216) (hlen : i < σ1.length)
    (ht : ∀ (s : Shared) (H : Hp) (C : Addr) (cl : List (Str × Addr)) (fp : List Addr), STf (X.blk s H scope (compEnvC scope cl C X.env) fp) ifs tt)
    (he : ∀ (s : Shared) (H : Hp) (C : Addr) (cl : List (Str × Addr)) (fp : List Addr), SE false (X.blk s H scope (compEnvC scope cl C X.env) fp) elt me)
    (hR : ∀ D0 H (acc : List V), Same H1 H → H D0 = some (.lst acc) → acc.length = n → R (.ref D0) H) :
    tLc (fun _ _ K => K J H1) (gName i) (fun ρ H Q => ∀ (s : Shared) (H0 : Hp) (C : Addr) (cl : List (Str × Addr)) (fp : List Addr), semTs (X.blk s H0 scope (compEnvC scope cl C X.env) fp) ifs ρ H Q)
      (fun ρ H Q => ∀ (s : Shared) (H0 : Hp) (C : Addr) (cl : List (Str × Addr)) (fp : List Addr), semE (X.blk s H0 scope (compEnvC scope cl C X.env) fp) elt ρ H Q) vs0 ρ H0 R := fun D0 hD => by
  refine ⟨fun j m H => m = ds.length - j ∧ j ≤ ds.length ∧ Same H1 H ∧ ∃ (acc : List V) (c : Nat), H D0 = some (.lst acc) ∧ cntEach i tt me (wipeD σ1 vs0) (ds.drop j) = some c ∧ acc.length + c = n,
    ⟨ds.length, rfl, Nat.zero_le _, same_upd hD, [], n, upd_same .., hn, by simp⟩, ?_⟩
  rintro j m H ⟨rfl, hj, hS, acc, c, hH, hc, hsum⟩
  by_cases hlt : j < ds.length
  · have hd : ds[j]? = some ds[j] := List.getElem?_eq_getElem hlt
    rw [List.drop_eq_getElem_cons hlt] at hc
    simp only [cntEach] at hc
    refine .inr ⟨hJ.go hS (by omega), fun H' => j + 1 ≤ ds.length ∧ Same H1 H' ∧ ∃ (acc : List V) (c : Nat), H' D0 = some (.lst acc) ∧ cntEach i tt me (wipeD σ1 vs0) (ds.drop (j + 1)) = some c ∧ acc.length + c = n, fun H' q => ⟨ds.length - (j + 1), by omega, rfl, q⟩, fun x H3 hy => ?_⟩
    obtain ⟨rfl, hx⟩ := hJ.yld hS hy
    obtain ⟨v, hv, w2⟩ := w.pick hl hd
    rw [hx] at hv
    cases hv
    have ok2 : Ok X.K H1 ρ σ1 ((x, ds[j]) :: T) := ⟨ok1.len, ok1.al, w2⟩
    have ok3 := ((ok2.wipeDrop vs0).put (i := i) (by rw [wipeD_len]; exact hlen)).same hS
    refine ⟨wipe_kp (ws := [i]) .set (fun j hj => by rw [List.mem_singleton.mp hj]; exact hi), fun s5 H5 C5 cl5 fp5 => ?_⟩
    split at hc
    · rename_i σ5 h5
      refine fun pins s I => thn ((ht s5 H5 C5 cl5 fp5).run ok3 (fun e => nomatch e) h5 pins s I) fun _ _ z => tp_mono (fun b H6 ⟨eb, p6⟩ => ?_) z
      subst eb
      refine iteT fun s7 H7 C7 cl7 fp7 => ?_
      have s6 := p6.sm rfl
      split at hc
      · rename_i p h6
        obtain ⟨x1, σ6⟩ := p
        split at hc
        · rename_i c1 hc1
          cases hc
          refine semE_mono ((he s7 H7 C7 cl7 fp7).run p6.ok (fun e => nomatch e) h6) fun v8 H8 p8 => ?_
          have s8 := p8.sm rfl
          have hD8 : H8 D0 = some (.lst acc) := s8 _ _ (s6 _ _ hH)
          have hS8 : Same H1 H8 := (hS.trans s6).trans s8
          refine ⟨acc, hD8, by rw [sizeLine_eq]; omega, hlt, fun b y e => ?_, acc ++ [v8], c1, upd_same .., hc1, by simp; omega⟩
          have ne : b ≠ D0 := fun z => by rw [z, hD] at e; cases e
          rw [upd_ne ne]
          exact hS8 b y e
        · cases hc
      · cases hc
    · rename_i σ5 h5
      refine fun pins s I => thn ((ht s5 H5 C5 cl5 fp5).run ok3 (fun e => nomatch e) h5 pins s I) fun _ _ z => tp_mono (fun b H6 ⟨eb, p6⟩ => ?_) z
      subst eb
      exact iteF ⟨hlt, hS.trans (p6.sm rfl), acc, c, p6.sm rfl _ _ hH, hc, hsum⟩
    · cases hc
  · have e : j = ds.length := by omega
    subst e
    rw [List.drop_length] at hc
    cases hc
    exact .inl ⟨hJ.stop hS (by omega), hR D0 H acc hS hH (by simpa using hsum)⟩
theorem se_lenLc {y : Str} {p q pos pos2 : Pos} (hc : X.calm = true) (hN : X.N.Nodup) (hgl : Gl X "len") (hm : X.mg "len" = none) (ok : BlkOk X.N X.env.scope scope own) (ha : SE false X iter a)
    (hg : ∀ (s : Shared) (H : Hp) (C : Addr) (cl : List (Str × Addr)) (fp : List Addr), PG (X.blk s H scope (compEnvC scope cl C X.env) fp) (.Name y q) (gName i))
    (ht : ∀ (s : Shared) (H : Hp) (C : Addr) (cl : List (Str × Addr)) (fp : List Addr), STf (X.blk s H scope (compEnvC scope cl C X.env) fp) ifs tt)
    (he : ∀ (s : Shared) (H : Hp) (C : Addr) (cl : List (Str × Addr)) (fp : List Addr), SE false (X.blk s H scope (compEnvC scope cl C X.env) fp) elt me)
    (hi : i ∈ own.map (·.2) := by decide) (hs : ∀ x, foldedSetIterable iter X.env x = pure x := by intro _; rfl)
    (na : starEach [.ListComp elt [⟨.Name y q, iter, ifs, 0⟩] scope pos] X.env = (false, eval (.ListComp elt [⟨.Name y q, iter, ifs, 0⟩] scope pos) X.env) :: starEach [] X.env := by rfl) :
    SE false X (.Call (.Name "len" p) [.ListComp elt [⟨.Name y q, iter, ifs, 0⟩] scope pos] [] pos2) (mLenLc a i tt me (own.map (·.2))) := ⟨fun {ρ H σ T d σ'} o cd h => by
  have pt : ∀ (s : Shared) (H : Hp) (C : Addr) (cl : List (Str × Addr)) (fp : List Addr), PTs (X.blk s H scope (compEnvC scope cl C X.env) fp) ifs (fun ρ H Q => ∀ (s : Shared) (H0 : Hp) (C : Addr) (cl : List (Str × Addr)) (fp : List Addr), semTs (X.blk s H0 scope (compEnvC scope cl C X.env) fp) ifs ρ H Q) :=
    fun s0 H0 C cl fp => ⟨fun pins s ρ H Q I h => h s0 H0 C cl fp pins s I⟩
  have pe : ∀ (s : Shared) (H : Hp) (C : Addr) (cl : List (Str × Addr)) (fp : List Addr), PE (X.blk s H scope (compEnvC scope cl C X.env) fp) elt (fun ρ H Q => ∀ (s : Shared) (H0 : Hp) (C : Addr) (cl : List (Str × Addr)) (fp : List Addr), semE (X.blk s H0 scope (compEnvC scope cl C X.env) fp) elt ρ H Q) :=
    fun s0 H0 C cl fp => ⟨fun pins s ρ H Q I h => h s0 H0 C cl fp pins s I⟩
  refine pe_sem (pe_callB call_len hgl hm PySem.boot_len (pa_cons (pe_lc hc hN (piS (tg := .Name y q)) ok hg pt pe hs) pa_nil na) (by decide) (by decide) na rfl) ?_
  unfold mLenLc at h
  split at h
  · rename_i x σ1 h1
    split at h
    · rename_i ds hds
      split at h
      · rename_i n hn
        split at h
        · rename_i hz
          cases h
          refine pi_sem (pi_seq peS) ?_
          refine semE_mono (ha.run o cd h1) fun v H1 p0 => ?_
          obtain ⟨b, vs, rfl, hl, w, hq⟩ := view_items (World.view (L := T ++ sl ρ σ') p0.ok.w) hds
          have w2 : World X.K H1 (vs.zip ds ++ (T ++ sl ρ σ')) := w.sub (List.Sublist.append_left (List.sublist_cons_self _ _) _)
          have core := fun (J : It) (hJ : Jt J H1 vs) => len_core (X := X) (H0 := H) (elt := elt) (ifs := ifs) (scope := scope) (R := fun x H2 => ∃ y m, [x] = [y] ∧ LenV X.K y H2 m ∧ Pst X.K false H ρ σ σ' T [(.int m, .int n)] H2) rfl hJ hl p0.ok.tail w2 hi hn hz.1 hz.2 ht he fun D0 H2 acc sm hD el =>
            ⟨.ref D0, n, rfl, .inl ⟨acc, .of hD, el.symm⟩, ⟨p0.ok.tail.len, p0.ok.tail.al, (World.same sm (World.tail (L := T ++ sl ρ σ') p0.ok.w)).int _⟩, (fun e => nomatch e), p0.nv, fun e => (p0.sm e).trans sm⟩
          refine ⟨b, rfl, ?_⟩
          rcases hq with hq | hq
          · exact .inl ⟨⟨vs, hq⟩, core _ (jt_l hq)⟩
          · exact .inr ⟨⟨vs, hq⟩, core _ (jt_t hq)⟩
        · cases h
      · cases h
    · cases h
  · cases h⟩
end
end Py
/-! Layer «Py», part V: for .. in range(a, b, -1); xs[::-1]. -/
namespace Py
open PySem PySem.Spec PyProof.Rows L2
def iRngD (a c e : M) : MI := fun σ => match a σ with
  | some (.int i, σ1) => (match c σ1 with
    | some (.int j, σ2) => (match e σ2 with
      | some (.int k, σ3) => if okR i = true ∧ okR j = true ∧ k = -1 then some (down i (i - j).toNat, none, σ3) else none
      | _ => none)
    | _ => none)
  | _ => none
def fRevL : D → Option D
  | .lst _ xs => some (.lst .own xs.reverse)
  | _ => none
section
variable {X : Cx} {b : Bool} {tg e1 e2 e3 : Expr} {a c d : M}
theorem si_rangeD {p pos : Pos} (hg : Gl X "range") (hm : X.mg "range" = none) (ha : SE b X e1 a) (hc : SE b X e2 c) (hd : SE b X e3 d) (hs : starEach [e1, e2, e3] X.env = (false, eval e1 X.env) :: starEach [e2, e3] X.env := by rfl)
    (hs2 : starEach [e2, e3] X.env = (false, eval e2 X.env) :: starEach [e3] X.env := by rfl) (hs3 : starEach [e3] X.env = (false, eval e3 X.env) :: starEach [] X.env := by rfl) (hpl : (backTo pos (starEach [e2, e3] X.env)).any (·.1) = false := by rfl) :
    SI b X tg (.Call (.Name "range" p) [e1, e2, e3] [] pos) none (iRngD a c d) := ⟨fun {ρ H σ T ds o σ' R} ok cd h q => by
  unfold iRngD at h
  split at h
  · rename_i i σ1 h1
    split at h
    · rename_i j σ2 h2
      split at h
      · rename_i k σ3 h3
        split at h
        · rename_i hj
          cases h
          obtain ⟨ok1, ok2, rfl⟩ := hj
          refine pi_sem (pi_range3 hg hm (pa_cons peS (pa_cons peS (pa_cons peS pa_nil hs3) hs2) hs) hs hpl) ?_
          refine semE_mono (ha.run ok cd h1) fun v H1 p => ?_
          refine semE_mono (hc.run p.ok p.cd h2) fun v2 H2 p2 => ?_
          refine semE_mono (hd.run p2.ok p2.cd h3) fun v3 H3 p3 => ?_
          have e := World.int_of (L := (v2, D.int j) :: (v, D.int i) :: (T ++ sl ρ σ')) p3.ok.w
          subst e
          have e := World.int_of (L := (v, D.int i) :: (T ++ sl ρ σ')) p3.ok.tail.w
          subst e
          have e := World.int_of (L := T ++ sl ρ σ') p3.ok.tail.tail.w
          subst e
          obtain ⟨z1, z2⟩ := okR_iff ok1
          obtain ⟨z3, z4⟩ := okR_iff ok2
          exact ⟨i, j, -1, _, rfl, RgC.neg z1 z2 z3 z4, q _ _ _ yl_rangeD (fun _ => down_noVw _ _) trivial ⟨p3.ok.tail.tail.tail, fun e => ⟨(p3.cd e).1, (p3.cd e).2.tail.tail.tail⟩, fun n => p3.nv (p2.nv (p.nv n)), fun e => ((p.sm e).trans (p2.sm e)).trans (p3.sm e)⟩⟩
        · cases h
      · cases h
    · cases h
  · cases h⟩
theorem se_revL {k : Nat} {p1 p2 p3 pos : Pos} (ha : SE b X e1 a) : SE b X (.Subscript e1 (.Slice none none (some (.UnaryOp .USub (.Constant (.int 1) k p1) p2)) p3) pos) (m1 fRevL a) := ⟨fun {ρ H σ T d σ'} ok cd h => by
  unfold m1 at h
  split at h
  · rename_i x σ1 h1
    split at h
    · rename_i z hz
      cases h
      cases x with
      | lst f xs =>
        simp only [fRevL, Option.some.injEq] at hz
        subst hz
        refine pe_sem (pe_revL peS) ?_
        refine semE_mono (ha.run ok cd h1) fun v H1 p => ?_
        obtain ⟨t, vs, rfl, ht, hl, _, w⟩ := World.openL (L := T ++ sl ρ σ') p.ok.w
        refine ⟨t, vs, rfl, ht, fun q hq => ?_⟩
        have w2 := World.newLst (L := T ++ sl ρ σ') (vs := vs.reverse) (by simp [hl]) hq (w.perm ((zip_revs hl).append_right _))
        refine ⟨⟨p.ok.len, p.ok.al, w2⟩, fun e => ⟨(p.cd e).1, NT.cons ?_ (p.cd e).2.tail⟩, p.nv, fun e => (p.sm e).trans (same_upd hq)⟩
        have hv : (D.lst f xs).noVw = true := NT.head (p.cd e).2
        have : noVws xs = true := by cases f <;> simp_all [D.noVw]
        exact noVws_rev this
      | _ => cases hz
    · cases h
  · cases h⟩
end
end Py
/-! Layer «Py», part VT: tuple * int, the int of any sign. -/
namespace Py
open PySem PySem.Spec PyProof.Rows L2
theorem tuple_mulSame (l : Addr) (items : Array Value) (n : Nat) (dd : Option Addr) (sl : Array (Option Value)) (x : Int) (u : Tok) (c0 : (decide (x < -(2 ^ 63)) || decide (x ≥ 2 ^ 63)) = false) (c1 : (items.isEmpty || x == 1) = true) :
    Meets (Builtin.«tuple.__mul__» ⟨[.ref l, .int x u], []⟩) (fun _ R s => s.heap.get? l = some { cls := .type "tuple", dict := dd, data := .seq items n, slots := sl } ∧ R (.ok (.ret (Value.ref l))) s) :=
  .of_wp fun prog w A R s h => by
    obtain ⟨hp, g, d, tk, os⟩ := s
    obtain ⟨hl, h⟩ := h
    have f1 := AutoSeq1.idx_int
    wp_walk using wpAny_loadPart' hl
    repeat (first
      | (refine wpAny_ite_false (decide_eq_false (by rw [c0]; exact Bool.false_ne_true)) ?_; wp_walk using wpAny_loadPart' hl)
      | (refine wpAny_ite_true (decide_eq_true (by rw [c1])) ?_; wp_walk using wpAny_loadPart' hl))
    exact ⟨_, rfl, h⟩
theorem tuple_mulNone (l : Addr) (items : Array Value) (n : Nat) (dd : Option Addr) (sl : Array (Option Value)) (x : Int) (u : Tok) (c0 : (decide (x < -(2 ^ 63)) || decide (x ≥ 2 ^ 63)) = false) (c1 : (items.isEmpty || x == 1) = false) (c2 : (decide (x ≤ 0) || items.isEmpty) = true) :
    Meets (Builtin.«tuple.__mul__» ⟨[.ref l, .int x u], []⟩) (fun _ R s => s.heap.get? l = some { cls := .type "tuple", dict := dd, data := .seq items n, slots := sl } ∧
      R (.ok (.ret (Value.ref s.heap.objs.size))) { s with heap := s.heap.push { cls := Value.type "tuple", data := Data.seq #[] }, toks := s.toks }) :=
  .of_wp fun prog w A R s h => by
    obtain ⟨hp, g, d, tk, os⟩ := s
    obtain ⟨hl, h⟩ := h
    have f1 := AutoSeq1.idx_int
    wp_walk using wpAny_loadPart' hl
    repeat (first
      | (refine wpAny_ite_false (decide_eq_false (by rw [c0]; exact Bool.false_ne_true)) ?_; wp_walk using wpAny_loadPart' hl)
      | (refine wpAny_ite_false (decide_eq_false (by rw [c1]; exact Bool.false_ne_true)) ?_; wp_walk using wpAny_loadPart' hl)
      | (refine wpAny_ite_true (decide_eq_true (by rw [c2])) ?_; wp_walk using wpAny_loadPart' hl))
    exact ⟨_, rfl, h⟩
def rRepTA (K : PySem.W.Frag) : R2 := fun x y H Q => ∃ l k xs, x = .ref l ∧ y = .int k ∧ SqT K H l xs ∧ xs ≠ [] ∧ -(2 ^ 63) ≤ k ∧ k ≤ 1000 ∧ xs.length ≤ 1000 ∧ (k = 1 → Q (.ref l) H) ∧ (k ≠ 1 → ∀ p, H p = none → Q (.ref p) (upd H p (.tup (List.replicate k.toNat xs).flatten)))
section
variable {X : Cx}
theorem op_repTA : OpR X (binaryOp .Mult) (rRepTA X.K) := by
  intro pins s σ H x y v u Q I rx ry h
  obtain ⟨l, k, xs, rfl, rfl, hT, hne, h1, h2, hz, q1, q2⟩ := h
  by_cases h3 : 2 ≤ k
  · exact op_repT pins s σ H _ _ v u Q I rx ry ⟨l, k, xs, rfl, rfl, hT, hne, h3, h2, hz, q2 (by omega)⟩
  cases rx
  obtain ⟨t, rfl⟩ := ry
  obtain ⟨its, r, ⟨⟨cls, dd, data, sl⟩, ho, hc, n, hd⟩, hs⟩ := I.tuple hT
  simp only at hc hd
  subst hc hd
  have hle : its.length = xs.length := r.length.symm
  have hn : its ≠ [] := fun e => hne (by
    rw [e] at hle
    exact List.eq_nil_of_length_eq_zero hle.symm)
  have hi : its.toArray.isEmpty = false := by
    cases its with
    | nil => exact absurd rfl hn
    | cons a b => rfl
  have c0 : (decide (k < -(2 ^ 63)) || decide (k ≥ 2 ^ 63)) = false := by
    rw [decide_eq_false (by omega), decide_eq_false (by omega)] <;> rfl
  by_cases h4 : k = 1
  · subst h4
    refine wpAny_binaryOp_repeat_ref (T := "tuple") (U := "int") (by decide) ⟨_, ho, rfl⟩ (fun s' => typeIs_int s' 1 t) noFill_tuple_mul F.fills_int_mul F.slot_int_rmul repeat_tuple F.slot_int_index.lookup
      (call_meets F.slot_int_rmul (typeIs_int s 1 t) F.entry_int_rmul (F.args_int_rmul_2 _ _) (int_rmul_tuple 1 t l its.toArray n dd sl)
        ⟨ho, rfl, ⟨_, ho, rfl⟩, call_meets F.slot_tuple_mul ⟨_, ho, rfl⟩ F.entry_tuple_mul (F.args_tuple_mul_2 _ _) (tuple_mulSame l its.toArray n dd sl 1 t c0 (by rw [hi]; rfl)) ⟨ho, ?_⟩⟩)
    exact ⟨.ref l, H, I, rfl, q1 rfl⟩
  have c1 : (its.toArray.isEmpty || k == 1) = false := by
    rw [hi, Bool.false_or]
    exact beq_eq_false_iff_ne.mpr h4
  have c2 : (decide (k ≤ 0) || its.toArray.isEmpty) = true := by
    rw [hi, Bool.or_false]
    exact decide_eq_true (by omega)
  refine wpAny_binaryOp_repeat_ref (T := "tuple") (U := "int") (by decide) ⟨_, ho, rfl⟩ (fun s' => typeIs_int s' k t) noFill_tuple_mul F.fills_int_mul F.slot_int_rmul repeat_tuple F.slot_int_index.lookup
    (call_meets F.slot_int_rmul (typeIs_int s k t) F.entry_int_rmul (F.args_int_rmul_2 _ _) (int_rmul_tuple k t l its.toArray n dd sl)
      ⟨ho, rfl, ⟨_, ho, rfl⟩, call_meets F.slot_tuple_mul ⟨_, ho, rfl⟩ F.entry_tuple_mul (F.args_tuple_mul_2 _ _) (tuple_mulNone l its.toArray n dd sl k t c0 c1 c2) ⟨ho, ?_⟩⟩)
  have e0 : (List.replicate k.toNat xs).flatten = [] := by
    rw [show k.toNat = 0 by omega]
    rfl
  refine ⟨.ref s.heap.objs.size, _, I.laid (t' := s.toks) (o := .tup (List.replicate k.toNat xs).flatten) (fun b ob q => Heap.get?_push_of_some _ q) (Nat.le_refl _) ?_, rfl, q2 h4 _ (I.hok.fresh (Nat.le_refl _))⟩
  rw [e0]
  exact ⟨by simp, [], .nil, IsTup.new _ _⟩
end
def kMulT : D → D → Option D
  | .tup xs, .int k => if xs ≠ [] ∧ -9223372036854775808 ≤ k ∧ k ≤ 1000 ∧ xs.length ≤ 1000 then some (.tup (List.replicate k.toNat xs).flatten) else none
  | _, _ => none
theorem noOwns_reps {xs : List D} (h : noOwns xs = true) (n : Nat) : noOwns (List.replicate n xs).flatten = true := by
  rw [noOwns_all, List.all_eq_true] at h ⊢
  intro x hx
  obtain ⟨l, hl, hm⟩ := List.mem_flatten.mp hx
  exact h x ((List.mem_replicate.mp hl).2 ▸ hm)
variable {K : PySem.W.Frag}
theorem o_mulT : Op2 K (rRepTA K) kMulT where
  run := fun {H L x y dx dy z Q} w e q => by
    cases dx <;> cases dy <;> simp only [kMulT] at e <;> try cases e
    split at e
    · rename_i h
      cases e
      obtain ⟨h1, h2, h3, h4⟩ := h
      have ey := World.int_of w
      subst ey
      have w0 := w.tail
      obtain ⟨a, vs, rfl, ht, l1, hn, w⟩ := w.tail.openT
      refine ⟨a, _, vs, rfl, rfl, .of ht, fun e => h1 (by subst e; exact List.eq_nil_of_length_eq_zero l1.symm), by omega, by omega, by omega, fun ek => ?_, fun ek p hp => q _ _ (World.newTup (by simp [l1]) (noOwns_reps hn _) hp (w.items0 l1 hn fun Z r => r.rep _)) (same_upd hp)⟩
      subst ek
      have e1 : ∀ ys : List D, (List.replicate (1 : Int).toNat ys).flatten = ys := fun ys => by
        show (List.replicate 1 ys).flatten = _
        rw [List.replicate_one, List.flatten_singleton]
      rw [e1] at q
      exact q _ _ w0 (Same.refl _)
    · cases e
  nv := fun {dx dy z} e a b => by
    cases dx <;> cases dy <;> simp only [kMulT] at e <;> try cases e
    split at e <;> cases e
    exact noVws_rep a _
end Py
/-! Layer «Py», part VU: sum(t) of a tuple of ints, too. -/
namespace Py
open PySem PySem.Spec PyProof.Rows L2
def rSumT (K : PySem.W.Frag) : List V → Hp → VK → Prop := fun vs H Q => ∃ (a : Addr) (ns : List Int), vs = [V.ref a] ∧ SqT K H a (ns.map V.int) ∧ Q (.int ns.sum) H
theorem isTup_tuple {h : Heap} {a : Addr} {items : Array Value} (ht : IsTup h a items) : h.IsTuple a items := ht
theorem sum_rawT {prog : Program} {w : PySem.World} {A : Around} {E : Value → Shared → Prop} {s : Shared} {l : Addr} {its : List Value} {ns : List Int} {Q : Value → Shared → Prop} (hh : A.handled = none) (hl : s.heap.IsTuple l its.toArray) (hi : IntsAre its ns)
    (h : ∀ h' tk t', (∀ b o, s.heap.get? b = some o → h'.get? b = some o) → Q (.int ns.sum t') { s with heap := h', toks := tk }) : wpAny (model prog w) A (call (.builtin "sum") [.ref l]) Q E s := by
  obtain ⟨xs, e⟩ := hi.allInts.items
  have hn : numsOf (intItems xs).toList = ns := by rw [← e]; exact hi.numsOf
  rw [nums_intItems] at hn
  rw [e] at hl
  refine PySem.W.ktm_sumG hh hl fun h' tk t' hk => ?_
  have := h h' tk t' hk
  rw [preSum_eq, List.take_of_length_le (by simp), hn]
  exact this
theorem cr_sumT {X : Cx} (hc : X.calm = true) : CallR X (.builtin "sum") (rSumT X.K) := by
  intro pins s σ H vs us Q I r h
  obtain ⟨a, ns, rfl, hs, q⟩ := h
  obtain ⟨its, rv, hl, _⟩ := I.tuple hs
  rw [Vals.ref1 r]
  exact sum_rawT (I.ok.hd hc) hl rv.ints fun h' tk t' hk => ⟨.int _, H, I.kept hk, ⟨_, rfl⟩, q⟩
def fSumA : D → Option D
  | .lst _ xs => (match unInts xs with
    | some ns => some (.int ns.sum)
    | none => none)
  | .tup xs => (match unInts xs with
    | some ns => some (.int ns.sum)
    | none => none)
  | _ => none
theorem cr_sumA {X : Cx} (hc : X.calm = true) : CallR X (.builtin "sum") (fun vs H Q => rSum X.K vs H Q ∨ rSumT X.K vs H Q) := (cr_sum hc).or (cr_sumT hc)
variable {K : PySem.W.Frag} {H : Hp} {L : List (V × D)}
theorem World.tupInts {v : V} {xs : List D} {ns : List Int} (w : World K H ((v, .tup xs) :: L)) (h : unInts xs = some ns) : ∃ a, v = .ref a ∧ SqT K H a (ns.map V.int) := by
  obtain ⟨a, vs, rfl, ht, l1, _, w⟩ := w.openT
  have e := ints_eq h
  subst e
  have e2 := w.vints l1
  subst e2
  exact ⟨a, rfl, .of ht⟩
theorem o_sumA : OpA K (fun vs H Q => rSum K vs H Q ∨ rSumT K vs H Q) (k1 fSumA) := a1
  (fun {H L x d z Q} w e q => by
    cases d <;> simp only [fSumA] at e <;> try cases e
    · split at e <;> cases e
      rename_i ns h
      obtain ⟨a, rfl, ht⟩ := World.tupInts w h
      exact .inr ⟨a, ns, rfl, ht, q _ _ (World.int _ w.tail) (Same.refl _)⟩
    · split at e <;> cases e
      rename_i ns h
      obtain ⟨a, rfl, ht⟩ := w.listInts h
      exact .inl ⟨a, ns, rfl, ht, q _ _ (World.int _ w.tail) (Same.refl _)⟩)
  (fun {d z} e n => by
    cases d <;> simp only [fSumA] at e <;> try cases e
    · split at e <;> cases e
      rfl
    · split at e <;> cases e
      rfl)
end Py
/-! Layer «Py», part W: meanings reckoned forwards, for the plain part of a proof. -/
namespace Py
open PySem PySem.Spec PyProof.Rows L2

def wE (m : M) (σ : Sg) (Q : D → Sg → Prop) : Prop := ∃ p, m σ = some p ∧ Q p.1 p.2
def wT (m : MT) (σ : Sg) (Q : Bool → Sg → Prop) : Prop := ∃ p, m σ = some p ∧ Q p.1 p.2
def wA (m : MA) (σ : Sg) (Q : List D → Sg → Prop) : Prop := ∃ p, m σ = some p ∧ Q p.1 p.2
def wO (m : MO) (σ : Sg) (Q : Option Int → Sg → Prop) : Prop := ∃ p, m σ = some p ∧ Q p.1 p.2
def wS (m : MS) (σ : Sg) (Q : Fo → Sg → Prop) : Prop := ∃ p, m σ = some p ∧ Q p.1 p.2
def wG (g : MG) (d : D) (σ : Sg) (Q : Sg → Prop) : Prop := ∃ p, g d σ = some p ∧ Q p
def wGs (g : MGs) (ds : List D) (σ : Sg) (Q : Sg → Prop) : Prop := ∃ p, g ds σ = some p ∧ Q p
def wI (m : MI) (σ : Sg) (Q : List D → Option D → Sg → Prop) : Prop := ∃ p, m σ = some p ∧ Q p.1 p.2.1 p.2.2
def wP (m : MP) (σ : Sg) (Q : List Nat → Prop) : Prop := ∃ p, m σ = some p ∧ Q p
def wN (m : M) (σ : Sg) (Q : Int → Prop) : Prop := ∃ p, nInt m σ = some p ∧ Q p
def wF (fn : Fn) (ds : List D) (Q : D → Sg → Prop) : Prop := ∃ p, fn ds = some p ∧ Q p.1 p.2
def wL (g : MG) (m : MS) (ds : List D) (σ : Sg) (Q : Fo → Sg → Prop) : Prop := ∃ p, sEach g m ds σ = some p ∧ Q p.1 p.2
def wC (g : MG) (tt : MT) (me : M) (vs : List Nat) (ds : List D) (σ : Sg) (Q : List D → Sg → Prop) : Prop := ∃ p, lcEach g tt me vs ds σ = some p ∧ Q p.1 p.2
/-- what stands behind a statement -/
def kS (b : MS) (Q : Fo → Sg → Prop) : Fo → Sg → Prop
  | .nx, σ => wS b σ Q
  | f, σ => Q f σ
def kF (Q : D → Sg → Prop) : Fo → Sg → Prop
  | .rt d, σ => Q d σ
  | .nx, σ => Q .non σ
  | _, _ => False
section
variable {m a b c : M} {t u v : MT} {r ma : MA} {σ : Sg} {Q : D → Sg → Prop} {QT : Bool → Sg → Prop} {QA : List D → Sg → Prop} {QS : Fo → Sg → Prop} {QG : Sg → Prop} {QI : List D → Option D → Sg → Prop} {QP : List Nat → Prop} {s1 s2 : MS} {g : MG} {gs : MGs} {i j n : Nat} {mp : MP} {d : D} {ds : List D}
@[simp] theorem wE_var : wE (mVar i) σ Q ↔ ∃ d, σ[i]? = some (some d) ∧ Q d.view σ := by unfold wE mVar; (repeat' split) <;> simp_all [and_assoc] <;> try grind
@[simp] theorem wE_frz : wE (mFrz i) σ Q ↔ ∃ d, σ[i]? = some (some d) ∧ Q d.frz (σ.set i (some d.frz)) := by unfold wE mFrz; (repeat' split) <;> simp_all [and_assoc] <;> try grind
@[simp] theorem wE_move : wE (mMove i) σ Q ↔ ∃ d, σ[i]? = some (some d) ∧ Q d (σ.set i none) := by unfold wE mMove; (repeat' split) <;> simp_all [and_assoc] <;> try grind
@[simp] theorem wE_lend : wE (mLend i) σ Q ↔ ∃ d, σ[i]? = some (some d) ∧ if d.noOwn = true then Q d σ else Q d (σ.set i none) := by unfold wE mLend; (repeat' split) <;> simp_all [and_assoc] <;> try grind
@[simp] theorem wE_C : wE (mC d) σ Q ↔ Q d σ := by unfold wE mC; simp
@[simp] theorem wE_m1 {f : D → Option D} : wE (m1 f a) σ Q ↔ wE a σ fun x σ1 => ∃ z, f x = some z ∧ Q z σ1 := by unfold wE m1; (repeat' split) <;> simp_all [and_assoc] <;> try grind
@[simp] theorem wE_m2 {f : D → D → Option D} : wE (m2 f a b) σ Q ↔ wE a σ fun x σ1 => wE b σ1 fun y σ2 => ∃ z, f x y = some z ∧ Q z σ2 := by unfold wE m2; (repeat' split) <;> simp_all [and_assoc] <;> try grind
@[simp] theorem wE_Up : wE (mUp a) σ Q ↔ wE a σ fun x σ1 => x.noVw = true ∧ Q x σ1 := by unfold wE mUp; (repeat' split) <;> simp_all [and_assoc] <;> try grind
@[simp] theorem wE_If : wE (mIf t a b) σ Q ↔ wT t σ fun k σ1 => if k = true then wE a σ1 Q else wE b σ1 Q := by unfold wE wT mIf; (repeat' split) <;> simp_all [and_assoc] <;> try grind
@[simp] theorem wA_nil : wA aNil σ QA ↔ QA [] σ := by unfold wA aNil; simp
@[simp] theorem wA_cons : wA (aCons a r) σ QA ↔ wE a σ fun x σ1 => wA r σ1 fun xs σ2 => QA (x :: xs) σ2 := by unfold wA wE aCons; (repeat' split) <;> simp_all [and_assoc] <;> try grind
@[simp] theorem wE_A {f : List D → Option D} : wE (mA f r) σ Q ↔ wA r σ fun xs σ1 => ∃ z, f xs = some z ∧ Q z σ1 := by unfold wE wA mA; (repeat' split) <;> simp_all [and_assoc] <;> try grind
@[simp] theorem wT_and : wT (tAndM t u) σ QT ↔ wT t σ fun k σ1 => if k = true then wT u σ1 QT else QT false σ1 := by unfold wT tAndM; (repeat' split) <;> simp_all [and_assoc] <;> try grind
@[simp] theorem wT_or : wT (tOrM t u) σ QT ↔ wT t σ fun k σ1 => if k = true then QT true σ1 else wT u σ1 QT := by unfold wT tOrM; (repeat' split) <;> simp_all [and_assoc] <;> try grind
@[simp] theorem wT_not : wT (tNotM t) σ QT ↔ wT t σ fun k σ1 => QT (!k) σ1 := by unfold wT tNotM; (repeat' split) <;> simp_all [and_assoc] <;> try grind
@[simp] theorem wT_val : wT (tVal a) σ QT ↔ wE a σ fun x σ1 => ∃ k, dTru x = some k ∧ QT k σ1 := by 
  unfold wT wE tVal
  (repeat' split) <;> simp_all [and_assoc] <;> try grind
  rename_i k hk
  cases k <;> simp
@[simp] theorem wT_B : wT (Py.tB a) σ QT ↔ wE a σ fun x σ1 => ∃ k, x = .bl k ∧ QT k σ1 := by
  unfold wT wE Py.tB
  (repeat' split) <;> simp_all [and_assoc] <;> try grind
  rename_i k _ hk
  cases k <;> simp
@[simp] theorem wT_yes : wT tYesM σ QT ↔ QT true σ := by unfold wT tYesM; simp
@[simp] theorem wE_T : wE (mT t) σ Q ↔ wT t σ fun k σ1 => Q (.bl k) σ1 := by unfold wT wE mT; (repeat' split) <;> simp_all [and_assoc] <;> try grind
@[simp] theorem wE_AndV : wE (mAndV a b) σ Q ↔ wE a σ fun x σ1 => ∃ k, x = .bl k ∧ if k = true then wE b σ1 Q else Q (.bl false) σ1 := by unfold wE mAndV; (repeat' split) <;> simp_all [and_assoc] <;> try grind
@[simp] theorem wE_OrV : wE (mOrV a b) σ Q ↔ wE a σ fun x σ1 => ∃ k, x = .bl k ∧ if k = true then Q (.bl true) σ1 else wE b σ1 Q := by unfold wE mOrV; (repeat' split) <;> simp_all [and_assoc] <;> try grind
@[simp] theorem wE_NotV : wE (mNotV a) σ Q ↔ wE a σ fun x σ1 => ∃ k, x = .bl k ∧ Q (.bl (!k)) σ1 := by
  unfold wE mNotV
  (repeat' split) <;> simp_all [and_assoc] <;> try grind
  rename_i k _ hk
  cases k <;> simp
@[simp] theorem wE_isa {T : Ty} : wE (mIsa T a) σ Q ↔ wE a σ fun x σ1 => Q (.bl (x.isa T)) σ1 := by unfold wE mIsa; (repeat' split) <;> simp_all [and_assoc] <;> try grind
@[simp] theorem wO_none {Q : Option Int → Sg → Prop} : wO oNone σ Q ↔ Q none σ := by unfold wO oNone; simp
@[simp] theorem wO_some {Q : Option Int → Sg → Prop} : wO (oSome a) σ Q ↔ wE a σ fun x σ1 => ∃ i, x = .int i ∧ Q (some i) σ1 := by unfold wO wE oSome; (repeat' split) <;> simp_all [and_assoc] <;> try grind
@[simp] theorem wE_Sl {f : D → Option Int → Option Int → Option D} {lo hi : MO} : wE (mSl f a lo hi) σ Q ↔ wE a σ fun x σ1 => wO lo σ1 fun l σ2 => wO hi σ2 fun h σ3 => ∃ z, f x l h = some z ∧ Q z σ3 := by unfold wE wO mSl; (repeat' split) <;> simp_all [and_assoc] <;> try grind
@[simp] theorem wE_Call {ws : List Nat} {ld : List (Option Nat)} {fn : Fn} : wE (mCall ws ld fn ma) σ Q ↔ wA ma σ fun ds σ1 => wF fn ds fun r σc => Q r (putB ws 0 ld σc σ1) := by unfold wE wA wF mCall; (repeat' split) <;> simp_all [and_assoc] <;> try grind
@[simp] theorem wE_LRg : wE (mLRg a b) σ Q ↔ wE a σ fun x σ1 => wE b σ1 fun y σ2 => ∃ i j, x = .int i ∧ y = .int j ∧ rgOk i j = true ∧ Q (.lst .own (up i (j - i).toNat)) σ2 := by unfold wE mLRg; (repeat' split) <;> simp_all [and_assoc] <;> try grind
@[simp] theorem wE_LRg1 : wE (mLRg1 b) σ Q ↔ wE b σ fun y σ2 => ∃ j, y = .int j ∧ rgOk 0 j = true ∧ Q (.lst .own (up 0 (j - 0).toNat)) σ2 := by unfold wE mLRg1; (repeat' split) <;> simp_all [and_assoc] <;> try grind
@[simp] theorem wN_iff {QN : Int → Prop} : wN a σ QN ↔ wE a σ fun x _ => ∃ n, x = .int n ∧ QN n := by unfold wN wE nInt; (repeat' split) <;> simp_all [and_assoc] <;> try grind
@[simp] theorem wP_root {r : Nat} : wP (pRoot r) σ QP ↔ ∃ d, σ[r]? = some (some d) ∧ QP [] := by unfold wP pRoot; (repeat' split) <;> simp_all [and_assoc] <;> try grind
@[simp] theorem wP_ix {r : Nat} : wP (pIx r mp a) σ QP ↔ wP mp σ fun js => ∃ d xs, σ[r]? = some (some d) ∧ dAt d js = some (.lst .own xs) ∧ wN a σ fun i => ∃ j, ixN xs.length i = some j ∧ QP (js ++ [j]) := by unfold wP wN pIx; (repeat' split) <;> simp_all [and_assoc] <;> try grind
@[simp] theorem wG_name : wG (gNameM i) d σ QG ↔ i < σ.length ∧ QG (σ.set i (some d)) := by unfold wG gNameM; (repeat' split) <;> simp_all [and_assoc] <;> try grind
@[simp] theorem wG_tup : wG (gTupM n gs) d σ QG ↔ ∃ xs, d = .tup xs ∧ xs.length = n ∧ wGs gs xs σ QG := by unfold wG wGs gTupM; (repeat' split) <;> simp_all [and_assoc] <;> try grind
@[simp] theorem wGs_nil : wGs gsNilM ds σ QG ↔ ds = [] ∧ QG σ := by unfold wGs gsNilM; (repeat' split) <;> simp_all [and_assoc] <;> try grind
@[simp] theorem wGs_cons : wGs (gsConsM g gs) ds σ QG ↔ ∃ d r, ds = d :: r ∧ wG g d σ fun σ1 => wGs gs r σ1 QG := by unfold wGs wG gsConsM; (repeat' split) <;> simp_all [and_assoc] <;> try grind
/-- the list at a path -/
def wU (r : Nat) (js : List Nat) (σ : Sg) (Q : List D → (List D → Sg) → Prop) : Prop := ∃ d xs, σ[r]? = some (some d) ∧ dAt d js = some (.lst .own xs) ∧ Q xs fun xs' => σ.set r (some (dPut d js (.lst .own xs')))
theorem upAt_wU {r : Nat} {js : List Nat} {f : List D → Option (List D)} {P : Sg → Prop} : (∃ p, upAt r js f σ = some p ∧ P p) ↔ wU r js σ fun xs put => ∃ xs', f xs = some xs' ∧ P (put xs') := by unfold wU upAt; (repeat' split) <;> simp_all [and_assoc] <;> try grind
theorem wU_congr {r : Nat} {js : List Nat} {Q Q' : List D → (List D → Sg) → Prop} (h : ∀ xs put, Q xs put ↔ Q' xs put) : wU r js σ Q ↔ wU r js σ Q' := by
  unfold wU
  simp [h]
theorem wS_up {r : Nat} {js : List Nat} {f : List D → Option (List D)} : (∃ p, (match upAt r js f σ with
    | some σ2 => some (Fo.nx, σ2)
    | none => none) = some p ∧ QS p.1 p.2) ↔ wU r js σ fun xs put => ∃ xs', f xs = some xs' ∧ QS .nx (put xs') := by
  rw [← upAt_wU]
  cases upAt r js f σ <;> simp
theorem ite_app {α : Type} {c : Prop} [Decidable c] {x : α} {P : α → Prop} : (∃ y, (if c then some x else none) = some y ∧ P y) ↔ c ∧ P x := by
  by_cases h : c <;> simp [h]
theorem map_app {α β : Type} {o : Option α} {f : α → β} {P : β → Prop} : (∃ y, o.map f = some y ∧ P y) ↔ ∃ j, o = some j ∧ P (f j) := by
  cases o <;> simp
@[simp] theorem wG_sub {r : Nat} : wG (gSubM r mp a) d σ QG ↔ wP mp σ fun js => wN a σ fun i => wU r js σ fun xs put => ∃ j, ixN xs.length i = some j ∧ QG (put (xs.set j d)) := by
  unfold wG wP wN gSubM
  rcases h : mp σ with _ | js
  · simp
  · simp only [Option.some.injEq, exists_eq_left']
    rcases h2 : nInt a σ with _ | i
    · simp
    · simp only [Option.some.injEq, exists_eq_left']
      exact upAt_wU.trans (wU_congr fun xs put => map_app)
@[simp] theorem wS_nil : wS sNil σ QS ↔ QS .nx σ := by unfold wS sNil; simp
@[simp] theorem wS_seq : wS (sSeq s1 s2) σ QS ↔ wS s1 σ (kS s2 QS) := by
  unfold wS sSeq
  cases h : s1 σ with
  | none => simp
  | some p => obtain ⟨f, σ1⟩ := p; cases f <;> simp [kS, wS]
@[simp] theorem wS_expr : wS (sExpr a) σ QS ↔ wE a σ fun _ σ1 => QS .nx σ1 := by unfold wS wE sExpr; (repeat' split) <;> simp_all [and_assoc] <;> try grind
@[simp] theorem wS_set : wS (sSet i a) σ QS ↔ wE a σ fun x σ1 => i < σ1.length ∧ QS .nx (σ1.set i (some x)) := by unfold wS wE sSet; (repeat' split) <;> simp_all [and_assoc] <;> try grind
@[simp] theorem wS_asg : wS (sAsg a g) σ QS ↔ wE a σ fun x σ1 => wG g x σ1 fun σ2 => QS .nx σ2 := by unfold wS wE wG sAsg; (repeat' split) <;> simp_all [and_assoc] <;> try grind
@[simp] theorem wS_par : wS (sPar i j ma) σ QS ↔ wA ma σ fun ds σ1 => ∃ x y, ds = [x, y] ∧ i < σ1.length ∧ j < σ1.length ∧ QS .nx ((σ1.set i (some x)).set j (some y)) := by unfold wS wA sPar; (repeat' split) <;> simp_all [and_assoc] <;> try grind
@[simp] theorem wS_if : wS (sIf t s1 s2) σ QS ↔ wT t σ fun k σ1 => if k = true then wS s1 σ1 QS else wS s2 σ1 QS := by unfold wS wT sIf; (repeat' split) <;> simp_all [and_assoc] <;> try grind
@[simp] theorem wS_ret : wS (sRet a) σ QS ↔ wE a σ fun x σ1 => QS (.rt x) σ1 := by unfold wS wE sRet; (repeat' split) <;> simp_all [and_assoc] <;> try grind
@[simp] theorem wS_retN : wS sRetN σ QS ↔ QS (.rt .non) σ := by unfold wS sRetN; simp
@[simp] theorem wS_break : wS sBreak σ QS ↔ QS .bk σ := by unfold wS sBreak; simp
@[simp] theorem wS_cont : wS sCont σ QS ↔ QS .ct σ := by unfold wS sCont; simp
@[simp] theorem wS_aug {f : D → D → Option D} : wS (sAug i f a) σ QS ↔ ∃ x, σ[i]? = some (some (.int x)) ∧ wE a σ fun d σ1 => ∃ z, f (.int x) d = some z ∧ i < σ1.length ∧ QS .nx (σ1.set i (some z)) := by unfold wS wE sAug; (repeat' split) <;> simp_all [and_assoc] <;> try grind
@[simp] theorem wS_app {r : Nat} : wS (sAppN r a) σ QS ↔ ∃ ys, σ[r]? = some (some (.lst .own ys)) ∧ wE a σ fun x σ1 => wU r [] σ1 fun xs put => xs.length < 16777216 ∧ QS .nx (put (xs ++ [x])) := by
  unfold wS wE sAppN sApp
  rcases h : σ[r]? with _ | _ | d
  · simp
  · simp
  · cases d with
    | lst f ys =>
      cases f with
      | own =>
        simp only [Option.some.injEq, D.lst.injEq, true_and, exists_eq_left']
        rcases h2 : a σ with _ | ⟨x, σ1⟩
        · simp
        · simp only [Option.some.injEq, exists_eq_left']
          exact wS_up.trans (wU_congr fun xs put => ite_app (c := xs.length < 16777216) (P := fun y => QS .nx (put y)))
      | _ => simp
    | _ => simp
@[simp] theorem wS_appP {r : Nat} : wS (sAppP r mp a) σ QS ↔ wP mp σ fun js => wE a σ fun x _ => x.noVw = true ∧ wU r js σ fun xs put => xs.length < 16777216 ∧ QS .nx (put (xs ++ [x])) := by
  unfold wS wE wP sAppP
  rcases h : mp σ with _ | js
  · simp
  · simp only [Option.some.injEq, exists_eq_left']
    rcases h2 : a σ with _ | ⟨x, σ1⟩
    · simp
    · simp only [Option.some.injEq, exists_eq_left']
      by_cases hn : x.noVw = true
      · simp only [hn, if_true, true_and]
        exact wS_up.trans (wU_congr fun xs put => ite_app (c := xs.length < 16777216) (P := fun y => QS .nx (put y)))
      · simp [hn]
@[simp] theorem wS_popP {r : Nat} : wS (sPopP r mp) σ QS ↔ wP mp σ fun js => wU r js σ fun xs put => xs ≠ [] ∧ QS .nx (put xs.dropLast) := by
  unfold wS wP sPopP
  rcases h : mp σ with _ | js
  · simp
  · simp only [Option.some.injEq, exists_eq_left']
    exact wS_up.trans (wU_congr fun xs put => by cases xs <;> simp)
@[simp] theorem wS_augP {r : Nat} {f : D → D → Option D} : wS (sAugP r mp b f a) σ QS ↔ ∃ js i x, intAt r mp b σ = some (js, i, x) ∧ wN a σ fun k => ∃ z, f (.int x) (.int k) = some z ∧ wU r js σ fun xs put => ∃ j, ixN xs.length i = some j ∧ QS .nx (put (xs.set j z)) := by
  unfold wS wN sAugP
  rcases h : intAt r mp b σ with _ | ⟨js, i, x⟩
  · simp
  · simp only [Option.some.injEq, Prod.mk.injEq]
    rcases h2 : nInt a σ with _ | k
    · simp
    · simp only [Option.some.injEq, exists_eq_left']
      rcases h3 : f (.int x) (.int k) with _ | z
      · constructor
        · rintro ⟨_, e, _⟩; cases e
        · rintro ⟨_, _, _, ⟨rfl, rfl, rfl⟩, z, e, _⟩
          rw [h3] at e
          cases e
      · constructor
        · intro q
          exact ⟨_, _, _, ⟨rfl, rfl, rfl⟩, z, h3, (wS_up.trans (wU_congr fun xs put => map_app)).mp q⟩
        · rintro ⟨_, _, _, ⟨rfl, rfl, rfl⟩, z', h3', q⟩
          rw [h3] at h3'
          cases h3'
          exact (wS_up.trans (wU_congr fun xs put => map_app)).mpr q
@[simp] theorem wS_for {bk : Option Nat} {mi : MI} : wS (sFor bk mi g s1) σ QS ↔ wI mi σ fun ds o σ1 => wL g s1 ds σ1 fun f σ2 => QS f (gB bk o σ2) := by unfold wS wI wL sFor; (repeat' split) <;> simp_all [and_assoc] <;> try grind
theorem wI_take : wI (iTake i) σ QI ↔ ∃ d, σ[i]? = some (some d) ∧ match d with
    | .lst .own xs => if noOwns xs = true then QI xs (some (.lst .own xs)) (σ.set i none) else QI (frzs xs) none (σ.set i (some (.lst .frz (frzs xs))))
    | d => ∃ ds, d.items = some ds ∧ QI ds none σ := by
  unfold wI iTake
  (repeat' split) <;> simp_all [and_assoc] <;> try grind
@[simp] theorem wI_seq : wI (iSeqM a) σ QI ↔ wE a σ fun x σ1 => ∃ ds, x.items = some ds ∧ QI ds none σ1 := by unfold wI wE iSeqM; (repeat' split) <;> simp_all [and_assoc] <;> try grind
@[simp] theorem wI_rev : wI (iRevM a) σ QI ↔ wE a σ fun x σ1 => ∃ ds, x.items = some ds ∧ QI ds.reverse none σ1 := by unfold wI wE iRevM; (repeat' split) <;> simp_all [and_assoc] <;> try grind
@[simp] theorem wI_rng1 : wI (iRngM1 a) σ QI ↔ wE a σ fun x σ1 => ∃ j, x = .int j ∧ okR j = true ∧ QI (up 0 j.toNat) none σ1 := by unfold wI wE iRngM1; (repeat' split) <;> simp_all [and_assoc] <;> try grind
@[simp] theorem wI_rng2 : wI (iRngM2 a b) σ QI ↔ wE a σ fun x σ1 => wE b σ1 fun y σ2 => ∃ i j, x = .int i ∧ y = .int j ∧ okR i = true ∧ okR j = true ∧ QI (up i (j - i).toNat) none σ2 := by unfold wI wE iRngM2; (repeat' split) <;> simp_all [and_assoc] <;> try grind
@[simp] theorem wE_Lc {bk : Option Nat} {mi : MI} {vs : List Nat} : wE (mLc bk mi g t a vs) σ Q ↔ wI mi σ fun ds o σ1 => wC g t a vs ds σ1 fun xs σ2 => xs.length ≤ 16777216 ∧ Q (.lst .own xs) (gB bk o (unwipe σ1 vs (wipeD σ2 vs))) := by unfold wE wI wC mLc; (repeat' split) <;> simp_all [and_assoc] <;> try grind
@[simp] theorem wF_D {N : Nat} : wF (fnD N s1) ds Q ↔ wS s1 (ds.map some ++ List.replicate (N - ds.length) none) (kF Q) := by
  unfold wF wS fnD
  cases h : s1 (ds.map some ++ List.replicate (N - ds.length) none) with
  | none => simp
  | some p => obtain ⟨f, σ1⟩ := p; cases f <;> simp [kF]
@[simp] theorem wL_nil {QS : Fo → Sg → Prop} : wL g s1 [] σ QS ↔ QS .nx σ := by unfold wL sEach; simp
/-- one more turn -/
def kL (g : MG) (m : MS) (r : List D) (Q : Fo → Sg → Prop) : Fo → Sg → Prop
  | .nx, σ => wL g m r σ Q
  | .ct, σ => wL g m r σ Q
  | .bk, σ => Q .nx σ
  | .rt d, σ => Q (.rt d) σ
theorem wL_cons : wL g s1 (d :: ds) σ QS ↔ wG g d σ fun σ1 => wS s1 σ1 (kL g s1 ds QS) := by
  unfold wL wG sEach
  cases h : g d σ with
  | none => simp
  | some σ1 =>
    simp only [Option.some.injEq, exists_eq_left', wS]
    cases h2 : s1 σ1 with
    | none => simp
    | some p =>
      obtain ⟨f, σ2⟩ := p
      simp only [Option.some.injEq, exists_eq_left']
      cases f <;> simp [kL, wL]
@[simp] theorem wC_nil {vs : List Nat} : wC g t a vs [] σ QA ↔ QA [] σ := by unfold wC lcEach; simp
theorem wC_cons {vs : List Nat} : wC g t a vs (d :: ds) σ QA ↔ wG g d (wipeD σ vs) fun σ1 => wT t σ1 fun k σ2 => if k = true then wE a σ2 fun x σ3 => wC g t a vs ds σ3 fun xs σ4 => QA (x :: xs) σ4 else wC g t a vs ds σ2 QA := by
  unfold wG wT wE
  show (∃ p, lcEach g t a vs (d :: ds) σ = some p ∧ QA p.1 p.2) ↔ _
  rw [lcEach]
  rcases h1 : g d (wipeD σ vs) with _ | σ1
  · simp
  · simp only [Option.some.injEq, exists_eq_left']
    rcases h2 : t σ1 with _ | ⟨k, σ2⟩
    · simp
    · simp only [Option.some.injEq, exists_eq_left']
      cases k
      · simp [wC]
      · simp only [if_true]
        rcases h3 : a σ2 with _ | ⟨x, σ3⟩
        · simp
        · simp only [Option.some.injEq, exists_eq_left', wC]
          rcases h4 : lcEach g t a vs ds σ3 with _ | ⟨xs, σ4⟩ <;> simp
end
end Py
/-! Layer «Py», part X: what operations give, for simp; loops; picks. -/
namespace Py
open PySem PySem.Spec PyProof.Rows L2

section
variable {s : MS} {σ : Sg} {Q : Fo → Sg → Prop} {R : D → Sg → Prop} {d : D} {g : MG} {r : List D}
@[simp] theorem kS_nx : kS s Q .nx σ = wS s σ Q := rfl
@[simp] theorem kS_bk : kS s Q .bk σ = Q .bk σ := rfl
@[simp] theorem kS_ct : kS s Q .ct σ = Q .ct σ := rfl
@[simp] theorem kS_rt : kS s Q (.rt d) σ = Q (.rt d) σ := rfl
@[simp] theorem kF_rt : kF R (.rt d) σ = R d σ := rfl
@[simp] theorem kF_nx : kF R .nx σ = R .non σ := rfl
@[simp] theorem kF_bk : kF R .bk σ = False := rfl
@[simp] theorem kF_ct : kF R .ct σ = False := rfl
@[simp] theorem kL_nx : kL g s r Q .nx σ = wL g s r σ Q := rfl
@[simp] theorem kL_ct : kL g s r Q .ct σ = wL g s r σ Q := rfl
@[simp] theorem kL_bk : kL g s r Q .bk σ = Q .nx σ := rfl
@[simp] theorem kL_rt : kL g s r Q (.rt d) σ = Q (.rt d) σ := rfl
end
/-! ### data -/
section
variable {i j : Int} {b c : Bool} {x y : Str} {xs ys : List D} {d : D} {f : Fl}
@[simp] theorem view_non : D.view .non = .non := rfl
@[simp] theorem view_bl : D.view (.bl b) = .bl b := rfl
@[simp] theorem view_int : D.view (.int i) = .int i := rfl
@[simp] theorem view_str : D.view (.str x) = .str x := rfl
@[simp] theorem view_tup : D.view (.tup xs) = .tup xs := rfl
@[simp] theorem view_own : D.view (.lst .own xs) = .lst .vw (views xs) := rfl
@[simp] theorem view_frz : D.view (.lst .frz xs) = .lst .frz xs := rfl
@[simp] theorem view_vw : D.view (.lst .vw xs) = .lst .vw xs := rfl
@[simp] theorem view_scr : D.view (.lst .scr xs) = .lst .scr xs := rfl
@[simp] theorem frz_non : D.frz .non = .non := rfl
@[simp] theorem frz_bl : D.frz (.bl b) = .bl b := rfl
@[simp] theorem frz_int : D.frz (.int i) = .int i := rfl
@[simp] theorem frz_str : D.frz (.str x) = .str x := rfl
@[simp] theorem frz_tup : D.frz (.tup xs) = .tup xs := rfl
@[simp] theorem frz_own : D.frz (.lst .own xs) = .lst .frz (frzs xs) := rfl
@[simp] theorem frz_frz : D.frz (.lst .frz xs) = .lst .frz xs := rfl
@[simp] theorem frz_vw : D.frz (.lst .vw xs) = .lst .vw xs := rfl
@[simp] theorem frz_scr : D.frz (.lst .scr xs) = .lst .scr xs := rfl
@[simp] theorem noVw_non : D.noVw .non = true := rfl
@[simp] theorem noVw_bl : D.noVw (.bl b) = true := rfl
@[simp] theorem noVw_int : D.noVw (.int i) = true := rfl
@[simp] theorem noVw_str : D.noVw (.str x) = true := rfl
@[simp] theorem noVw_tup : D.noVw (.tup xs) = noVws xs := rfl
@[simp] theorem noVw_own : D.noVw (.lst .own xs) = noVws xs := rfl
@[simp] theorem noVw_frz' : D.noVw (.lst .frz xs) = noVws xs := rfl
@[simp] theorem noVw_scr : D.noVw (.lst .scr xs) = noVws xs := rfl
@[simp] theorem noVw_vw : D.noVw (.lst .vw xs) = false := rfl
@[simp] theorem noOwn_non : D.noOwn .non = true := rfl
@[simp] theorem noOwn_bl : D.noOwn (.bl b) = true := rfl
@[simp] theorem noOwn_int : D.noOwn (.int i) = true := rfl
@[simp] theorem noOwn_str : D.noOwn (.str x) = true := rfl
@[simp] theorem noOwn_tup : D.noOwn (.tup xs) = noOwns xs := rfl
@[simp] theorem noOwn_own : D.noOwn (.lst .own xs) = false := rfl
@[simp] theorem noOwn_frz' : D.noOwn (.lst .frz xs) = noOwns xs := rfl
@[simp] theorem noOwn_scr : D.noOwn (.lst .scr xs) = noOwns xs := rfl
@[simp] theorem noOwn_vw : D.noOwn (.lst .vw xs) = noOwns xs := rfl
@[simp] theorem noVws_nil : noVws [] = true := rfl
@[simp] theorem noVws_cons : noVws (d :: xs) = (d.noVw && noVws xs) := rfl
@[simp] theorem noOwns_nil : noOwns [] = true := rfl
@[simp] theorem noOwns_cons : noOwns (d :: xs) = (d.noOwn && noOwns xs) := rfl
@[simp] theorem views_nil : views [] = [] := rfl
@[simp] theorem views_cons : views (d :: xs) = d.view :: views xs := rfl
@[simp] theorem frzs_nil : frzs [] = [] := rfl
@[simp] theorem frzs_cons : frzs (d :: xs) = d.frz :: frzs xs := rfl
@[simp] theorem isN_non : D.isN .non = true := rfl
@[simp] theorem isN_bl : D.isN (.bl b) = false := rfl
@[simp] theorem isN_int : D.isN (.int i) = false := rfl
@[simp] theorem isN_str : D.isN (.str x) = false := rfl
@[simp] theorem isN_tup : D.isN (.tup xs) = false := rfl
@[simp] theorem isN_lst : D.isN (.lst f xs) = false := rfl
@[simp] theorem items_tup : D.items (.tup xs) = some xs := rfl
@[simp] theorem items_own : D.items (.lst .own xs) = some (frzs xs) := rfl
@[simp] theorem items_frz : D.items (.lst .frz xs) = some xs := rfl
@[simp] theorem items_vw : D.items (.lst .vw xs) = some xs := rfl
@[simp] theorem items_scr : D.items (.lst .scr xs) = some xs := rfl
@[simp] theorem isa_non {T : Ty} : D.isa T .non = false := rfl
@[simp] theorem isa_tup : D.isa .tuple (.tup xs) = true := rfl
@[simp] theorem isa_tup_l : D.isa .list (.tup xs) = false := rfl
@[simp] theorem isa_tup_i : D.isa .int (.tup xs) = false := rfl
@[simp] theorem isa_tup_b : D.isa .bool (.tup xs) = false := rfl
@[simp] theorem isa_tup_s : D.isa .str (.tup xs) = false := rfl
@[simp] theorem isa_lst : D.isa .list (.lst f xs) = true := rfl
@[simp] theorem isa_lst_t : D.isa .tuple (.lst f xs) = false := rfl
@[simp] theorem isa_lst_i : D.isa .int (.lst f xs) = false := rfl
@[simp] theorem isa_lst_b : D.isa .bool (.lst f xs) = false := rfl
@[simp] theorem isa_lst_s : D.isa .str (.lst f xs) = false := rfl
@[simp] theorem isa_int : D.isa .int (.int i) = true := rfl
@[simp] theorem isa_int_b : D.isa .bool (.int i) = false := rfl
@[simp] theorem isa_int_s : D.isa .str (.int i) = false := rfl
@[simp] theorem isa_int_t : D.isa .tuple (.int i) = false := rfl
@[simp] theorem isa_int_l : D.isa .list (.int i) = false := rfl
@[simp] theorem isa_bl : D.isa .bool (.bl b) = true := rfl
@[simp] theorem isa_bl_i : D.isa .int (.bl b) = true := rfl
@[simp] theorem isa_bl_s : D.isa .str (.bl b) = false := rfl
@[simp] theorem isa_bl_t : D.isa .tuple (.bl b) = false := rfl
@[simp] theorem isa_bl_l : D.isa .list (.bl b) = false := rfl
@[simp] theorem isa_str : D.isa .str (.str x) = true := rfl
@[simp] theorem isa_str_i : D.isa .int (.str x) = false := rfl
@[simp] theorem isa_str_b : D.isa .bool (.str x) = false := rfl
@[simp] theorem isa_str_t : D.isa .tuple (.str x) = false := rfl
@[simp] theorem isa_str_l : D.isa .list (.str x) = false := rfl
mutual
theorem view_of : ∀ {d : D}, d.noOwn = true → d.view = d
  | .non, _ => rfl
  | .bl _, _ => rfl
  | .int _, _ => rfl
  | .str _, _ => rfl
  | .tup _, _ => rfl
  | .lst .own _, h => by cases h
  | .lst .frz _, _ => rfl
  | .lst .vw _, _ => rfl
  | .lst .scr _, _ => rfl
theorem views_of : ∀ {ds : List D}, noOwns ds = true → views ds = ds
  | [], _ => rfl
  | d :: ds, h => by
    simp only [noOwns, Bool.and_eq_true] at h
    simp only [views, view_of h.1, views_of h.2]
end
theorem frz_of : ∀ {d : D}, d.noOwn = true → d.frz = d
  | .non, _ => rfl
  | .bl _, _ => rfl
  | .int _, _ => rfl
  | .str _, _ => rfl
  | .tup _, _ => rfl
  | .lst .own _, h => by cases h
  | .lst .frz _, _ => rfl
  | .lst .vw _, _ => rfl
  | .lst .scr _, _ => rfl
theorem frzs_of : ∀ {ds : List D}, noOwns ds = true → frzs ds = ds
  | [], _ => rfl
  | d :: ds, h => by
    simp only [noOwns, Bool.and_eq_true] at h
    simp only [frzs, frz_of h.1, frzs_of h.2]
/-- data that hold no list of their own and look at none -/
def Gr (d : D) : Prop := d.noOwn = true ∧ d.noVw = true
def Grs (ds : List D) : Prop := noOwns ds = true ∧ noVws ds = true
theorem Gr.no (h : Gr d) : d.noOwn = true := h.1
theorem Gr.nv (h : Gr d) : d.noVw = true := h.2
theorem Grs.no (h : Grs xs) : noOwns xs = true := h.1
theorem Grs.nv (h : Grs xs) : noVws xs = true := h.2
theorem grs_iff : ∀ {xs : List D}, Grs xs ↔ ∀ d ∈ xs, Gr d := by
  intro xs
  unfold Grs Gr
  rw [noOwns_all, noVws_all]
  simp only [List.all_eq_true]
  exact ⟨fun h d m => ⟨h.1 d m, h.2 d m⟩, fun h => ⟨fun d m => (h d m).1, fun d m => (h d m).2⟩⟩
theorem gr_tup : Gr (.tup xs) ↔ Grs xs := Iff.rfl
@[simp] theorem gr_int : Gr (.int i) := ⟨rfl, rfl⟩
@[simp] theorem gr_non : Gr .non := ⟨rfl, rfl⟩
@[simp] theorem gr_bl : Gr (.bl b) := ⟨rfl, rfl⟩
@[simp] theorem gr_str : Gr (.str x) := ⟨rfl, rfl⟩
/-! ### operations -/
@[simp] theorem kAdd_int : kAdd (.int i) (.int j) = some (.int (i + j)) := rfl
@[simp] theorem kPlus_int : kPlus (.int i) (.int j) = some (.int (i + j)) := rfl
@[simp] theorem kSub_int : kSub (.int i) (.int j) = some (.int (i - j)) := rfl
@[simp] theorem kLt_int : kLt (.int i) (.int j) = some (.bl (decide (i < j))) := rfl
@[simp] theorem kLe_int : kLe (.int i) (.int j) = some (.bl (decide (i ≤ j))) := rfl
@[simp] theorem kGt_int : kGt (.int i) (.int j) = some (.bl (decide (j < i))) := rfl
@[simp] theorem kGe_int : kGe (.int i) (.int j) = some (.bl (decide (j ≤ i))) := rfl
@[simp] theorem kIsN_non : kIsN d .non = some (.bl d.isN) := rfl
@[simp] theorem kNotN_non : kNotN d .non = some (.bl (!d.isN)) := rfl
@[simp] theorem fNeg_int : fNeg (.int i) = some (.int (-i)) := rfl
@[simp] theorem k1_one {g : D → Option D} : k1 g [d] = g d := rfl
@[simp] theorem k2_two {g : D → D → Option D} {e : D} : k2 g [d, e] = g d e := rfl
@[simp] theorem fLen_tup : fLen (.tup xs) = some (.int xs.length) := rfl
@[simp] theorem fLen_lst : fLen (.lst f xs) = some (.int xs.length) := rfl
@[simp] theorem fAbs_int : fAbs (.int i) = some (.int (if i < 0 then -i else i)) := rfl
@[simp] theorem fInt_int : fInt (.int i) = some (.int i) := rfl
@[simp] theorem fList_tup : fList (.tup xs) = some (.lst .own xs) := rfl
@[simp] theorem fList_lst : fList (.lst f xs) = some (.lst .own xs) := rfl
@[simp] theorem fTuple_tup : fTuple (.tup xs) = some (.tup xs) := rfl
theorem fTuple_lst (h : noOwns xs = true) : fTuple (.lst f xs) = some (.tup xs) := by simp [fTuple, h]
@[simp] theorem dTru_bl : dTru (.bl b) = some b := rfl
@[simp] theorem dTru_non : dTru .non = some false := rfl
@[simp] theorem dTru_int : dTru (.int i) = some (i != 0) := rfl
@[simp] theorem dTru_tup : dTru (.tup xs) = some (!xs.isEmpty) := rfl
@[simp] theorem dTru_lst : dTru (.lst f xs) = some (!xs.isEmpty) := rfl
@[simp] theorem fMax2_int : fMax2 (.int i) (.int j) = some (.int (max i j)) := by
  simp only [fMax2, kI]
  congr 2
  omega
@[simp] theorem fMin2_int : fMin2 (.int i) (.int j) = some (.int (min i j)) := by
  simp only [fMin2, kI]
  congr 2
  omega
@[simp] theorem fMin3_int {k : Int} : fMin3 [.int i, .int j, .int k] = some (.int (min (min i j) k)) := by
  simp only [fMin3]
  congr 2
  omega
@[simp] theorem fMax3_int {k : Int} : fMax3 [.int i, .int j, .int k] = some (.int (max (max i j) k)) := by
  simp only [fMax3]
  congr 2
  omega
theorem kMod_int (h : 0 < j) : kMod (.int i) (.int j) = some (.int (i % j)) := by simp [kMod, kI, h]
theorem kDiv_int (h : 0 < j) (h2 : j < 1073741824) : kDiv (.int i) (.int j) = some (.int (i / j)) := by simp [kDiv, kI, h, h2]
theorem kMul_intL (h : i.natAbs < 18446744073709551616) : kMul (.int i) (.int j) = some (.int (i * j)) := by simp [kMul, cMul, h]
theorem kMul_intR (h : j.natAbs < 18446744073709551616) : kMul (.int i) (.int j) = some (.int (i * j)) := by simp [kMul, cMul, h]
theorem kTup_ok (h : xs.length ≤ 16777216) (h2 : noOwns xs = true) : kTup xs = some (.tup xs) := by simp [kTup, h, h2]
theorem kLst_ok (h : xs.length ≤ 16777216) : kLst xs = some (.lst .own xs) := by simp [kLst, h]
theorem kAdd_tup (h : xs.length + ys.length ≤ 16777216) : kAdd (.tup xs) (.tup ys) = some (.tup (xs ++ ys)) := by simp [kAdd, h]
theorem kAdd_lst {g : Fl} (h1 : f ≠ .scr) (h2 : g ≠ .scr) (h : xs.length + ys.length ≤ 16777216) : kAdd (.lst f xs) (.lst g ys) = some (.lst .own (xs ++ ys)) := by simp [kAdd, h, h1, h2]
@[simp] theorem kEq_int : kEq (.int i) (.int j) = some (.bl (i == j)) := by simp [kEq, D.fit, D.deq]
@[simp] theorem kNe_int : kNe (.int i) (.int j) = some (.bl (!(i == j))) := by simp [kNe, D.fit, D.deq]
@[simp] theorem kEq_bl : kEq (.bl b) (.bl c) = some (.bl (b == c)) := by simp [kEq, D.fit, D.deq]
@[simp] theorem kMul_48271 : kMul (.int i) (.int 48271) = some (.int (i * 48271)) := kMul_intR (by decide)
@[simp] theorem kMod_2147483646 : kMod (.int i) (.int 2147483646) = some (.int (i % 2147483646)) := kMod_int (by decide)
@[simp] theorem kMod_2147483647 : kMod (.int i) (.int 2147483647) = some (.int (i % 2147483647)) := kMod_int (by decide)
@[simp] theorem kMod_2147483629 : kMod (.int i) (.int 2147483629) = some (.int (i % 2147483629)) := kMod_int (by decide)
@[simp] theorem kDiv_5 : kDiv (.int i) (.int 5) = some (.int (i / 5)) := kDiv_int (by decide) (by decide)
@[simp] theorem kPow_10_18 : kPow (.int 10) (.int 18) = some (.int 1000000000000000000) := by
  show (if decide ((0 : Int) ≤ 18 ∧ (18 : Int) ≤ 1000000 ∧ (10 : Int).natAbs < 18446744073709551616) = true then some (D.int (10 ^ (18 : Int).toNat)) else none) = _
  rw [if_pos (by decide)]
  rfl
@[simp] theorem kLst_nil : kLst [] = some (.lst .own []) := rfl
@[simp] theorem kTup_nil : kTup [] = some (.tup []) := rfl
@[simp] theorem kLst_one : kLst [d] = some (.lst .own [d]) := rfl
@[simp] theorem kLst_two {e : D} : kLst [d, e] = some (.lst .own [d, e]) := rfl
theorem kTup_two {e : D} (h1 : d.noOwn = true) (h2 : e.noOwn = true) : kTup [d, e] = some (.tup [d, e]) := by simp [kTup, h1, h2]
theorem kTup_one (h1 : d.noOwn = true) : kTup [d] = some (.tup [d]) := by simp [kTup, h1]
theorem kTup_three {e g : D} (h1 : d.noOwn = true) (h2 : e.noOwn = true) (h3 : g.noOwn = true) : kTup [d, e, g] = some (.tup [d, e, g]) := by simp [kTup, h1, h2, h3]
theorem kEq_lnil {g : Fl} (h : fits 59 xs = true) : kEq (.lst f xs) (.lst g []) = some (.bl xs.isEmpty) := by
  have h' : D.fit 60 (.lst f xs) = true := h
  have h2 : D.fit 60 (.lst g []) = true := rfl
  rw [kEq, if_pos ⟨h', h2⟩]
  cases xs <;> rfl
theorem kNe_lnil {g : Fl} (h : fits 59 xs = true) : kNe (.lst f xs) (.lst g []) = some (.bl !xs.isEmpty) := by
  have h' : D.fit 60 (.lst f xs) = true := h
  have h2 : D.fit 60 (.lst g []) = true := rfl
  rw [kNe, if_pos ⟨h', h2⟩]
  cases xs <;> rfl
theorem fits_ints {n : Nat} : ∀ {ns : List Int}, fits n (ns.map D.int) = true
  | [] => by cases n <;> rfl
  | m :: ns => by
    simp only [List.map_cons, fits, Bool.and_eq_true]
    exact ⟨by cases n <;> rfl, fits_ints⟩
theorem fits_all {n : Nat} : ∀ {ys : List D}, (∀ y ∈ ys, y.fit n = true) → fits n ys = true
  | [], _ => by cases n <;> rfl
  | y :: ys, h => by
    simp only [fits, Bool.and_eq_true]
    exact ⟨h y List.mem_cons_self, fits_all fun z m => h z (List.mem_cons_of_mem _ m)⟩
@[simp] theorem fit_int {n : Nat} : D.fit n (.int i) = true := by cases n <;> rfl
@[simp] theorem fit_non {n : Nat} : D.fit n .non = true := by cases n <;> rfl
@[simp] theorem fit_bl {n : Nat} : D.fit n (.bl b) = true := by cases n <;> rfl
@[simp] theorem fits_nil {n : Nat} : fits n [] = true := by cases n <;> rfl
/-- items -/
theorem ixN_nat {n k : Nat} (h : k < n) : ixN n (k : Int) = some k := by
  unfold ixN
  have : ((k : Int) < (n : Int)) := by omega
  simp [this]
theorem ixN_at {n : Nat} {i : Int} {k : Nat} (h : k < n) (e : i = k) : ixN n i = some k := by subst e; exact ixN_nat h
theorem ixN_last {n : Nat} (h : 0 < n) : ixN n (-1) = some (n - 1) := by
  unfold ixN
  rw [if_neg (by omega), if_pos (by omega)]
  congr 1
  omega
theorem atI_nat {α : Type} {ys : List α} {k : Nat} (h : k < ys.length) : atI ys (k : Int) = some ys[k] := by
  unfold atI
  rw [ixN_nat h]
  simp [h]
theorem atI_at {α : Type} {ys : List α} {i : Int} {k : Nat} {a : α} (e : i = k) (h : ys[k]? = some a) : atI ys i = some a := by
  subst e
  have hk := (List.getElem?_eq_some_iff.mp h).1
  unfold atI
  rw [ixN_nat hk]
  exact h
@[simp] theorem kIx_tup : kIx (.tup xs) (.int i) = atI xs i := rfl
@[simp] theorem kIx_lst : kIx (.lst f xs) (.int i) = atI xs i := rfl
@[simp] theorem kSl_tup {lo hi : Option Int} : kSl (.tup xs) lo hi = some (.tup (cutD xs lo hi)) := rfl
@[simp] theorem kSl_lst {lo hi : Option Int} : kSl (.lst f xs) lo hi = some (.lst .own (cutD xs lo hi)) := rfl
theorem cutD_from {α : Type} {ys : List α} {k : Nat} (h : k ≤ ys.length) : cutD ys (some (k : Int)) none = ys.drop k := by
  rw [cutD, HT.sIx_nat, HT.sIx_none, Nat.min_eq_left h]
  exact List.take_of_length_le (by simp)
theorem cutD_to {α : Type} {ys : List α} {k : Nat} (h : k ≤ ys.length) : cutD ys none (some (k : Int)) = ys.take k := by
  unfold cutD
  have : ¬ ((k : Int) < 0) := by omega
  simp [HT.sIx, h, this]
theorem cutD_mid {α : Type} {ys : List α} {k l : Nat} (h : k ≤ ys.length) (h2 : l ≤ ys.length) : cutD ys (some (k : Int)) (some (l : Int)) = (ys.drop k).take (l - k) := by
  unfold cutD
  have h3 : ¬ ((k : Int) < 0) := by omega
  have h4 : ¬ ((l : Int) < 0) := by omega
  simp [HT.sIx, h, h2, h3, h4]
end
@[simp] theorem wU_iff {r : Nat} {js : List Nat} {σ : Sg} {Q : List D → (List D → Sg) → Prop} : wU r js σ Q ↔ ∃ d xs, σ[r]? = some (some d) ∧ dAt d js = some (.lst .own xs) ∧ Q xs fun xs' => σ.set r (some (dPut d js (.lst .own xs'))) := Iff.rfl
@[simp] theorem dAt_nil {d : D} : dAt d [] = some d := by cases d <;> rfl
@[simp] theorem dPut_nil {d e : D} : dPut d [] e = e := by cases d <;> rfl
theorem dAt_cons {xs : List D} {j : Nat} {js : List Nat} {x : D} (h : xs[j]? = some x) : dAt (.lst .own xs) (j :: js) = dAt x js := by simp [dAt, h]
theorem dPut_cons {xs : List D} {j : Nat} {js : List Nat} {x e : D} (h : xs[j]? = some x) : dPut (.lst .own xs) (j :: js) e = .lst .own (xs.set j (dPut x js e)) := by simp [dPut, h]
/-! ### calls -/
def isSS : Option (Option D) → Bool
  | some (some _) => true
  | _ => false
/-- what is lent stays in its place -/
def alive : List (Option Nat) → Sg → Bool
  | [], _ => true
  | none :: r, σ => alive r σ
  | some i :: r, σ => isSS σ[i]? && alive r σ
@[simp] theorem isSS_some {d : D} : isSS (some (some d)) = true := rfl
@[simp] theorem isSS_none : isSS (some none) = false := rfl
@[simp] theorem alive_nil {σ : Sg} : alive [] σ = true := by simp [alive]
@[simp] theorem alive_none {σ : Sg} {r : List (Option Nat)} : alive (none :: r) σ = alive r σ := by simp [alive]
@[simp] theorem alive_some {σ : Sg} {i : Nat} {r : List (Option Nat)} : alive (some i :: r) σ = (isSS σ[i]? && alive r σ) := by simp [alive]
theorem putB_id {ws : List Nat} : ∀ {ld : List (Option Nat)} {j : Nat} {σc σ : Sg}, alive ld σ = true → putB ws j ld σc σ = σ
  | [], j, σc, σ, _ => by cases σc <;> simp [putB]
  | none :: r, j, [], σ, _ => by simp [putB]
  | some i :: r, j, [], σ, _ => by simp [putB]
  | none :: r, j, o :: σc, σ, h => by
    simp only [putB]
    exact putB_id (ld := r) h
  | some i :: r, j, o :: σc, σ, h => by
    simp only [alive, Bool.and_eq_true] at h
    rcases hσ : σ[i]? with _ | _ | d
    · rw [hσ] at h; cases h.1
    · rw [hσ] at h; cases h.1
    · simp only [putB, hσ]
      by_cases hj : j ∈ ws
      · rw [if_pos hj]
        exact putB_id (ld := r) h.2
      · rw [if_neg hj]
        exact putB_id (ld := r) h.2
@[simp] theorem putB_id' {ws : List Nat} {ld : List (Option Nat)} {j : Nat} {σc σ : Sg} (h : alive ld σ = true) : putB ws j ld σc σ = σ := putB_id h
/-- what a def gives -/
def ret (fn : Fn) (ds : List D) : Option D := (fn ds).map (·.1)
theorem ret_of {fn : Fn} {ds : List D} {r : D} (h : wF fn ds fun x _ => x = r) : ret fn ds = some r := by
  obtain ⟨⟨x, σ⟩, e, h⟩ := h
  simp only at h
  subst h
  simp [ret, e]
theorem wF_ret {fn : Fn} {ds : List D} {r : D} {P : D → Prop} (h : ret fn ds = some r) : (wF fn ds fun x _ => P x) ↔ P r := by
  unfold ret at h
  unfold wF
  cases e : fn ds with
  | none => rw [e] at h; cases h
  | some p => rw [e] at h; cases h; simp
theorem wF_alive {fn : Fn} {ds : List D} {ws : List Nat} {ld : List (Option Nat)} {σ : Sg} {Q : D → Sg → Prop} {r : D} (ha : alive ld σ = true) (h : ret fn ds = some r) : (wF fn ds fun x σc => Q x (putB ws 0 ld σc σ)) ↔ Q r σ := by
  have e : (fun x σc => Q x (putB ws 0 ld σc σ)) = fun x (_ : Sg) => Q x σ := by
    funext x σc
    rw [putB_id ha]
  rw [e]
  exact wF_ret h
@[simp] theorem wA_late {i : Nat} {r : MA} {σ : Sg} {Q : List D → Sg → Prop} : wA (aLate i r) σ Q ↔ (∃ d, σ[i]? = some (some d)) ∧ wA r σ fun xs σ1 => wE (mLend i) σ1 fun x σ2 => Q (x :: xs) σ2 := by unfold wA wE aLate; (repeat' split) <;> simp_all [and_assoc] <;> try grind
/-! ### loops -/
section
variable {g : MG} {m : MS} {σ : Sg} {Q : Fo → Sg → Prop} {t : MT} {a : M} {vs : List Nat} {QA : List D → Sg → Prop}
theorem wL_ind {P : List D → Sg → Prop} (h0 : ∀ σ, P [] σ → Q .nx σ) (hs : ∀ d r σ, P (d :: r) σ → wG g d σ fun σ1 => wS m σ1 fun f σ2 => match f with
    | .nx => P r σ2
    | .ct => P r σ2
    | .bk => Q .nx σ2
    | .rt v => Q (.rt v) σ2) : ∀ {ds : List D} {σ : Sg}, P ds σ → wL g m ds σ Q
  | [], σ, h => wL_nil.mpr (h0 σ h)
  | d :: r, σ, h => by
    refine wL_cons.mpr ?_
    obtain ⟨σ1, e1, ⟨⟨f, σ2⟩, e2, z⟩⟩ := hs d r σ h
    refine ⟨σ1, e1, (f, σ2), e2, ?_⟩
    cases f with
    | nx => exact wL_ind h0 hs z
    | ct => exact wL_ind h0 hs z
    | bk => exact z
    | rt v => exact z
/-- over range(lo, lo + n) -/
theorem wL_rng {lo : Int} {n : Nat} {P : Nat → Sg → Prop} (hp : P 0 σ) (h0 : ∀ σ, P n σ → Q .nx σ) (hs : ∀ k σ, k < n → P k σ → wG g (.int (lo + k)) σ fun σ1 => wS m σ1 fun f σ2 => match f with
    | .nx => P (k + 1) σ2
    | .ct => P (k + 1) σ2
    | .bk => Q .nx σ2
    | .rt v => Q (.rt v) σ2) : wL g m (up lo n) σ Q := by
  have go : ∀ (l k : Nat) (σ : Sg), k + l = n → P k σ → wL g m (up (lo + k) l) σ Q := by
    intro l
    induction l with
    | zero =>
      intro k σ e h
      have : k = n := by omega
      subst this
      exact wL_nil.mpr (h0 σ h)
    | succ l ih =>
      intro k σ e h
      refine wL_cons.mpr ?_
      obtain ⟨σ1, e1, ⟨⟨f, σ2⟩, e2, z⟩⟩ := hs k σ (by omega) h
      refine ⟨σ1, e1, (f, σ2), e2, ?_⟩
      have nxt : P (k + 1) σ2 → wL g m (up (lo + k + 1) l) σ2 Q := fun z => by
        have q := ih (k + 1) σ2 (by omega) z
        have e : lo + ((k + 1 : Nat) : Int) = lo + k + 1 := by omega
        rw [e] at q
        exact q
      cases f with
      | nx => exact nxt z
      | ct => exact nxt z
      | bk => exact z
      | rt v => exact z
  have q := go n 0 σ (by omega) hp
  simpa using q
/-- a comprehension whose turns change nothing but its own names -/
theorem wC_pure {σ : Sg} {ds : List D} (p : D → Bool) (f : D → D) (h : ∀ d ∈ ds, wG g d (wipeD σ vs) fun σ1 => wT t σ1 fun k σ2 => k = p d ∧ if k = true then wE a σ2 fun x σ3 => x = f d ∧ wipeD σ3 vs = wipeD σ vs else wipeD σ2 vs = wipeD σ vs)
    (hQ : ∀ σ', wipeD σ' vs = wipeD σ vs → QA ((ds.filter p).map f) σ') : wC g t a vs ds σ QA := by
  have go : ∀ (ds : List D) (τ : Sg) (QA : List D → Sg → Prop), wipeD τ vs = wipeD σ vs → (∀ d ∈ ds, wG g d (wipeD σ vs) fun σ1 => wT t σ1 fun k σ2 => k = p d ∧ if k = true then wE a σ2 fun x σ3 => x = f d ∧ wipeD σ3 vs = wipeD σ vs else wipeD σ2 vs = wipeD σ vs) →
      (∀ σ', wipeD σ' vs = wipeD σ vs → QA ((ds.filter p).map f) σ') → wC g t a vs ds τ QA := by
    intro ds
    induction ds with
    | nil => exact fun τ QA e _ hQ => wC_nil.mpr (hQ τ e)
    | cons d r ih =>
      intro τ QA e h hQ
      refine wC_cons.mpr ?_
      rw [e]
      obtain ⟨σ1, e1, ⟨k, σ2⟩, e2, ek, z⟩ := h d List.mem_cons_self
      refine ⟨σ1, e1, (k, σ2), e2, ?_⟩
      simp only at ek z ⊢
      cases k with
      | false =>
        simp only [Bool.false_eq_true, if_false] at z ⊢
        refine ih σ2 QA z (fun d m => h d (List.mem_cons_of_mem _ m)) fun σ' w => ?_
        have q := hQ σ' w
        rw [List.filter_cons_of_neg (by rw [← ek]; simp)] at q
        exact q
      | true =>
        simp only [if_true] at z ⊢
        obtain ⟨⟨x, σ3⟩, e3, ex, w3⟩ := z
        refine ⟨(x, σ3), e3, ?_⟩
        simp only at ex w3 ⊢
        refine ih σ3 _ w3 (fun d m => h d (List.mem_cons_of_mem _ m)) fun σ' w => ?_
        have q := hQ σ' w
        rw [List.filter_cons_of_pos (by rw [← ek]), List.map_cons] at q
        rw [ex]
        exact q
  exact go ds σ QA rfl h hQ
theorem wC_none {σ : Sg} {ds : List D} (h : ∀ d ∈ ds, wG g d (wipeD σ vs) fun σ1 => wT t σ1 fun k σ2 => k = false ∧ wipeD σ2 vs = wipeD σ vs) (hQ : ∀ σ', wipeD σ' vs = wipeD σ vs → QA [] σ') : wC g t a vs ds σ QA := by
  refine wC_pure (fun _ => false) id (fun d hd => ?_) (fun σ' w => ?_)
  · obtain ⟨σ1, e, ⟨k, σ2⟩, e2, ek, w⟩ := h d hd
    simp only at ek w
    subst ek
    exact ⟨σ1, e, (false, σ2), e2, rfl, by simpa using w⟩
  · have : ds.filter (fun _ => false) = [] := by simp
    rw [this]
    exact hQ σ' w
theorem up_mem {lo : Int} {n : Nat} {d : D} (h : d ∈ up lo n) : ∃ k : Nat, k < n ∧ d = .int (lo + k) := by
  obtain ⟨i, hi, e⟩ := List.mem_iff_getElem.mp h
  obtain ⟨q, hlt⟩ := up_get n lo i d (by rw [List.getElem?_eq_getElem hi, e])
  exact ⟨i, hlt, q⟩
theorem put1_self (σ : Sg) (i : Nat) : put1 σ i (σ.set i none) = σ := by
  unfold put1
  split
  · rename_i o h
    rw [List.set_set]
    obtain ⟨h1, h2⟩ := List.getElem?_eq_some_iff.mp h
    rw [← h2, List.set_getElem_self]
  · rename_i h
    refine List.set_eq_of_length_le ?_
    exact List.getElem?_eq_none_iff.mp h
theorem unwipe_wipe (σ : Sg) : ∀ vs, unwipe σ vs (wipeD σ vs) = σ
  | [] => rfl
  | v :: vs => by
    simp only [unwipe, wipeD]
    rw [put1_self]
    exact unwipe_wipe σ vs
end
theorem sWhile_mono {c : MT} {m : MS} : ∀ {n k : Nat} {σ : Sg} {r : Fo × Sg}, sWhile c m n σ = some r → n ≤ k → sWhile c m k σ = some r
  | 0, _, _, _, h, _ => by cases h
  | n + 1, 0, _, _, _, h => by omega
  | n + 1, k + 1, σ, r, h, hk => by
    simp only [sWhile] at h ⊢
    split at h
    · rename_i σ1 e; simpa using h
    · rename_i σ1 e
      split at h
      · rename_i σ2 e2; exact sWhile_mono h (by omega)
      · rename_i σ2 e2; exact sWhile_mono h (by omega)
      · rename_i σ2 e2; simpa using h
      · rename_i d σ2 e2; simpa using h
      · cases h
    · cases h
/-- while, by a measure -/
theorem wS_while {c : MT} {m : MS} {N : Nat} {σ : Sg} {Q : Fo → Sg → Prop} {P : Nat → Sg → Prop} {n : Nat} (hn : n < N) (hp : P n σ)
    (hs : ∀ k σ, P k σ → wT c σ fun b σ1 => if b = true then wS m σ1 fun f σ2 => match f with
      | .nx => ∃ j, j < k ∧ P j σ2
      | .ct => ∃ j, j < k ∧ P j σ2
      | .bk => Q .nx σ2
      | .rt v => Q (.rt v) σ2 else Q .nx σ1) : wS (sWhile c m N) σ Q := by
  have go : ∀ (k : Nat) (σ : Sg), P k σ → ∃ r, sWhile c m (k + 1) σ = some r ∧ Q r.1 r.2 := by
    intro k
    induction k using Nat.strongRecOn with
    | ind k ih =>
      intro σ h
      obtain ⟨⟨b, σ1⟩, e1, z⟩ := hs k σ h
      cases b with
      | false => exact ⟨(.nx, σ1), by simp [sWhile, e1], by simpa using z⟩
      | true =>
        simp only [if_true] at z
        obtain ⟨⟨f, σ2⟩, e2, z⟩ := z
        cases f with
        | nx =>
          obtain ⟨j, hj, z⟩ := z
          obtain ⟨r, e, q⟩ := ih j hj σ2 z
          exact ⟨r, by simp only [sWhile, e1, e2]; exact sWhile_mono e (by omega), q⟩
        | ct =>
          obtain ⟨j, hj, z⟩ := z
          obtain ⟨r, e, q⟩ := ih j hj σ2 z
          exact ⟨r, by simp only [sWhile, e1, e2]; exact sWhile_mono e (by omega), q⟩
        | bk => exact ⟨(.nx, σ2), by simp [sWhile, e1, e2], z⟩
        | rt v => exact ⟨(.rt v, σ2), by simp [sWhile, e1, e2], z⟩
  obtain ⟨r, e, q⟩ := go n σ hp
  exact ⟨r, sWhile_mono e (by omega), q⟩
theorem wS_cut {a b : MS} {σ : Sg} {Q : Fo → Sg → Prop} (P : Sg → Prop) (h1 : wS a σ fun f σ' => f = .nx ∧ P σ') (h2 : ∀ σ', P σ' → wS b σ' Q) : wS (sSeq a b) σ Q := by
  refine wS_seq.mpr ?_
  obtain ⟨⟨f, σ'⟩, e, ef, hp⟩ := h1
  simp only at ef hp
  subst ef
  exact ⟨(.nx, σ'), e, h2 σ' hp⟩
theorem wF_mono {fn : Fn} {ds : List D} {Q Q' : D → Sg → Prop} (h : wF fn ds Q) (hq : ∀ r σ, Q r σ → Q' r σ) : wF fn ds Q' := by
  obtain ⟨p, e, h⟩ := h
  exact ⟨p, e, hq _ _ h⟩
theorem wS_mono {m : MS} {σ : Sg} {Q Q' : Fo → Sg → Prop} (h : wS m σ Q) (hq : ∀ f σ, Q f σ → Q' f σ) : wS m σ Q' := by
  obtain ⟨p, e, h⟩ := h
  exact ⟨p, e, hq _ _ h⟩
theorem wE_mono {m : M} {σ : Sg} {Q Q' : D → Sg → Prop} (h : wE m σ Q) (hq : ∀ r σ, Q r σ → Q' r σ) : wE m σ Q' := by
  obtain ⟨p, e, h⟩ := h
  exact ⟨p, e, hq _ _ h⟩
end Py
/-! Layer «Py», part Y: sorting and greatest ones, told plainly. -/
namespace Py
open PySem PySem.Spec PyProof.Rows L2
def rowL (l : List Int) : D := .tup (l.map .int)
theorem py_rowL (l : List Int) : (rowL l).py = .tuple (l.map .int) := by
  have go : ∀ l : List Int, pys (l.map D.int) = l.map PyData.int := fun l => by
    induction l with
    | nil => rfl
    | cons a l ih => simp [pys, D.py, ih]
  show PyData.tuple (pys (l.map D.int)) = _
  rw [go]
theorem le_rowL (a b : List Int) : PySem.W.dataLe false D.py (rowL a) (rowL b) = decide (a ≤ b) := by
  show (!PySem.W.dataLt (rowL b).py (rowL a).py) = _
  rw [py_rowL, py_rowL]
  show (!PySem.W.rowLt (b.map .int) (a.map .int)) = _
  rw [PySem.W.dataLt_ints]
  by_cases h : b < a
  · have h' : ¬ a ≤ b := fun z => z h
    simp [h, h']
  · have h' : a ≤ b := h
    simp [h, h']
theorem le_int (a b : Int) : PySem.W.dataLe false D.py (.int a) (.int b) = decide (a ≤ b) := congrFun (congrFun (PySem.W.dataLe_int (β := Int) id) a) b
theorem ge_int (a b : Int) : PySem.W.dataLe true D.py (.int a) (.int b) = decide (b ≤ a) := congrFun (congrFun (PySem.W.dataGe_int (β := Int) id) a) b
/-- what is sorted and has the same items is what sorting gives -/
theorem sort_is {α : Type} {dec : α → D} {b : Bool} {le : α → α → Prop} (hle : ∀ x y, PySem.W.dataLe b D.py (dec x) (dec y) = true ↔ le x y) (anti : ∀ x y, le x y → le y x → x = y) (tr : ∀ x y z, le x y → le y z → le x z) (tot : ∀ x y, le x y ∨ le y x) {xs ys : List α} (hp : ys.Perm xs) (hs : ys.Pairwise le) :
    (xs.map dec).mergeSort (PySem.W.dataLe b D.py) = ys.map dec := by
  have e : (xs.map dec).mergeSort (PySem.W.dataLe b D.py) = (xs.mergeSort (fun x y => PySem.W.dataLe b D.py (dec x) (dec y))).map dec := (PySem.W.sort_maps (r := fun x y => PySem.W.dataLe b D.py (dec x) (dec y)) (s := PySem.W.dataLe b D.py) dec (fun x _ y _ => rfl)).symm
  rw [e]
  congr 1
  have h1 : (xs.mergeSort (fun x y => PySem.W.dataLe b D.py (dec x) (dec y))).Pairwise le := by
    refine (List.pairwise_mergeSort (le := fun x y => PySem.W.dataLe b D.py (dec x) (dec y)) (fun x y z h1 h2 => (hle _ _).mpr (tr _ _ _ ((hle _ _).mp h1) ((hle _ _).mp h2))) (fun x y => ?_) xs).imp fun {x y} h => (hle x y).mp h
    rcases tot x y with h | h
    · simp [(hle _ _).mpr h]
    · simp [(hle _ _).mpr h]
  exact List.Perm.eq_of_pairwise (le := le) (fun x y _ _ h1 h2 => anti x y h1 h2) h1 hs ((List.mergeSort_perm _ _).trans hp.symm)
theorem alikes_int (ns : List Int) : alikes (ns.map .int) = true := by
  unfold alikes
  simp [D.py, PySem.W.alike]
theorem alikes_row (ls : List (List Int)) : alikes (ls.map rowL) = true := by
  unfold alikes
  simp only [List.all_map, List.all_eq_true, Function.comp]
  intro a _ b _
  rw [py_rowL, py_rowL]
  exact PySem.W.alike_ints a b
theorem sortable_int (ns : List Int) : sortable (ns.map .int) = true := by
  unfold sortable
  simp
theorem sortable_row (ls : List (List Int)) (h : ∀ l ∈ ls, l ≠ []) : sortable (ls.map rowL) = true := by
  unfold sortable
  rw [Bool.or_eq_true]
  refine .inl (List.all_eq_true.mpr fun d m => ?_)
  obtain ⟨l, hl, rfl⟩ := List.mem_map.mp m
  cases l with
  | nil => exact absurd rfl (h [] hl)
  | cons a l => rfl
theorem fits_rows (ls : List (List Int)) : fits 60 (ls.map rowL) = true := fits_all fun y m => by
  obtain ⟨l, _, rfl⟩ := List.mem_map.mp m
  exact fits_ints
theorem fSortB_lst {b : Bool} {f : Fl} {xs : List D} (h : alikes xs = true ∧ sortable xs = true ∧ fits 60 xs = true ∧ xs.length ≤ 16777216) : fSortB b (.lst f xs) = some (.lst .own (xs.mergeSort (PySem.W.dataLe b D.py))) := by
  show (if _ then _ else _) = _
  rw [if_pos h]
theorem fSort_rows {f : Fl} {ls ys : List (List Int)} (h : ∀ l ∈ ls, l ≠ []) (hz : ls.length ≤ 16777216) (hp : ys.Perm ls) (hs : ys.Pairwise (· ≤ ·)) : fSort (.lst f (ls.map rowL)) = some (.lst .own (ys.map rowL)) := by
  rw [fSort, fSortB_lst ⟨alikes_row ls, sortable_row ls h, fits_rows ls, by simpa using hz⟩]
  rw [sort_is (le := (· ≤ ·)) (fun x y => by rw [le_rowL]; simp) (fun x y h1 h2 => List.le_antisymm h1 h2) (fun x y z h1 h2 => List.le_trans h1 h2) (fun x y => List.le_total x y) hp hs]
theorem fSort_ints {f : Fl} {ns ys : List Int} (hz : ns.length ≤ 16777216) (hp : ys.Perm ns) (hs : ys.Pairwise (· ≤ ·)) : fSort (.lst f (ns.map .int)) = some (.lst .own (ys.map .int)) := by
  rw [fSort, fSortB_lst ⟨alikes_int ns, sortable_int ns, fits_ints, by simpa using hz⟩]
  rw [sort_is (dec := D.int) (le := (· ≤ ·)) (fun x y => by rw [le_int]; simp) (fun x y h1 h2 => Int.le_antisymm h1 h2) (fun x y z h1 h2 => Int.le_trans h1 h2) (fun x y => Int.le_total x y) hp hs]
theorem fSortR_ints {f : Fl} {ns ys : List Int} (hz : ns.length ≤ 16777216) (hp : ys.Perm ns) (hs : ys.Pairwise (· ≥ ·)) : fSortB true (.lst f (ns.map .int)) = some (.lst .own (ys.map .int)) := by
  rw [fSortB_lst ⟨alikes_int ns, sortable_int ns, fits_ints, by simpa using hz⟩]
  rw [sort_is (dec := D.int) (le := (· ≥ ·)) (fun x y => by rw [ge_int]; simp) (fun x y h1 h2 => Int.le_antisymm h2 h1) (fun x y z h1 h2 => Int.le_trans h2 h1) (fun x y => Int.le_total y x) hp hs]
/-- some sorted list of the same items -/
theorem exists_sorted (ns : List Int) : ∃ ys : List Int, ys.Perm ns ∧ ys.Pairwise (· ≤ ·) := ⟨ns.mergeSort, List.mergeSort_perm _ _, by
  refine (List.pairwise_mergeSort (le := fun a b : Int => decide (a ≤ b)) (fun a b c h1 h2 => ?_) (fun a b => ?_) ns).imp fun {a b} h => of_decide_eq_true h
  · have := of_decide_eq_true h1
    have := of_decide_eq_true h2
    exact decide_eq_true (by omega)
  · rcases Int.le_total a b with h | h <;> simp [h]⟩
/-- greatest ones -/
def mxs (x : Int) : List Int → Int
  | [] => x
  | y :: r => max x (mxs y r)
theorem maxL_eq : ∀ (r : List Int) (x : Int), maxL (x :: r) = some (mxs x r)
  | [], x => rfl
  | y :: r, x => by
    simp only [maxL, maxL_eq r y, Option.map_some, mxs]
    congr 1
    omega
theorem unInts_map : ∀ ns : List Int, unInts (ns.map .int) = some ns
  | [] => rfl
  | n :: ns => by simp [unInts, unInts_map ns]
theorem fMaxL_ints {f : Fl} {x : Int} {ns : List Int} : fMaxL (.lst f (.int x :: ns.map .int)) = some (.int (mxs x ns)) := by
  have e : D.int x :: ns.map D.int = (x :: ns).map D.int := rfl
  simp only [fMaxL]
  rw [e, unInts_map]
  simp [maxL_eq]
theorem mxs_ge : ∀ (r : List Int) (x : Int), x ≤ mxs x r ∧ ∀ y ∈ r, y ≤ mxs x r
  | [], x => ⟨Int.le_refl _, fun _ m => nomatch m⟩
  | y :: r, x => by
    obtain ⟨h1, h2⟩ := mxs_ge r y
    simp only [mxs]
    refine ⟨by omega, fun z m => ?_⟩
    rcases List.mem_cons.mp m with e | m
    · subst e; omega
    · have := h2 z m; omega
theorem mxs_mem : ∀ (r : List Int) (x : Int), mxs x r ∈ x :: r
  | [], x => by simp [mxs]
  | y :: r, x => by
    simp only [mxs]
    have := mxs_mem r y
    by_cases h : mxs y r ≤ x
    · rw [Int.max_eq_left h]; exact List.mem_cons_self
    · rw [Int.max_eq_right (by omega)]; exact List.mem_cons_of_mem _ this
theorem fSum_ints {f : Fl} {ns : List Int} : fSum (.lst f (ns.map .int)) = some (.int ns.sum) := by
  simp only [fSum]
  rw [unInts_map]
theorem unBls_map : ∀ ns : List Bool, unBls (ns.map .bl) = some ns
  | [] => rfl
  | n :: ns => by simp [unBls, unBls_map ns]
theorem fAll_bls {f : Fl} {ns : List Bool} : fAll (.lst f (ns.map .bl)) = some (.bl (ns.all id)) := by
  simp only [fAll]
  rw [unBls_map]
theorem fAny_bls {f : Fl} {ns : List Bool} : fAny (.lst f (ns.map .bl)) = some (.bl (ns.any id)) := by
  simp only [fAny]
  rw [unBls_map]
theorem up_range : ∀ (n : Nat) (lo : Int), up lo n = (List.range n).map fun i => .int (lo + (i : Nat))
  | 0, _ => rfl
  | n + 1, lo => by
    rw [List.range_succ_eq_map, List.map_cons, List.map_map, up, up_range n (lo + 1)]
    refine List.cons_eq_cons.mpr ⟨by simp, ?_⟩
    apply List.map_congr_left
    intro i _
    simp only [Function.comp]
    congr 1
    omega
end Py
/-! Layer «Py», part Z: rules for reversed ranges, aliases, x = xs.pop(). -/
namespace Py
open PySem PySem.Spec PyProof.Rows L2
section
variable {σ : Sg} {a b : M} {g : MG} {m : MS} {Q : Fo → Sg → Prop} {QI : List D → Option D → Sg → Prop}
@[simp] theorem wI_rev1 : wI (iRevRng1 a) σ QI ↔ wE a σ fun x σ1 => ∃ j, x = .int j ∧ okR j = true ∧ QI (up 0 j.toNat).reverse none σ1 := by unfold wI wE iRevRng1; (repeat' split) <;> simp_all [and_assoc] <;> try grind
@[simp] theorem wI_rev2 : wI (iRevRng2 a b) σ QI ↔ wE a σ fun x σ1 => wE b σ1 fun y σ2 => ∃ i j, x = .int i ∧ y = .int j ∧ okR i = true ∧ okR j = true ∧ QI (up i (j - i).toNat).reverse none σ2 := by unfold wI wE iRevRng2; (repeat' split) <;> simp_all [and_assoc] <;> try grind
theorem up_snoc : ∀ (n : Nat) (lo : Int), up lo (n + 1) = up lo n ++ [.int (lo + n)]
  | 0, lo => by simp [up]
  | n + 1, lo => by
    have e : lo + 1 + (n : Int) = lo + ((n + 1 : Nat) : Int) := by omega
    rw [up, up_snoc n (lo + 1), up, e]
    rfl
/-- a loop down a range -/
theorem wL_rev {lo : Int} {P : Nat → Sg → Prop} (h0 : ∀ σ, P 0 σ → Q .nx σ) : ∀ (n : Nat) {σ : Sg}, P n σ → (∀ k σ, k < n → P (k + 1) σ → wG g (.int (lo + k)) σ fun σ1 => wS m σ1 fun f σ2 => match f with
    | .nx => P k σ2
    | .ct => P k σ2
    | .bk => Q .nx σ2
    | .rt v => Q (.rt v) σ2) → wL g m (up lo n).reverse σ Q
  | 0, σ, h, _ => wL_nil.mpr (h0 σ h)
  | n + 1, σ, h, hs => by
    have e : (up lo (n + 1)).reverse = .int (lo + n) :: (up lo n).reverse := by rw [up_snoc, List.reverse_append]; rfl
    rw [e, wL_cons]
    obtain ⟨p, e1, q, e2, h2⟩ := hs n σ (Nat.lt_succ_self n) h
    refine ⟨p, e1, q, e2, ?_⟩
    obtain ⟨f, σ2⟩ := q
    cases f with
    | nx => exact wL_rev h0 n h2 fun k σ hk => hs k σ (Nat.lt_succ_of_lt hk)
    | ct => exact wL_rev h0 n h2 fun k σ hk => hs k σ (Nat.lt_succ_of_lt hk)
    | bk => exact h2
    | rt v => exact h2
/-- row = rows[k], and on with it -/
theorem wS_alias {r k row : Nat} {xs : List D} {i : Int} {j : Nat} {x : D} (h1 : σ[r]? = some (some (.lst .own xs))) (h2 : σ[k]? = some (some (.int i))) (hj : ixN xs.length i = some j) (hx : xs[j]? = some x) (hl : row < σ.length)
    (h : wS m ((σ.set r none).set row (some x)) fun f σ' => ∃ x', σ'[row]? = some (some x') ∧ Q f ((σ'.set row none).set r (some (.lst .own (xs.set j x'))))) : wS (sAlias r k row m) σ Q := by
  obtain ⟨⟨f, σ'⟩, e, x', hx', hq⟩ := h
  refine ⟨(f, (σ'.set row none).set r (some (.lst .own (xs.set j x')))), ?_, hq⟩
  unfold sAlias
  simp only [h1, h2, hj, hx, hl, if_true, e, hx']
theorem cnt_filter {α : Type} {i : Nat} {tt : MT} {me : M} {τ : Sg} (dec : α → D) (p : α → Bool) : ∀ l : List α, (∀ y ∈ l, wT tt (τ.set i (some (dec y))) fun k σ2 => k = p y ∧ (k = true → wE me σ2 fun _ _ => True)) → cntEach i tt me τ (l.map dec) = some (l.filter p).length
  | [], _ => rfl
  | y :: l, h => by
    have ih := cnt_filter dec p l fun z m => h z (List.mem_cons_of_mem _ m)
    obtain ⟨⟨k, σ2⟩, e, ek, ee⟩ := h y List.mem_cons_self
    simp only at ek ee
    rw [List.map_cons, cntEach, e]
    cases k with
    | true =>
      obtain ⟨q, eq, _⟩ := ee rfl
      simp only [eq, ih]
      rw [List.filter_cons_of_pos ek.symm]
      rfl
    | false =>
      simp only [ih]
      rw [List.filter_cons_of_neg (by rw [← ek]; decide)]
/-- a count -/
theorem wE_cnt {α : Type} {i : Nat} {tt : MT} {me : M} {vs : List Nat} {Q : D → Sg → Prop} (l : List α) (dec : α → D) (p : α → Bool)
    (h : wE a σ fun x σ1 => x.view.items = some (l.map dec) ∧ l.length < 16777216 ∧ i < σ1.length ∧ (∀ y ∈ l, wT tt ((wipeD σ1 vs).set i (some (dec y))) fun k σ2 => k = p y ∧ (k = true → wE me σ2 fun _ _ => True)) ∧ Q (.int (l.filter p).length) σ1) : wE (mLenLc a i tt me vs) σ Q := by
  obtain ⟨⟨x, σ1⟩, e, e1, e2, e3, e4, e5⟩ := h
  simp only at e1 e3 e4 e5
  refine ⟨(.int (l.filter p).length, σ1), ?_, e5⟩
  unfold mLenLc
  have hl := List.length_filter_le p l
  simp only [e, e1, cnt_filter dec p l e4]
  rw [if_pos ⟨by omega, e3⟩]
end
end Py
namespace K89
open PySem PySem.Spec PyProof.Rows L2 Py
/-- def _law_start(script): -/
def m__law_start : MS := (sRet (mA kLst (aCons (mFrz 0) (aCons (mC (.int 0)) (aCons (mC (.int 0)) (aCons (mC (.int 7)) aNil))))))
def fn__law_start : Fn := fnD 1 m__law_start
/-- def _law_all(shape, greatest): -/
def m__law_all : MS := (sSeq (sSet 2 (mA kLst (aCons (mUp (mA kLst aNil)) aNil)))
    (sSeq (sFor (none) (iRngM1 (mUp (mA (k1 fLen) (aCons (mVar 0) aNil)))) (gNameM 3) (sFor (none) (iRngM1 (mUp (m2 kIx (mVar 0) (mVar 3)))) (gNameM 4) (sSeq (sSet 5 (mUp (mA kLst aNil)))
    (sSeq (sFor (some 2) (iTake 2) (gNameM 6) (sSeq (sSet 7 (mC (.int 1)))
    (sSeq (sIf (Py.tB (m2 kGt (mVar 4) (mC (.int 0)))) (sSet 7 (mUp (m2 kIx (m2 kIx (mVar 6) (mVar 3)) (m2 kSub (mVar 4) (mC (.int 1)))))) sNil)
    (sSeq (sIf (Py.tB (m2 kGt (mVar 3) (mC (.int 0)))) (sSet 7 (mUp (mA (k2 fMax2) (aCons (mVar 7) (aCons (m2 kAdd (m2 kIx (m2 kIx (mVar 6) (m2 kSub (mVar 3) (mC (.int 1)))) (mVar 4)) (mC (.int 1))) aNil))))) sNil)
    (sFor (none) (iRngM2 (mFrz 7) (mUp (m2 kAdd (mVar 1) (mC (.int 1))))) (gNameM 8) (sSeq (sSet 9 (mLc (some 6) (iTake 6) (gNameM 11) tYesM (mLc (some 11) (iTake 11) (gNameM 10) tYesM (mFrz 10) [10]) [11]))
    (sSeq (sIf (Py.tB (m2 kEq (mVar 4) (mC (.int 0)))) (sAppN 9 (mUp (mA kLst aNil))) sNil)
    (sSeq (sAppP 9 (pIx 9 (pRoot 9) (mVar 3)) (mVar 8))
    (sAppN 5 (mFrz 9))))))))))
    (sSet 2 (mFrz 5))))))
    (sRet (mMove 2))))
def fn__law_all : Fn := fnD 12 m__law_all
/-- def _law_trimmed(row): -/
def m__law_trimmed : MS := (sSeq (sSet 0 (mUp (mA (k1 fList) (aCons (mVar 0) aNil))))
    (sSeq (sWhile (tAndM (Py.tB (m2 kNe (mVar 0) (mA kLst aNil))) (Py.tB (m2 kEq (m2 kIx (mVar 0) (m1 fNeg (mC (.int 1)))) (mC (.int 0))))) (sPopP 0 (pRoot 0)) fu)
    (sRet (mUp (mA (k1 fTuple) (aCons (mVar 0) aNil))))))
def fn__law_trimmed : Fn := fnD 1 m__law_trimmed
/-- def trimmed(row): -/
def m_trimmed : MS := (sSeq (sSet 1 (mUp (mA (k1 fLen) (aCons (mVar 0) aNil))))
    (sSeq (sWhile (tAndM (Py.tB (m2 kGt (mVar 1) (mC (.int 0)))) (Py.tB (m2 kEq (m2 kIx (mVar 0) (m2 kSub (mVar 1) (mC (.int 1)))) (mC (.int 0))))) (sAug 1 kSub (mC (.int 1))) fu)
    (sRet (mUp (mA (k1 fTuple) (aCons (mSl kSl (mVar 0) oNone (oSome (mVar 1))) aNil))))))
def fn_trimmed : Fn := fnD 2 m_trimmed
/-- def remainder(first, second): -/
def m_remainder : MS := (sSeq (sSet 2 (mUp (mA (k1 fList) (aCons (mVar 0) aNil))))
    (sSeq (sFor (none) (iRngD (mUp (m2 kSub (mA (k1 fLen) (aCons (mVar 0) aNil)) (mA (k1 fLen) (aCons (mVar 1) aNil)))) (mUp (m1 fNeg (mC (.int 1)))) (mUp (m1 fNeg (mC (.int 1))))) (gNameM 3) (sSeq (sSet 4 (mUp (m2 kIx (mVar 2) (m2 kSub (m2 kAdd (mVar 3) (mA (k1 fLen) (aCons (mVar 1) aNil))) (mC (.int 1))))))
    (sFor (none) (iRngM1 (mUp (mA (k1 fLen) (aCons (mVar 1) aNil)))) (gNameM 5) (sAugP 2 (pRoot 2) (m2 kAdd (mVar 3) (mVar 5)) kSub (m2 kMul (mVar 4) (m2 kIx (mVar 1) (mVar 5)))))))
    (sRet (mCall [1] [some 2] fn_trimmed (aCons (mLend 2) aNil)))))
def fn_remainder : Fn := fnD 6 m_remainder
/-- def _law_rest(row, other): -/
def m__law_rest : MS := (sSeq (sSet 2 (mLc (some 0) (iTake 0) (gNameM 3) tYesM (mFrz 3) [3]))
    (sSeq (sFor (none) (iRngD (mUp (m2 kSub (mA (k1 fLen) (aCons (mVar 0) aNil)) (mC (.int 1)))) (mUp (m2 kSub (mA (k1 fLen) (aCons (mVar 1) aNil)) (mC (.int 2)))) (mUp (m1 fNeg (mC (.int 1))))) (gNameM 4) (sSeq (sSet 5 (mUp (m2 kIx (mVar 2) (mVar 4))))
    (sFor (none) (iRngM1 (mUp (mA (k1 fLen) (aCons (mVar 1) aNil)))) (gNameM 6) (sSeq (sSet 7 (mUp (m2 kAdd (m2 kAdd (m2 kSub (mVar 4) (mA (k1 fLen) (aCons (mVar 1) aNil))) (mC (.int 1))) (mVar 6))))
    (sAsg (mUp (m2 kSub (m2 kIx (mVar 2) (mVar 7)) (m2 kMul (mVar 5) (m2 kIx (mVar 1) (mVar 6))))) (gSubM 2 (pRoot 2) (mVar 7)))))))
    (sRet (mCall [0] [none] fn__law_trimmed (aCons (mFrz 2) aNil)))))
def fn__law_rest : Fn := fnD 8 m__law_rest
/-- def _law_same(told, due): -/
def m__law_same (fn_self : Fn) : MS := (sSeq (sIf (Py.tB (m2 kIsN (mVar 1) (mC .non))) (sRet (mUp (m2 kIsN (mVar 0) (mC .non)))) sNil)
    (sSeq (sIf (tVal (mIsa Ty.bool (mVar 1))) (sRet (mUp (mAndV (mIsa Ty.bool (mVar 0)) (m2 kEq (mVar 0) (mVar 1))))) sNil)
    (sSeq (sIf (tVal (mIsa Ty.int (mVar 1))) (sRet (mUp (mAndV (mIsa Ty.int (mVar 0)) (mAndV (mNotV (mIsa Ty.bool (mVar 0))) (m2 kEq (mVar 0) (mVar 1)))))) sNil)
    (sSeq (sIf (tVal (mIsa Ty.str (mVar 1))) (sRet (mUp (mAndV (mIsa Ty.str (mVar 0)) (m2 kEq (mVar 0) (mVar 1))))) sNil)
    (sSeq (sIf (tOrM (tAndM (tVal (mIsa Ty.list (mVar 1))) (tNotM (tVal (mIsa Ty.list (mVar 0))))) (tAndM (tVal (mIsa Ty.tuple (mVar 1))) (tNotM (tVal (mIsa Ty.tuple (mVar 0)))))) (sRet (mC (.bl false))) sNil)
    (sRet (mAndV (mUp (m2 kEq (mA (k1 fLen) (aCons (mVar 0) aNil)) (mA (k1 fLen) (aCons (mVar 1) aNil)))) (m2 kEq (mLc (none) (iRngM1 (mUp (mA (k1 fLen) (aCons (mVar 1) aNil)))) (gNameM 2) (tNotM (tVal (mCall [] [none, none] fn_self (aCons (mUp (m2 kIx (mVar 0) (mVar 2))) (aCons (mUp (m2 kIx (mVar 1) (mVar 2))) aNil))))) (mC (.int 1)) [2]) (mUp (mA kLst aNil))))))))))
def fn__law_same : Fn := fnR 3 m__law_same 6
/-- def _law_pick(state, limit): -/
def m__law_pick : MS := (sSeq (sIf (tAndM (Py.tB (m2 kEq (m2 kIx (mVar 0) (mC (.int 2))) (mC (.int 0)))) (Py.tB (m2 kLt (m2 kIx (mVar 0) (mC (.int 1))) (mA (k1 fLen) (aCons (m2 kIx (mVar 0) (mC (.int 0))) aNil))))) (sSeq (sSet 2 (mUp (mA (k1 fAbs) (aCons (m2 kIx (m2 kIx (mVar 0) (mC (.int 0))) (m2 kIx (mVar 0) (mC (.int 1)))) aNil))))
    (sSeq (sAsg (mUp (m2 kAdd (m2 kIx (mVar 0) (mC (.int 1))) (mC (.int 1)))) (gSubM 0 (pRoot 0) (mC (.int 1))))
    (sIf (Py.tB (m2 kGe (mVar 2) (m2 kPow (mC (.int 10)) (mC (.int 18))))) (sAsg (mFrz 2) (gSubM 0 (pRoot 0) (mC (.int 2)))) (sAsg (mUp (m2 kAdd (m2 kMod (mA (k1 fInt) (aCons (m2 kAdd (m2 kMul (m2 kIx (mVar 0) (mC (.int 3))) (mC (.int 48271))) (mVar 2)) aNil)) (mC (.int 2147483646))) (mC (.int 1)))) (gSubM 0 (pRoot 0) (mC (.int 3))))))) sNil)
    (sSeq (sIf (Py.tB (m2 kGt (m2 kIx (mVar 0) (mC (.int 2))) (mC (.int 0)))) (sSeq (sSet 3 (mUp (m2 kMod (mA (k1 fInt) (aCons (m2 kIx (mVar 0) (mC (.int 2))) aNil)) (mVar 1))))
    (sSeq (sAsg (mUp (m2 kDiv (m2 kIx (mVar 0) (mC (.int 2))) (mVar 1))) (gSubM 0 (pRoot 0) (mC (.int 2))))
    (sRet (mMove 3)))) sNil)
    (sSeq (sAsg (mUp (m2 kMod (mA (k1 fInt) (aCons (m2 kMul (m2 kIx (mVar 0) (mC (.int 3))) (mC (.int 48271))) aNil)) (mC (.int 2147483647)))) (gSubM 0 (pRoot 0) (mC (.int 3))))
    (sRet (mUp (m2 kMod (mA (k1 fInt) (aCons (m2 kAdd (m2 kDiv (m2 kIx (mVar 0) (mC (.int 3))) (mC (.int 5))) (m2 kMod (mA (k1 fInt) (aCons (m2 kMul (m2 kIx (mVar 0) (mC (.int 3))) (m2 kIx (mVar 0) (mC (.int 3)))) aNil)) (mC (.int 2147483629)))) aNil)) (mVar 1)))))))
def fn__law_pick : Fn := fnD 4 m__law_pick
/-- def quotient_of(first, second): -/
def m_quotient_of : MS := (sSeq (sPar 2 3 (aCons (mUp (mA (k1 fList) (aCons (mVar 0) aNil))) (aCons (mUp (mA kLst aNil)) aNil)))
    (sSeq (sSet 4 (mUp (m2 kIx (mVar 1) (m2 kSub (mA (k1 fLen) (aCons (mVar 1) aNil)) (mC (.int 1))))))
    (sSeq (sFor (none) (iRngD (mUp (m2 kSub (mA (k1 fLen) (aCons (mVar 0) aNil)) (mA (k1 fLen) (aCons (mVar 1) aNil)))) (mUp (m1 fNeg (mC (.int 1)))) (mUp (m1 fNeg (mC (.int 1))))) (gNameM 5) (sSeq (sSet 6 (mUp (m2 kIx (mVar 2) (m2 kSub (m2 kAdd (mVar 5) (mA (k1 fLen) (aCons (mVar 1) aNil))) (mC (.int 1))))))
    (sSeq (sIf (Py.tB (m2 kNe (mVar 6) (m2 kMul (mVar 4) (m2 kDiv (mVar 6) (mVar 4))))) (sRet (mC .non)) sNil)
    (sSeq (sAppN 3 (mUp (m2 kDiv (mVar 6) (mVar 4))))
    (sFor (none) (iRngM1 (mUp (mA (k1 fLen) (aCons (mVar 1) aNil)))) (gNameM 7) (sAugP 2 (pRoot 2) (m2 kAdd (mVar 5) (mVar 7)) kSub (m2 kMul (m2 kIx (mVar 3) (m1 fNeg (mC (.int 1)))) (m2 kIx (mVar 1) (mVar 7)))))))))
    (sRet (mIf (Py.tB (m2 kEq (mCall [1] [some 2] fn_trimmed (aCons (mLend 2) aNil)) (mUp (mA kTup aNil)))) (mCall [1] [none] fn_trimmed (aCons (mUp (m1 fRevL (mVar 3))) aNil)) (mC .non))))))
def fn_quotient_of : Fn := fnD 8 m_quotient_of
/-- def cyclotomic(order): -/
def m_cyclotomic (fn_self : Fn) : MS := (sSeq (sSet 1 (mCall [1] [none] fn_trimmed (aCons (mUp (m2 kAdd (m2 kAdd (mA kLst (aCons (m1 fNeg (mC (.int 1))) aNil)) (m2 kMul (mA kLst (aCons (mC (.int 0)) aNil)) (m2 kSub (mVar 0) (mC (.int 1))))) (mA kLst (aCons (mC (.int 1)) aNil)))) aNil)))
    (sSeq (sFor (none) (iRngM2 (mC (.int 1)) (mFrz 0)) (gNameM 2) (sIf (Py.tB (m2 kEq (m2 kMod (mA (k1 fInt) (aCons (mVar 0) aNil)) (mVar 2)) (mC (.int 0)))) (sSet 1 (mCall [2, 3, 4, 5, 6, 7] [some 1, none] fn_quotient_of (aCons (mLend 1) (aCons (mCall [1, 2] [some 2] fn_self (aCons (mLend 2) aNil)) aNil)))) sNil))
    (sRet (mMove 1))))
def fn_cyclotomic : Fn := fnR 3 m_cyclotomic 6
/-- def at_root(polynomial, order): -/
def m_at_root : MS := (sSeq (sSet 2 (mCall [2, 3, 4, 5] [some 0, none] fn_remainder (aCons (mLend 0) (aCons (mCall [1, 2] [some 1] fn_cyclotomic (aCons (mLend 1) aNil)) aNil))))
    (sSeq (sIf (Py.tB (m2 kGt (mA (k1 fLen) (aCons (mVar 2) aNil)) (mC (.int 1)))) (sRet (mC .non)) sNil)
    (sRet (mIf (Py.tB (m2 kEq (mA (k1 fLen) (aCons (mVar 2) aNil)) (mC (.int 1)))) (mUp (m2 kIx (mVar 2) (mC (.int 0)))) (mC (.int 0))))))
def fn_at_root : Fn := fnD 3 m_at_root
/-- def _law_times(first, second): -/
def m__law_times : MS := (sSeq (sSet 2 (mLc (none) (iRngM1 (mUp (m2 kAdd (mA (k1 fLen) (aCons (mVar 0) aNil)) (mA (k1 fLen) (aCons (mVar 1) aNil))))) (gNameM 3) tYesM (mC (.int 0)) [3]))
    (sSeq (sFor (none) (iRngM1 (mUp (mA (k1 fLen) (aCons (mVar 0) aNil)))) (gNameM 3) (sFor (none) (iRngM1 (mUp (mA (k1 fLen) (aCons (mVar 1) aNil)))) (gNameM 4) (sAsg (mUp (m2 kAdd (m2 kIx (mVar 2) (m2 kAdd (mVar 3) (mVar 4))) (m2 kMul (m2 kIx (mVar 0) (mVar 3)) (m2 kIx (mVar 1) (mVar 4))))) (gSubM 2 (pRoot 2) (m2 kAdd (mVar 3) (mVar 4))))))
    (sRet (mCall [0] [none] fn__law_trimmed (aCons (mFrz 2) aNil)))))
def fn__law_times : Fn := fnD 5 m__law_times
/-- def _law_roots(state): -/
def m__law_roots : MS := (sSeq (sSet 1 (m2 kAdd (mC (.int 1)) (mCall [2, 3] [some 0, none] fn__law_pick (aCons (mLend 0) (aCons (mC (.int 30)) aNil)))))
    (sSeq (sSet 2 (mUp (mA kTup (aCons (mC (.int 1)) aNil))))
    (sSeq (sFor (none) (iRngM2 (mC (.int 1)) (mUp (m2 kAdd (mVar 1) (mC (.int 1))))) (gNameM 3) (sIf (Py.tB (m2 kEq (m2 kMod (mA (k1 fInt) (aCons (mVar 1) aNil)) (mVar 3)) (mC (.int 0)))) (sSet 2 (mCall [2, 3, 4] [some 2, none] fn__law_times (aCons (mLend 2) (aCons (mCall [1, 2] [some 3] fn_cyclotomic (aCons (mLend 3) aNil)) aNil)))) sNil))
    (sSeq (sIf (tOrM (Py.tB (m2 kNe (mFrz 2) (mCall [0] [none] fn__law_trimmed (aCons (m2 kAdd (m2 kAdd (mUp (mA kLst (aCons (m1 fNeg (mC (.int 1))) aNil))) (mLc (none) (iRngM1 (mUp (m2 kSub (mVar 1) (mC (.int 1))))) (gNameM 4) tYesM (mC (.int 0)) [4])) (mUp (mA kLst (aCons (mC (.int 1)) aNil)))) aNil)))) (tOrM (Py.tB (m2 kLt (mA (k1 fLen) (aCons (mCall [1, 2] [some 1] fn_cyclotomic (aCons (mLend 1) aNil)) aNil)) (mC (.int 2)))) (Py.tB (m2 kNe (m2 kIx (mCall [1, 2] [some 1] fn_cyclotomic (aCons (mLend 1) aNil)) (mUp (m1 fNeg (mC (.int 1))))) (mC (.int 1)))))) (sRet (mC (.bl false))) sNil)
    (sSeq (sSet 5 (m2 kIx (mUp (mA kLst (aCons (mC (.int 2)) (aCons (mC (.int 3)) (aCons (mC (.int 5)) (aCons (mC (.int 7)) (aCons (mC (.int 11)) (aCons (mC (.int 13)) aNil)))))))) (mCall [2, 3] [some 0, none] fn__law_pick (aCons (mLend 0) (aCons (mC (.int 6)) aNil)))))
    (sSeq (sIf (tOrM (tNotM (tVal (mCall [] [none, none] fn__law_same (aCons (mCall [1, 2] [some 5] fn_cyclotomic (aCons (mLend 5) aNil)) (aCons (mUp (m2 kMulT (mA kTup (aCons (mC (.int 1)) aNil)) (mVar 5))) aNil))))) (tNotM (tVal (mCall [] [none, none] fn__law_same (aCons (mCall [1, 2] [none] fn_cyclotomic (aCons (mC (.int 1)) aNil)) (aCons (mUp (mA kTup (aCons (m1 fNeg (mC (.int 1))) (aCons (mC (.int 1)) aNil)))) aNil)))))) (sRet (mC (.bl false))) sNil)
    (sSeq (sSet 6 (mCall [0] [none] fn__law_trimmed (aCons (mLc (none) (iRngM1 (mCall [2, 3] [some 0, none] fn__law_pick (aCons (mLend 0) (aCons (mC (.int 14)) aNil)))) (gNameM 4) tYesM (m2 kSub (mCall [2, 3] [some 0, none] fn__law_pick (aCons (mLend 0) (aCons (mC (.int 9)) aNil))) (mC (.int 4))) [4]) aNil)))
    (sSeq (sSet 7 (mCall [0] [none] fn__law_trimmed (aCons (m2 kAdd (mLc (none) (iRngM1 (mCall [2, 3] [some 0, none] fn__law_pick (aCons (mLend 0) (aCons (mC (.int 5)) aNil)))) (gNameM 4) tYesM (m2 kSub (mCall [2, 3] [some 0, none] fn__law_pick (aCons (mLend 0) (aCons (mC (.int 9)) aNil))) (mC (.int 4))) [4]) (mUp (mA kLst (aCons (mC (.int 1)) aNil)))) aNil)))
    (sSeq (sSet 8 (mCall [2, 3, 4, 5] [some 6, some 7] fn_remainder (aCons (mLend 6) (aCons (mLend 7) aNil))))
    (sSeq (sIf (tOrM (Py.tB (m2 kGe (mA (k1 fLen) (aCons (mVar 8) aNil)) (mA (k1 fLen) (aCons (mVar 7) aNil)))) (tNotM (tVal (mCall [] [some 8, none] fn__law_same (aCons (mLend 8) (aCons (mCall [2, 4, 5, 6, 7] [some 6, some 7] fn__law_rest (aCons (mLend 6) (aCons (mLend 7) aNil))) aNil)))))) (sRet (mC (.bl false))) sNil)
    (sSeq (sSet 9 (m2 kAdd (mC (.int 1)) (mCall [2, 3] [some 0, none] fn__law_pick (aCons (mLend 0) (aCons (mC (.int 12)) aNil)))))
    (sSeq (sSet 10 (mCall [2, 4, 5, 6, 7] [some 6, none] fn__law_rest (aCons (mLend 6) (aCons (mCall [1, 2] [some 9] fn_cyclotomic (aCons (mLend 9) aNil)) aNil))))
    (sSeq (sSet 11 (mC .non))
    (sSeq (sIf (Py.tB (m2 kLt (mA (k1 fLen) (aCons (mVar 10) aNil)) (mC (.int 2)))) (sSet 11 (mUp (mA (k1 fSumA) (aCons (mVar 10) aNil)))) sNil)
    (sRet (mCall [] [none, some 11] fn__law_same (aCons (mCall [2] [some 6, some 9] fn_at_root (aCons (mLend 6) (aCons (mLend 9) aNil))) (aCons (mLend 11) aNil))))))))))))))))))
def fn__law_roots : Fn := fnD 12 m__law_roots
/-- def _law_numbers(row): -/
def m__law_numbers : MS := (sSeq (sSet 1 (mUp (mA kTup (aCons (mC (.int 1)) aNil))))
    (sSeq (sFor (some 0) (iTake 0) (gNameM 2) (sSet 1 (mCall [2, 3, 4] [some 1, none] fn__law_times (aCons (mLend 1) (aCons (mUp (m2 kMulT (mA kTup (aCons (mC (.int 1)) aNil)) (mVar 2))) aNil)))))
    (sRet (mMove 1))))
def fn__law_numbers : Fn := fnD 3 m__law_numbers
/-- def _law_tableau(word, many): -/
def m__law_tableau : MS := (sSeq (sSet 2 (mLc (none) (iRngM1 (mFrz 1)) (gNameM 3) tYesM (mUp (mA kLst aNil)) [3]))
    (sSeq (sFor (none) (iRngM1 (mUp (mA (k1 fLen) (aCons (mVar 0) aNil)))) (gNameM 3) (sAppP 2 (pIx 2 (pRoot 2) (m2 kIx (mVar 0) (mVar 3))) (m2 kAdd (mVar 3) (mC (.int 1)))))
    (sRet (mMove 2))))
def fn__law_tableau : Fn := fnD 4 m__law_tableau
/-- def folded(polynomial, turns): -/
def m_folded : MS := (sSeq (sSet 2 (mUp (m2 kMul (mA kLst (aCons (mC (.int 0)) aNil)) (mVar 1))))
    (sSeq (sFor (none) (iRngM1 (mUp (mA (k1 fLen) (aCons (mVar 0) aNil)))) (gNameM 3) (sAugP 2 (pRoot 2) (m2 kMod (mA (k1 fInt) (aCons (mVar 3) aNil)) (mVar 1)) kPlus (m2 kIx (mVar 0) (mVar 3))))
    (sRet (mUp (mA (k1 fTuple) (aCons (mVar 2) aNil))))))
def fn_folded : Fn := fnD 4 m_folded
/-- def divisors(number): -/
def m_divisors : MS := (sRet (mLc (none) (iRngM2 (mC (.int 1)) (mUp (m2 kAdd (mVar 0) (mC (.int 1))))) (gNameM 1) (Py.tB (m2 kEq (m2 kMod (mA (k1 fInt) (aCons (mVar 0) aNil)) (mVar 1)) (mC (.int 0)))) (mFrz 1) [1]))
def fn_divisors : Fn := fnD 2 m_divisors
/-- def divisor(first, second): -/
def m_divisor : MS := (sSeq (sPar 0 1 (aCons (mUp (mA (k1 fAbs) (aCons (mVar 0) aNil))) (aCons (mUp (mA (k1 fAbs) (aCons (mVar 1) aNil))) aNil)))
    (sSeq (sWhile (Py.tB (m2 kGt (mVar 1) (mC (.int 0)))) (sPar 0 1 (aCons (mFrz 1) (aCons (mUp (m2 kMod (mA (k1 fInt) (aCons (mVar 0) aNil)) (mVar 1))) aNil))) fu)
    (sRet (mMove 0))))
def fn_divisor : Fn := fnD 2 m_divisor
/-- def fixed(polynomial, turns, steps): -/
def m_fixed : MS := (sRet (mCall [2] [some 0, none] fn_at_root (aCons (mLend 0) (aCons (m2 kDiv (mFrz 1) (mCall [0, 1] [none, none] fn_divisor (aCons (mFrz 1) (aCons (mFrz 2) aNil)))) aNil))))
def fn_fixed : Fn := fnD 3 m_fixed
/-- def orbits(polynomial, turns): -/
def m_orbits : MS := (sSeq (sSet 2 (mUp (mA kLst aNil)))
    (sSeq (sFor (none) (iSeqM (mCall [] [some 1] fn_divisors (aCons (mLend 1) aNil))) (gNameM 3) (sSeq (sSet 4 (mCall [] [some 0, some 1, some 3] fn_fixed (aCons (mLend 0) (aCons (mLend 1) (aCons (mLend 3) aNil)))))
    (sSeq (sFor (some 2) (iTake 2) (gTupM 2 (gsConsM (gNameM 5) (gsConsM (gNameM 6) gsNilM))) (sIf (Py.tB (m2 kEq (m2 kMod (mA (k1 fInt) (aCons (mVar 3) aNil)) (mVar 5)) (mC (.int 0)))) (sAug 4 kSub (mUp (m2 kMul (mVar 5) (mVar 6)))) sNil))
    (sAppN 2 (mA kTup (aCons (mFrz 3) (aCons (mUp (m2 kDiv (mVar 4) (mVar 3))) aNil)))))))
    (sRet (mLc (some 2) (iTake 2) (gTupM 2 (gsConsM (gNameM 3) (gsConsM (gNameM 6) gsNilM))) (Py.tB (m2 kNe (mVar 6) (mC (.int 0)))) (mA kTup (aCons (mFrz 3) (aCons (mFrz 6) aNil))) [3, 6]))))
def fn_orbits : Fn := fnD 7 m_orbits
/-- def _law_told(polynomial, lengths, turns): -/
def m__law_told : MS := (sSeq (sIf (tOrM (Py.tB (m2 kNe (mA (k1 fSumA) (aCons (mVar 0) aNil)) (mA (k1 fLen) (aCons (mVar 1) aNil)))) (Py.tB (m2 kNe (mLc (some 0) (iTake 0) (gNameM 3) (Py.tB (m2 kLt (mVar 3) (mC (.int 0)))) (mC (.int 1)) [3]) (mUp (mA kLst aNil))))) (sRet (mC (.bl false))) sNil)
    (sSeq (sFor (none) (iRngM2 (mC (.int 1)) (mUp (m2 kAdd (mVar 2) (mC (.int 1))))) (gNameM 4) (sSeq (sSet 5 (mUp (mLenLc (mVar 1) 6 (Py.tB (m2 kEq (m2 kMod (mA (k1 fInt) (aCons (mVar 4) aNil)) (mVar 6)) (mC (.int 0)))) (mC (.int 1)) [6])))
    (sIf (tNotM (tVal (mCall [] [none, some 5] fn__law_same (aCons (mCall [] [some 0, some 2, some 4] fn_fixed (aCons (mLend 0) (aCons (mLend 2) (aCons (mLend 4) aNil)))) (aCons (mLend 5) aNil))))) (sRet (mC (.bl false))) sNil)))
    (sSeq (sSet 7 (mUp (mA kLst aNil)))
    (sSeq (sFor (none) (iRngM2 (mC (.int 1)) (mUp (m2 kAdd (mVar 2) (mC (.int 1))))) (gNameM 6) (sSeq (sSet 8 (mUp (mLenLc (mVar 1) 3 (Py.tB (m2 kEq (mVar 3) (mVar 6))) (mC (.int 1)) [3])))
    (sIf (Py.tB (m2 kGt (mVar 8) (mC (.int 0)))) (sAppN 7 (mA kTup (aCons (mFrz 6) (aCons (mUp (m2 kDiv (mVar 8) (mVar 6))) aNil)))) sNil)))
    (sSeq (sIf (tNotM (tVal (mCall [] [none, some 7] fn__law_same (aCons (mCall [2, 3, 4, 5, 6] [some 0, some 2] fn_orbits (aCons (mLend 0) (aCons (mLend 2) aNil))) (aCons (mLend 7) aNil))))) (sRet (mC (.bl false))) sNil)
    (sSeq (sSet 9 (mUp (mA kLst aNil)))
    (sSeq (sFor (none) (iRngM1 (mFrz 2)) (gNameM 10) (sAppN 9 (mA (k1 fSumA) (aCons (mLc (some 7) (iTake 7) (gTupM 2 (gsConsM (gNameM 6) (gsConsM (gNameM 11) gsNilM))) (Py.tB (m2 kEq (m2 kMod (mA (k1 fInt) (aCons (mVar 10) aNil)) (m2 kDiv (mVar 2) (mVar 6))) (mC (.int 0)))) (mFrz 11) [6, 11]) aNil))))
    (sRet (mCall [] [none, none] fn__law_same (aCons (mCall [2, 3] [some 0, some 2] fn_folded (aCons (mLend 0) (aCons (mLend 2) aNil))) (aCons (mUp (mA (k1 fTuple) (aCons (mVar 9) aNil))) aNil)))))))))))
def fn__law_told : Fn := fnD 12 m__law_told
/-- def conjugate(partition): -/
def m_conjugate : MS := (sSeq (sPar 1 2 (aCons (mUp (mA kLst aNil)) (aCons (mUp (mA (k1 fLen) (aCons (mVar 0) aNil))) aNil)))
    (sSeq (sFor (none) (iRngM1 (mIf (Py.tB (m2 kGt (mA (k1 fLen) (aCons (mVar 0) aNil)) (mC (.int 0)))) (mUp (m2 kIx (mVar 0) (mC (.int 0)))) (mC (.int 0)))) (gNameM 3) (sSeq (sWhile (Py.tB (m2 kLe (m2 kIx (mVar 0) (m2 kSub (mVar 2) (mC (.int 1)))) (mVar 3))) (sAug 2 kSub (mC (.int 1))) fu)
    (sAppN 1 (mFrz 2))))
    (sRet (mUp (mA (k1 fTuple) (aCons (mVar 1) aNil))))))
def fn_conjugate : Fn := fnD 4 m_conjugate
/-- def hooks(partition): -/
def m_hooks : MS := (sSeq (sSet 1 (mCall [1, 2, 3] [some 0] fn_conjugate (aCons (mLend 0) aNil)))
    (sRet (mLc (none) (iRngM1 (mUp (mA (k1 fLen) (aCons (mVar 0) aNil)))) (gNameM 3) tYesM (mLc (none) (iRngM1 (mUp (m2 kIx (mVar 0) (mVar 3)))) (gNameM 2) tYesM (mUp (m2 kSub (m2 kSub (m2 kAdd (m2 kSub (m2 kIx (mVar 0) (mVar 3)) (mVar 2)) (m2 kIx (mVar 1) (mVar 2))) (mVar 3)) (mC (.int 1)))) [2]) [3])))
def fn_hooks : Fn := fnD 4 m_hooks
/-- def q_number(many): -/
def m_q_number : MS := (sRet (mUp (m2 kMulT (mA kTup (aCons (mC (.int 1)) aNil)) (mVar 0))))
def fn_q_number : Fn := fnD 1 m_q_number
/-- def over_hooks(polynomial, shape): -/
def m_over_hooks : MS := (sSeq (sFor (none) (iSeqM (mCall [1] [some 1] fn_hooks (aCons (mLend 1) aNil))) (gNameM 2) (sFor (some 2) (iTake 2) (gNameM 3) (sSet 0 (mCall [2, 3, 4, 5, 6, 7] [some 0, none] fn_quotient_of (aCons (mLend 0) (aCons (mCall [] [some 3] fn_q_number (aCons (mLend 3) aNil)) aNil))))))
    (sRet (mMove 0)))
def fn_over_hooks : Fn := fnD 4 m_over_hooks
/-- def product_of(first, second): -/
def m_product_of : MS := (sSeq (sSet 2 (mUp (m2 kMul (mA kLst (aCons (mC (.int 0)) aNil)) (m2 kAdd (mA (k1 fLen) (aCons (mVar 0) aNil)) (mA (k1 fLen) (aCons (mVar 1) aNil))))))
    (sSeq (sFor (none) (iRngM1 (mUp (mA (k1 fLen) (aCons (mVar 0) aNil)))) (gNameM 3) (sFor (none) (iRngM1 (mUp (mA (k1 fLen) (aCons (mVar 1) aNil)))) (gNameM 4) (sAugP 2 (pRoot 2) (m2 kAdd (mVar 3) (mVar 4)) kPlus (m2 kMul (m2 kIx (mVar 0) (mVar 3)) (m2 kIx (mVar 1) (mVar 4))))))
    (sRet (mCall [1] [some 2] fn_trimmed (aCons (mLend 2) aNil)))))
def fn_product_of : Fn := fnD 5 m_product_of
/-- def q_factorial(many): -/
def m_q_factorial : MS := (sSeq (sSet 1 (mUp (mA kTup (aCons (mC (.int 1)) aNil))))
    (sSeq (sFor (none) (iRngM2 (mC (.int 1)) (mUp (m2 kAdd (mVar 0) (mC (.int 1))))) (gNameM 2) (sSet 1 (mCall [2, 3, 4] [some 1, none] fn_product_of (aCons (mLend 1) (aCons (mCall [] [some 2] fn_q_number (aCons (mLend 2) aNil)) aNil)))))
    (sRet (mMove 1))))
def fn_q_factorial : Fn := fnD 3 m_q_factorial
/-- def standard_polynomial(shape): -/
def m_standard_polynomial : MS := (sRet (mCall [0, 2, 3] [none, some 0] fn_over_hooks (aCons (mCall [1, 2] [none] fn_q_factorial (aCons (mUp (mA (k1 fSumA) (aCons (mVar 0) aNil))) aNil)) (aCons (mLend 0) aNil))))
def fn_standard_polynomial : Fn := fnD 1 m_standard_polynomial
/-- def _law_standards(shape): -/
def m__law_standards : MS := (sSeq (sSet 1 (mA kLst (aCons (mA kTup (aCons (mUp (mA kTup aNil)) (aCons (mUp (m2 kMulT (mA kTup (aCons (mC (.int 0)) aNil)) (mA (k1 fLen) (aCons (mVar 0) aNil)))) aNil))) aNil)))
    (sSeq (sFor (none) (iRngM1 (mUp (mA (k1 fSumA) (aCons (mVar 0) aNil)))) (gNameM 2) (sSeq (sSet 3 (mUp (mA kLst aNil)))
    (sSeq (sFor (some 1) (iTake 1) (gTupM 2 (gsConsM (gNameM 4) (gsConsM (gNameM 5) gsNilM))) (sFor (none) (iRngM1 (mUp (mA (k1 fLen) (aCons (mVar 0) aNil)))) (gNameM 6) (sIf (tAndM (Py.tB (m2 kLt (m2 kIx (mVar 5) (mVar 6)) (m2 kIx (mVar 0) (mVar 6)))) (tOrM (Py.tB (m2 kEq (mVar 6) (mC (.int 0)))) (Py.tB (m2 kLt (m2 kIx (mVar 5) (mVar 6)) (m2 kIx (mVar 5) (m2 kSub (mVar 6) (mC (.int 1)))))))) (sAppN 3 (mUp (mA kTup (aCons (m2 kAdd (mVar 4) (mA kTup (aCons (mVar 6) aNil))) (aCons (m2 kAdd (m2 kAdd (mSl kSl (mVar 5) oNone (oSome (mVar 6))) (mA kTup (aCons (m2 kAdd (m2 kIx (mVar 5) (mVar 6)) (mC (.int 1))) aNil))) (mSl kSl (mVar 5) (oSome (m2 kAdd (mVar 6) (mC (.int 1)))) oNone)) aNil))))) sNil)))
    (sSet 1 (mFrz 3)))))
    (sRet (mLc (some 1) (iTake 1) (gTupM 2 (gsConsM (gNameM 4) (gsConsM (gNameM 5) gsNilM))) tYesM (mFrz 4) [4, 5]))))
def fn__law_standards : Fn := fnD 7 m__law_standards
/-- def _law_turned_word(word): -/
def m__law_turned_word : MS := (sRet (mUp (m2 kAdd (mSl kSl (mVar 0) (oSome (m1 fNeg (mC (.int 1)))) oNone) (mSl kSl (mVar 0) oNone (oSome (m1 fNeg (mC (.int 1))))))))
def fn__law_turned_word : Fn := fnD 1 m__law_turned_word
/-- def _law_promoted(rows, greatest): -/
def m__law_promoted : MS := (sSeq (sSet 0 (mLc (some 0) (iTake 0) (gNameM 3) tYesM (mLc (some 3) (iTake 3) (gNameM 2) tYesM (mFrz 2) [2]) [3]))
    (sSeq (sIf (Py.tB (m2 kEq (mVar 0) (mA kLst aNil))) (sRet (mMove 0)) sNil)
    (sSeq (sSet 4 (mUp (mLenLc (m2 kIx (mVar 0) (mC (.int 0))) 5 (Py.tB (m2 kEq (mVar 5) (mC (.int 1)))) (mC (.int 1)) [5])))
    (sSeq (sSet 6 (mUp (mA kLst aNil)))
    (sSeq (sFor (none) (iRngM1 (mFrz 4)) (gNameM 7) (sSeq (sSet 8 (mC (.int 0)))
    (sSeq (sSet 9 (mUp (m2 kSub (m2 kSub (mVar 4) (mC (.int 1))) (mVar 7))))
    (sSeq (sFor (none) (iRngM1 (mC (.int 60))) (gNameM 10) (sSeq (sSet 11 (mC (.int 0)))
    (sSeq (sIf (Py.tB (m2 kLt (m2 kAdd (mVar 9) (mC (.int 1))) (mA (k1 fLen) (aCons (m2 kIx (mVar 0) (mVar 8)) aNil)))) (sSet 11 (mUp (m2 kIx (m2 kIx (mVar 0) (mVar 8)) (m2 kAdd (mVar 9) (mC (.int 1)))))) sNil)
    (sSeq (sSet 12 (mC (.int 0)))
    (sSeq (sIf (tAndM (Py.tB (m2 kLt (m2 kAdd (mVar 8) (mC (.int 1))) (mA (k1 fLen) (aCons (mVar 0) aNil)))) (Py.tB (m2 kLt (mVar 9) (mA (k1 fLen) (aCons (m2 kIx (mVar 0) (m2 kAdd (mVar 8) (mC (.int 1)))) aNil))))) (sSet 12 (mUp (m2 kIx (m2 kIx (mVar 0) (m2 kAdd (mVar 8) (mC (.int 1)))) (mVar 9)))) sNil)
    (sSeq (sIf (tAndM (Py.tB (m2 kEq (mVar 11) (mC (.int 0)))) (Py.tB (m2 kEq (mVar 12) (mC (.int 0))))) sBreak sNil)
    (sIf (tOrM (Py.tB (m2 kEq (mVar 11) (mC (.int 0)))) (tAndM (Py.tB (m2 kGt (mVar 12) (mC (.int 0)))) (Py.tB (m2 kLe (mVar 12) (mVar 11))))) (sSeq (sAsg (mFrz 12) (gSubM 0 (pIx 0 (pRoot 0) (mVar 8)) (mVar 9)))
    (sSet 8 (mUp (m2 kAdd (mVar 8) (mC (.int 1)))))) (sSeq (sAsg (mFrz 11) (gSubM 0 (pIx 0 (pRoot 0) (mVar 8)) (mVar 9)))
    (sSet 9 (mUp (m2 kAdd (mVar 9) (mC (.int 1)))))))))))))
    (sSeq (sAsg (mC (.int 0)) (gSubM 0 (pIx 0 (pRoot 0) (mVar 8)) (mVar 9)))
    (sAppN 6 (mA kTup (aCons (mFrz 8) (aCons (mFrz 9) aNil)))))))))
    (sSeq (sSet 13 (mLc (some 0) (iTake 0) (gNameM 3) tYesM (mLc (some 3) (iTake 3) (gNameM 2) tYesM (mUp (m2 kSub (mVar 2) (mC (.int 1)))) [2]) [3]))
    (sSeq (sFor (some 6) (iTake 6) (gTupM 2 (gsConsM (gNameM 8) (gsConsM (gNameM 9) gsNilM))) (sAsg (mFrz 1) (gSubM 13 (pIx 13 (pRoot 13) (mVar 8)) (mVar 9))))
    (sRet (mMove 13)))))))))
def fn__law_promoted : Fn := fnD 14 m__law_promoted
/-- def _law_lengths(things, kind, turns): -/
def m__law_lengths : MS := (sSeq (sSet 3 (mUp (mA kLst aNil)))
    (sSeq (sFor (some 0) (iTake 0) (gNameM 4) (sSeq (sSet 5 (mFrz 4))
    (sSeq (sSet 6 (mC (.int 0)))
    (sSeq (sWhile (tAndM (Py.tB (m2 kLt (mVar 6) (m2 kAdd (mVar 2) (mC (.int 1))))) (tOrM (Py.tB (m2 kEq (mVar 6) (mC (.int 0)))) (Py.tB (m2 kNe (mVar 5) (mVar 4))))) (sSeq (sIf (Py.tB (m2 kEq (mVar 1) (mC (.str "words")))) (sSet 5 (mCall [] [some 5] fn__law_turned_word (aCons (mLend 5) aNil))) (sSet 5 (mCall [0, 4, 6, 7, 8, 9, 10, 11, 12, 13] [none, some 2] fn__law_promoted (aCons (mFrz 5) (aCons (mLend 2) aNil)))))
    (sSet 6 (mUp (m2 kAdd (mVar 6) (mC (.int 1)))))) fu)
    (sAppN 3 (mFrz 6))))))
    (sRet (mMove 3))))
def fn__law_lengths : Fn := fnD 7 m__law_lengths
/-- def contents(partition): -/
def m_contents : MS := (sRet (mLc (none) (iRngM1 (mUp (mA (k1 fLen) (aCons (mVar 0) aNil)))) (gNameM 2) tYesM (mLc (none) (iRngM1 (mUp (m2 kIx (mVar 0) (mVar 2)))) (gNameM 1) tYesM (mUp (m2 kSub (mVar 1) (mVar 2))) [1]) [2]))
def fn_contents : Fn := fnD 3 m_contents
/-- def letters_polynomial(shape, greatest): -/
def m_letters_polynomial : MS := (sSeq (sSet 2 (mUp (mA kTup (aCons (mC (.int 1)) aNil))))
    (sSeq (sFor (none) (iSeqM (mCall [] [some 0] fn_contents (aCons (mLend 0) aNil))) (gNameM 3) (sFor (some 3) (iTake 3) (gNameM 4) (sSet 2 (mCall [2, 3, 4] [some 2, none] fn_product_of (aCons (mLend 2) (aCons (mCall [] [none] fn_q_number (aCons (mUp (m2 kAdd (mVar 1) (mVar 4))) aNil)) aNil))))))
    (sRet (mIf (Py.tB (m2 kGt (mA (k1 fLen) (aCons (mVar 2) aNil)) (mC (.int 0)))) (mCall [0, 2, 3] [none, some 0] fn_over_hooks (aCons (mFrz 2) (aCons (mLend 0) aNil))) (mUp (mA kTup aNil))))))
def fn_letters_polynomial : Fn := fnD 5 m_letters_polynomial
/-- def words_polynomial(counts): -/
def m_words_polynomial : MS := (sSeq (sSet 1 (mCall [1, 2] [none] fn_q_factorial (aCons (mUp (mA (k1 fSumA) (aCons (mVar 0) aNil))) aNil)))
    (sSeq (sFor (some 0) (iTake 0) (gNameM 2) (sSet 1 (mCall [2, 3, 4, 5, 6, 7] [some 1, none] fn_quotient_of (aCons (mLend 1) (aCons (mCall [1, 2] [some 2] fn_q_factorial (aCons (mLend 2) aNil)) aNil)))))
    (sRet (mMove 1))))
def fn_words_polynomial : Fn := fnD 3 m_words_polynomial
/-- def _law_hooks(shape): -/
def m__law_hooks : MS := (sSeq (sSet 1 (mUp (mA kLst aNil)))
    (sSeq (sFor (none) (iRngM1 (mUp (mA (k1 fLen) (aCons (mVar 0) aNil)))) (gNameM 2) (sSet 1 (m2 kAdd (mFrz 1) (mLc (none) (iRngM1 (mUp (m2 kIx (mVar 0) (mVar 2)))) (gNameM 4) tYesM (mUp (m2 kAdd (m2 kSub (m2 kIx (mVar 0) (mVar 2)) (mVar 4)) (mLenLc (mSl kSl (mVar 0) (oSome (m2 kAdd (mVar 2) (mC (.int 1)))) oNone) 3 (Py.tB (m2 kGt (mVar 3) (mVar 4))) (mC (.int 1)) [3]))) [4]))))
    (sRet (mMove 1))))
def fn__law_hooks : Fn := fnD 5 m__law_hooks
/-- def law(script): -/
def m_law : MS := (sSeq (sSet 1 (mCall [] [some 0] fn__law_start (aCons (mLend 0) aNil)))
    (sSeq (sSet 2 (m2 kIx (mA kLst (aCons (mUp (mA kTup (aCons (mC (.int 1)) aNil))) (aCons (mUp (mA kTup (aCons (mC (.int 2)) aNil))) (aCons (mUp (mA kTup (aCons (mC (.int 4)) aNil))) (aCons (mUp (mA kTup (aCons (mC (.int 2)) (aCons (mC (.int 2)) aNil)))) (aCons (mUp (mA kTup (aCons (mC (.int 1)) (aCons (mC (.int 1)) (aCons (mC (.int 1)) aNil))))) (aCons (mUp (mA kTup (aCons (mC (.int 3)) (aCons (mC (.int 3)) aNil)))) (aCons (mUp (mA kTup (aCons (mC (.int 2)) (aCons (mC (.int 2)) (aCons (mC (.int 2)) aNil))))) (aCons (mUp (mA kTup (aCons (mC (.int 4)) (aCons (mC (.int 4)) aNil)))) (aCons (mUp (mA kTup (aCons (mC (.int 3)) (aCons (mC (.int 3)) (aCons (mC (.int 3)) aNil))))) (aCons (mUp (mA kTup (aCons (mC (.int 5)) (aCons (mC (.int 5)) aNil)))) (aCons (mUp (mA kTup (aCons (mC (.int 2)) (aCons (mC (.int 2)) (aCons (mC (.int 2)) (aCons (mC (.int 2)) aNil)))))) (aCons (mUp (mA kTup (aCons (mC (.int 1)) (aCons (mC (.int 1)) (aCons (mC (.int 1)) (aCons (mC (.int 1)) aNil)))))) aNil))))))))))))) (mCall [2, 3] [some 1, none] fn__law_pick (aCons (mLend 1) (aCons (mC (.int 12)) aNil)))))
    (sSeq (sSet 3 (mUp (mA (k1 fSumA) (aCons (mVar 2) aNil))))
    (sSeq (sIf (Py.tB (m2 kNe (mCall [2, 3, 4] [none, none] fn__law_times (aCons (mCall [] [some 2] fn_standard_polynomial (aCons (mLend 2) aNil)) (aCons (mCall [1, 2] [none] fn__law_numbers (aCons (mCall [1, 2] [some 2] fn__law_hooks (aCons (mLend 2) aNil)) aNil)) aNil))) (mCall [1, 2] [none] fn__law_numbers (aCons (mUp (mLRg (mC (.int 1)) (m2 kAdd (mVar 3) (mC (.int 1))))) aNil)))) (sRet (mC (.bl false))) sNil)
    (sSeq (sSet 4 (mLc (none) (iSeqM (mCall [1, 2, 3, 4, 5, 6] [some 2] fn__law_standards (aCons (mLend 2) aNil))) (gNameM 5) tYesM (mCall [2, 3] [some 5, none] fn__law_tableau (aCons (mLend 5) (aCons (mUp (mA (k1 fLen) (aCons (mVar 2) aNil))) aNil))) [5]))
    (sSeq (sIf (tNotM (tVal (mCall [4, 5, 6, 7, 8, 9, 10] [none, none, some 3] fn__law_told (aCons (mCall [] [some 2] fn_standard_polynomial (aCons (mLend 2) aNil)) (aCons (mCall [3, 4, 5, 6] [some 4, none, some 3] fn__law_lengths (aCons (mLend 4) (aCons (mC (.str "tableaux")) (aCons (mLend 3) aNil)))) (aCons (mLend 3) aNil)))))) (sRet (mC (.bl false))) sNil)
    (sSeq (sSet 6 (m2 kAdd (mC (.int 1)) (mCall [2, 3] [some 1, none] fn__law_pick (aCons (mLend 1) (aCons (mC (.int 4)) aNil)))))
    (sSeq (sSet 7 (m2 kIx (mA kLst (aCons (mUp (mA kTup (aCons (mC (.int 1)) aNil))) (aCons (mUp (mA kTup (aCons (mC (.int 3)) aNil))) (aCons (mUp (mA kTup (aCons (mC (.int 2)) (aCons (mC (.int 2)) aNil)))) (aCons (mUp (mA kTup (aCons (mC (.int 1)) (aCons (mC (.int 1)) aNil)))) (aCons (mUp (mA kTup (aCons (mC (.int 1)) (aCons (mC (.int 1)) (aCons (mC (.int 1)) aNil))))) (aCons (mUp (mA kTup (aCons (mC (.int 2)) (aCons (mC (.int 2)) (aCons (mC (.int 2)) aNil))))) (aCons (mUp (mA kTup (aCons (mC (.int 3)) (aCons (mC (.int 3)) aNil)))) aNil)))))))) (mCall [2, 3] [some 1, none] fn__law_pick (aCons (mLend 1) (aCons (mC (.int 7)) aNil)))))
    (sSeq (sSet 8 (mUp (mA kLst aNil)))
    (sSeq (sFor (none) (iRngM1 (mUp (mA (k1 fLen) (aCons (mVar 7) aNil)))) (gNameM 9) (sSet 8 (m2 kAdd (mFrz 8) (mLc (none) (iRngM1 (mUp (m2 kIx (mVar 7) (mVar 9)))) (gNameM 10) tYesM (mUp (mA (k2 fMax2) (aCons (mC (.int 0)) (aCons (m2 kSub (m2 kAdd (mVar 6) (mVar 10)) (mVar 9)) aNil)))) [10]))))
    (sSeq (sIf (Py.tB (m2 kNe (mCall [2, 3, 4] [none, none] fn__law_times (aCons (mCall [2, 3, 4] [some 7, some 6] fn_letters_polynomial (aCons (mLend 7) (aCons (mLend 6) aNil))) (aCons (mCall [1, 2] [none] fn__law_numbers (aCons (mCall [1, 2] [some 7] fn__law_hooks (aCons (mLend 7) aNil)) aNil)) aNil))) (mCall [1, 2] [some 8] fn__law_numbers (aCons (mLend 8) aNil)))) (sRet (mC (.bl false))) sNil)
    (sSeq (sSet 11 (mCall [2, 3, 4, 5, 6, 7, 8, 9] [some 7, some 6] fn__law_all (aCons (mLend 7) (aCons (mLend 6) aNil))))
    (sSeq (sIf (tNotM (tVal (mCall [4, 5, 6, 7, 8, 9, 10] [none, none, some 6] fn__law_told (aCons (mCall [2, 3, 4] [some 7, some 6] fn_letters_polynomial (aCons (mLend 7) (aCons (mLend 6) aNil))) (aCons (mCall [3, 4, 5, 6] [some 11, none, some 6] fn__law_lengths (aCons (mLend 11) (aCons (mC (.str "tableaux")) (aCons (mLend 6) aNil)))) (aCons (mLend 6) aNil)))))) (sRet (mC (.bl false))) sNil)
    (sSeq (sSet 12 (mA (k1 fTuple) (aCons (mLc (none) (iRngM1 (mC (.int 3))) (gNameM 13) tYesM (mCall [2, 3] [some 1, none] fn__law_pick (aCons (mLend 1) (aCons (mC (.int 4)) aNil))) [13]) aNil)))
    (sSeq (sIf (Py.tB (m2 kEq (mA (k1 fSumA) (aCons (mVar 12) aNil)) (mC (.int 0)))) (sRet (mAndV (m2 kEq (mCall [1, 2] [none] fn_words_polynomial (aCons (mUp (mA kTup (aCons (mC (.int 0)) (aCons (mC (.int 0)) aNil)))) aNil)) (mUp (mA kTup (aCons (mC (.int 1)) aNil)))) (mAndV (m2 kEq (mCall [] [none] fn_standard_polynomial (aCons (mUp (mA kTup aNil)) aNil)) (mUp (mA kTup (aCons (mC (.int 1)) aNil)))) (mCall [1, 2, 3, 5, 6, 7, 8, 9, 10, 11] [some 1] fn__law_roots (aCons (mLend 1) aNil))))) sNil)
    (sSeq (sSet 14 (mA kLst (aCons (mUp (mA kTup aNil)) aNil)))
    (sSeq (sFor (none) (iRngM1 (mUp (mA (k1 fSumA) (aCons (mVar 12) aNil)))) (gNameM 15) (sSeq (sSet 16 (mUp (mA kLst aNil)))
    (sSeq (sFor (some 14) (iTake 14) (gNameM 5) (sFor (none) (iRngM1 (mUp (mA (k1 fLen) (aCons (mVar 12) aNil)))) (gNameM 13) (sIf (Py.tB (m2 kLt (mLenLc (mVar 5) 17 (Py.tB (m2 kEq (mVar 17) (mVar 13))) (mC (.int 1)) [17]) (m2 kIx (mVar 12) (mVar 13)))) (sAppN 16 (mUp (m2 kAdd (mVar 5) (mA kTup (aCons (mVar 13) aNil))))) sNil)))
    (sSet 14 (mFrz 16)))))
    (sSeq (sIf (tAndM (Py.tB (m2 kLt (mA (k1 fLen) (aCons (mVar 14) aNil)) (mC (.int 700)))) (tNotM (tVal (mCall [4, 5, 6, 7, 8, 9, 10] [none, none, none] fn__law_told (aCons (mCall [1, 2] [some 12] fn_words_polynomial (aCons (mLend 12) aNil)) (aCons (mCall [3, 4, 5, 6] [some 14, none, none] fn__law_lengths (aCons (mLend 14) (aCons (mC (.str "words")) (aCons (mUp (mA (k1 fSumA) (aCons (mVar 12) aNil))) aNil)))) (aCons (mUp (mA (k1 fSumA) (aCons (mVar 12) aNil))) aNil))))))) (sRet (mC (.bl false))) sNil)
    (sSeq (sSet 18 (mA (k1 fTuple) (aCons (mLc (none) (iRngM1 (mC (.int 3))) (gNameM 13) tYesM (m2 kAdd (mC (.int 1)) (mCall [2, 3] [some 1, none] fn__law_pick (aCons (mLend 1) (aCons (mC (.int 5)) aNil)))) [13]) aNil)))
    (sSeq (sSet 19 (mUp (mA kTup (aCons (mC (.int 1)) aNil))))
    (sSeq (sFor (some 18) (iTake 18) (gNameM 17) (sSet 19 (mCall [2, 3, 4] [some 19, none] fn__law_times (aCons (mLend 19) (aCons (mCall [1, 2] [none] fn__law_numbers (aCons (mUp (mLRg (mC (.int 1)) (m2 kAdd (mVar 17) (mC (.int 1))))) aNil)) aNil)))))
    (sSeq (sIf (Py.tB (m2 kNe (mCall [2, 3, 4] [none, some 19] fn__law_times (aCons (mCall [1, 2] [some 18] fn_words_polynomial (aCons (mLend 18) aNil)) (aCons (mLend 19) aNil))) (mCall [1, 2] [none] fn__law_numbers (aCons (mUp (mLRg (mC (.int 1)) (m2 kAdd (mA (k1 fSumA) (aCons (mVar 18) aNil)) (mC (.int 1))))) aNil)))) (sRet (mC (.bl false))) sNil)
    (sRet (mCall [1, 2, 3, 5, 6, 7, 8, 9, 10, 11] [some 1] fn__law_roots (aCons (mLend 1) aNil)))))))))))))))))))))))))
def fn_law : Fn := fnD 20 m_law

end K89
namespace K89
open PySem PySem.Spec PyProof.Rows L2 Py
def St (d : D) : Prop := ∃ (ns : List Int) (a b c : Int), d = .lst .own [.lst .scr (ns.map .int), .int a, .int b, .int c] ∧ 0 ≤ a ∧ 0 ≤ b ∧ 0 ≤ c ∧ c < 2147483648
theorem St.no {d : D} (h : St d) : d.noOwn = false := by
  obtain ⟨ns, a, b, c, rfl, _⟩ := h
  rfl
theorem noVws_ints (ns : List Int) : noVws (ns.map D.int) = true := by induction ns <;> simp [*]
theorem noOwns_ints (ns : List Int) : noOwns (ns.map D.int) = true := by induction ns <;> simp [*]
theorem pick_all {d : D} {l : Int} {Q : D → Sg → Prop} (h : St d) (h0 : 0 < l) (h1 : l < 1073741824) (hQ : ∀ (r : Int) (st : D) (o1 o2 o3 : Option D), 0 ≤ r → r < l → St st → Q (.int r) [some st, o1, o2, o3]) : wF fn__law_pick [d, .int l] Q := by
  obtain ⟨ns, a, b, c, rfl, ha, hb, hc, hc2⟩ := h
  unfold fn__law_pick m__law_pick
  rw [wF_D]
  refine wS_cut (fun σ => ∃ (a b c : Int) (o1 o2 : Option D), σ = [some (.lst .own [.lst .scr (ns.map .int), .int a, .int b, .int c]), some (.int l), o1, o2] ∧ 0 ≤ a ∧ 0 ≤ b ∧ 0 ≤ c ∧ c < 2147483648) ?_ ?_
  · by_cases hb0 : b = 0
    · by_cases ha1 : a < ns.length
      · subst hb0
        obtain ⟨k, rfl⟩ := Int.eq_ofNat_of_zero_le ha
        have hk : k < ns.length := by omega
        have hm : (c * 48271 + (if ns[k] < 0 then -ns[k] else ns[k])) % 2147483646 < 2147483646 := Int.emod_lt_of_pos _ (by omega)
        have hm0 : 0 ≤ (c * 48271 + (if ns[k] < 0 then -ns[k] else ns[k])) % 2147483646 := Int.emod_nonneg _ (by omega)
        have hab : 0 ≤ (if ns[k] < 0 then -ns[k] else ns[k]) := by split <;> omega
        simp [atI, ixN, hk]
        generalize (if ns[k] < 0 then -ns[k] else ns[k]) = v at *
        by_cases hc1 : 1000000000000000000 ≤ v
        · exact .inr ⟨hc1, _, _, _, ⟨rfl, rfl, rfl⟩, by omega, hab, hc, hc2⟩
        · exact .inl ⟨by omega, _, _, _, ⟨rfl, rfl, rfl⟩, by omega, Int.le_refl 0, by omega, by omega⟩
      · simp [atI, ixN, hb0, ha1]
        exact ⟨_, _, _, ⟨rfl, rfl, rfl⟩, ha, Int.le_refl 0, hc, hc2⟩
    · simp [atI, ixN, hb0]
      exact ⟨_, _, _, ⟨rfl, rfl, rfl⟩, ha, hb, hc, hc2⟩
  · rintro σ ⟨a, b, c, o1, o2, rfl, ha, hb, hc, hc2⟩
    by_cases hb0 : 0 < b
    · simp [atI, ixN, hb0, kMod_int h0, kDiv_int h0 h1]
      exact hQ _ _ _ _ _ (Int.emod_nonneg _ (by omega)) (Int.emod_lt_of_pos _ h0) ⟨ns, a, b / l, c, rfl, ha, Int.ediv_nonneg hb (by omega), hc, hc2⟩
    · have hm : (c * 48271) % 2147483647 < 2147483647 := Int.emod_lt_of_pos _ (by omega)
      have hm0 : 0 ≤ (c * 48271) % 2147483647 := Int.emod_nonneg _ (by omega)
      have hn : ((c * 48271) % 2147483647).natAbs < 18446744073709551616 := by omega
      simp [atI, ixN, hb0, kMod_int h0, kMul_intR hn]
      exact hQ _ _ _ _ _ (Int.emod_nonneg _ (by omega)) (Int.emod_lt_of_pos _ h0) ⟨ns, a, b, _, rfl, ha, hb, hm0, by omega⟩
mutual
/-- data that are told: None, bools, ints, tuples of such -/
def Pl : Nat → D → Prop
  | _, .non => True
  | _, .bl _ => True
  | _, .int _ => True
  | n + 1, .tup xs => xs.length ≤ 1000000 ∧ Pls n xs
  | _, _ => False
def Pls : Nat → List D → Prop
  | _, [] => True
  | n, x :: xs => Pl n x ∧ Pls n xs
end
theorem pls_mem {n : Nat} : ∀ {xs : List D}, Pls n xs → ∀ x ∈ xs, Pl n x
  | [], _, _, m => nomatch m
  | x :: xs, h, y, m => by
    rcases List.mem_cons.mp m with e | m
    · subst e; exact h.1
    · exact pls_mem h.2 y m
theorem pls_of {n : Nat} : ∀ {xs : List D}, (∀ x ∈ xs, Pl n x) → Pls n xs
  | [], _ => trivial
  | x :: xs, h => ⟨h x List.mem_cons_self, pls_of fun y m => h y (List.mem_cons_of_mem _ m)⟩
mutual
theorem Pl.gr : ∀ {n : Nat} {d : D}, Pl n d → d.noOwn = true ∧ d.noVw = true
  | _, .non, _ => ⟨rfl, rfl⟩
  | _, .bl _, _ => ⟨rfl, rfl⟩
  | _, .int _, _ => ⟨rfl, rfl⟩
  | n + 1, .tup xs, h => Pls.gr (xs := xs) h.2
  | 0, .tup _, h => h.elim
  | 0, .str _, h => h.elim
  | _ + 1, .str _, h => h.elim
  | 0, .lst _ _, h => h.elim
  | _ + 1, .lst _ _, h => h.elim
theorem Pls.gr : ∀ {n : Nat} {xs : List D}, Pls n xs → noOwns xs = true ∧ noVws xs = true
  | _, [], _ => ⟨rfl, rfl⟩
  | n, x :: xs, h => by
    obtain ⟨a, b⟩ := Pl.gr h.1
    obtain ⟨c, d⟩ := Pls.gr h.2
    simp [a, b, c, d]
end
theorem same_go : ∀ (n : Nat) (d : D), Pl n d → ret (fnR 3 m__law_same (n + 1)) [d, d] = some (.bl true) := by
  intro n
  induction n with
  | zero =>
    intro d h
    apply ret_of
    unfold fnR m__law_same
    cases d with
    | tup xs => exact h.elim
    | str x => exact h.elim
    | lst f xs => exact h.elim
    | _ => simp
  | succ n ih =>
    intro d h
    apply ret_of
    show wF (fnD 3 (m__law_same (fnR 3 m__law_same (n + 1)))) _ _
    generalize fnR 3 m__law_same (n + 1) = self at ih ⊢
    unfold m__law_same
    cases d with
    | str x => exact h.elim
    | lst f xs => exact h.elim
    | tup xs =>
      have hl : okR (xs.length : Int) = true := by
        have := h.1
        unfold okR
        simp
        omega
      simp [hl]
      refine wC_none (fun d hd => ?_) (fun σ' w => ?_)
      · obtain ⟨k, hk, rfl⟩ := up_mem hd
        have hx : xs[k]? = some xs[k] := List.getElem?_eq_getElem hk
        have hp := pls_mem h.2 _ (List.getElem_mem hk)
        have hr := ih _ hp
        simp [wipeD, atI_at (i := (k : Int)) rfl hx, hp.gr, wF_ret hr]
      · simp [w, kEq_lnil, unwipe_wipe]
    | _ => simp
mutual
theorem Pl.mono : ∀ {n : Nat} {d : D}, Pl n d → Pl (n + 1) d
  | _, .non, _ => trivial
  | _, .bl _, _ => trivial
  | _, .int _, _ => trivial
  | n + 1, .tup xs, h => ⟨h.1, Pls.mono h.2⟩
  | 0, .tup _, h => h.elim
  | 0, .str _, h => h.elim
  | _ + 1, .str _, h => h.elim
  | 0, .lst _ _, h => h.elim
  | _ + 1, .lst _ _, h => h.elim
theorem Pls.mono : ∀ {n : Nat} {xs : List D}, Pls n xs → Pls (n + 1) xs
  | _, [], _ => trivial
  | n, x :: xs, h => ⟨Pl.mono h.1, Pls.mono h.2⟩
end
theorem same_refl {d : D} (h : Pl 5 d) : ret fn__law_same [d, d] = some (.bl true) := same_go 5 d h
def okB (d : D) : Prop := d = .non ∨ ∃ i, d = .int i
theorem okB.no {d : D} (h : okB d) : d.noOwn = true ∧ d.noVw = true := by
  rcases h with rfl | ⟨i, rfl⟩ <;> exact ⟨rfl, rfl⟩
/-- what is above: None, or a row as long at least whose boxes are letters or None -/
def AbOk (ab : D) (row : List D) : Prop := ab = .non ∨ ∃ av, ab = .tup av ∧ row.length ≤ av.length ∧ (∀ j < av.length, okB (av.getD j .non)) ∧ noOwns av = true
theorem AbOk.no {ab : D} {row : List D} (h : AbOk ab row) : ab.noOwn = true := by
  rcases h with rfl | ⟨av, rfl, hl, ho, hn⟩
  · rfl
  · exact hn
@[simp] theorem gB_n {o : Option D} {σ : Sg} : gB none o σ = σ := by cases o <;> rfl
@[simp] theorem gB_sn {i : Nat} {σ : Sg} : gB (some i) none σ = σ := rfl
@[simp] theorem gB_ss {i : Nat} {d : D} {σ : Sg} : gB (some i) (some d) σ = σ.set i (some d) := rfl
theorem okR_len {n : Nat} (h : n ≤ 1000000) : okR (n : Int) = true := by
  unfold okR
  simp
  omega
theorem wGs_cc {g : MG} {gs : MGs} {d : D} {r : List D} {σ : Sg} {Q : Sg → Prop} : wGs (gsConsM g gs) (d :: r) σ Q ↔ wG g d σ fun σ1 => wGs gs r σ1 Q := by
  rw [wGs_cons]
  constructor
  · rintro ⟨_, _, e, h⟩
    cases e
    exact h
  · exact fun h => ⟨_, _, rfl, h⟩
@[simp] theorem kTup_i {i : Int} : kTup [.int i] = some (.tup [.int i]) := kTup_one rfl
@[simp] theorem kTup_ii {i j : Int} : kTup [.int i, .int j] = some (.tup [.int i, .int j]) := kTup_two rfl rfl
@[simp] theorem kTup_iii {i j l : Int} : kTup [.int i, .int j, .int l] = some (.tup [.int i, .int j, .int l]) := kTup_three rfl rfl rfl
theorem noOwns_app {xs ys : List D} : noOwns (xs ++ ys) = (noOwns xs && noOwns ys) := by
  rw [noOwns_all, noOwns_all, noOwns_all, List.all_append]
section
variable {α : Type} {g : MG} {m : MS} {t : MT} {a : M} {vs : List Nat} {σ : Sg} {Q : Fo → Sg → Prop} {QA : List D → Sg → Prop}
/-- a comprehension over l, each item of which is told by dec -/
theorem wC_typ (l : List α) (dec : α → D) (p : α → Bool) (f : α → D) (h : ∀ x ∈ l, wG g (dec x) (wipeD σ vs) fun σ1 => wT t σ1 fun k σ2 => k = p x ∧ if k = true then wE a σ2 fun y σ3 => y = f x ∧ wipeD σ3 vs = wipeD σ vs else wipeD σ2 vs = wipeD σ vs)
    (hQ : ∀ σ', wipeD σ' vs = wipeD σ vs → QA ((l.filter p).map f) σ') : wC g t a vs (l.map dec) σ QA := by
  have go : ∀ (l : List α) (τ : Sg) (QA : List D → Sg → Prop), wipeD τ vs = wipeD σ vs → (∀ x ∈ l, wG g (dec x) (wipeD σ vs) fun σ1 => wT t σ1 fun k σ2 => k = p x ∧ if k = true then wE a σ2 fun y σ3 => y = f x ∧ wipeD σ3 vs = wipeD σ vs else wipeD σ2 vs = wipeD σ vs) →
      (∀ σ', wipeD σ' vs = wipeD σ vs → QA ((l.filter p).map f) σ') → wC g t a vs (l.map dec) τ QA := by
    intro l
    induction l with
    | nil => exact fun τ QA e _ hQ => wC_nil.mpr (hQ τ e)
    | cons d r ih =>
      intro τ QA e h hQ
      refine wC_cons.mpr ?_
      rw [e]
      obtain ⟨σ1, e1, ⟨k, σ2⟩, e2, ek, z⟩ := h d List.mem_cons_self
      refine ⟨σ1, e1, (k, σ2), e2, ?_⟩
      simp only at ek z ⊢
      cases k with
      | false =>
        simp only [Bool.false_eq_true, if_false] at z ⊢
        refine ih σ2 QA z (fun d m => h d (List.mem_cons_of_mem _ m)) fun σ' w => ?_
        have q := hQ σ' w
        rw [List.filter_cons_of_neg (by rw [← ek]; simp)] at q
        exact q
      | true =>
        simp only [if_true] at z ⊢
        obtain ⟨⟨x, σ3⟩, e3, ex, w3⟩ := z
        refine ⟨(x, σ3), e3, ?_⟩
        simp only at ex w3 ⊢
        refine ih σ3 _ w3 (fun d m => h d (List.mem_cons_of_mem _ m)) fun σ' w => ?_
        have q := hQ σ' w
        rw [List.filter_cons_of_pos (by rw [← ek]), List.map_cons] at q
        rw [ex]
        exact q
  exact go l σ QA rfl h hQ
/-- the same, without a test -/
theorem wC_map (l : List α) (dec f : α → D) (h : ∀ x ∈ l, wG g (dec x) (wipeD σ vs) fun σ1 => wE a σ1 fun y σ3 => y = f x ∧ wipeD σ3 vs = wipeD σ vs)
    (hQ : ∀ σ', wipeD σ' vs = wipeD σ vs → QA (l.map f) σ') : wC g tYesM a vs (l.map dec) σ QA := by
  refine wC_typ l dec (fun _ => true) f (fun x m => ?_) fun σ' w => ?_
  · obtain ⟨σ1, e, z⟩ := h x m
    exact ⟨σ1, e, wT_yes.mpr ⟨rfl, by simpa using z⟩⟩
  · rw [List.filter_eq_self.mpr (fun _ _ => rfl)]
    exact hQ σ' w
theorem wL_typ {P : List α → Sg → Prop} (dec : α → D) (h0 : ∀ σ, P [] σ → Q .nx σ) (hs : ∀ x r σ, P (x :: r) σ → wG g (dec x) σ fun σ1 => wS m σ1 fun f σ2 => match f with
    | .nx => P r σ2
    | .ct => P r σ2
    | .bk => Q .nx σ2
    | .rt v => Q (.rt v) σ2) : ∀ {l : List α} {σ : Sg}, P l σ → wL g m (l.map dec) σ Q
  | [], σ, h => wL_nil.mpr (h0 σ h)
  | d :: r, σ, h => by
    refine wL_cons.mpr ?_
    obtain ⟨σ1, e1, ⟨⟨f, σ2⟩, e2, z⟩⟩ := hs d r σ h
    refine ⟨σ1, e1, (f, σ2), e2, ?_⟩
    cases f with
    | nx => exact wL_typ dec h0 hs z
    | ct => exact wL_typ dec h0 hs z
    | bk => exact z
    | rt v => exact z
end
abbrev T := List (Nat × List Int)
def cells (r : Nat × List Int) : List D := List.replicate r.1 .non ++ r.2.map .int
def rowD (r : Nat × List Int) : D := .tup (cells r)
def tabD (t : T) : D := .tup (t.map rowD)
def wid (r : Nat × List Int) : Nat := r.1 + r.2.length
def Bd (t : T) : Prop := t.length ≤ 1000 ∧ ∀ r ∈ t, wid r ≤ 1000
theorem noOwns_rep {n : Nat} : noOwns (List.replicate n D.non) = true := by induction n <;> simp_all [List.replicate_succ]
theorem noVws_rep' {n : Nat} : noVws (List.replicate n D.non) = true := by induction n <;> simp_all [List.replicate_succ]
theorem grs_cells (r : Nat × List Int) : Grs (cells r) := ⟨by unfold cells; rw [noOwns_app, noOwns_rep, noOwns_ints]; rfl, by unfold cells; rw [noVws_append, noVws_rep', noVws_ints]; rfl⟩
theorem grs_rows (t : T) : Grs (t.map rowD) := grs_iff.mpr fun d m => by
  obtain ⟨r, _, rfl⟩ := List.mem_map.mp m
  exact grs_cells r
section
variable {r : Nat × List Int} {t : T} {i : Int}
@[simp] theorem cells_len : (cells r).length = wid r := by simp [cells, wid]
@[simp] theorem view_rowD : (rowD r).view = rowD r := view_of (grs_cells r).1
@[simp] theorem frz_rowD : (rowD r).frz = rowD r := frz_of (grs_cells r).1
@[simp] theorem noOwn_rowD : (rowD r).noOwn = true := (grs_cells r).1
@[simp] theorem noVw_rowD : (rowD r).noVw = true := (grs_cells r).2
@[simp] theorem items_rowD : (rowD r).items = some (cells r) := by rw [rowD]; exact items_tup
@[simp] theorem fLen_rowD : fLen (rowD r) = some (.int (wid r)) := by rw [rowD, fLen_tup, cells_len]
@[simp] theorem kIx_rowD : kIx (rowD r) (.int i) = atI (cells r) i := by rw [rowD, kIx_tup]
@[simp] theorem kSl_rowD {lo hi : Option Int} : kSl (rowD r) lo hi = some (.tup (cutD (cells r) lo hi)) := by rw [rowD, kSl_tup]
@[simp] theorem isN_rowD : (rowD r).isN = false := by rw [rowD]; exact isN_tup
@[simp] theorem view_tabD : (tabD t).view = tabD t := view_of (grs_rows t).1
@[simp] theorem frz_tabD : (tabD t).frz = tabD t := frz_of (grs_rows t).1
@[simp] theorem noOwn_tabD : (tabD t).noOwn = true := (grs_rows t).1
@[simp] theorem noVw_tabD : (tabD t).noVw = true := (grs_rows t).2
@[simp] theorem items_tabD : (tabD t).items = some (t.map rowD) := by rw [tabD]; exact items_tup
@[simp] theorem fLen_tabD : fLen (tabD t) = some (.int t.length) := by rw [tabD, fLen_tup, List.length_map]
@[simp] theorem kIx_tabD : kIx (tabD t) (.int i) = atI (t.map rowD) i := by rw [tabD, kIx_tup]
@[simp] theorem isN_tabD : (tabD t).isN = false := by rw [tabD]; exact isN_tup
@[simp] theorem noOwns_rows : noOwns (t.map rowD) = true := (grs_rows t).1
@[simp] theorem noVws_rows : noVws (t.map rowD) = true := (grs_rows t).2
end
theorem Bd.row {t : T} (hb : Bd t) {r : Nat × List Int} (h : r ∈ t) : wid r ≤ 1000 := hb.2 r h
abbrev Bx := Nat × Nat × Int
theorem wS_augR {r : Nat} {a b : M} {f : D → D → Option D} {σ : Sg} {Q : Fo → Sg → Prop} {xs : List D} {i k x : Int} {j : Nat} {z : D} (h1 : σ[r]? = some (some (.lst .own xs))) (h2 : nInt b σ = some i) (h3 : ixN xs.length i = some j) (h4 : xs[j]? = some (.int x)) (h5 : nInt a σ = some k) (h6 : f (.int x) (.int k) = some z)
    (hQ : Q .nx (σ.set r (some (.lst .own (xs.set j z))))) : wS (sAugP r (pRoot r) b f a) σ Q := by
  refine wS_augP.mpr ⟨[], i, x, ?_, ⟨k, h5, z, h6, ?_⟩⟩
  · simp [Py.intAt, pRoot, h1, h2, dAt_nil, h3, h4]
  · simp [h1, h3]
    exact hQ
abbrev Rs := List (List D)
def put1C (R : Rs) (b : Bx) : Rs := R.set b.1 ((R.getD b.1 []).set b.2.1 (.int b.2.2))
def Val (R : Rs) (b : Bx) : Prop := b.1 < R.length ∧ b.2.1 < (R.getD b.1 []).length
theorem put1C_len (R : Rs) (b : Bx) : (put1C R b).length = R.length := by simp [put1C]
theorem put1C_row (R : Rs) (b : Bx) (k : Nat) : ((put1C R b).getD k []).length = (R.getD k []).length := by
  unfold put1C
  by_cases h : b.1 = k
  · subst h
    by_cases h2 : b.1 < R.length
    · simp [h2]
    · rw [List.set_eq_of_length_le (by omega)]
  · simp [List.getD_eq_getElem?_getD, List.getElem?_set_ne h]
theorem Val.put {R : Rs} {b c : Bx} (h : Val R c) : Val (put1C R b) c := ⟨by rw [put1C_len]; exact h.1, by rw [put1C_row]; exact h.2⟩
/-- a value as the law makes them -/
def BV (v : D) : Prop := match v with
  | .tup rows => Grs rows ∧ rows.length ≤ 1000 ∧ ∀ r ∈ rows, match r with
    | .tup row => row.length ≤ 1000 ∧ ∀ i, D.int i ∈ row → i ≤ 1000000
    | _ => True
  | .lst _ _ => False
  | _ => True
theorem BV.no {v : D} (h : BV v) : v.noOwn = true := by
  cases v with
  | tup rows => exact h.1.1
  | lst f xs => exact h.elim
  | _ => rfl
theorem deqs_ints : ∀ a b : List Int, deqs (a.map .int) (b.map .int) = decide (a = b)
  | [], [] => rfl
  | [], b :: bs => rfl
  | a :: as, [] => rfl
  | a :: as, b :: bs => by
    simp only [List.map_cons, deqs, deqs_ints as bs, D.deq]
    by_cases h : a = b <;> by_cases h2 : as = bs <;> simp [h, h2]
theorem kEq_ints {f g : Fl} (a b : List Int) : kEq (.lst f (a.map .int)) (.lst g (b.map .int)) = some (.bl (decide (a = b))) := by
  have h1 : D.fit 60 (.lst f (a.map .int)) = true := (fits_ints : fits 59 _ = true)
  have h2 : D.fit 60 (.lst g (b.map .int)) = true := (fits_ints : fits 59 _ = true)
  rw [kEq, if_pos ⟨h1, h2⟩]
  have : D.deq (.lst f (a.map .int)) (.lst g (b.map .int)) = deqs (a.map .int) (b.map .int) := rfl
  rw [this, deqs_ints]
theorem kEq_nats (a b : Nat) : kEq (.int a) (.int b) = some (.bl (a == b)) := by
  rw [kEq_int]
  congr 2
  apply Bool.eq_iff_iff.mpr
  simp only [beq_iff_eq]
  omega
theorem wC_id {α : Type} {g : MG} {t : MT} {a : M} {vs : List Nat} {σ : Sg} {QA : List D → Sg → Prop} (l : List D) (p : D → Bool) (f : D → D) (h : ∀ x ∈ l, wG g x (wipeD σ vs) fun σ1 => wT t σ1 fun k σ2 => k = p x ∧ if k = true then wE a σ2 fun y σ3 => y = f x ∧ wipeD σ3 vs = wipeD σ vs else wipeD σ2 vs = wipeD σ vs)
    (hQ : ∀ σ', wipeD σ' vs = wipeD σ vs → QA ((l.filter p).map f) σ') : wC g t a vs l σ QA := wC_pure p f h hQ
theorem wE_pick {i : Nat} {σ : Sg} {st : D} {l : Int} {m : M} {Q : D → Sg → Prop} (h : σ[i]? = some (some st)) (hs : St st) (hm : wE m (σ.set i none) fun x τ => x = .int l ∧ τ = σ.set i none) (h0 : 0 < l) (h1 : l < 1073741824) (hQ : ∀ (r : Int) (st' : D), 0 ≤ r → r < l → St st' → Q (.int r) (σ.set i (some st'))) :
    wE (mCall [2, 3] [some i, none] fn__law_pick (aCons (mLend i) (aCons m aNil))) σ Q := by
  rw [wE_Call, wA_cons, wE_lend]
  refine ⟨st, h, ?_⟩
  rw [if_neg (by rw [hs.no]; decide), wA_cons]
  refine wE_mono hm fun x τ hx => ?_
  obtain ⟨rfl, rfl⟩ := hx
  rw [wA_nil]
  refine pick_all hs h0 h1 fun r st' o1 o2 o3 r0 r1 hs' => ?_
  have hi := (List.getElem?_eq_some_iff.mp h).1
  have e : putB [2, 3] 0 [some i, none] [some st', o1, o2, o3] (σ.set i none) = σ.set i (some st') := by
    have e1 : (σ.set i none)[i]? = some none := by rw [List.getElem?_set_self hi]
    simp only [putB]
    rw [if_neg (by decide)]
    simp only [e1, List.set_set]
  rw [e]
  exact hQ r st' r0 r1 hs'
theorem wC_inv {g : MG} {a : M} {vs : List Nat} {QA : List D → Sg → Prop} {I : Sg → Prop} {R : D → Prop} : ∀ {ds : List D} {σ : Sg}, (∀ d ∈ ds, ∀ σ, I (wipeD σ vs) → wG g d (wipeD σ vs) fun σ1 => wE a σ1 fun x σ2 => R x ∧ I (wipeD σ2 vs)) → I (wipeD σ vs) → (∀ xs σ', xs.length = ds.length → (∀ x ∈ xs, R x) → I (wipeD σ' vs) → QA xs σ') → wC g tYesM a vs ds σ QA
  | [], σ, h, hi, hQ => wC_nil.mpr (hQ [] σ rfl (fun x m => nomatch m) hi)
  | d :: ds, σ, h, hi, hQ => by
    refine wC_cons.mpr ?_
    obtain ⟨σ1, e1, ⟨x, σ2⟩, e2, hx, hi2⟩ := h d List.mem_cons_self σ hi
    refine ⟨σ1, e1, wT_yes.mpr ?_⟩
    simp only [if_true]
    refine ⟨(x, σ2), e2, ?_⟩
    refine wC_inv (fun d m => h d (List.mem_cons_of_mem _ m)) hi2 fun xs σ' hl hr hi' => ?_
    exact hQ (x :: xs) σ' (by simp [hl]) (fun y m => by
      rcases List.mem_cons.mp m with rfl | m
      · exact hx
      · exact hr y m) hi'
theorem ints_of : ∀ {xs : List D} {lo hi : Int}, (∀ x ∈ xs, ∃ i, x = .int i ∧ lo ≤ i ∧ i ≤ hi) → ∃ ns : List Int, xs = ns.map .int ∧ ∀ n ∈ ns, lo ≤ n ∧ n ≤ hi
  | [], lo, hi, _ => ⟨[], rfl, fun n m => nomatch m⟩
  | x :: xs, lo, hi, h => by
    obtain ⟨i, rfl, hi'⟩ := h x List.mem_cons_self
    obtain ⟨ns, e, hn⟩ := ints_of fun y m => h y (List.mem_cons_of_mem _ m)
    exact ⟨i :: ns, by rw [e]; rfl, fun n m => by
      rcases List.mem_cons.mp m with rfl | m
      · exact hi'
      · exact hn n m⟩
theorem deq_ints : ∀ d : D, Pl 5 d → d.deq d = true := by
  have go : ∀ (n : Nat) (d : D), Pl n d → d.deq d = true := by
    intro n
    induction n with
    | zero => intro d h; cases d <;> first | exact h.elim | simp [D.deq]
    | succ n ih =>
      intro d h
      cases d with
      | tup xs =>
        have h2 := h.2
        show deqs xs xs = true
        have : ∀ ys : List D, Pls n ys → deqs ys ys = true := by
          intro ys
          induction ys with
          | nil => intro _; rfl
          | cons y ys ih2 => intro hy; simp only [deqs, ih y hy.1, ih2 hy.2, Bool.and_self]
        exact this xs h2
      | str x => exact h.elim
      | lst f xs => exact h.elim
      | _ => simp [D.deq]
  exact fun d h => go 5 d h
theorem wE_pickN {i j : Nat} {σ : Sg} {st : D} {l : Int} {Q : D → Sg → Prop} (h : σ[i]? = some (some st)) (hj : σ[j]? = some (some (.int l))) (hij : i ≠ j) (hs : St st) (h0 : 0 < l) (h1 : l < 1073741824) (hQ : ∀ (r : Int) (st' : D), 0 ≤ r → r < l → St st' → Q (.int r) (σ.set i (some st'))) :
    wE (mCall [2, 3] [some i, some j] fn__law_pick (aCons (mLend i) (aCons (mLend j) aNil))) σ Q := by
  rw [wE_Call, wA_cons, wE_lend]
  refine ⟨st, h, ?_⟩
  rw [if_neg (by rw [hs.no]; decide), wA_cons, wE_lend]
  refine ⟨.int l, by rw [List.getElem?_set_ne hij]; exact hj, ?_⟩
  rw [if_pos noOwn_int, wA_nil]
  refine pick_all hs h0 h1 fun r st' o1 o2 o3 r0 r1 hs' => ?_
  have hi := (List.getElem?_eq_some_iff.mp h).1
  have e : putB [2, 3] 0 [some i, some j] [some st', o1, o2, o3] (σ.set i none) = σ.set i (some st') := by
    have e1 : (σ.set i none)[i]? = some none := by rw [List.getElem?_set_self hi]
    have e2 : (σ.set i (some st'))[j]? = some (some (.int l)) := by rw [List.getElem?_set_ne hij]; exact hj
    simp only [putB]
    rw [if_neg (by decide), if_neg (by decide)]
    simp only [e1, List.set_set, e2]
  rw [e]
  exact hQ r st' r0 r1 hs'
theorem kNe_tints (a b : List Int) : kNe (.tup (a.map .int)) (.tup (b.map .int)) = some (.bl (!decide (a = b))) := by
  have h1 : D.fit 60 (.tup (a.map .int)) = true := (fits_ints : fits 59 _ = true)
  have h2 : D.fit 60 (.tup (b.map .int)) = true := (fits_ints : fits 59 _ = true)
  rw [kNe, if_pos ⟨h1, h2⟩]
  have : D.deq (.tup (a.map .int)) (.tup (b.map .int)) = deqs (a.map .int) (b.map .int) := rfl
  rw [this, deqs_ints]
theorem wF_any {fn : Fn} {ds : List D} {r : D} {Q : D → Sg → Prop} (h : ret fn ds = some r) (hQ : ∀ σc, Q r σc) : wF fn ds Q := by
  unfold Py.ret at h
  unfold wF
  cases e : fn ds with
  | none => rw [e] at h; cases h
  | some p =>
    rw [e] at h
    cases h
    exact ⟨p, rfl, hQ _⟩
/-- a call whose arguments change nothing -/
theorem wE_cr {ws : List Nat} {ld : List (Option Nat)} {fn : Fn} {ma : MA} {σ : Sg} {as : List D} {r : D} {Q : D → Sg → Prop} (h : ret fn as = some r) (hm : wA ma σ fun ds τ => ds = as ∧ τ = σ) (hal : alive ld σ = true) (hQ : Q r σ) : wE (mCall ws ld fn ma) σ Q := by
  rw [wE_Call]
  obtain ⟨⟨ds, τ⟩, e, e1, e2⟩ := hm
  simp only at e1 e2
  subst e1 e2
  refine ⟨_, e, wF_any h fun σc => ?_⟩
  rw [putB_id hal]
  exact hQ
theorem kNe_lints {f g : Fl} (a b : List Int) : kNe (.lst f (a.map .int)) (.lst g (b.map .int)) = some (.bl (!decide (a = b))) := by
  have h' : D.fit 60 (.lst f (a.map .int)) = true := fits_ints
  have h2 : D.fit 60 (.lst g (b.map .int)) = true := fits_ints
  rw [kNe, if_pos ⟨h', h2⟩]
  show some (D.bl !(deqs (a.map .int) (b.map .int))) = _
  rw [deqs_ints]
theorem wS_swap {r a b : Nat} {σ : Sg} {Q : Fo → Sg → Prop} {xs : List D} {i j : Int} {p q : Nat} {dp dq : D} (h1 : σ[r]? = some (some (.lst .own xs))) (h2 : σ[a]? = some (some (.int i))) (h3 : σ[b]? = some (some (.int j)))
    (hp : ixN xs.length i = some p) (hq : ixN xs.length j = some q) (hdp : xs[p]? = some dp) (hdq : xs[q]? = some dq) (hQ : Q .nx (σ.set r (some (.lst .own ((xs.set p dq).set q dp))))) : wS (sSwap r a b) σ Q := by
  unfold wS sSwap
  rw [h1, h2, h3]
  simp only [swapL, hp, hq, hdp, hdq]
  exact ⟨_, rfl, hQ⟩
/-- rows of data, of at most n each -/
def RB (n : Nat) (R : Rs) : Prop := R.length ≤ 10 ∧ ∀ row ∈ R, Grs row ∧ row.length ≤ n ∧ ∀ i, D.int i ∈ row → i ≤ 1000000
theorem RB.mono {n m : Nat} {R : Rs} (h : RB n R) (hm : n ≤ m) : RB m R := ⟨h.1, fun row hr => ⟨(h.2 row hr).1, by have := (h.2 row hr).2.1; omega, (h.2 row hr).2.2⟩⟩
theorem RB.put {n : Nat} {R : Rs} {k : Nat} {row : List D} (h : RB n R) (hr : Grs row ∧ row.length ≤ n ∧ ∀ i, D.int i ∈ row → i ≤ 1000000) : RB n (R.set k row) := ⟨by rw [List.length_set]; exact h.1, fun r m => by
  rcases List.mem_or_eq_of_mem_set m with m | rfl
  · exact h.2 r m
  · exact hr⟩
theorem wE_st {ws : List Nat} {ld : List (Option Nat)} {fn : Fn} {i : Nat} {σ : Sg} {st : D} {ma : MA} {as : List D} {Q : D → Sg → Prop} (P : D → D → Prop) (h : σ[i]? = some (some st)) (hno : st.noOwn = false)
    (hm : wA ma (σ.set i none) fun ds τ => ds = as ∧ τ = σ.set i none) (h0 : 0 ∉ ws) (hal : ∀ st', alive ld (σ.set i (some st')) = true)
    (hf : wF fn (st :: as) fun v σc => ∃ st' r, σc = some st' :: r ∧ P v st') (hQ : ∀ v st', P v st' → Q v (σ.set i (some st'))) :
    wE (mCall ws (some i :: ld) fn (aCons (mLend i) ma)) σ Q := by
  rw [wE_Call, wA_cons, wE_lend]
  refine ⟨st, h, ?_⟩
  rw [if_neg (by rw [hno]; decide)]
  obtain ⟨⟨ds, τ⟩, e, e1, e2⟩ := hm
  simp only at e1 e2
  subst e1 e2
  refine ⟨_, e, ?_⟩
  simp only
  refine wF_mono hf ?_
  rintro v σc ⟨st', r, rfl, hp⟩
  have hi := (List.getElem?_eq_some_iff.mp h).1
  have e1 : (σ.set i none)[i]? = some none := by rw [List.getElem?_set_self hi]
  have e2 : putB ws 0 (some i :: ld) (some st' :: r) (σ.set i none) = σ.set i (some st') := by
    simp only [putB]
    rw [if_neg h0]
    simp only [e1, List.set_set]
    exact putB_id (hal st')
  rw [e2]
  exact hQ v st' hp
theorem pl_ints {n : Nat} {l : List Int} (h : l.length ≤ 1000000) : Pl (n + 1) (.tup (l.map .int)) := ⟨by rw [List.length_map]; exact h, pls_of fun x m => by
  obtain ⟨i, _, rfl⟩ := List.mem_map.mp m
  cases n <;> trivial⟩
theorem start_ret (ns : List Int) : ret fn__law_start [.lst .scr (ns.map .int)] = some (.lst .own [.lst .scr (ns.map .int), .int 0, .int 0, .int 7]) := by
  apply ret_of
  unfold fn__law_start m__law_start
  rw [wF_D]
  have h : kLst [.lst .scr (ns.map .int), .int 0, .int 0, .int 7] = some (.lst .own [.lst .scr (ns.map .int), .int 0, .int 0, .int 7]) := kLst_ok (by simp)
  simp [h]
theorem st_start (ns : List Int) : St (.lst .own [.lst .scr (ns.map .int), .int 0, .int 0, .int 7]) := ⟨ns, 0, 0, 7, rfl, by decide, by decide, by decide, by decide⟩
abbrev LL := List (List Int)
def rowT (r : List Int) : D := .tup (r.map .int)
def rowO (r : List Int) : D := .lst .own (r.map .int)
def rowV (r : List Int) : D := .lst .vw (r.map .int)
def tabS (t : LL) : D := .tup (t.map rowT)
def ownS (t : LL) : D := .lst .own (t.map rowO)
theorem noOwns_tabS : ∀ t : LL, noOwns (t.map rowT) = true
  | [] => rfl
  | r :: t => by
    have h1 : (rowT r).noOwn = true := noOwns_ints r
    simp only [List.map_cons, noOwns, h1, noOwns_tabS t, Bool.and_self]
theorem noVws_tabS : ∀ t : LL, noVws (t.map rowT) = true
  | [] => rfl
  | r :: t => by
    have h1 : (rowT r).noVw = true := noVws_ints r
    simp only [List.map_cons, noVws, h1, noVws_tabS t, Bool.and_self]
@[simp] theorem noOwn_tabS (t : LL) : (tabS t).noOwn = true := noOwns_tabS t
@[simp] theorem noVw_tabS (t : LL) : (tabS t).noVw = true := noVws_tabS t
@[simp] theorem view_tabS (t : LL) : (tabS t).view = tabS t := rfl
@[simp] theorem frz_tabS (t : LL) : (tabS t).frz = tabS t := rfl
@[simp] theorem noOwn_rowT (t : List Int) : (rowT t).noOwn = true := noOwns_ints t
@[simp] theorem noVw_rowT (t : List Int) : (rowT t).noVw = true := noVws_ints t
@[simp] theorem view_rowT (t : List Int) : (rowT t).view = rowT t := rfl
@[simp] theorem frz_rowT (t : List Int) : (rowT t).frz = rowT t := rfl
@[simp] theorem noOwn_rowO (t : List Int) : (rowO t).noOwn = false := rfl
@[simp] theorem noOwn_ownS (t : LL) : (ownS t).noOwn = false := rfl
@[simp] theorem noVw_rowO (t : List Int) : (rowO t).noVw = true := noVws_ints t
theorem noVws_ownS : ∀ t : LL, noVws (t.map rowO) = true
  | [] => rfl
  | r :: t => by
    have h1 : (rowO r).noVw = true := noVws_ints r
    simp only [List.map_cons, noVws, h1, noVws_ownS t, Bool.and_self]
@[simp] theorem view_rowO (t : List Int) : (rowO t).view = rowV t := by
  have : views (t.map D.int) = t.map D.int := views_of (noOwns_ints t)
  simp [rowO, rowV, this]
theorem views_ownS (t : LL) : views (t.map rowO) = t.map rowV := by
  rw [views_map, List.map_map]
  exact List.map_congr_left fun r _ => view_rowO r
@[simp] theorem view_ownS (t : LL) : (ownS t).view = .lst .vw (t.map rowV) := congrArg (D.lst .vw) (views_ownS t)
theorem map_set' {α β : Type} (f : α → β) (l : List α) (k : Nat) (a : α) : (l.map f).set k (f a) = (l.set k a).map f := by rw [List.map_set]
theorem dAt_row {R : LL} {k : Nat} {row : List Int} (h : R[k]? = some row) : dAt (ownS R) [k] = some (rowO row) := by
  unfold ownS
  rw [dAt_cons (x := rowO row) (by rw [List.getElem?_map, h]; rfl)]
  exact dAt_nil
theorem dPut_row {R : LL} {k : Nat} {row : List Int} (h : R[k]? = some row) (row' : List Int) : dPut (ownS R) [k] (rowO row') = ownS (R.set k row') := by
  unfold ownS
  rw [dPut_cons (x := rowO row) (by rw [List.getElem?_map, h]; rfl), dPut_nil, map_set']
theorem wN_of {a : M} {σ : Sg} {i : Int} {Q : Int → Prop} (h : wE a σ fun x _ => x = .int i) (hQ : Q i) : wN a σ Q := by
  obtain ⟨⟨x, σ1⟩, e, e1⟩ := h
  simp only at e1
  subst e1
  exact ⟨i, by unfold nInt; rw [e], hQ⟩
theorem wP_row {r : Nat} {b : M} {σ : Sg} {R : LL} {k : Nat} {QP : List Nat → Prop} (h0 : σ[r]? = some (some (ownS R))) (hb : wE b σ fun x _ => x = .int k) (hk : k < R.length) (hq : QP [k]) : wP (pIx r (pRoot r) b) σ QP := by
  refine wP_ix.mpr (wP_root.mpr ⟨_, h0, _, R.map rowO, h0, dAt_nil, wN_of hb ⟨k, ixN_nat (by simpa using hk), hq⟩⟩)
theorem wU_row {r k : Nat} {σ : Sg} {R : LL} {row : List Int} {Q : List D → (List D → Sg) → Prop} (h0 : σ[r]? = some (some (ownS R))) (hk : R[k]? = some row) (hQ : ∀ put : List D → Sg, (∀ row' : List Int, put (row'.map .int) = σ.set r (some (ownS (R.set k row')))) → Q (row.map .int) put) : wU r [k] σ Q :=
  ⟨ownS R, row.map .int, h0, dAt_row hk, hQ _ fun row' => by
    show σ.set r (some (dPut (ownS R) [k] (rowO row'))) = _
    rw [dPut_row hk]⟩
/-- rows[k][j] = v, the value in hand -/
theorem wG_setRow {r : Nat} {b c : M} {σ : Sg} {Q : Sg → Prop} {R : LL} {k j : Nat} {row : List Int} {v : Int} (h0 : σ[r]? = some (some (ownS R))) (hb : wE b σ fun x _ => x = .int k) (hk : R[k]? = some row) (hc : wE c σ fun x _ => x = .int j)
    (hj : j < row.length) (hQ : Q (σ.set r (some (ownS (R.set k (row.set j v)))))) : wG (gSubM r (pIx r (pRoot r) b) c) (.int v) σ Q := by
  refine wG_sub.mpr (wP_row h0 hb (List.getElem?_eq_some_iff.mp hk).1 (wN_of hc (wU_row h0 hk fun put hp => ⟨j, ixN_nat (by simpa using hj), ?_⟩)))
  rw [map_set', hp]
  exact hQ
/-- rows.append([v]) -/
theorem kIx_row {R : LL} {k : Nat} {row : List Int} (hk : R[k]? = some row) : kIx (.lst .vw (R.map rowV)) (.int (k : Int)) = some (rowV row) := by
  rw [kIx_lst]
  exact atI_at rfl (by rw [List.getElem?_map, hk]; rfl)
theorem kIx_rowV {row : List Int} {j : Nat} {v : Int} (h : row[j]? = some v) : kIx (rowV row) (.int (j : Int)) = some (.int v) := by
  unfold rowV
  rw [kIx_lst]
  exact atI_at rfl (by rw [List.getElem?_map, h]; rfl)
@[simp] theorem ownS_snoc (R : LL) (v : List Int) : D.lst .own (R.map rowO ++ [.lst .own (v.map .int)]) = ownS (R ++ [v]) := by simp [ownS, rowO]
def rowF (r : List Int) : D := .lst .frz (r.map .int)
theorem frzs_rowO (R : LL) : frzs (R.map rowO) = R.map rowF := by
  rw [frzs_map, List.map_map]
  refine List.map_congr_left fun r _ => ?_
  show D.lst .frz (frzs (r.map .int)) = _
  rw [frzs_of (noOwns_ints r)]
  rfl
/-- a list lent, and of what becomes of it nothing is said -/
theorem wE_lendR {ws : List Nat} {fn : Fn} {i : Nat} {σ : Sg} {d r : D} {Q : D → Sg → Prop} (h : σ[i]? = some (some d)) (hf : ret fn [d] = some r) (hQ : ∀ σ', σ'.length = σ.length → (∀ m, m ≠ i → σ'[m]? = σ[m]?) → Q r σ') :
    wE (mCall ws [some i] fn (aCons (mLend i) aNil)) σ Q := by
  rw [wE_Call, wA_cons, wE_lend]
  refine ⟨d, h, ?_⟩
  have key : ∀ τ : Sg, τ.length = σ.length → (∀ m, m ≠ i → τ[m]? = σ[m]?) → wF fn [d] fun r σc => Q r (putB ws 0 [some i] σc τ) := fun τ hl hm => wF_any hf fun σc => by
    cases σc with
    | nil => exact hQ _ hl hm
    | cons o σc =>
      have e : ∀ x : Sg, putB ws (0 + 1) [] σc x = x := fun x => by cases σc <;> rfl
      simp only [putB, e]
      split
      · exact hQ _ hl hm
      · split
        · refine hQ _ (by rw [List.length_set]; exact hl) fun m hmi => ?_
          rw [List.getElem?_set_ne (fun e => hmi e.symm)]
          exact hm m hmi
        · exact hQ _ hl hm
  split
  · rw [wA_nil]
    exact key σ rfl fun _ _ => rfl
  · rw [wA_nil]
    exact key _ (by simp) fun m hm => by rw [List.getElem?_set_ne (fun e => hm e.symm)]
theorem atI_last {α : Type} (l : List α) (a : α) : atI (l ++ [a]) (-1) = some a := by
  have e : ixN (l ++ [a]).length (-1) = some l.length := by
    unfold ixN
    simp
    omega
  unfold atI
  rw [e]
  simp
theorem noOwns_rowF : ∀ t : LL, noOwns (t.map rowF) = true
  | [] => rfl
  | r :: t => by
    have h1 : (rowF r).noOwn = true := noOwns_ints r
    simp only [List.map_cons, noOwns, h1, noOwns_rowF t, Bool.and_self]
theorem pl_int {n : Nat} (i : Int) : Pl n (.int i) := by cases n <;> trivial
theorem pl_rowN {n : Nat} {r : List Int} (h : r.length ≤ 1000000) : Pl (n + 1) (rowT r) := pl_ints (n := n) h
theorem pl_tabN {n : Nat} {t : LL} (h : ∀ r ∈ t, r.length ≤ 1000000) (hl : t.length ≤ 1000000) : Pl (n + 2) (tabS t) := ⟨by rw [List.length_map]; exact hl, pls_of fun x m => by
  obtain ⟨r, hr, rfl⟩ := List.mem_map.mp m
  exact pl_rowN (h r hr)⟩
/-- two reckoned things that are the same -/
theorem wE_same2 {A B : M} {σ : Sg} {Q : D → Sg → Prop} {d : D} (hp : Pl 5 d) (h : wE A σ fun v σ1 => v = d ∧ wE B σ1 fun v2 σ2 => v2 = d ∧ Q (.bl true) σ2) : wE (mCall [] [none, none] fn__law_same (aCons A (aCons B aNil))) σ Q := by
  rw [wE_Call, wA_cons]
  refine wE_mono h ?_
  rintro v σ1 ⟨rfl, h2⟩
  rw [wA_cons]
  refine wE_mono h2 ?_
  rintro v2 σ2 ⟨rfl, h3⟩
  rw [wA_nil]
  refine wF_any (same_refl hp) fun σc => ?_
  have : putB [] 0 [none, none] σc σ2 = σ2 := by
    cases σc with
    | nil => rfl
    | cons a σc => cases σc <;> rfl
  rw [this]
  exact h3
theorem pl_fit : ∀ (n : Nat) (d : D), Pl n d → d.fit n = true
  | _, .non, _ => by unfold D.fit; rfl
  | _, .bl _, _ => by unfold D.fit; rfl
  | _, .int _, _ => by unfold D.fit; rfl
  | 0, .tup xs, h => by cases h
  | n + 1, .tup xs, h => fits_all fun y m => pl_fit n y (pls_mem h.2 y m)
  | 0, .str x, h => by cases h
  | n + 1, .str x, h => by cases h
  | 0, .lst f xs, h => by cases h
  | n + 1, .lst f xs, h => by cases h
theorem pl_le {n : Nat} {d : D} (h : Pl n d) : ∀ k, Pl (n + k) d
  | 0 => h
  | k + 1 => (pl_le h k).mono
theorem kNe_self {d : D} (h : Pl 5 d) : kNe d d = some (.bl false) := by
  have hf := pl_fit 60 d (pl_le h 55)
  rw [kNe, if_pos ⟨hf, hf⟩, deq_ints d h]
  rfl
theorem putB_nn {ws : List Nat} {σc σ : Sg} : putB ws 0 [none, none] σc σ = σ := by
  cases σc with
  | nil => rfl
  | cons a σc => cases σc <;> rfl
/-- what is reckoned first is the same as what a name has -/
theorem wE_same1 {A : M} {i : Nat} {σ : Sg} {Q : D → Sg → Prop} {d : D} (hp : Pl 5 d) (h : wE A σ fun v σ1 => v = d ∧ σ1 = σ) (hi : σ[i]? = some (some d)) (hQ : Q (.bl true) σ) : wE (mCall [] [none, some i] fn__law_same (aCons A (aCons (mLend i) aNil))) σ Q := by
  rw [wE_Call, wA_cons]
  refine wE_mono h ?_
  rintro v σ1 ⟨rfl, rfl⟩
  rw [wA_cons, wE_lend]
  refine ⟨v, hi, ?_⟩
  rw [if_pos (Pl.gr hp).1, wA_nil]
  refine wF_any (same_refl hp) fun σc => ?_
  have : putB [] 0 [none, some i] σc σ1 = σ1 := by
    cases σc with
    | nil => rfl
    | cons a σc =>
      cases σc with
      | nil => rfl
      | cons b σc =>
        have e : ∀ y : Sg, putB [] (0 + 1 + 1) [] σc y = y := fun y => by cases σc <;> rfl
        simp only [putB, e, hi]
        simp
  rw [this]
  exact hQ
theorem wP_rowI {r : Nat} {b : M} {σ : Sg} {R : LL} {i : Int} {k : Nat} {QP : List Nat → Prop} (h0 : σ[r]? = some (some (ownS R))) (hb : wE b σ fun x _ => x = .int i) (hk : ixN R.length i = some k) (hq : QP [k]) : wP (pIx r (pRoot r) b) σ QP :=
  wP_ix.mpr (wP_root.mpr ⟨_, h0, _, R.map rowO, h0, dAt_nil, wN_of hb ⟨k, by rw [List.length_map]; exact hk, hq⟩⟩)
theorem wG_setRowI {r : Nat} {b c : M} {σ : Sg} {Q : Sg → Prop} {R : LL} {i i2 : Int} {k j : Nat} {row : List Int} {v : Int} (h0 : σ[r]? = some (some (ownS R))) (hb : wE b σ fun x _ => x = .int i) (hi : ixN R.length i = some k) (hk : R[k]? = some row) (hc : wE c σ fun x _ => x = .int i2)
    (hj : ixN row.length i2 = some j) (hQ : Q (σ.set r (some (ownS (R.set k (row.set j v)))))) : wG (gSubM r (pIx r (pRoot r) b) c) (.int v) σ Q := by
  refine wG_sub.mpr (wP_rowI h0 hb hi (wN_of hc (wU_row h0 hk fun put hp => ⟨j, by rw [List.length_map]; exact hj, ?_⟩)))
  rw [map_set', hp]
  exact hQ
theorem wA_frzI {i : Nat} {σ : Sg} {d : D} {r : MA} {QA : List D → Sg → Prop} (h : σ[i]? = some (some d)) (hf : d.frz = d) (hq : wA r σ fun xs σ2 => QA (d :: xs) σ2) : wA (aCons (mFrz i) r) σ QA := by
  rw [wA_cons, wE_frz]
  refine ⟨d, h, ?_⟩
  have e : σ.set i (some d) = σ := by
    obtain ⟨h1, h2⟩ := List.getElem?_eq_some_iff.mp h
    rw [← h2, List.set_getElem_self]
  rw [hf, e]
  exact hq
theorem wA_lendI {i : Nat} {σ : Sg} {d : D} {r : MA} {QA : List D → Sg → Prop} (h : σ[i]? = some (some d)) (hn : d.noOwn = true) (hq : wA r σ fun xs σ2 => QA (d :: xs) σ2) : wA (aCons (mLend i) r) σ QA := by
  rw [wA_cons, wE_lend]
  refine ⟨d, h, ?_⟩
  rw [if_pos hn]
  exact hq
theorem noT (t : LL) : (tabS t).noOwn = true := noOwns_tabS t
end K89
namespace K89
open PySem PySem.Spec PyProof.Rows L2 Py
/-! ### polynomials as lists -/
def trim : List Int → List Int
  | [] => []
  | a :: r => match trim r with
    | [] => if a = 0 then [] else [a]
    | b :: t => a :: b :: t
theorem trim_snoc0 : ∀ l : List Int, trim (l ++ [0]) = trim l
  | [] => by simp [trim]
  | a :: l => by
    have ih := trim_snoc0 l
    simp only [List.cons_append, trim, ih]
theorem trim_snoc {x : Int} (hx : x ≠ 0) : ∀ l : List Int, trim (l ++ [x]) = l ++ [x]
  | [] => by simp [trim, hx]
  | a :: l => by
    have ih := trim_snoc hx l
    simp only [List.cons_append, trim, ih]
    cases l <;> rfl
theorem trim_len : ∀ l : List Int, (trim l).length ≤ l.length
  | [] => Nat.le_refl _
  | a :: l => by
    have ih := trim_len l
    simp only [trim]
    split
    · split <;> simp
    · rename_i b t e
      rw [e] at ih
      simp at ih ⊢
      omega
theorem take_snoc {α : Type} {l : List α} {e : Nat} {x : α} (h : l[e]? = some x) : l.take (e + 1) = l.take e ++ [x] := by
  obtain ⟨h1, h2⟩ := List.getElem?_eq_some_iff.mp h
  rw [← h2]
  exact (List.take_append_getElem h1).symm
/-- a list cut back to where its end is not 0 -/
theorem trim_stop {l : List Int} {e : Nat} (he : e ≤ l.length) (ht : trim (l.take e) = trim l) (h : e = 0 ∨ ∃ x, l[e - 1]? = some x ∧ x ≠ 0) : l.take e = trim l := by
  rcases h with rfl | ⟨x, hx, hne⟩
  · rw [← ht]; rfl
  · cases e with
    | zero => rw [← ht]; rfl
    | succ e =>
      rw [← ht, take_snoc (by simpa using hx), trim_snoc hne]
theorem ret_trimmed {l : List Int} (hl : l.length ≤ 500000) : ret fn_trimmed [rowO l] = some (rowT (trim l)) := by
  apply ret_of
  unfold fn_trimmed m_trimmed
  rw [wF_D]
  refine wS_cut (fun σ => σ = [some (rowO l), some (.int l.length)]) (by simp [rowV]) ?_
  rintro σ rfl
  refine wS_cut (fun σ => ∃ e : Nat, e ≤ l.length ∧ l.take e = trim l ∧ σ = [some (rowO l), some (.int e)]) ?_ ?_
  · refine wS_while (P := fun k σ => k ≤ l.length ∧ trim (l.take k) = trim l ∧ σ = [some (rowO l), some (.int k)]) (n := l.length) (by unfold fu; omega) ⟨Nat.le_refl _, by simp, rfl⟩ ?_
    rintro k σ ⟨hk, ht, rfl⟩
    rw [wT_and]
    simp only [wT_B, wE_m2, wE_var, wE_C, List.getElem?_cons_succ, List.getElem?_cons_zero, Option.some.injEq, exists_eq_left', view_int, kGt_int, D.bl.injEq]
    cases k with
    | zero => simp; exact ⟨0, Nat.zero_le _, trim_stop (Nat.zero_le _) ht (.inl rfl), rfl⟩
    | succ k =>
      have hp : (0 : Int) < ((k + 1 : Nat) : Int) := by omega
      obtain ⟨x, hx⟩ : ∃ x, l[k]? = some x := ⟨l[k], List.getElem?_eq_getElem (by omega)⟩
      have e1 : ((k + 1 : Nat) : Int) - 1 = (k : Int) := by omega
      have hi : kIx (rowV l) (.int (k : Int)) = some (.int x) := kIx_rowV hx
      simp only [hp, decide_true, if_true, view_rowO, kSub_int, e1, Option.some.injEq, exists_eq_left', hi, kEq_int, D.bl.injEq]
      by_cases hx0 : x = 0
      · subst hx0
        simp only [beq_self_eq_true, if_true]
        rw [wS_aug]
        refine ⟨_, rfl, ?_⟩
        rw [wE_C]
        refine ⟨_, kSub_int, by simp, k, by omega, by omega, ?_, ?_⟩
        · rw [← ht, take_snoc hx, trim_snoc0]
        · simp [e1]
      · have hb : (x == 0) = false := by simpa using hx0
        simp only [hb, Bool.false_eq_true, if_false]
        exact ⟨trivial, k + 1, hk, trim_stop hk ht (.inr ⟨x, by simpa using hx, hx0⟩), rfl⟩
  rintro σ ⟨e, he, ht, rfl⟩
  have hs : kSl (rowV l) none (some (e : Int)) = some (rowO (trim l)) := by
    unfold rowV
    rw [kSl_lst, Py.cutD_to (by simpa using he), ← List.map_take, ht]
    rfl
  rw [wS_ret, wE_Up, wE_A, wA_cons, wE_Sl, wE_var]
  refine ⟨_, rfl, ?_⟩
  rw [wO_none, wO_some, wE_var]
  refine ⟨_, rfl, _, rfl, _, by rw [view_rowO]; exact hs, ?_⟩
  rw [wA_nil, k1_one]
  exact ⟨_, fTuple_lst (noOwns_ints _), noVw_rowT _, rfl⟩
theorem wS_popL {r : Nat} {σ : Sg} {Q : Fo → Sg → Prop} {xs : List D} (h : σ[r]? = some (some (.lst .own xs))) (hne : xs ≠ []) (hQ : Q .nx (σ.set r (some (.lst .own xs.dropLast)))) : wS (sPopP r (pRoot r)) σ Q :=
  wS_popP.mpr (wP_root.mpr ⟨_, h, .lst .own xs, xs, h, dAt_nil, hne, by simp only [dPut_nil]; exact hQ⟩)
theorem ret_law_trimmed {d : D} {l : List Int} (hd : fList d = some (rowO l)) (hv : d.view = d ∨ d.view.noVw = d.view.noVw) (hf : fList d.view = some (rowO l)) (hl : l.length ≤ 500000) : ret fn__law_trimmed [d] = some (rowT (trim l)) := by
  apply ret_of
  unfold fn__law_trimmed m__law_trimmed
  rw [wF_D]
  refine wS_cut (fun σ => σ = [some (rowO l)]) ?_ ?_
  · rw [wS_set, wE_Up, wE_A, wA_cons, wE_var]
    refine ⟨_, rfl, ?_⟩
    rw [wA_nil, k1_one]
    exact ⟨_, hf, noVw_rowO l, by simp, rfl, rfl⟩
  rintro σ rfl
  refine wS_cut (fun σ => σ = [some (rowO (trim l))]) ?_ ?_
  · refine wS_while (P := fun k σ => k ≤ l.length ∧ trim (l.take k) = trim l ∧ σ = [some (rowO (l.take k))]) (n := l.length) (by unfold fu; omega) ⟨Nat.le_refl _, by simp, by simp⟩ ?_
    rintro k σ ⟨hk, ht, rfl⟩
    have hke : kNe (rowV (l.take k)) (.lst .own []) = some (.bl !((l.take k).map D.int).isEmpty) := by
      unfold rowV
      exact kNe_lnil fits_ints
    rw [wT_and]
    simp only [wT_B, wE_m2, wE_m1, wE_A, wA_nil, wE_var, wE_C, List.getElem?_cons_succ, List.getElem?_cons_zero, Option.some.injEq, exists_eq_left', view_rowO, kLst_nil, hke, D.bl.injEq, fNeg_int]
    cases k with
    | zero => simp; rw [← ht]; rfl
    | succ k =>
      obtain ⟨x, hx⟩ : ∃ x, l[k]? = some x := ⟨l[k], List.getElem?_eq_getElem (by omega)⟩
      have e1 : l.take (k + 1) = l.take k ++ [x] := take_snoc hx
      have hi : kIx (rowV (l.take (k + 1))) (.int (-1)) = some (.int x) := by
        unfold rowV
        rw [e1, List.map_append, kIx_lst]
        exact atI_last _ _
      have hem : (!((l.take (k + 1)).map D.int).isEmpty) = true := by rw [e1]; simp
      simp only [hem, if_true, hi, kEq_int, Option.some.injEq, exists_eq_left', D.bl.injEq]
      by_cases hx0 : x = 0
      · subst hx0
        simp only [beq_self_eq_true, if_true]
        refine wS_popL (xs := (l.take (k + 1)).map D.int) rfl (by rw [e1]; simp) ⟨k, by omega, by omega, ?_, ?_⟩
        · rw [← ht, e1, trim_snoc0]
        · rw [e1]; simp [rowO]
      · have hb : (x == 0) = false := by simpa using hx0
        simp only [hb, Bool.false_eq_true, if_false]
        exact ⟨trivial, by rw [trim_stop hk ht (.inr ⟨x, by simpa using hx, hx0⟩)]⟩
  rintro σ rfl
  rw [wS_ret, wE_Up, wE_A, wA_cons, wE_var]
  refine ⟨_, rfl, ?_⟩
  rw [wA_nil, k1_one, view_rowO]
  exact ⟨_, fTuple_lst (noOwns_ints _), noVw_rowT _, rfl⟩
theorem ret_law_trimO {l : List Int} (hl : l.length ≤ 500000) : ret fn__law_trimmed [rowO l] = some (rowT (trim l)) := ret_law_trimmed rfl (.inr rfl) (by rw [view_rowO]; rfl) hl
theorem ret_law_trimF {l : List Int} (hl : l.length ≤ 500000) : ret fn__law_trimmed [rowF l] = some (rowT (trim l)) := ret_law_trimmed rfl (.inr rfl) rfl hl
/-! ### a times s added from a place on -/
def zipAdd : List Int → Int → List Int → List Int
  | x :: f, a, y :: s => (x + a * y) :: zipAdd f a s
  | f, _, _ => f
def addS : List Int → Nat → Int → List Int → List Int
  | f, 0, a, s => zipAdd f a s
  | x :: f, k + 1, a, s => x :: addS f k a s
  | [], _ + 1, _, _ => []
theorem zipAdd_len : ∀ (f : List Int) (a : Int) (s : List Int), (zipAdd f a s).length = f.length
  | [], _, s => by cases s <;> rfl
  | x :: f, a, [] => rfl
  | x :: f, a, y :: s => by simp [zipAdd, zipAdd_len f a s]
theorem addS_len : ∀ (k : Nat) (f : List Int) (a : Int) (s : List Int), (addS f k a s).length = f.length
  | 0, f, a, s => by unfold addS; exact zipAdd_len f a s
  | k + 1, [], a, s => rfl
  | k + 1, x :: f, a, s => by simp [addS, addS_len k f a s]
theorem zipAdd_nil (f : List Int) (a : Int) : zipAdd f a [] = f := by cases f <;> rfl
theorem addS_nil : ∀ (k : Nat) (f : List Int) (a : Int), addS f k a [] = f
  | 0, f, a => by unfold addS; exact zipAdd_nil f a
  | k + 1, [], a => rfl
  | k + 1, x :: f, a => by simp [addS, addS_nil k f a]
theorem zipAdd_snoc : ∀ (s f : List Int) (a y v : Int), f[s.length]? = some v → (zipAdd f a s).set s.length (v + a * y) = zipAdd f a (s ++ [y]) ∧ (zipAdd f a s)[s.length]? = some v
  | [], [], a, y, v, h => by cases h
  | [], x :: f, a, y, v, h => by
    cases h
    refine ⟨?_, by simp [zipAdd]⟩
    simp [zipAdd, zipAdd_nil]
  | z :: s, [], a, y, v, h => by cases h
  | z :: s, x :: f, a, y, v, h => by
    obtain ⟨h1, h2⟩ := zipAdd_snoc s f a y v (by simpa using h)
    refine ⟨?_, ?_⟩
    · simp only [List.length_cons, List.cons_append, zipAdd, List.set_cons_succ, h1]
    · simp only [List.length_cons, zipAdd, List.getElem?_cons_succ, h2]
theorem addS_snoc : ∀ (k : Nat) (f s : List Int) (a y v : Int), f[k + s.length]? = some v → (addS f k a s).set (k + s.length) (v + a * y) = addS f k a (s ++ [y]) ∧ (addS f k a s)[k + s.length]? = some v
  | 0, f, s, a, y, v, h => by
    simp only [Nat.zero_add] at h ⊢
    unfold addS
    exact zipAdd_snoc s f a y v h
  | k + 1, [], s, a, y, v, h => by cases h
  | k + 1, x :: f, s, a, y, v, h => by
    have e : k + 1 + s.length = (k + s.length) + 1 := by omega
    rw [e] at h ⊢
    obtain ⟨h1, h2⟩ := addS_snoc k f s a y v (by simpa using h)
    exact ⟨by simp only [addS, List.set_cons_succ, h1], by simp only [addS, List.getElem?_cons_succ, h2]⟩
def mulS : List Int → Nat → List Int → List Int → List Int
  | f, _, [], _ => f
  | f, k, a :: r, s => mulS (addS f k a s) (k + 1) r s
/-- the same without going along -/
def mulF : List Int → List Int → List Int
  | [], s => List.replicate s.length 0
  | a :: r, s => zipAdd (0 :: mulF r s) a s
def mulP (a b : List Int) : List Int := trim (mulF a b)
theorem zip_zip : ∀ (g : List Int) (a : Int) (s : List Int) (b : Int) (s' : List Int), zipAdd (zipAdd g a s) b s' = zipAdd (zipAdd g b s') a s
  | [], a, s, b, s' => by cases s <;> cases s' <;> rfl
  | x :: g, a, [], b, s' => by cases s' <;> rfl
  | x :: g, a, y :: s, b, [] => rfl
  | x :: g, a, y :: s, b, z :: s' => by
    simp only [zipAdd, zip_zip g a s b s']
    congr 1
    omega
theorem add_zip : ∀ (k : Nat) (g : List Int) (a : Int) (s : List Int) (b : Int) (s' : List Int), addS (zipAdd g a s) k b s' = zipAdd (addS g k b s') a s
  | 0, g, a, s, b, s' => by unfold addS; exact zip_zip g a s b s'
  | k + 1, [], a, s, b, s' => by cases s <;> rfl
  | k + 1, x :: g, a, [], b, s' => by simp only [zipAdd, addS]
  | k + 1, x :: g, a, y :: s, b, s' => by simp only [zipAdd, addS, add_zip k g a s b s']
theorem mulS_zip (a : Int) (s : List Int) : ∀ (r g : List Int) (k : Nat), mulS (zipAdd g a s) k r s = zipAdd (mulS g k r s) a s
  | [], g, k => rfl
  | b :: r, g, k => by rw [mulS, add_zip, mulS_zip a s r, mulS]
theorem mulS_cons (s : List Int) : ∀ (r f : List Int) (x : Int) (k : Nat), mulS (x :: f) (k + 1) r s = x :: mulS f k r s
  | [], f, x, k => rfl
  | b :: r, f, x, k => by rw [mulS, addS, mulS_cons s r, mulS]
theorem mulS_fast (s : List Int) : ∀ a : List Int, mulS (List.replicate (a.length + s.length) 0) 0 a s = mulF a s
  | [] => by simp [mulS, mulF]
  | a :: r => by
    have e : (a :: r).length + s.length = (r.length + s.length) + 1 := by simp; omega
    rw [e, List.replicate_succ, mulS, addS, mulS_zip, mulS_cons, mulS_fast s r, mulF]
theorem mulP_eq (a b : List Int) : mulP a b = trim (mulS (List.replicate (a.length + b.length) 0) 0 a b) := by rw [mulS_fast]; rfl
theorem mulS_len : ∀ (r f s : List Int) (k : Nat), (mulS f k r s).length = f.length
  | [], f, s, k => rfl
  | a :: r, f, s, k => by rw [mulS, mulS_len r, addS_len]
theorem mulS_snoc : ∀ (r f s : List Int) (k : Nat) (a : Int), mulS f k (r ++ [a]) s = addS (mulS f k r s) (k + r.length) a s
  | [], f, s, k, a => rfl
  | b :: r, f, s, k, a => by
    rw [List.cons_append, mulS, mulS_snoc r, mulS]
    have e : k + 1 + r.length = k + (b :: r).length := by simp; omega
    rw [e]
theorem mulP_len (a b : List Int) : (mulP a b).length ≤ a.length + b.length := by
  rw [mulP_eq]
  refine Nat.le_trans (trim_len _) ?_
  rw [mulS_len, List.length_replicate]
  exact Nat.le_refl _
end K89
namespace K89
open PySem PySem.Spec PyProof.Rows L2 Py
theorem nInt_of {a : M} {σ : Sg} {i : Int} (h : wE a σ fun x _ => x = .int i) : nInt a σ = some i := by
  obtain ⟨⟨x, σ1⟩, e, e1⟩ := h
  simp only at e1
  subst e1
  unfold nInt
  rw [e]
def smallI (y : Int) : Bool := decide (y.natAbs < 18446744073709551616)
def okP (b : List Int) : Bool := b.all smallI && decide (b.length ≤ 100000)
theorem okP_iff {b : List Int} : okP b = true ↔ (∀ y ∈ b, y.natAbs < 18446744073709551616) ∧ b.length ≤ 100000 := by
  unfold okP smallI
  simp
def mulG (a b : List Int) : Option (List Int) := if okP a && okP b then some (mulP a b) else none
theorem zeros (n : Nat) : (List.replicate n [D.int 0]).flatten = (List.replicate n (0 : Int)).map .int := by
  rw [List.flatten_replicate_singleton, List.map_replicate]
theorem kMul_zeros {n : Nat} (hn : n ≤ 1000000) : kMul (.lst .own [.int 0]) (.int (n : Int)) = some (rowO (List.replicate n 0)) := by
  rw [kMul, if_pos ⟨by decide, rfl, by omega, by omega, by simp; omega⟩, Int.toNat_natCast, zeros]
  rfl
theorem kIx_rowT {r : List Int} {k : Nat} {v : Int} (h : r[k]? = some v) : kIx (rowT r) (.int (k : Int)) = some (.int v) := by
  unfold rowT
  rw [kIx_tup]
  exact atI_at rfl (by rw [List.getElem?_map, h]; rfl)
theorem fLen_rowT (r : List Int) : fLen (rowT r) = some (.int r.length) := by unfold rowT; rw [fLen_tup, List.length_map]
theorem fLen_rowV (r : List Int) : fLen (rowV r) = some (.int r.length) := by unfold rowV; rw [fLen_lst, List.length_map]
theorem set_rowO (r : List Int) (k : Nat) (v : Int) : (r.map D.int).set k (.int v) = (r.set k v).map .int := map_set' _ _ _ _
theorem get_some {α : Type} {l : List α} {k : Nat} (h : k < l.length) : ∃ x, l[k]? = some x ∧ x ∈ l := ⟨l[k], List.getElem?_eq_getElem h, List.getElem_mem h⟩
/-- one more place -/
theorem addS_step {f s : List Int} {k j : Nat} {c y : Int} (hy : s[j]? = some y) (hk : k + s.length ≤ f.length) : ∃ v, (addS f k c (s.take j))[k + j]? = some v ∧ (addS f k c (s.take j)).set (k + j) (v + c * y) = addS f k c (s.take (j + 1)) := by
  have hj := (List.getElem?_eq_some_iff.mp hy).1
  obtain ⟨v, hv, _⟩ := get_some (l := f) (k := k + j) (by omega)
  have hl : (s.take j).length = j := by simp; omega
  obtain ⟨h1, h2⟩ := addS_snoc k f (s.take j) c y v (by rw [hl]; exact hv)
  rw [hl] at h1 h2
  exact ⟨v, h2, by rw [h1, take_snoc hy]⟩
theorem ret_product_of {a b r : List Int} (h : mulG a b = some r) : ret fn_product_of [rowT a, rowT b] = some (rowT r) := by
  unfold mulG at h
  split at h
  · rename_i hg
    cases h
    rw [Bool.and_eq_true, okP_iff, okP_iff] at hg
    obtain ⟨⟨_, la⟩, sb, lb⟩ := hg
    apply ret_of
    unfold fn_product_of m_product_of
    rw [wF_D]
    refine wS_cut (fun σ => σ = [some (rowT a), some (rowT b), some (rowO (List.replicate (a.length + b.length) 0)), none, none]) ?_ ?_
    · have hz := kMul_zeros (n := a.length + b.length) (by omega)
      rw [Int.natCast_add] at hz
      simp [fLen_rowT, hz]
    rintro σ rfl
    refine wS_cut (fun σ => ∃ o3 o4, σ = [some (rowT a), some (rowT b), some (rowO (mulS (List.replicate (a.length + b.length) 0) 0 a b)), o3, o4]) ?_ ?_
    · rw [wS_for, wI_rng1, wE_Up, wE_A, wA_cons, wE_var]
      refine ⟨_, rfl, ?_⟩
      rw [wA_nil, k1_one, view_rowT]
      refine ⟨_, fLen_rowT a, rfl, _, rfl, okR_len (by omega), ?_⟩
      rw [Int.toNat_natCast]
      refine wL_rng (P := fun k σ => ∃ o3 o4, σ = [some (rowT a), some (rowT b), some (rowO (mulS (List.replicate (a.length + b.length) 0) 0 (a.take k) b)), o3, o4]) ⟨none, none, rfl⟩ ?_ ?_
      · rintro σ ⟨o3, o4, rfl⟩
        rw [gB_n, List.take_length]
        exact ⟨rfl, o3, o4, rfl⟩
      · rintro k σ hk ⟨o3, o4, rfl⟩
        obtain ⟨x, hx, mx⟩ := get_some hk
        refine wG_name.mpr ⟨by simp, ?_⟩
        simp only [Int.zero_add, List.set_cons_succ, List.set_cons_zero]
        have hlen : (mulS (List.replicate (a.length + b.length) 0) 0 (a.take k) b).length = a.length + b.length := by rw [mulS_len, List.length_replicate]
        have hout : mulS (List.replicate (a.length + b.length) 0) 0 (a.take (k + 1)) b = addS (mulS (List.replicate (a.length + b.length) 0) 0 (a.take k) b) k x b := by
          rw [take_snoc hx, mulS_snoc]
          simp
          congr 1
          omega
        rw [hout]
        generalize mulS (List.replicate (a.length + b.length) 0) 0 (a.take k) b = F at hlen
        rw [wS_for, wI_rng1, wE_Up, wE_A, wA_cons, wE_var]
        refine ⟨_, rfl, ?_⟩
        rw [wA_nil, k1_one, view_rowT]
        refine ⟨_, fLen_rowT b, rfl, _, rfl, okR_len (by omega), ?_⟩
        rw [Int.toNat_natCast]
        refine wL_rng (P := fun j σ => ∃ o4, σ = [some (rowT a), some (rowT b), some (rowO (addS F k x (b.take j))), some (.int k), o4]) ⟨o4, by rw [List.take_zero, addS_nil]⟩ ?_ ?_
        · rintro σ ⟨o4, rfl⟩
          rw [gB_n, List.take_length]
          exact ⟨_, _, rfl⟩
        · rintro j σ hj ⟨o4, rfl⟩
          obtain ⟨y, hy, my⟩ := get_some hj
          obtain ⟨v, hv, hs⟩ := addS_step (f := F) (k := k) (c := x) hy (by omega)
          refine wG_name.mpr ⟨by simp, ?_⟩
          simp only [Int.zero_add, List.set_cons_succ, List.set_cons_zero]
          have hm : kMul (.int x) (.int y) = some (.int (x * y)) := kMul_intR (sb y my)
          refine wS_augR (xs := (addS F k x (b.take j)).map .int) (i := ((k + j : Nat) : Int)) (j := k + j) (x := v) (k := x * y) rfl (nInt_of (by simp)) (ixN_nat (by rw [List.length_map, addS_len]; omega)) (by rw [List.getElem?_map, hv]; rfl) (nInt_of ?_) kPlus_int ?_
          · rw [wE_m2, wE_m2, wE_var]
            refine ⟨_, rfl, ?_⟩
            rw [wE_var]
            refine ⟨_, rfl, _, kIx_rowT hx, ?_⟩
            rw [wE_m2, wE_var]
            refine ⟨_, rfl, ?_⟩
            rw [wE_var]
            exact ⟨_, rfl, _, kIx_rowT hy, _, hm, rfl⟩
          · rw [set_rowO, hs]
            exact ⟨_, rfl⟩
    rintro σ ⟨o3, o4, rfl⟩
    rw [wS_ret]
    exact wE_lendR rfl (ret_trimmed (by rw [mulS_len, List.length_replicate]; omega)) fun σ' _ _ => by rw [mulP_eq]; rfl
  · cases h
theorem ret_law_times {a b r : List Int} (h : mulG a b = some r) : ret fn__law_times [rowT a, rowT b] = some (rowT r) := by
  unfold mulG at h
  split at h
  · rename_i hg
    cases h
    rw [Bool.and_eq_true, okP_iff, okP_iff] at hg
    obtain ⟨⟨_, la⟩, sb, lb⟩ := hg
    apply ret_of
    unfold fn__law_times m__law_times
    rw [wF_D]
    refine wS_cut (fun σ => σ = [some (rowT a), some (rowT b), some (rowO (List.replicate (a.length + b.length) 0)), none, none]) ?_ ?_
    · rw [wS_set, wE_Lc, wI_rng1, wE_Up, wE_m2, wE_A, wA_cons, wE_var]
      refine ⟨_, rfl, ?_⟩
      rw [wA_nil, k1_one, view_rowT]
      refine ⟨_, fLen_rowT a, ?_⟩
      rw [wE_A, wA_cons, wE_var]
      refine ⟨_, rfl, ?_⟩
      rw [wA_nil, k1_one, view_rowT]
      refine ⟨_, fLen_rowT b, _, kAdd_int, rfl, _, rfl, ?_, ?_⟩
      · rw [← Int.natCast_add]; exact okR_len (by omega)
      rw [← Int.natCast_add, Int.toNat_natCast, up_range]
      refine wC_map (List.range (a.length + b.length)) (fun i => .int (0 + (i : Nat))) (fun i => .int 0) (fun i hi => ?_) fun σ' wq => ?_
      · refine wG_name.mpr ⟨by simp [wipeD], ?_⟩
        simp [wipeD]
      · simp only [wq, unwipe_wipe, gB_n]
        refine ⟨by simp; omega, by simp, trivial, ?_⟩
        have : (List.range (a.length + b.length)).map (fun _ => D.int 0) = (List.replicate (a.length + b.length) (0 : Int)).map .int := by
          rw [List.map_replicate]
          apply List.ext_getElem
          · simp
          · intro i h1 h2; simp
        rw [this]
        rfl
    rintro σ rfl
    refine wS_cut (fun σ => ∃ o3 o4, σ = [some (rowT a), some (rowT b), some (rowO (mulS (List.replicate (a.length + b.length) 0) 0 a b)), o3, o4]) ?_ ?_
    · rw [wS_for, wI_rng1, wE_Up, wE_A, wA_cons, wE_var]
      refine ⟨_, rfl, ?_⟩
      rw [wA_nil, k1_one, view_rowT]
      refine ⟨_, fLen_rowT a, rfl, _, rfl, okR_len (by omega), ?_⟩
      rw [Int.toNat_natCast]
      refine wL_rng (P := fun k σ => ∃ o3 o4, σ = [some (rowT a), some (rowT b), some (rowO (mulS (List.replicate (a.length + b.length) 0) 0 (a.take k) b)), o3, o4]) ⟨none, none, rfl⟩ ?_ ?_
      · rintro σ ⟨o3, o4, rfl⟩
        rw [gB_n, List.take_length]
        exact ⟨rfl, o3, o4, rfl⟩
      · rintro k σ hk ⟨o3, o4, rfl⟩
        obtain ⟨x, hx, mx⟩ := get_some hk
        refine wG_name.mpr ⟨by simp, ?_⟩
        simp only [Int.zero_add, List.set_cons_succ, List.set_cons_zero]
        have hlen : (mulS (List.replicate (a.length + b.length) 0) 0 (a.take k) b).length = a.length + b.length := by rw [mulS_len, List.length_replicate]
        have hout : mulS (List.replicate (a.length + b.length) 0) 0 (a.take (k + 1)) b = addS (mulS (List.replicate (a.length + b.length) 0) 0 (a.take k) b) k x b := by
          rw [take_snoc hx, mulS_snoc]
          simp
          congr 1
          omega
        rw [hout]
        generalize mulS (List.replicate (a.length + b.length) 0) 0 (a.take k) b = F at hlen
        rw [wS_for, wI_rng1, wE_Up, wE_A, wA_cons, wE_var]
        refine ⟨_, rfl, ?_⟩
        rw [wA_nil, k1_one, view_rowT]
        refine ⟨_, fLen_rowT b, rfl, _, rfl, okR_len (by omega), ?_⟩
        rw [Int.toNat_natCast]
        refine wL_rng (P := fun j σ => ∃ o4, σ = [some (rowT a), some (rowT b), some (rowO (addS F k x (b.take j))), some (.int k), o4]) ⟨o4, by rw [List.take_zero, addS_nil]⟩ ?_ ?_
        · rintro σ ⟨o4, rfl⟩
          rw [gB_n, List.take_length]
          exact ⟨_, _, rfl⟩
        · rintro j σ hj ⟨o4, rfl⟩
          obtain ⟨y, hy, my⟩ := get_some hj
          obtain ⟨v, hv, hs⟩ := addS_step (f := F) (k := k) (c := x) hy (by omega)
          refine wG_name.mpr ⟨by simp, ?_⟩
          simp only [Int.zero_add, List.set_cons_succ, List.set_cons_zero]
          have hm : kMul (.int x) (.int y) = some (.int (x * y)) := kMul_intR (sb y my)
          rw [wS_asg, wE_Up, wE_m2, wE_m2, wE_var]
          refine ⟨_, rfl, ?_⟩
          rw [wE_m2, wE_var]
          refine ⟨_, rfl, ?_⟩
          rw [wE_var]
          refine ⟨_, rfl, _, kAdd_int, _, (by rw [view_rowO, ← Int.natCast_add]; exact kIx_rowV hv), ?_⟩
          rw [wE_m2, wE_m2, wE_var]
          refine ⟨_, rfl, ?_⟩
          rw [wE_var]
          refine ⟨_, rfl, _, kIx_rowT hx, ?_⟩
          rw [wE_m2, wE_var]
          refine ⟨_, rfl, ?_⟩
          rw [wE_var]
          refine ⟨_, rfl, _, kIx_rowT hy, _, hm, _, kAdd_int, rfl, ?_⟩
          rw [wG_sub, wP_root]
          refine ⟨_, rfl, wN_of (i := ((k + j : Nat) : Int)) (by simp) ⟨_, _, rfl, dAt_nil, k + j, ixN_nat (by rw [List.length_map, addS_len]; omega), ?_⟩⟩
          simp only [dPut_nil]
          rw [set_rowO, hs]
          exact ⟨_, rfl⟩
    rintro σ ⟨o3, o4, rfl⟩
    rw [wS_ret, wE_Call]
    refine wA_cons.mpr (wE_frz.mpr ⟨_, rfl, ?_⟩)
    rw [wA_nil]
    have e : (rowO (mulS (List.replicate (a.length + b.length) 0) 0 a b)).frz = rowF (mulS (List.replicate (a.length + b.length) 0) 0 a b) := by
      unfold rowO rowF
      rw [frz_own, frzs_of (noOwns_ints _)]
    rw [e]
    exact wF_any (ret_law_trimF (by rw [mulS_len, List.length_replicate]; omega)) fun σc => by rw [mulP_eq]; rfl
  · cases h
end K89
namespace K89
open PySem PySem.Spec PyProof.Rows L2 Py
section
variable {g : MG} {m : MS} {Q : Fo → Sg → Prop}
/-- a loop down a range, told by what is left -/
theorem wL_down {lo : Int} {P : Nat → Sg → Prop} (h0 : ∀ σ, P 0 σ → Q .nx σ) : ∀ (n : Nat) {σ : Sg}, P n σ → (∀ k σ, k < n → P (k + 1) σ → wG g (.int (lo + k)) σ fun σ1 => wS m σ1 fun f σ2 => match f with
    | .nx => P k σ2
    | .ct => P k σ2
    | .bk => Q .nx σ2
    | .rt v => Q (.rt v) σ2) → wL g m (down (lo + (n : Int) - 1) n) σ Q
  | 0, σ, h, _ => wL_nil.mpr (h0 σ h)
  | n + 1, σ, h, hs => by
    have e1 : lo + ((n + 1 : Nat) : Int) - 1 = lo + n := by omega
    have e : down (lo + ((n + 1 : Nat) : Int) - 1) (n + 1) = .int (lo + n) :: down (lo + (n : Int) - 1) n := by rw [e1]; rfl
    rw [e, wL_cons]
    obtain ⟨p, e1, q, e2, h2⟩ := hs n σ (Nat.lt_succ_self n) h
    refine ⟨p, e1, q, e2, ?_⟩
    obtain ⟨f, σ2⟩ := q
    cases f with
    | nx => exact wL_down h0 n h2 fun k σ hk => hs k σ (Nat.lt_succ_of_lt hk)
    | ct => exact wL_down h0 n h2 fun k σ hk => hs k σ (Nat.lt_succ_of_lt hk)
    | bk => exact h2
    | rt v => exact h2
theorem down_eq {hi lo : Int} {n : Nat} (h : n = (hi - lo + 1).toNat) : down hi n = down (lo + (n : Int) - 1) n := by
  cases n with
  | zero => rfl
  | succ n =>
    have : hi = lo + ((n + 1 : Nat) : Int) - 1 := by omega
    rw [← this]
theorem wI_rngD {a c d : M} {σ : Sg} {QI : List D → Option D → Sg → Prop} (h : Py.wE a σ fun x σ1 => Py.wE c σ1 fun y σ2 => Py.wE d σ2 fun z σ3 => ∃ i j, x = .int i ∧ y = .int j ∧ z = .int (-1) ∧ okR i = true ∧ okR j = true ∧ QI (down i (i - j).toNat) none σ3) : Py.wI (iRngD a c d) σ QI := by
  obtain ⟨⟨x, σ1⟩, e1, ⟨y, σ2⟩, e2, ⟨z, σ3⟩, e3, i, j, h1, h2, h3, o1, o2, q⟩ := h
  simp only at e2 e3 h1 h2 h3 q
  subst h1 h2 h3
  refine ⟨(down i (i - j).toNat, none, σ3), ?_, q⟩
  unfold iRngD
  simp only [e1, e2, e3]
  rw [if_pos ⟨o1, o2, trivial⟩]
end
theorem kEq_tints (a b : List Int) : kEq (.tup (a.map .int)) (.tup (b.map .int)) = some (.bl (decide (a = b))) := by
  have h1 : D.fit 60 (.tup (a.map .int)) = true := (fits_ints : fits 59 _ = true)
  have h2 : D.fit 60 (.tup (b.map .int)) = true := (fits_ints : fits 59 _ = true)
  rw [kEq, if_pos ⟨h1, h2⟩]
  have : D.deq (.tup (a.map .int)) (.tup (b.map .int)) = deqs (a.map .int) (b.map .int) := rfl
  rw [this, deqs_ints]
def remS : Nat → List Int → List Int → List Int
  | 0, f, _ => f
  | n + 1, f, s => remS n (addS f n (-(f.getD (n + s.length - 1) 0)) s) s
def remP (a b : List Int) : List Int := trim (remS (a.length + 1 - b.length) a b)
theorem remS_len : ∀ (n : Nat) (f s : List Int), (remS n f s).length = f.length
  | 0, f, s => rfl
  | n + 1, f, s => by rw [remS, remS_len n, addS_len]
theorem getD_get {l : List Int} {k : Nat} {v : Int} (h : l[k]? = some v) : l.getD k 0 = v := by
  rw [List.getD_eq_getElem?_getD, h]
  rfl
theorem sub_neg_mul (v t y : Int) : v - t * y = v + -t * y := by rw [Int.sub_eq_add_neg, Int.neg_mul]
theorem ret_remainder {a b : List Int} (hb : b ≠ []) (oa : a.length ≤ 100000) (ob : okP b = true) : ret fn_remainder [rowT a, rowT b] = some (rowT (remP a b)) := by
  obtain ⟨sb, lb⟩ := okP_iff.mp ob
  have hb1 : 0 < b.length := List.length_pos_iff.mpr hb
  apply ret_of
  unfold fn_remainder m_remainder
  rw [wF_D]
  refine wS_cut (fun σ => σ = [some (rowT a), some (rowT b), some (rowO a), none, none, none]) ?_ ?_
  · rw [wS_set, wE_Up, wE_A, wA_cons, wE_var]
    refine ⟨_, rfl, ?_⟩
    rw [wA_nil, k1_one]
    exact ⟨rowO a, rfl, noVw_rowO a, by simp, rfl, rfl⟩
  rintro σ rfl
  refine wS_cut (fun σ => ∃ o3 o4 o5, σ = [some (rowT a), some (rowT b), some (rowO (remS (a.length + 1 - b.length) a b)), o3, o4, o5]) ?_ ?_
  · rw [wS_for]
    refine wI_rngD ?_
    rw [wE_Up, wE_m2, wE_A, wA_cons, wE_var]
    refine ⟨_, rfl, ?_⟩
    rw [wA_nil, k1_one, view_rowT]
    refine ⟨_, fLen_rowT a, ?_⟩
    rw [wE_A, wA_cons, wE_var]
    refine ⟨_, rfl, ?_⟩
    rw [wA_nil, k1_one, view_rowT]
    refine ⟨_, fLen_rowT b, _, kSub_int, rfl, ?_⟩
    rw [wE_Up, wE_m1, wE_C]
    refine ⟨_, fNeg_int, rfl, ?_⟩
    rw [wE_Up, wE_m1, wE_C]
    refine ⟨_, fNeg_int, rfl, _, _, rfl, rfl, rfl, by unfold okR; exact decide_eq_true (by omega), by decide, ?_⟩
    have hn : ((a.length : Int) - (b.length : Int) - -1).toNat = a.length + 1 - b.length := by omega
    rw [hn, down_eq (lo := 0) (by omega)]
    refine wL_down (P := fun k σ => ∃ (F : List Int) (o3 o4 o5 : Option D), F.length = a.length ∧ remS k F b = remS (a.length + 1 - b.length) a b ∧ σ = [some (rowT a), some (rowT b), some (rowO F), o3, o4, o5]) ?_ _ ⟨a, none, none, none, rfl, rfl, rfl⟩ ?_
    · rintro σ ⟨F, o3, o4, o5, _, hF, rfl⟩
      rw [gB_n, ← hF]
      exact ⟨rfl, o3, o4, o5, rfl⟩
    · rintro k σ hk ⟨F, o3, o4, o5, hl, hF, rfl⟩
      rw [remS] at hF
      obtain ⟨t, ht, _⟩ := get_some (l := F) (k := k + b.length - 1) (by omega)
      rw [getD_get ht] at hF
      rw [← hF]
      refine wG_name.mpr ⟨by simp, ?_⟩
      simp only [Int.zero_add, List.set_cons_succ, List.set_cons_zero]
      refine wS_cut (fun σ => σ = [some (rowT a), some (rowT b), some (rowO F), some (.int k), some (.int t), o5]) ?_ ?_
      · rw [wS_set, wE_Up, wE_m2, wE_var]
        refine ⟨_, rfl, ?_⟩
        rw [wE_m2, wE_m2, wE_var]
        refine ⟨_, rfl, ?_⟩
        rw [wE_A, wA_cons, wE_var]
        refine ⟨_, rfl, ?_⟩
        rw [wA_nil, k1_one, view_rowT]
        refine ⟨_, fLen_rowT b, _, kAdd_int, ?_⟩
        rw [wE_C]
        have e : (k : Int) + (b.length : Int) - 1 = ((k + b.length - 1 : Nat) : Int) := by omega
        exact ⟨_, kSub_int, _, (by rw [view_rowO, e]; exact kIx_rowV ht), rfl, by simp, rfl, rfl⟩
      rintro σ rfl
      rw [wS_for, wI_rng1, wE_Up, wE_A, wA_cons, wE_var]
      refine ⟨_, rfl, ?_⟩
      rw [wA_nil, k1_one, view_rowT]
      refine ⟨_, fLen_rowT b, rfl, _, rfl, okR_len (by omega), ?_⟩
      rw [Int.toNat_natCast]
      refine wL_rng (P := fun j σ => ∃ o5, σ = [some (rowT a), some (rowT b), some (rowO (addS F k (-t) (b.take j))), some (.int k), some (.int t), o5]) ⟨o5, by rw [List.take_zero, addS_nil]⟩ ?_ ?_
      · rintro σ ⟨o5, rfl⟩
        rw [gB_n, List.take_length]
        exact ⟨_, _, _, _, by rw [addS_len]; exact hl, rfl, rfl⟩
      · rintro j σ hj ⟨o5, rfl⟩
        obtain ⟨y, hy, my⟩ := get_some hj
        obtain ⟨v, hv, hs⟩ := addS_step (f := F) (k := k) (c := -t) hy (by omega)
        refine wG_name.mpr ⟨by simp, ?_⟩
        simp only [Int.zero_add, List.set_cons_succ, List.set_cons_zero]
        have hm : kMul (.int t) (.int y) = some (.int (t * y)) := kMul_intR (sb y my)
        refine wS_augR (xs := (addS F k (-t) (b.take j)).map .int) (i := ((k + j : Nat) : Int)) (j := k + j) (x := v) (k := t * y) rfl (nInt_of (by simp)) (ixN_nat (by rw [List.length_map, addS_len]; omega)) (by rw [List.getElem?_map, hv]; rfl) (nInt_of ?_) kSub_int ?_
        · rw [wE_m2, wE_var]
          refine ⟨_, rfl, ?_⟩
          rw [wE_m2, wE_var]
          refine ⟨_, rfl, ?_⟩
          rw [wE_var]
          exact ⟨_, rfl, _, kIx_rowT hy, _, hm, rfl⟩
        · rw [set_rowO, sub_neg_mul, hs]
          exact ⟨_, rfl⟩
  rintro σ ⟨o3, o4, o5, rfl⟩
  rw [wS_ret]
  exact wE_lendR rfl (ret_trimmed (by rw [remS_len]; omega)) fun σ' _ _ => rfl
theorem ret_law_rest {a b : List Int} (hb : b ≠ []) (oa : a.length ≤ 100000) (ob : okP b = true) : ret fn__law_rest [rowT a, rowT b] = some (rowT (remP a b)) := by
  obtain ⟨sb, lb⟩ := okP_iff.mp ob
  have hb1 : 0 < b.length := List.length_pos_iff.mpr hb
  apply ret_of
  unfold fn__law_rest m__law_rest
  rw [wF_D]
  refine wS_cut (fun σ => σ = [some (rowT a), some (rowT b), some (rowO a), none, none, none, none, none]) ?_ ?_
  · rw [wS_set, wE_Lc, wI_take]
    refine ⟨_, rfl, _, rfl, ?_⟩
    refine wC_map a D.int D.int (fun i hi => ?_) fun σ' wq => ?_
    · refine wG_name.mpr ⟨by simp [wipeD], ?_⟩
      simp [wipeD]
    · simp only [wq, unwipe_wipe, gB_sn]
      exact ⟨by simp; omega, by simp, trivial, rfl⟩
  rintro σ rfl
  refine wS_cut (fun σ => ∃ o3 o4 o5 o6 o7, σ = [some (rowT a), some (rowT b), some (rowO (remS (a.length + 1 - b.length) a b)), o3, o4, o5, o6, o7]) ?_ ?_
  · rw [wS_for]
    refine wI_rngD ?_
    rw [wE_Up, wE_m2, wE_A, wA_cons, wE_var]
    refine ⟨_, rfl, ?_⟩
    rw [wA_nil, k1_one, view_rowT]
    refine ⟨_, fLen_rowT a, ?_⟩
    rw [wE_C]
    refine ⟨_, kSub_int, rfl, ?_⟩
    rw [wE_Up, wE_m2, wE_A, wA_cons, wE_var]
    refine ⟨_, rfl, ?_⟩
    rw [wA_nil, k1_one, view_rowT]
    refine ⟨_, fLen_rowT b, ?_⟩
    rw [wE_C]
    refine ⟨_, kSub_int, rfl, ?_⟩
    rw [wE_Up, wE_m1, wE_C]
    refine ⟨_, fNeg_int, rfl, _, _, rfl, rfl, rfl, by unfold okR; exact decide_eq_true (by omega), by unfold okR; exact decide_eq_true (by omega), ?_⟩
    have hn : ((a.length : Int) - 1 - ((b.length : Int) - 2)).toNat = a.length + 1 - b.length := by omega
    rw [hn, down_eq (lo := (b.length : Int) - 1) (by omega)]
    refine wL_down (P := fun k σ => ∃ (F : List Int) (o3 o4 o5 o6 o7 : Option D), F.length = a.length ∧ remS k F b = remS (a.length + 1 - b.length) a b ∧ σ = [some (rowT a), some (rowT b), some (rowO F), o3, o4, o5, o6, o7]) ?_ _ ⟨a, none, none, none, none, none, rfl, rfl, rfl⟩ ?_
    · rintro σ ⟨F, o3, o4, o5, o6, o7, _, hF, rfl⟩
      rw [gB_n, ← hF]
      exact ⟨rfl, o3, o4, o5, o6, o7, rfl⟩
    · rintro k σ hk ⟨F, o3, o4, o5, o6, o7, hl, hF, rfl⟩
      rw [remS] at hF
      obtain ⟨t, ht, _⟩ := get_some (l := F) (k := k + b.length - 1) (by omega)
      rw [getD_get ht] at hF
      rw [← hF]
      have e : (b.length : Int) - 1 + (k : Int) = ((k + b.length - 1 : Nat) : Int) := by omega
      rw [e]
      refine wG_name.mpr ⟨by simp, ?_⟩
      simp only [List.set_cons_succ, List.set_cons_zero]
      refine wS_cut (fun σ => σ = [some (rowT a), some (rowT b), some (rowO F), o3, some (.int ((k + b.length - 1 : Nat) : Int)), some (.int t), o6, o7]) ?_ ?_
      · rw [wS_set, wE_Up, wE_m2, wE_var]
        refine ⟨_, rfl, ?_⟩
        rw [wE_var]
        exact ⟨_, rfl, _, (by rw [view_rowO]; exact kIx_rowV ht), rfl, by simp, rfl, rfl⟩
      rintro σ rfl
      rw [wS_for, wI_rng1, wE_Up, wE_A, wA_cons, wE_var]
      refine ⟨_, rfl, ?_⟩
      rw [wA_nil, k1_one, view_rowT]
      refine ⟨_, fLen_rowT b, rfl, _, rfl, okR_len (by omega), ?_⟩
      rw [Int.toNat_natCast]
      refine wL_rng (P := fun j σ => ∃ o6 o7, σ = [some (rowT a), some (rowT b), some (rowO (addS F k (-t) (b.take j))), o3, some (.int ((k + b.length - 1 : Nat) : Int)), some (.int t), o6, o7]) ⟨o6, o7, by rw [List.take_zero, addS_nil]⟩ ?_ ?_
      · rintro σ ⟨o6, o7, rfl⟩
        rw [gB_n, List.take_length]
        exact ⟨_, _, _, _, _, _, by rw [addS_len]; exact hl, rfl, rfl⟩
      · rintro j σ hj ⟨o6, o7, rfl⟩
        obtain ⟨y, hy, my⟩ := get_some hj
        obtain ⟨v, hv, hs⟩ := addS_step (f := F) (k := k) (c := -t) hy (by omega)
        refine wG_name.mpr ⟨by simp, ?_⟩
        simp only [Int.zero_add, List.set_cons_succ, List.set_cons_zero]
        have hm : kMul (.int t) (.int y) = some (.int (t * y)) := kMul_intR (sb y my)
        refine wS_cut (fun σ => σ = [some (rowT a), some (rowT b), some (rowO (addS F k (-t) (b.take j))), o3, some (.int ((k + b.length - 1 : Nat) : Int)), some (.int t), some (.int j), some (.int ((k + j : Nat) : Int))]) ?_ ?_
        · rw [wS_set, wE_Up, wE_m2, wE_m2, wE_m2, wE_var]
          refine ⟨_, rfl, ?_⟩
          rw [wE_A, wA_cons, wE_var]
          refine ⟨_, rfl, ?_⟩
          rw [wA_nil, k1_one, view_rowT]
          refine ⟨_, fLen_rowT b, _, kSub_int, ?_⟩
          rw [wE_C]
          refine ⟨_, kAdd_int, ?_⟩
          rw [wE_var]
          have e3 : ((k + b.length - 1 : Nat) : Int) - (b.length : Int) + 1 + (j : Int) = ((k + j : Nat) : Int) := by omega
          exact ⟨_, rfl, _, kAdd_int, rfl, by simp, rfl, by rw [e3]; rfl⟩
        rintro σ rfl
        rw [wS_asg, wE_Up, wE_m2, wE_m2, wE_var]
        refine ⟨_, rfl, ?_⟩
        rw [wE_var]
        refine ⟨_, rfl, _, (by rw [view_rowO]; exact kIx_rowV hv), ?_⟩
        rw [wE_m2, wE_var]
        refine ⟨_, rfl, ?_⟩
        rw [wE_m2, wE_var]
        refine ⟨_, rfl, ?_⟩
        rw [wE_var]
        refine ⟨_, rfl, _, kIx_rowT hy, _, hm, _, kSub_int, rfl, ?_⟩
        rw [wG_sub, wP_root]
        refine ⟨_, rfl, wN_of (i := ((k + j : Nat) : Int)) (by simp) ⟨_, _, rfl, dAt_nil, k + j, ixN_nat (by rw [List.length_map, addS_len]; omega), ?_⟩⟩
        simp only [dPut_nil]
        rw [set_rowO, sub_neg_mul, hs]
        exact ⟨_, _, rfl⟩
  rintro σ ⟨o3, o4, o5, o6, o7, rfl⟩
  rw [wS_ret, wE_Call]
  refine wA_cons.mpr (wE_frz.mpr ⟨_, rfl, ?_⟩)
  rw [wA_nil]
  have e : ∀ l : List Int, (rowO l).frz = rowF l := fun l => by
    unfold rowO rowF
    rw [frz_own, frzs_of (noOwns_ints _)]
  rw [e]
  exact wF_any (ret_law_trimF (by rw [remS_len]; omega)) fun σc => rfl
end K89
namespace K89
open PySem PySem.Spec PyProof.Rows L2 Py
def quoS : Nat → List Int → List Int → List Int → List Int × List Int
  | 0, f, _, acc => (f, acc)
  | n + 1, f, s, acc => quoS n (addS f n (-(f.getD (n + s.length - 1) 0)) s) s (f.getD (n + s.length - 1) 0 :: acc)
/-- the quotient, where the divisor ends in 1 and nothing is left -/
def quoG (a b : List Int) : Option (List Int) :=
  if b.getLast? = some 1 ∧ okP b = true ∧ a.length ≤ 100000 ∧ trim (quoS (a.length + 1 - b.length) a b []).1 = [] then some (trim (quoS (a.length + 1 - b.length) a b []).2) else none
theorem quoS_len : ∀ (n : Nat) (f s acc : List Int), (quoS n f s acc).1.length = f.length ∧ (quoS n f s acc).2.length = acc.length + n
  | 0, f, s, acc => ⟨rfl, rfl⟩
  | n + 1, f, s, acc => by
    obtain ⟨h1, h2⟩ := quoS_len n (addS f n (-(f.getD (n + s.length - 1) 0)) s) s (f.getD (n + s.length - 1) 0 :: acc)
    refine ⟨by rw [quoS, h1, addS_len], by rw [quoS, h2]; simp; omega⟩
theorem ret_quotient {a b r : List Int} (h : quoG a b = some r) : ret fn_quotient_of [rowT a, rowT b] = some (rowT r) := by
  unfold quoG at h
  split at h
  rotate_left
  · cases h
  rename_i hg
  cases h
  obtain ⟨hlast, ob, oa, htr⟩ := hg
  obtain ⟨sb, lb⟩ := okP_iff.mp ob
  have hb : b ≠ [] := fun e => by rw [e] at hlast; cases hlast
  have hb1 : 0 < b.length := List.length_pos_iff.mpr hb
  have hlead : b[b.length - 1]? = some 1 := by rw [← List.getLast?_eq_getElem?]; exact hlast
  apply ret_of
  unfold fn_quotient_of m_quotient_of
  rw [wF_D]
  refine wS_cut (fun σ => σ = [some (rowT a), some (rowT b), some (rowO a), some (rowO []), none, none, none, none]) ?_ ?_
  · rw [wS_par, wA_cons, wE_Up, wE_A, wA_cons, wE_var]
    refine ⟨_, rfl, ?_⟩
    rw [wA_nil, k1_one]
    refine ⟨rowO a, rfl, noVw_rowO a, ?_⟩
    rw [wA_cons, wE_Up, wE_A, wA_nil]
    refine ⟨_, kLst_nil, rfl, ?_⟩
    rw [wA_nil]
    exact ⟨_, _, rfl, by simp, by simp, rfl, rfl⟩
  rintro σ rfl
  refine wS_cut (fun σ => σ = [some (rowT a), some (rowT b), some (rowO a), some (rowO []), some (.int 1), none, none, none]) ?_ ?_
  · rw [wS_set, wE_Up, wE_m2, wE_var]
    refine ⟨_, rfl, ?_⟩
    rw [wE_m2, wE_A, wA_cons, wE_var]
    refine ⟨_, rfl, ?_⟩
    rw [wA_nil, k1_one, view_rowT]
    refine ⟨_, fLen_rowT b, ?_⟩
    rw [wE_C]
    have e : (b.length : Int) - 1 = ((b.length - 1 : Nat) : Int) := by omega
    exact ⟨_, kSub_int, _, (by rw [e]; exact kIx_rowT hlead), rfl, by simp, rfl, rfl⟩
  rintro σ rfl
  refine wS_cut (fun σ => ∃ o5 o6 o7, σ = [some (rowT a), some (rowT b), some (rowO (quoS (a.length + 1 - b.length) a b []).1), some (rowO (quoS (a.length + 1 - b.length) a b []).2.reverse), some (.int 1), o5, o6, o7]) ?_ ?_
  · rw [wS_for]
    refine wI_rngD ?_
    rw [wE_Up, wE_m2, wE_A, wA_cons, wE_var]
    refine ⟨_, rfl, ?_⟩
    rw [wA_nil, k1_one, view_rowT]
    refine ⟨_, fLen_rowT a, ?_⟩
    rw [wE_A, wA_cons, wE_var]
    refine ⟨_, rfl, ?_⟩
    rw [wA_nil, k1_one, view_rowT]
    refine ⟨_, fLen_rowT b, _, kSub_int, rfl, ?_⟩
    rw [wE_Up, wE_m1, wE_C]
    refine ⟨_, fNeg_int, rfl, ?_⟩
    rw [wE_Up, wE_m1, wE_C]
    refine ⟨_, fNeg_int, rfl, _, _, rfl, rfl, rfl, by unfold okR; exact decide_eq_true (by omega), by decide, ?_⟩
    have hn : ((a.length : Int) - (b.length : Int) - -1).toNat = a.length + 1 - b.length := by omega
    rw [hn, down_eq (lo := 0) (by omega)]
    refine wL_down (P := fun k σ => ∃ (F acc : List Int) (o5 o6 o7 : Option D), F.length = a.length ∧ acc.length + k = a.length + 1 - b.length ∧ quoS k F b acc = quoS (a.length + 1 - b.length) a b [] ∧ σ = [some (rowT a), some (rowT b), some (rowO F), some (rowO acc.reverse), some (.int 1), o5, o6, o7]) ?_ _ ⟨a, [], none, none, none, rfl, by simp, rfl, rfl⟩ ?_
    · rintro σ ⟨F, acc, o5, o6, o7, _, _, hF, rfl⟩
      rw [gB_n, ← hF]
      exact ⟨rfl, o5, o6, o7, rfl⟩
    · rintro k σ hk ⟨F, acc, o5, o6, o7, hl, hal, hF, rfl⟩
      rw [quoS] at hF
      obtain ⟨t, ht, _⟩ := get_some (l := F) (k := k + b.length - 1) (by omega)
      rw [getD_get ht] at hF
      rw [← hF]
      refine wG_name.mpr ⟨by simp, ?_⟩
      simp only [Int.zero_add, List.set_cons_succ, List.set_cons_zero]
      refine wS_cut (fun σ => σ = [some (rowT a), some (rowT b), some (rowO F), some (rowO acc.reverse), some (.int 1), some (.int k), some (.int t), o7]) ?_ ?_
      · rw [wS_set, wE_Up, wE_m2, wE_var]
        refine ⟨_, rfl, ?_⟩
        rw [wE_m2, wE_m2, wE_var]
        refine ⟨_, rfl, ?_⟩
        rw [wE_A, wA_cons, wE_var]
        refine ⟨_, rfl, ?_⟩
        rw [wA_nil, k1_one, view_rowT]
        refine ⟨_, fLen_rowT b, _, kAdd_int, ?_⟩
        rw [wE_C]
        have e : (k : Int) + (b.length : Int) - 1 = ((k + b.length - 1 : Nat) : Int) := by omega
        exact ⟨_, kSub_int, _, (by rw [view_rowO, e]; exact kIx_rowV ht), rfl, by simp, rfl, rfl⟩
      rintro σ rfl
      have hd : kDiv (.int t) (.int 1) = some (.int t) := by rw [kDiv_int (by decide) (by decide), Int.ediv_one]
      have hm1 : kMul (.int 1) (.int t) = some (.int t) := by rw [kMul_intL (by decide), Int.one_mul]
      refine wS_cut (fun σ => σ = [some (rowT a), some (rowT b), some (rowO F), some (rowO acc.reverse), some (.int 1), some (.int k), some (.int t), o7]) ?_ ?_
      · rw [wS_if, wT_B, wE_m2, wE_var]
        refine ⟨_, rfl, ?_⟩
        rw [wE_m2, wE_var]
        refine ⟨_, rfl, ?_⟩
        rw [wE_m2, wE_var]
        refine ⟨_, rfl, ?_⟩
        rw [wE_var]
        refine ⟨_, rfl, _, hd, _, hm1, _, kNe_int, _, rfl, ?_⟩
        simp
      rintro σ rfl
      refine wS_cut (fun σ => σ = [some (rowT a), some (rowT b), some (rowO F), some (rowO (t :: acc).reverse), some (.int 1), some (.int k), some (.int t), o7]) ?_ ?_
      · rw [wS_app]
        refine ⟨_, rfl, ?_⟩
        rw [wE_Up, wE_m2, wE_var]
        refine ⟨_, rfl, ?_⟩
        rw [wE_var]
        refine ⟨_, rfl, _, hd, rfl, _, _, rfl, dAt_nil, ?_⟩
        simp only [dPut_nil]
        refine ⟨by simp; omega, trivial, ?_⟩
        simp [rowO]
      rintro σ rfl
      rw [wS_for, wI_rng1, wE_Up, wE_A, wA_cons, wE_var]
      refine ⟨_, rfl, ?_⟩
      rw [wA_nil, k1_one, view_rowT]
      refine ⟨_, fLen_rowT b, rfl, _, rfl, okR_len (by omega), ?_⟩
      rw [Int.toNat_natCast]
      refine wL_rng (P := fun j σ => ∃ o7, σ = [some (rowT a), some (rowT b), some (rowO (addS F k (-t) (b.take j))), some (rowO (t :: acc).reverse), some (.int 1), some (.int k), some (.int t), o7]) ⟨o7, by rw [List.take_zero, addS_nil]⟩ ?_ ?_
      · rintro σ ⟨o7, rfl⟩
        rw [gB_n, List.take_length]
        exact ⟨_, _, _, _, _, by rw [addS_len]; exact hl, by simp; omega, rfl, rfl⟩
      · rintro j σ hj ⟨o7, rfl⟩
        obtain ⟨y, hy, my⟩ := get_some hj
        obtain ⟨v, hv, hs⟩ := addS_step (f := F) (k := k) (c := -t) hy (by omega)
        refine wG_name.mpr ⟨by simp, ?_⟩
        simp only [Int.zero_add, List.set_cons_succ, List.set_cons_zero]
        have hm : kMul (.int t) (.int y) = some (.int (t * y)) := kMul_intR (sb y my)
        have hla : kIx (rowV (t :: acc).reverse) (.int (-1)) = some (.int t) := by
          unfold rowV
          rw [List.reverse_cons, List.map_append, kIx_lst]
          exact atI_last _ _
        refine wS_augR (xs := (addS F k (-t) (b.take j)).map .int) (i := ((k + j : Nat) : Int)) (j := k + j) (x := v) (k := t * y) rfl (nInt_of (by simp)) (ixN_nat (by rw [List.length_map, addS_len]; omega)) (by rw [List.getElem?_map, hv]; rfl) (nInt_of ?_) kSub_int ?_
        · rw [wE_m2, wE_m2, wE_var]
          refine ⟨_, rfl, ?_⟩
          rw [wE_m1, wE_C]
          refine ⟨_, fNeg_int, _, (by rw [view_rowO]; exact hla), ?_⟩
          rw [wE_m2, wE_var]
          refine ⟨_, rfl, ?_⟩
          rw [wE_var]
          exact ⟨_, rfl, _, kIx_rowT hy, _, hm, rfl⟩
        · rw [set_rowO, sub_neg_mul, hs]
          exact ⟨_, rfl⟩
  rintro σ ⟨o5, o6, o7, rfl⟩
  obtain ⟨q1, q2⟩ := quoS_len (a.length + 1 - b.length) a b []
  rw [wS_ret, wE_If, wT_B, wE_m2]
  refine wE_lendR rfl (ret_trimmed (by rw [q1]; omega)) fun σ' hl hm => ?_
  rw [htr, wE_Up, wE_A, wA_nil]
  refine ⟨_, kTup_nil, rfl, _, kEq_tints [] [], _, rfl, ?_⟩
  simp only [decide_true, if_true]
  rw [wE_Call, wA_cons, wE_Up, wE_m1, wE_var]
  have h3 : σ'[3]? = some (some (rowO (quoS (a.length + 1 - b.length) a b []).2.reverse)) := hm 3 (by decide)
  refine ⟨_, h3, rowO (quoS (a.length + 1 - b.length) a b []).2, ?_, noVw_rowO _, ?_⟩
  · rw [view_rowO]
    show some (D.lst .own (((quoS (a.length + 1 - b.length) a b []).2.reverse).map D.int).reverse) = _
    rw [← List.map_reverse, List.reverse_reverse]
    rfl
  rw [wA_nil]
  exact wF_any (ret_trimmed (by rw [q2]; simp; omega)) fun σc => rfl
/-! ### q-numbers -/
def qn (k : Nat) : List Int := List.replicate k 1
theorem kMulT_ones {k : Nat} (hk : k ≤ 1000) : kMulT (.tup [.int 1]) (.int (k : Int)) = some (rowT (qn k)) := by
  rw [kMulT, if_pos ⟨by simp, by omega, by omega, by simp⟩, Int.toNat_natCast, List.flatten_replicate_singleton]
  unfold rowT qn
  rw [List.map_replicate]
theorem ret_q_number {k : Nat} (hk : k ≤ 1000) : ret fn_q_number [.int k] = some (rowT (qn k)) := by
  apply ret_of
  unfold fn_q_number m_q_number
  rw [wF_D, wS_ret, wE_Up, wE_m2, wE_A, wA_cons, wE_C, wA_nil]
  refine ⟨_, kTup_i, ?_⟩
  rw [wE_var]
  exact ⟨_, rfl, _, kMulT_ones hk, noVw_rowT _, rfl⟩
def qfG : Nat → Option (List Int)
  | 0 => some [1]
  | n + 1 => match qfG n with
    | some f => mulG f (qn (n + 1))
    | none => none
theorem qfG_mono : ∀ {n k : Nat} {r : List Int}, qfG n = some r → k ≤ n → ∃ r', qfG k = some r'
  | 0, k, r, h, hk => by
    have : k = 0 := by omega
    subst this
    exact ⟨_, h⟩
  | n + 1, k, r, h, hk => by
    by_cases e : k = n + 1
    · subst e; exact ⟨_, h⟩
    · rw [qfG] at h
      split at h
      · rename_i f hf
        exact qfG_mono hf (by omega)
      · cases h
theorem ret_q_factorial {n : Nat} {r : List Int} (hn : n ≤ 1000) (h : qfG n = some r) : ret fn_q_factorial [.int n] = some (rowT r) := by
  apply ret_of
  unfold fn_q_factorial m_q_factorial
  rw [wF_D]
  refine wS_cut (fun σ => σ = [some (.int n), some (rowT [1]), none]) (by simp; rfl) ?_
  rintro σ rfl
  refine wS_cut (fun σ => ∃ o2, σ = [some (.int n), some (rowT r), o2]) ?_ ?_
  · rw [wS_for, wI_rng2, wE_C, wE_Up, wE_m2, wE_var]
    refine ⟨_, rfl, ?_⟩
    rw [wE_C]
    refine ⟨_, kAdd_int, rfl, _, _, rfl, rfl, by decide, by unfold okR; exact decide_eq_true (by omega), ?_⟩
    have e : ((n : Int) + 1 - 1).toNat = n := by omega
    rw [e]
    refine wL_rng (P := fun k σ => ∃ f o2, qfG k = some f ∧ σ = [some (.int n), some (rowT f), o2]) ⟨[1], none, rfl, rfl⟩ ?_ ?_
    · rintro σ ⟨f, o2, hf, rfl⟩
      rw [h] at hf
      cases hf
      rw [gB_n]
      exact ⟨rfl, o2, rfl⟩
    · rintro k σ hk ⟨f, o2, hf, rfl⟩
      obtain ⟨f', hf'⟩ := qfG_mono h (k := k + 1) (by omega)
      have hm := hf'
      rw [qfG, hf] at hm
      refine wG_name.mpr ⟨by simp, ?_⟩
      simp only [List.set_cons_succ, List.set_cons_zero]
      rw [wS_set, wE_Call]
      refine wA_lendI rfl (noOwn_rowT _) ?_
      have ek : (1 : Int) + (k : Int) = ((k + 1 : Nat) : Int) := by omega
      rw [wA_cons, ek]
      refine wE_cr (ret_q_number (k := k + 1) (by omega)) (wA_lendI rfl rfl (wA_nil.mpr ⟨rfl, rfl⟩)) rfl ?_
      rw [wA_nil]
      refine wF_any (ret_product_of hm) fun σc => ?_
      rw [putB_id (by rfl)]
      exact ⟨by simp, f', _, hf', rfl⟩
  rintro σ ⟨o2, rfl⟩
  rw [wS_ret, wE_move]
  exact ⟨_, rfl, rfl⟩
def numsG (f : List Int) : List Int → Option (List Int)
  | [] => some f
  | k :: r => if 0 ≤ k ∧ k ≤ 1000 then (match mulG f (qn k.toNat) with
    | some f' => numsG f' r
    | none => none) else none
end K89
namespace K89
open PySem PySem.Spec PyProof.Rows L2 Py
theorem kMulT_any {k : Int} (h1 : -1000 ≤ k) (h2 : k ≤ 1000) : kMulT (.tup [.int 1]) (.int k) = some (rowT (qn k.toNat)) := by
  rw [kMulT, if_pos ⟨by simp, by omega, by omega, by simp⟩, List.flatten_replicate_singleton]
  unfold rowT qn
  rw [List.map_replicate]
theorem ret_q_any {k : Int} (h1 : -1000 ≤ k) (h2 : k ≤ 1000) : ret fn_q_number [.int k] = some (rowT (qn k.toNat)) := by
  apply ret_of
  unfold fn_q_number m_q_number
  rw [wF_D, wS_ret, wE_Up, wE_m2, wE_A, wA_cons, wE_C, wA_nil]
  refine ⟨_, kTup_i, ?_⟩
  rw [wE_var]
  exact ⟨_, rfl, _, kMulT_any h1 h2, noVw_rowT _, rfl⟩
def numsG2 (f : List Int) : List Int → Option (List Int)
  | [] => some f
  | k :: r => if -1000 ≤ k ∧ k ≤ 1000 then (match mulG f (qn k.toNat) with
    | some f' => numsG2 f' r
    | none => none) else none
theorem numsG2_cons {f r : List Int} {k : Int} {l : List Int} (h : numsG2 f (k :: l) = some r) : (-1000 ≤ k ∧ k ≤ 1000) ∧ ∃ f', mulG f (qn k.toNat) = some f' ∧ numsG2 f' l = some r := by
  rw [numsG2] at h
  split at h
  · rename_i hk
    split at h
    · rename_i f' hf
      exact ⟨hk, f', hf, h⟩
    · cases h
  · cases h
theorem ret_law_numbers {l r : List Int} (h : numsG2 [1] l = some r) : ret fn__law_numbers [rowO l] = some (rowT r) := by
  apply ret_of
  unfold fn__law_numbers m__law_numbers
  rw [wF_D]
  refine wS_cut (fun σ => σ = [some (rowO l), some (rowT [1]), none]) (by simp; rfl) ?_
  rintro σ rfl
  refine wS_cut (fun σ => ∃ o0 o2, σ = [o0, some (rowT r), o2]) ?_ ?_
  · rw [wS_for, wI_take]
    refine ⟨_, rfl, ?_⟩
    unfold rowO
    simp only [noOwns_ints, if_true, List.set_cons_zero]
    refine wL_typ (P := fun l σ => ∃ f o2, numsG2 f l = some r ∧ σ = [none, some (rowT f), o2]) D.int ?_ ?_ ⟨[1], none, h, rfl⟩
    · rintro σ ⟨f, o2, hf, rfl⟩
      cases hf
      rw [gB_ss]
      exact ⟨rfl, _, o2, rfl⟩
    · rintro k l σ ⟨f, o2, hf, rfl⟩
      obtain ⟨⟨k1, k2⟩, f', hm, hf'⟩ := numsG2_cons hf
      refine wG_name.mpr ⟨by simp, ?_⟩
      simp only [List.set_cons_succ, List.set_cons_zero]
      rw [wS_set, wE_Call]
      refine wA_lendI rfl (noOwn_rowT _) ?_
      rw [wA_cons, wE_Up, wE_m2, wE_A, wA_cons, wE_C, wA_nil]
      refine ⟨_, kTup_i, ?_⟩
      rw [wE_var]
      refine ⟨_, rfl, _, kMulT_any k1 k2, noVw_rowT _, ?_⟩
      rw [wA_nil]
      refine wF_any (ret_law_times hm) fun σc => ?_
      rw [putB_id (by rfl)]
      exact ⟨by simp, f', _, hf', rfl⟩
  rintro σ ⟨o0, o2, rfl⟩
  rw [wS_ret, wE_move]
  exact ⟨_, rfl, rfl⟩
def ohRow (f : List Int) : List Int → Option (List Int)
  | [] => some f
  | k :: r => if -1000 ≤ k ∧ k ≤ 1000 then (match quoG f (qn k.toNat) with
    | some f' => ohRow f' r
    | none => none) else none
def ohG (f : List Int) : LL → Option (List Int)
  | [] => some f
  | row :: r => match ohRow f row with
    | some f' => ohG f' r
    | none => none
theorem items_ownS (H : LL) : (ownS H).items = some (H.map rowF) := by
  unfold ownS
  rw [items_own, frzs_rowO]
theorem ret_over_hooks {s f r : List Int} {H : LL} (hH : ret fn_hooks [rowT s] = some (ownS H)) (h : ohG f H = some r) : ret fn_over_hooks [rowT f, rowT s] = some (rowT r) := by
  apply ret_of
  unfold fn_over_hooks m_over_hooks
  rw [wF_D]
  refine wS_cut (fun σ => ∃ o2 o3, σ = [some (rowT r), some (rowT s), o2, o3]) ?_ ?_
  · rw [wS_for, wI_seq]
    refine wE_cr hH (wA_lendI rfl (noOwn_rowT _) (wA_nil.mpr ⟨rfl, rfl⟩)) rfl ⟨_, items_ownS H, ?_⟩
    refine wL_typ (P := fun H σ => ∃ f o2 o3, ohG f H = some r ∧ σ = [some (rowT f), some (rowT s), o2, o3]) rowF ?_ ?_ ⟨f, none, none, h, rfl⟩
    · rintro σ ⟨f, o2, o3, hf, rfl⟩
      cases hf
      rw [gB_n]
      exact ⟨rfl, o2, o3, rfl⟩
    · rintro row H σ ⟨f, o2, o3, hf, rfl⟩
      rw [ohG] at hf
      split at hf
      rotate_left
      · cases hf
      rename_i f1 h1
      refine wG_name.mpr ⟨by simp, ?_⟩
      simp only [List.set_cons_succ, List.set_cons_zero]
      rw [wS_for, wI_take]
      refine ⟨_, rfl, row.map .int, rfl, ?_⟩
      refine wL_typ (P := fun l σ => ∃ f o3, ohRow f l = some f1 ∧ σ = [some (rowT f), some (rowT s), some (rowF row), o3]) D.int ?_ ?_ ⟨f, o3, h1, rfl⟩
      · rintro σ ⟨f, o3, e, rfl⟩
        have e2 : f = f1 := Option.some.inj e
        rw [e2]
        exact ⟨_, _, _, hf, rfl⟩
      · rintro k l σ ⟨f, o3, e, rfl⟩
        rw [ohRow] at e
        split at e
        rotate_left
        · cases e
        rename_i hk
        split at e
        rotate_left
        · cases e
        rename_i f' hq
        refine wG_name.mpr ⟨by simp, ?_⟩
        simp only [List.set_cons_succ, List.set_cons_zero]
        rw [wS_set, wE_Call]
        refine wA_lendI rfl (noOwn_rowT _) ?_
        rw [wA_cons]
        refine wE_cr (ret_q_any hk.1 hk.2) (wA_lendI rfl rfl (wA_nil.mpr ⟨rfl, rfl⟩)) rfl ?_
        rw [wA_nil]
        refine wF_any (ret_quotient hq) fun σc => ?_
        rw [putB_id (by rfl)]
        exact ⟨by simp, f', _, e, rfl⟩
  rintro σ ⟨o2, o3, rfl⟩
  rw [wS_ret, wE_move]
  exact ⟨_, rfl, rfl⟩
theorem fSumA_rowT (l : List Int) : fSumA (rowT l) = some (.int l.sum) := by
  unfold rowT fSumA
  simp only [unInts_map]
theorem ret_standard {s p r : List Int} {H : LL} {n : Nat} (hs : s.sum = n) (hn : n ≤ 1000) (hH : ret fn_hooks [rowT s] = some (ownS H)) (hp : qfG n = some p) (hr : ohG p H = some r) : ret fn_standard_polynomial [rowT s] = some (rowT r) := by
  apply ret_of
  unfold fn_standard_polynomial m_standard_polynomial
  rw [wF_D, wS_ret, wE_Call, wA_cons, wE_Call, wA_cons, wE_Up, wE_A, wA_cons, wE_var]
  refine ⟨_, rfl, ?_⟩
  rw [wA_nil, k1_one, view_rowT]
  refine ⟨_, fSumA_rowT s, rfl, ?_⟩
  rw [wA_nil, hs]
  refine wF_any (ret_q_factorial hn hp) fun σc => ?_
  rw [putB_id (by rfl)]
  refine wA_lendI rfl (noOwn_rowT _) ?_
  rw [wA_nil]
  exact wF_any (ret_over_hooks hH hr) fun σc => rfl
/-- numbers of the contents, each moved by a number -/
def letG (f : List Int) (g : Int) : LL → Option (List Int)
  | [] => some f
  | row :: r => match numsG2 f (row.map fun k => g + k) with
    | some f' => letG f' g r
    | none => none
theorem ret_letters {s p r : List Int} {C H : LL} {g : Int} (hC : ret fn_contents [rowT s] = some (ownS C)) (hH : ret fn_hooks [rowT s] = some (ownS H)) (hp : letG [1] g C = some p) (hr : (if 0 < p.length then ohG p H else some []) = some r) : ret fn_letters_polynomial [rowT s, .int g] = some (rowT r) := by
  apply ret_of
  unfold fn_letters_polynomial m_letters_polynomial
  rw [wF_D]
  refine wS_cut (fun σ => σ = [some (rowT s), some (.int g), some (rowT [1]), none, none]) (by simp; rfl) ?_
  rintro σ rfl
  refine wS_cut (fun σ => ∃ o3 o4, σ = [some (rowT s), some (.int g), some (rowT p), o3, o4]) ?_ ?_
  · rw [wS_for, wI_seq]
    refine wE_cr hC (wA_lendI rfl (noOwn_rowT _) (wA_nil.mpr ⟨rfl, rfl⟩)) rfl ⟨_, items_ownS C, ?_⟩
    refine wL_typ (P := fun C σ => ∃ f o3 o4, letG f g C = some p ∧ σ = [some (rowT s), some (.int g), some (rowT f), o3, o4]) rowF ?_ ?_ ⟨[1], none, none, hp, rfl⟩
    · rintro σ ⟨f, o3, o4, hf, rfl⟩
      cases hf
      rw [gB_n]
      exact ⟨rfl, o3, o4, rfl⟩
    · rintro row C σ ⟨f, o3, o4, hf, rfl⟩
      rw [letG] at hf
      split at hf
      rotate_left
      · cases hf
      rename_i f1 hf1
      refine wG_name.mpr ⟨by simp, ?_⟩
      simp only [List.set_cons_succ, List.set_cons_zero]
      rw [wS_for, wI_take]
      refine ⟨_, rfl, row.map .int, rfl, ?_⟩
      refine wL_typ (P := fun l σ => ∃ f o4, numsG2 f (l.map fun k => g + k) = some f1 ∧ σ = [some (rowT s), some (.int g), some (rowT f), some (rowF row), o4]) D.int ?_ ?_ ⟨f, o4, hf1, rfl⟩
      · rintro σ ⟨f, o4, e, rfl⟩
        have e2 : f = f1 := Option.some.inj e
        rw [e2]
        exact ⟨_, _, _, hf, rfl⟩
      · rintro k l σ ⟨f, o4, e, rfl⟩
        rw [List.map_cons] at e
        obtain ⟨⟨k1, k2⟩, f', hm, e'⟩ := numsG2_cons e
        refine wG_name.mpr ⟨by simp, ?_⟩
        simp only [List.set_cons_succ, List.set_cons_zero]
        rw [wS_set, wE_Call]
        refine wA_lendI rfl (noOwn_rowT _) ?_
        rw [wA_cons, wE_Call, wA_cons, wE_Up, wE_m2, wE_var]
        refine ⟨_, rfl, ?_⟩
        rw [wE_var]
        refine ⟨_, rfl, _, kAdd_int, rfl, ?_⟩
        rw [wA_nil]
        refine wF_any (ret_q_any k1 k2) fun σc => ?_
        rw [putB_id (by rfl), wA_nil]
        refine wF_any (ret_product_of hm) fun σc => ?_
        rw [putB_id (by rfl)]
        exact ⟨by simp, f', _, e', rfl⟩
  rintro σ ⟨o3, o4, rfl⟩
  rw [wS_ret, wE_If, wT_B, wE_m2, wE_A, wA_cons, wE_var]
  refine ⟨_, rfl, ?_⟩
  rw [wA_nil, k1_one, view_rowT]
  refine ⟨_, fLen_rowT p, ?_⟩
  rw [wE_C]
  refine ⟨_, kGt_int, _, rfl, ?_⟩
  by_cases hl : 0 < p.length
  · have h1 : (0 : Int) < (p.length : Int) := by omega
    simp only [h1, decide_true, if_true]
    rw [if_pos hl] at hr
    rw [wE_Call]
    refine wA_frzI rfl rfl (wA_lendI rfl (noOwn_rowT _) ?_)
    rw [wA_nil]
    exact wF_any (ret_over_hooks hH hr) fun σc => rfl
  · have h1 : ¬ (0 : Int) < (p.length : Int) := by omega
    simp only [h1, decide_false, Bool.false_eq_true, if_false]
    rw [if_neg hl] at hr
    cases hr
    rw [wE_Up, wE_A, wA_nil]
    exact ⟨_, kTup_nil, rfl, rfl⟩
def wpGo (f : List Int) : List Int → Option (List Int)
  | [] => some f
  | k :: r => if 0 ≤ k ∧ k ≤ 1000 then (match qfG k.toNat with
    | some q => (match quoG f q with
      | some f' => wpGo f' r
      | none => none)
    | none => none) else none
theorem ret_words_poly {c p r : List Int} {n : Nat} (hs : c.sum = n) (hn : n ≤ 1000) (hp : qfG n = some p) (hr : wpGo p c = some r) : ret fn_words_polynomial [rowT c] = some (rowT r) := by
  apply ret_of
  unfold fn_words_polynomial m_words_polynomial
  rw [wF_D]
  refine wS_cut (fun σ => σ = [some (rowT c), some (rowT p), none]) ?_ ?_
  · rw [wS_set, wE_Call, wA_cons, wE_Up, wE_A, wA_cons, wE_var]
    refine ⟨_, rfl, ?_⟩
    rw [wA_nil, k1_one, view_rowT]
    refine ⟨_, fSumA_rowT c, rfl, ?_⟩
    rw [wA_nil, hs]
    refine wF_any (ret_q_factorial hn hp) fun σc => ?_
    rw [putB_id (by rfl)]
    exact ⟨by simp, rfl, rfl⟩
  rintro σ rfl
  refine wS_cut (fun σ => ∃ o2, σ = [some (rowT c), some (rowT r), o2]) ?_ ?_
  · rw [wS_for, wI_take]
    refine ⟨_, rfl, c.map .int, rfl, ?_⟩
    refine wL_typ (P := fun l σ => ∃ f o2, wpGo f l = some r ∧ σ = [some (rowT c), some (rowT f), o2]) D.int ?_ ?_ ⟨p, none, hr, rfl⟩
    · rintro σ ⟨f, o2, e, rfl⟩
      cases e
      rw [gB_sn]
      exact ⟨rfl, o2, rfl⟩
    · rintro k l σ ⟨f, o2, e, rfl⟩
      rw [wpGo] at e
      split at e
      rotate_left
      · cases e
      rename_i hk
      split at e
      rotate_left
      · cases e
      rename_i q hq
      split at e
      rotate_left
      · cases e
      rename_i f' hf'
      obtain ⟨m, rfl⟩ := Int.eq_ofNat_of_zero_le hk.1
      rw [Int.toNat_natCast] at hq
      refine wG_name.mpr ⟨by simp, ?_⟩
      simp only [List.set_cons_succ, List.set_cons_zero]
      rw [wS_set, wE_Call]
      refine wA_lendI rfl (noOwn_rowT _) ?_
      rw [wA_cons]
      refine wE_cr (ret_q_factorial (by omega) hq) (wA_lendI rfl rfl (wA_nil.mpr ⟨rfl, rfl⟩)) rfl ?_
      rw [wA_nil]
      refine wF_any (ret_quotient hf') fun σc => ?_
      rw [putB_id (by rfl)]
      exact ⟨by simp, f', _, e, rfl⟩
  rintro σ ⟨o2, rfl⟩
  rw [wS_ret, wE_move]
  exact ⟨_, rfl, rfl⟩
end K89
namespace K89
open PySem PySem.Spec PyProof.Rows L2 Py
/-! ### cyclotomic polynomials -/
def cycGo (rec : Nat → Option (List Int)) (n : Nat) : Nat → Option (List Int)
  | 0 => some (trim ((-1 : Int) :: (List.replicate (n - 1) 0 ++ [1])))
  | k + 1 => match cycGo rec n k with
    | some f => if n % (k + 1) = 0 then (match rec (k + 1) with
      | some c => quoG f c
      | none => none) else some f
    | none => none
def cycG : Nat → Nat → Option (List Int)
  | 0, _ => none
  | f + 1, n => cycGo (cycG f) n (n - 1)
theorem cycGo_mono {rec : Nat → Option (List Int)} {n : Nat} : ∀ {k j : Nat} {r : List Int}, cycGo rec n k = some r → j ≤ k → ∃ r', cycGo rec n j = some r'
  | 0, j, r, h, hj => by
    have : j = 0 := by omega
    subst this
    exact ⟨_, h⟩
  | k + 1, j, r, h, hj => by
    by_cases e : j = k + 1
    · subst e; exact ⟨_, h⟩
    · rw [cycGo] at h
      split at h
      · rename_i f hf
        exact cycGo_mono hf (by omega)
      · cases h
theorem ret_cyc : ∀ (f n : Nat) {r : List Int}, 1 ≤ n → n ≤ 1000 → cycG f n = some r → ret (fnR 3 m_cyclotomic f) [.int n] = some (rowT r)
  | 0, n, r, _, _, h => by cases h
  | f + 1, n, r, hn1, hn, h => by
    rw [cycG] at h
    apply ret_of
    show wF (fnD 3 (m_cyclotomic (fnR 3 m_cyclotomic f))) _ _
    unfold m_cyclotomic
    rw [wF_D]
    refine wS_cut (fun σ => σ = [some (.int n), some (rowT (trim ((-1 : Int) :: (List.replicate (n - 1) 0 ++ [1])))), none]) ?_ ?_
    · rw [wS_set, wE_Call, wA_cons, wE_Up, wE_m2, wE_m2, wE_A, wA_cons, wE_m1, wE_C]
      refine ⟨_, fNeg_int, ?_⟩
      rw [wA_nil]
      refine ⟨_, kLst_one, ?_⟩
      rw [wE_m2, wE_A, wA_cons, wE_C, wA_nil]
      refine ⟨_, kLst_one, ?_⟩
      rw [wE_m2, wE_var]
      refine ⟨_, rfl, ?_⟩
      rw [wE_C]
      have e1 : (n : Int) - 1 = ((n - 1 : Nat) : Int) := by omega
      refine ⟨_, kSub_int, _, (by rw [e1]; exact kMul_zeros (by omega)), _, kAdd_lst (by decide) (by decide) (by simp; omega), ?_⟩
      rw [wE_A, wA_cons, wE_C, wA_nil]
      refine ⟨_, kLst_one, _, kAdd_lst (by decide) (by decide) (by simp; omega), ?_⟩
      have e2 : D.lst .own ([D.int (-1)] ++ (List.replicate (n - 1) (0 : Int)).map .int ++ [.int 1]) = rowO ((-1 : Int) :: (List.replicate (n - 1) 0 ++ [1])) := by simp [rowO]
      rw [e2]
      refine ⟨noVw_rowO _, ?_⟩
      rw [wA_nil]
      refine wF_any (ret_trimmed (by simp; omega)) fun σc => ?_
      rw [putB_id (by rfl)]
      exact ⟨by simp, rfl, rfl⟩
    rintro σ rfl
    refine wS_cut (fun σ => ∃ o2, σ = [some (.int n), some (rowT r), o2]) ?_ ?_
    · rw [wS_for, wI_rng2, wE_C, wE_frz]
      refine ⟨_, rfl, _, _, rfl, rfl, by decide, by unfold okR; exact decide_eq_true (by omega), ?_⟩
      have e : ((n : Int) - 1).toNat = n - 1 := by omega
      rw [e]
      refine wL_rng (P := fun k σ => ∃ c o2, cycGo (cycG f) n k = some c ∧ σ = [some (.int n), some (rowT c), o2]) ⟨_, none, rfl, rfl⟩ ?_ ?_
      · rintro σ ⟨c, o2, hc, rfl⟩
        rw [h] at hc
        cases hc
        rw [gB_n]
        exact ⟨rfl, o2, rfl⟩
      · rintro k σ hk ⟨c, o2, hc, rfl⟩
        obtain ⟨c', hc'⟩ := cycGo_mono h (j := k + 1) (by omega)
        have hm := hc'
        rw [cycGo, hc] at hm
        simp only at hm
        have ek : (1 : Int) + (k : Int) = ((k + 1 : Nat) : Int) := by omega
        rw [ek]
        refine wG_name.mpr ⟨by simp, ?_⟩
        simp only [List.set_cons_succ, List.set_cons_zero]
        have hmod : kMod (.int (n : Int)) (.int ((k + 1 : Nat) : Int)) = some (.int ((n % (k + 1) : Nat) : Int)) := by
          rw [kMod_int (by omega), Int.natCast_emod]
        rw [wS_if, wT_B, wE_m2, wE_m2, wE_A, wA_cons, wE_var]
        refine ⟨_, rfl, ?_⟩
        rw [wA_nil, k1_one]
        refine ⟨_, fInt_int, ?_⟩
        rw [wE_var]
        refine ⟨_, rfl, _, hmod, ?_⟩
        rw [wE_C]
        refine ⟨_, kEq_int, _, rfl, ?_⟩
        by_cases q : n % (k + 1) = 0
        · rw [if_pos q] at hm
          split at hm
          rotate_left
          · cases hm
          rename_i d hd
          have hb : (((n % (k + 1) : Nat) : Int) == 0) = true := by rw [q]; rfl
          simp only [hb, if_true]
          rw [wS_set, wE_Call]
          refine wA_lendI rfl (noOwn_rowT _) ?_
          rw [wA_cons]
          refine wE_cr (ret_cyc f (k + 1) (by omega) (by omega) hd) (wA_lendI rfl rfl (wA_nil.mpr ⟨rfl, rfl⟩)) rfl ?_
          rw [wA_nil]
          refine wF_any (ret_quotient hm) fun σc => ?_
          rw [putB_id (by rfl)]
          exact ⟨by simp, c', _, hc', rfl⟩
        · rw [if_neg q] at hm
          cases hm
          have hb : (((n % (k + 1) : Nat) : Int) == 0) = false := beq_eq_false_iff_ne.mpr (by omega)
          simp only [hb, Bool.false_eq_true, if_false]
          rw [wS_nil]
          exact ⟨_, _, hc', rfl⟩
    rintro σ ⟨o2, rfl⟩
    rw [wS_ret, wE_move]
    exact ⟨_, rfl, rfl⟩
theorem ret_cyclotomic {n : Nat} {r : List Int} (h1 : 1 ≤ n) (hn : n ≤ 1000) (h : cycG 6 n = some r) : ret fn_cyclotomic [.int n] = some (rowT r) := ret_cyc 6 n h1 hn h
/-! ### values at roots -/
def atR (r : List Int) : D := if 1 < r.length then .non else .int (r.headD 0)
theorem ret_at_root {p c : List Int} {n : Nat} (h1 : 1 ≤ n) (hn : n ≤ 1000) (hp : p.length ≤ 100000) (hc : cycG 6 n = some c) (hne : c ≠ []) (ok : okP c = true) : ret fn_at_root [rowT p, .int n] = some (atR (remP p c)) := by
  apply ret_of
  unfold fn_at_root m_at_root
  rw [wF_D]
  refine wS_cut (fun σ => σ = [some (rowT p), some (.int n), some (rowT (remP p c))]) ?_ ?_
  · rw [wS_set, wE_Call]
    refine wA_lendI rfl (noOwn_rowT _) ?_
    rw [wA_cons]
    refine wE_cr (ret_cyclotomic h1 hn hc) (wA_lendI rfl rfl (wA_nil.mpr ⟨rfl, rfl⟩)) rfl ?_
    rw [wA_nil]
    refine wF_any (ret_remainder hne hp ok) fun σc => ?_
    rw [putB_id (by rfl)]
    exact ⟨by simp, rfl, rfl⟩
  rintro σ rfl
  generalize remP p c = r
  by_cases hl : 1 < r.length
  · have hi : (1 : Int) < (r.length : Int) := by omega
    rw [wS_seq, wS_if, wT_B, wE_m2, wE_A, wA_cons, wE_var]
    refine ⟨_, rfl, ?_⟩
    rw [wA_nil, k1_one, view_rowT]
    refine ⟨_, fLen_rowT r, ?_⟩
    rw [wE_C]
    refine ⟨_, kGt_int, _, rfl, ?_⟩
    simp only [hi, decide_true, if_true]
    rw [wS_ret, wE_C]
    unfold atR
    rw [if_pos hl]
    rfl
  · have hi : ¬ (1 : Int) < (r.length : Int) := by omega
    rw [wS_seq, wS_if, wT_B, wE_m2, wE_A, wA_cons, wE_var]
    refine ⟨_, rfl, ?_⟩
    rw [wA_nil, k1_one, view_rowT]
    refine ⟨_, fLen_rowT r, ?_⟩
    rw [wE_C]
    refine ⟨_, kGt_int, _, rfl, ?_⟩
    simp only [hi, decide_false, Bool.false_eq_true, if_false]
    rw [wS_nil, kS_nx, wS_ret, wE_If, wT_B, wE_m2, wE_A, wA_cons, wE_var]
    refine ⟨_, rfl, ?_⟩
    rw [wA_nil, k1_one, view_rowT]
    refine ⟨_, fLen_rowT r, ?_⟩
    rw [wE_C]
    refine ⟨_, kEq_int, _, rfl, ?_⟩
    unfold atR
    rw [if_neg hl]
    match r, hl with
    | [], _ => simp
    | [x], _ =>
      have hk : kIx (rowT [x]) (.int ((0 : Nat) : Int)) = some (.int x) := kIx_rowT rfl
      simp only [List.length_cons, List.length_nil]
      rw [if_pos (by decide), wE_Up, wE_m2, wE_var]
      refine ⟨_, rfl, ?_⟩
      rw [wE_C]
      exact ⟨_, hk, rfl, rfl⟩
    | x :: y :: r, hl => exact absurd (by simp) hl
/-- the value at a power of a root, an int -/
def fixG (p : List Int) (t g : Nat) : Option Int := match cycG 6 (t / g) with
  | some c => if c ≠ [] ∧ okP c = true ∧ p.length ≤ 100000 ∧ 1 ≤ t / g ∧ t ≤ 1000 ∧ 1 ≤ g ∧ (remP p c).length ≤ 1 then some ((remP p c).headD 0) else none
  | none => none
theorem ret_fixed {p : List Int} {t s g : Nat} {v : Int} (hg : ret fn_divisor [.int t, .int s] = some (.int g)) (h : fixG p t g = some v) : ret fn_fixed [rowT p, .int t, .int s] = some (.int v) := by
  unfold fixG at h
  split at h
  rotate_left
  · cases h
  rename_i c hc
  split at h
  rotate_left
  · cases h
  rename_i hq
  obtain ⟨q1, q2, q3, q4, q5, q6, q7⟩ := hq
  cases h
  have hd : kDiv (.int (t : Int)) (.int (g : Int)) = some (.int ((t / g : Nat) : Int)) := by
    have : g ≤ t := Nat.le_of_not_lt fun hlt => by rw [Nat.div_eq_of_lt hlt] at q4; omega
    rw [kDiv_int (by omega) (by omega), Int.natCast_ediv]
  have hle : t / g ≤ t := Nat.div_le_self t g
  apply ret_of
  unfold fn_fixed m_fixed
  rw [wF_D, wS_ret, wE_Call]
  refine wA_lendI rfl (noOwn_rowT _) ?_
  rw [wA_cons, wE_m2, wE_frz]
  refine ⟨_, rfl, ?_⟩
  refine wE_cr hg (wA_frzI rfl rfl (wA_frzI rfl rfl (wA_nil.mpr ⟨rfl, rfl⟩))) rfl ⟨_, hd, ?_⟩
  rw [wA_nil]
  refine wF_any (ret_at_root q4 (by omega) q3 hc q1 q2) fun σc => ?_
  unfold atR
  rw [if_neg (by omega)]
  rfl
def orbIn (L : Int) : Int → List (Int × Int) → Option Int
  | v, [] => some v
  | v, (s, m) :: r => if 0 < s ∧ s < 1000 then (if L % s = 0 then orbIn L (v - s * m) r else orbIn L v r) else none
def orbGo (p : List Int) (t : Nat) (gd : Nat → Nat) : List Nat → List (Int × Int) → Option (List (Int × Int))
  | [], acc => some acc
  | l :: r, acc => if 0 < l ∧ l ≤ 1000 ∧ acc.length ≤ 1000 then (match fixG p t (gd l) with
    | some v => (match orbIn l v acc with
      | some v' => orbGo p t gd r (acc ++ [((l : Int), v' / (l : Int))])
      | none => none)
    | none => none) else none
def prI (x : Int × Int) : D := .tup [.int x.1, .int x.2]
theorem noOwns_pr : ∀ l : List (Int × Int), noOwns (l.map prI) = true
  | [] => rfl
  | x :: l => by
    have h1 : (prI x).noOwn = true := rfl
    simp only [List.map_cons, noOwns, h1, noOwns_pr l, Bool.and_self]
theorem ret_orbits {p : List Int} {t : Nat} {gd : Nat → Nat} {ds : List Nat} {r : List (Int × Int)} (hd : ret fn_divisors [.int t] = some (rowO (ds.map fun (n : Nat) => (n : Int)))) (hg : ∀ l ∈ ds, ret fn_divisor [.int t, .int l] = some (.int (gd l))) (h : orbGo p t gd ds [] = some r) (hr : r.length ≤ 1000) :
    ret fn_orbits [rowT p, .int t] = some (.lst .own ((r.filter fun x => x.2 != 0).map prI)) := by
  apply ret_of
  unfold fn_orbits m_orbits
  rw [wF_D]
  refine wS_cut (fun σ => σ = [some (rowT p), some (.int t), some (.lst .own []), none, none, none, none]) (by simp) ?_
  rintro σ rfl
  refine wS_cut (fun σ => ∃ o3 o4 o5 o6, σ = [some (rowT p), some (.int t), some (.lst .own (r.map prI)), o3, o4, o5, o6]) ?_ ?_
  · rw [wS_for, wI_seq]
    refine wE_cr hd (wA_lendI rfl rfl (wA_nil.mpr ⟨rfl, rfl⟩)) rfl ⟨ds.map fun (n : Nat) => .int (n : Int), ?_, ?_⟩
    · unfold rowO
      rw [items_own, frzs_of (noOwns_ints _), List.map_map]
      rfl
    refine wL_typ (P := fun ds' σ => ∃ acc o3 o4 o5 o6, (∀ l ∈ ds', l ∈ ds) ∧ orbGo p t gd ds' acc = some r ∧ σ = [some (rowT p), some (.int t), some (.lst .own (acc.map prI)), o3, o4, o5, o6]) (fun (n : Nat) => .int (n : Int)) ?_ ?_ ⟨[], none, none, none, none, fun l m => m, h, rfl⟩
    · rintro σ ⟨acc, o3, o4, o5, o6, _, e, rfl⟩
      cases e
      rw [gB_n]
      exact ⟨rfl, _, _, _, _, rfl⟩
    · rintro l ds' σ ⟨acc, o3, o4, o5, o6, hsub, e, rfl⟩
      rw [orbGo] at e
      split at e
      rotate_left
      · cases e
      rename_i hl
      split at e
      rotate_left
      · cases e
      rename_i v hv
      split at e
      rotate_left
      · cases e
      rename_i v' hv'
      refine wG_name.mpr ⟨by simp, ?_⟩
      simp only [List.set_cons_succ, List.set_cons_zero]
      refine wS_cut (fun σ => σ = [some (rowT p), some (.int t), some (.lst .own (acc.map prI)), some (.int l), some (.int v), o5, o6]) ?_ ?_
      · rw [wS_set]
        refine wE_cr (ret_fixed (hg l (hsub l List.mem_cons_self)) hv) (wA_lendI rfl (noOwn_rowT _) (wA_lendI rfl rfl (wA_lendI rfl rfl (wA_nil.mpr ⟨rfl, rfl⟩)))) rfl ?_
        exact ⟨by simp, rfl, rfl⟩
      rintro σ rfl
      refine wS_cut (fun σ => ∃ o5 o6, σ = [some (rowT p), some (.int t), some (.lst .own (acc.map prI)), some (.int l), some (.int v'), o5, o6]) ?_ ?_
      · rw [wS_for, wI_take]
        refine ⟨_, rfl, ?_⟩
        simp only [noOwns_pr, if_true, List.set_cons_succ, List.set_cons_zero]
        refine wL_typ (P := fun ac σ => ∃ x o5 o6, orbIn l x ac = some v' ∧ σ = [some (rowT p), some (.int t), none, some (.int l), some (.int x), o5, o6]) prI ?_ ?_ ⟨v, o5, o6, hv', rfl⟩
        · rintro σ ⟨x, o5, o6, e3, rfl⟩
          have e4 : x = v' := Option.some.inj e3
          rw [gB_ss, e4]
          exact ⟨rfl, o5, o6, rfl⟩
        · rintro ⟨s, m⟩ ac σ ⟨x, o5, o6, e3, rfl⟩
          rw [orbIn] at e3
          split at e3
          rotate_left
          · cases e3
          rename_i hs
          rw [wG_tup]
          refine ⟨_, rfl, rfl, ?_⟩
          rw [wGs_cc, wG_name]
          refine ⟨by simp, ?_⟩
          rw [wGs_cc, wG_name]
          refine ⟨by simp, ?_⟩
          rw [wGs_nil]
          refine ⟨rfl, ?_⟩
          simp only [List.set_cons_succ, List.set_cons_zero]
          have hmod : kMod (.int (l : Int)) (.int s) = some (.int ((l : Int) % s)) := kMod_int hs.1
          rw [wS_if, wT_B, wE_m2, wE_m2, wE_A, wA_cons, wE_var]
          refine ⟨_, rfl, ?_⟩
          rw [wA_nil, k1_one]
          refine ⟨_, fInt_int, ?_⟩
          rw [wE_var]
          refine ⟨_, rfl, _, hmod, ?_⟩
          rw [wE_C]
          refine ⟨_, kEq_int, _, rfl, ?_⟩
          by_cases q : (l : Int) % s = 0
          · rw [if_pos q] at e3
            have hb : ((l : Int) % s == 0) = true := by rw [q]; rfl
            simp only [hb, if_true]
            rw [wS_aug]
            refine ⟨_, rfl, ?_⟩
            rw [wE_Up, wE_m2, wE_var]
            refine ⟨_, rfl, ?_⟩
            rw [wE_var]
            exact ⟨_, rfl, _, kMul_intL (by omega), rfl, _, kSub_int, by simp, _, _, _, e3, rfl⟩
          · rw [if_neg q] at e3
            have hb : ((l : Int) % s == 0) = false := beq_eq_false_iff_ne.mpr q
            simp only [hb, Bool.false_eq_true, if_false]
            rw [wS_nil]
            exact ⟨_, _, _, e3, rfl⟩
      rintro σ ⟨o5, o6, rfl⟩
      rw [wS_app]
      refine ⟨_, rfl, ?_⟩
      rw [wE_A]
      refine wA_frzI rfl rfl ?_
      rw [wA_cons, wE_Up, wE_m2, wE_var]
      refine ⟨_, rfl, ?_⟩
      rw [wE_var]
      refine ⟨_, rfl, _, kDiv_int (by omega) (by omega), rfl, ?_⟩
      rw [wA_nil]
      refine ⟨_, kTup_ii, _, _, rfl, dAt_nil, ?_⟩
      simp only [dPut_nil]
      refine ⟨by simp; omega, acc ++ [((l : Int), v' / (l : Int))], some (.int l), some (.int v'), o5, o6, fun l' m => hsub l' (List.mem_cons_of_mem _ m), e, ?_⟩
      rw [List.map_append]
      rfl
  rintro σ ⟨o3, o4, o5, o6, rfl⟩
  rw [wS_ret, wE_Lc, wI_take]
  refine ⟨_, rfl, ?_⟩
  simp only [noOwns_pr, if_true, List.set_cons_succ, List.set_cons_zero]
  refine wC_typ r prI (fun x => x.2 != 0) prI (fun x mx => ?_) fun σ' wq => ?_
  · rw [wG_tup]
    refine ⟨_, rfl, rfl, ?_⟩
    rw [wGs_cc, wG_name]
    refine ⟨by simp [wipeD], ?_⟩
    rw [wGs_cc, wG_name]
    refine ⟨by simp [wipeD], ?_⟩
    rw [wGs_nil]
    refine ⟨rfl, ?_⟩
    simp [wipeD, prI]
    by_cases q : x.2 = 0
    · simp [q]
    · simp [q, bne]
  · simp only [wq, unwipe_wipe, gB_ss]
    refine ⟨?_, rfl⟩
    have := List.length_filter_le (fun x : Int × Int => x.2 != 0) r
    rw [List.length_map]
    omega
end K89
namespace K89
open PySem PySem.Spec PyProof.Rows L2 Py
/-! ### lists that are the same -/
theorem same_list {xs : List D} (h : Pls 4 xs) (hl : xs.length ≤ 1000000) : wF fn__law_same [.lst .own xs, .lst .own xs] (fun v σ => v = .bl true ∧ ∃ o, σ = [some (.lst .own xs), some (.lst .own xs), o]) := by
  show wF (fnD 3 (m__law_same (fnR 3 m__law_same 5))) _ _
  have ih := same_go 4
  generalize fnR 3 m__law_same 5 = self at ih ⊢
  unfold m__law_same
  have hv : views xs = xs := views_of (Pls.gr h).1
  have hk : okR (xs.length : Int) = true := okR_len hl
  simp [hk, hv]
  refine wC_none (fun d hd => ?_) (fun σ' w => ?_)
  · obtain ⟨k, hk, rfl⟩ := up_mem hd
    have hx : xs[k]? = some xs[k] := List.getElem?_eq_getElem hk
    have hp := pls_mem h _ (List.getElem_mem hk)
    have hr := ih _ hp
    simp [wipeD, hv, atI_at (i := (k : Int)) rfl hx, hp.gr, wF_ret hr]
  · simp [w, kEq_lnil, unwipe_wipe]
theorem wE_sameL {A : M} {i : Nat} {σ : Sg} {Q : D → Sg → Prop} {xs : List D} (hp : Pls 4 xs) (hl : xs.length ≤ 1000000) (h : wE A σ fun v σ1 => v = .lst .own xs ∧ σ1 = σ) (hi : σ[i]? = some (some (.lst .own xs))) (hQ : Q (.bl true) σ) : wE (mCall [] [none, some i] fn__law_same (aCons A (aCons (mLend i) aNil))) σ Q := by
  rw [wE_Call, wA_cons]
  refine wE_mono h ?_
  rintro v σ1 ⟨rfl, rfl⟩
  rw [wA_cons, wE_lend]
  refine ⟨_, hi, ?_⟩
  rw [if_neg (by simp), wA_nil]
  refine wF_mono (same_list hp hl) ?_
  rintro v σc ⟨rfl, o, rfl⟩
  have h1 := (List.getElem?_eq_some_iff.mp hi).1
  have e1 : (σ1.set i none)[i]? = some none := by rw [List.getElem?_set_self h1]
  have e2 : putB [] 0 [none, some i] [some (.lst .own xs), some (.lst .own xs), o] (σ1.set i none) = σ1 := by
    simp only [putB, e1, List.set_set]
    simp
    obtain ⟨h1, h2⟩ := List.getElem?_eq_some_iff.mp hi
    rw [← h2, List.set_getElem_self]
  rw [e2]
  exact hQ
/-! ### folded -/
def foldS (t : Nat) : List Int → Nat → List Int → List Int
  | f, _, [] => f
  | f, k, a :: p => foldS t (f.set (k % t) (f.getD (k % t) 0 + a)) (k + 1) p
theorem foldS_len (t : Nat) : ∀ (p f : List Int) (k : Nat), (foldS t f k p).length = f.length
  | [], f, k => rfl
  | a :: p, f, k => by rw [foldS, foldS_len t p]; simp
theorem foldS_snoc (t : Nat) (a : Int) : ∀ (p f : List Int) (k : Nat), foldS t f k (p ++ [a]) = (foldS t f k p).set ((k + p.length) % t) ((foldS t f k p).getD ((k + p.length) % t) 0 + a)
  | [], f, k => rfl
  | b :: p, f, k => by
    rw [List.cons_append, foldS, foldS_snoc t a p, foldS]
    have e : k + 1 + p.length = k + (b :: p).length := by simp; omega
    rw [e]
theorem ret_folded {p : List Int} {t : Nat} (h1 : 1 ≤ t) (h2 : t ≤ 1000) (hp : p.length ≤ 100000) : ret fn_folded [rowT p, .int t] = some (rowT (foldS t (List.replicate t 0) 0 p)) := by
  apply ret_of
  unfold fn_folded m_folded
  rw [wF_D]
  refine wS_cut (fun σ => σ = [some (rowT p), some (.int t), some (rowO (List.replicate t 0)), none]) ?_ ?_
  · rw [wS_set, wE_Up, wE_m2, wE_A, wA_cons, wE_C, wA_nil]
    refine ⟨_, kLst_one, ?_⟩
    rw [wE_var]
    exact ⟨_, rfl, _, kMul_zeros (by omega), noVw_rowO _, by simp, rfl, rfl⟩
  rintro σ rfl
  refine wS_cut (fun σ => ∃ o3, σ = [some (rowT p), some (.int t), some (rowO (foldS t (List.replicate t 0) 0 p)), o3]) ?_ ?_
  · rw [wS_for, wI_rng1, wE_Up, wE_A, wA_cons, wE_var]
    refine ⟨_, rfl, ?_⟩
    rw [wA_nil, k1_one, view_rowT]
    refine ⟨_, fLen_rowT p, rfl, _, rfl, okR_len (by omega), ?_⟩
    rw [Int.toNat_natCast]
    refine wL_rng (P := fun k σ => ∃ o3, σ = [some (rowT p), some (.int t), some (rowO (foldS t (List.replicate t 0) 0 (p.take k))), o3]) ⟨none, rfl⟩ ?_ ?_
    · rintro σ ⟨o3, rfl⟩
      rw [gB_n, List.take_length]
      exact ⟨rfl, o3, rfl⟩
    · rintro k σ hk ⟨o3, rfl⟩
      obtain ⟨a, ha, _⟩ := get_some hk
      have hlen : (foldS t (List.replicate t 0) 0 (p.take k)).length = t := by rw [foldS_len, List.length_replicate]
      have hm : k % t < t := Nat.mod_lt _ (by omega)
      have hs : foldS t (List.replicate t 0) 0 (p.take (k + 1)) = (foldS t (List.replicate t 0) 0 (p.take k)).set (k % t) ((foldS t (List.replicate t 0) 0 (p.take k)).getD (k % t) 0 + a) := by
        rw [take_snoc ha, foldS_snoc]
        have : 0 + (p.take k).length = k := by simp; omega
        rw [this]
      rw [hs]
      generalize foldS t (List.replicate t 0) 0 (p.take k) = F at hlen
      obtain ⟨v, hv, _⟩ := get_some (l := F) (k := k % t) (by omega)
      rw [getD_get hv]
      refine wG_name.mpr ⟨by simp, ?_⟩
      simp only [Int.zero_add, List.set_cons_succ, List.set_cons_zero]
      have hmod : kMod (.int (k : Int)) (.int (t : Int)) = some (.int ((k % t : Nat) : Int)) := by rw [kMod_int (by omega), Int.natCast_emod]
      refine wS_augR (xs := F.map .int) (i := ((k % t : Nat) : Int)) (j := k % t) (x := v) (k := a) rfl (nInt_of ?_) (ixN_nat (by rw [List.length_map]; omega)) (by rw [List.getElem?_map, hv]; rfl) (nInt_of ?_) kPlus_int ?_
      · rw [wE_m2, wE_A, wA_cons, wE_var]
        refine ⟨_, rfl, ?_⟩
        rw [wA_nil, k1_one]
        refine ⟨_, fInt_int, ?_⟩
        rw [wE_var]
        exact ⟨_, rfl, _, hmod, rfl⟩
      · rw [wE_m2, wE_var]
        refine ⟨_, rfl, ?_⟩
        rw [wE_var]
        exact ⟨_, rfl, _, kIx_rowT ha, rfl⟩
      · rw [set_rowO]
        exact ⟨_, rfl⟩
  rintro σ ⟨o3, rfl⟩
  rw [wS_ret, wE_Up, wE_A, wA_cons, wE_var]
  refine ⟨_, rfl, ?_⟩
  rw [wA_nil, k1_one, view_rowO]
  exact ⟨_, fTuple_lst (noOwns_ints _), noVw_rowT _, rfl⟩
/-! ### what is told of a polynomial -/
def cntM (L : List Int) (s : Nat) : Nat := (L.filter fun m => (s : Int) % m == 0).length
def cntE (L : List Int) (s : Nat) : Nat := (L.filter fun m => m == (s : Int)).length
def dueL (L : List Int) (t : Nat) : List (Int × Int) := ((List.range t).filter fun i => decide (0 < cntE L (i + 1))).map fun i => (((i + 1 : Nat) : Int), ((cntE L (i + 1) / (i + 1) : Nat) : Int))
def sumJ (due : List (Int × Int)) (t j : Nat) : Int := ((due.filter fun x => (j : Int) % ((t : Int) / x.1) == 0).map fun x => x.2).sum
def divs (t : Nat) : List Nat := ((List.range t).map fun i => i + 1).filter fun d => t % d == 0
def toldB (p L : List Int) (t : Nat) : Bool :=
  decide (p.sum = (L.length : Int)) && p.all (fun x => decide (0 ≤ x)) && decide (p.length ≤ 100000) && L.all (fun m => decide (0 < m)) && decide (L.length ≤ 100000) && decide (1 ≤ t) && decide (t ≤ 1000) &&
  (List.range t).all (fun i => fixG p t (Nat.gcd t (i + 1)) == some ((cntM L (i + 1) : Nat) : Int)) &&
  (match orbGo p t (Nat.gcd t) (divs t) [] with
    | some r => decide (r.length ≤ 1000) && decide ((r.filter fun x => x.2 != 0) = dueL L t)
    | none => false) &&
  decide (foldS t (List.replicate t 0) 0 p = (List.range t).map fun j => sumJ (dueL L t) t j)
theorem cntM_le (L : List Int) (s : Nat) : cntM L s ≤ L.length := List.length_filter_le _ _
theorem dueL_mem {L : List Int} {t : Nat} {x : Int × Int} (h : x ∈ dueL L t) : 1 ≤ x.1 ∧ x.1 ≤ t := by
  obtain ⟨i, hi, rfl⟩ := List.mem_map.mp h
  have := List.mem_range.mp (List.mem_filter.mp hi).1
  simp only
  omega
theorem pls_pr : ∀ l : List (Int × Int), Pls 4 (l.map prI)
  | [] => trivial
  | x :: l => ⟨⟨by simp, pl_int _, pl_int _, trivial⟩, pls_pr l⟩
theorem ret_told {p L : List Int} {t : Nat} (hd : ret fn_divisors [.int t] = some (rowO ((divs t).map fun (n : Nat) => (n : Int)))) (hg : ∀ i < t, ret fn_divisor [.int t, .int ((i + 1 : Nat) : Int)] = some (.int (Nat.gcd t (i + 1) : Nat))) (h : toldB p L t = true) :
    ret fn__law_told [rowT p, rowO L, .int t] = some (.bl true) := by
  unfold toldB at h
  simp only [Bool.and_eq_true, decide_eq_true_eq, List.all_eq_true] at h
  obtain ⟨⟨⟨⟨⟨⟨⟨⟨⟨c1, c2⟩, c3⟩, c4⟩, c5⟩, c6⟩, c7⟩, c8⟩, c9⟩, c10⟩ := h
  split at c9
  rotate_left
  · cases c9
  rename_i r hr
  simp only [Bool.and_eq_true, decide_eq_true_eq] at c9
  obtain ⟨r1, r2⟩ := c9
  have ho := ret_orbits hd (fun l hl => by
    obtain ⟨hm, _⟩ := List.mem_filter.mp hl
    obtain ⟨i, hi, rfl⟩ := List.mem_map.mp hm
    exact hg i (List.mem_range.mp hi)) hr r1
  rw [r2] at ho
  apply ret_of
  unfold fn__law_told m__law_told
  rw [wF_D]
  refine wS_cut (fun σ => σ = [some (rowT p), some (rowO L), some (.int t), none, none, none, none, none, none, none, none, none]) ?_ ?_
  · rw [wS_if, wT_or, wT_B, wE_m2, wE_A, wA_cons, wE_var]
    refine ⟨_, rfl, ?_⟩
    rw [wA_nil, k1_one, view_rowT]
    refine ⟨_, fSumA_rowT p, ?_⟩
    rw [wE_A, wA_cons, wE_var]
    refine ⟨_, rfl, ?_⟩
    rw [wA_nil, k1_one, view_rowO]
    refine ⟨_, fLen_rowV L, _, kNe_int, _, rfl, ?_⟩
    rw [c1]
    simp only [beq_self_eq_true, Bool.not_true, Bool.false_eq_true, if_false]
    rw [wT_B, wE_m2, wE_Lc, wI_take]
    refine ⟨_, rfl, p.map .int, rfl, ?_⟩
    refine wC_none (fun d hd => ?_) (fun σ' w => ?_)
    · obtain ⟨x, mx, rfl⟩ := List.mem_map.mp hd
      have hx : ¬ x < 0 := by have := c2 x mx; omega
      simp [wipeD, hx]
    · simp only [w, unwipe_wipe, gB_sn]
      refine ⟨by simp, ?_⟩
      rw [wE_Up, wE_A, wA_nil]
      refine ⟨_, kLst_nil, rfl, _, kNe_lnil rfl, _, rfl, ?_⟩
      simp
  rintro σ rfl
  refine wS_cut (fun σ => ∃ o4 o5, σ = [some (rowT p), some (rowO L), some (.int t), none, o4, o5, none, none, none, none, none, none]) ?_ ?_
  · rw [wS_for, wI_rng2, wE_C, wE_Up, wE_m2, wE_var]
    refine ⟨_, rfl, ?_⟩
    rw [wE_C]
    refine ⟨_, kAdd_int, rfl, _, _, rfl, rfl, by decide, by unfold okR; exact decide_eq_true (by omega), ?_⟩
    have e : ((t : Int) + 1 - 1).toNat = t := by omega
    rw [e]
    refine wL_rng (P := fun k σ => ∃ o4 o5, σ = [some (rowT p), some (rowO L), some (.int t), none, o4, o5, none, none, none, none, none, none]) ⟨none, none, rfl⟩ ?_ ?_
    · rintro σ ⟨o4, o5, rfl⟩
      rw [gB_n]
      exact ⟨rfl, o4, o5, rfl⟩
    · rintro k σ hk ⟨o4, o5, rfl⟩
      have ek : (1 : Int) + (k : Int) = ((k + 1 : Nat) : Int) := by omega
      rw [ek]
      refine wG_name.mpr ⟨by simp, ?_⟩
      simp only [List.set_cons_succ, List.set_cons_zero]
      refine wS_cut (fun σ => σ = [some (rowT p), some (rowO L), some (.int t), none, some (.int ((k + 1 : Nat) : Int)), some (.int ((cntM L (k + 1) : Nat) : Int)), none, none, none, none, none, none]) ?_ ?_
      · rw [wS_set, wE_Up]
        refine wE_cnt L D.int (fun m => ((k + 1 : Nat) : Int) % m == 0) ?_
        rw [wE_var]
        refine ⟨_, rfl, (by rw [view_rowO]; rfl), by omega, by simp, fun m mm => ?_, rfl, by simp, rfl, rfl⟩
        have hm : (0 : Int) < m := c4 m mm
        rw [wT_B, wE_m2, wE_m2, wE_A, wA_cons, wE_var]
        refine ⟨_, by simp [wipeD]; rfl, ?_⟩
        rw [wA_nil, k1_one]
        refine ⟨_, fInt_int, ?_⟩
        rw [wE_var]
        refine ⟨_, by simp [wipeD]; rfl, _, kMod_int hm, ?_⟩
        rw [wE_C]
        refine ⟨_, kEq_int, _, rfl, rfl, fun _ => ?_⟩
        rw [wE_C]
        trivial
      rintro σ rfl
      have hf : fixG p t (Nat.gcd t (k + 1)) = some ((cntM L (k + 1) : Nat) : Int) := by
        have := c8 k (List.mem_range.mpr hk)
        exact eq_of_beq this
      rw [wS_if, wT_not, wT_val]
      refine wE_same1 (pl_int _) (wE_cr (ret_fixed (hg k hk) hf) (wA_lendI rfl (noOwn_rowT _) (wA_lendI rfl rfl (wA_lendI rfl rfl (wA_nil.mpr ⟨rfl, rfl⟩)))) rfl ⟨rfl, rfl⟩) rfl ⟨true, rfl, ?_⟩
      simp only [Bool.not_true, Bool.false_eq_true, if_false]
      rw [wS_nil]
      exact ⟨_, _, rfl⟩
  rintro σ ⟨o4, o5, rfl⟩
  refine wS_cut (fun σ => σ = [some (rowT p), some (rowO L), some (.int t), none, o4, o5, none, some (.lst .own []), none, none, none, none]) (by simp) ?_
  rintro σ rfl
  refine wS_cut (fun σ => ∃ o6 o8, σ = [some (rowT p), some (rowO L), some (.int t), none, o4, o5, o6, some (.lst .own ((dueL L t).map prI)), o8, none, none, none]) ?_ ?_
  · rw [wS_for, wI_rng2, wE_C, wE_Up, wE_m2, wE_var]
    refine ⟨_, rfl, ?_⟩
    rw [wE_C]
    refine ⟨_, kAdd_int, rfl, _, _, rfl, rfl, by decide, by unfold okR; exact decide_eq_true (by omega), ?_⟩
    have e : ((t : Int) + 1 - 1).toNat = t := by omega
    rw [e]
    refine wL_rng (P := fun k σ => ∃ o6 o8, σ = [some (rowT p), some (rowO L), some (.int t), none, o4, o5, o6, some (.lst .own ((dueL L k).map prI)), o8, none, none, none]) ⟨none, none, rfl⟩ ?_ ?_
    · rintro σ ⟨o6, o8, rfl⟩
      rw [gB_n]
      exact ⟨rfl, o6, o8, rfl⟩
    · rintro k σ hk ⟨o6, o8, rfl⟩
      have ek : (1 : Int) + (k : Int) = ((k + 1 : Nat) : Int) := by omega
      rw [ek]
      have hdl : (dueL L k).length ≤ k := by
        unfold dueL
        rw [List.length_map]
        have := List.length_filter_le (fun i => decide (0 < cntE L (i + 1))) (List.range k)
        simpa using this
      refine wG_name.mpr ⟨by simp, ?_⟩
      simp only [List.set_cons_succ, List.set_cons_zero]
      refine wS_cut (fun σ => σ = [some (rowT p), some (rowO L), some (.int t), none, o4, o5, some (.int ((k + 1 : Nat) : Int)), some (.lst .own ((dueL L k).map prI)), some (.int ((cntE L (k + 1) : Nat) : Int)), none, none, none]) ?_ ?_
      · rw [wS_set, wE_Up]
        refine wE_cnt L D.int (fun m => m == ((k + 1 : Nat) : Int)) ?_
        rw [wE_var]
        refine ⟨_, rfl, (by rw [view_rowO]; rfl), by omega, by simp, fun m mm => ?_, rfl, by simp, rfl, rfl⟩
        rw [wT_B, wE_m2, wE_var]
        refine ⟨.int m, by simp [wipeD], ?_⟩
        rw [wE_var]
        refine ⟨.int ((k + 1 : Nat) : Int), by simp [wipeD], _, kEq_int, _, rfl, rfl, fun _ => ?_⟩
        rw [wE_C]
        trivial
      rintro σ rfl
      rw [wS_if, wT_B, wE_m2, wE_var]
      refine ⟨_, rfl, ?_⟩
      rw [wE_C]
      refine ⟨_, kGt_int, _, rfl, ?_⟩
      by_cases q : 0 < cntE L (k + 1)
      · have hq : (0 : Int) < ((cntE L (k + 1) : Nat) : Int) := by omega
        have hdue : dueL L (k + 1) = dueL L k ++ [(((k + 1 : Nat) : Int), ((cntE L (k + 1) / (k + 1) : Nat) : Int))] := by
          unfold dueL
          rw [List.range_succ, List.filter_append, List.map_append]
          simp [q]
        simp only [hq, decide_true, if_true]
        rw [wS_app]
        refine ⟨_, rfl, ?_⟩
        rw [wE_A]
        refine wA_frzI rfl rfl ?_
        rw [wA_cons, wE_Up, wE_m2, wE_var]
        refine ⟨_, rfl, ?_⟩
        rw [wE_var]
        refine ⟨_, rfl, _, kDiv_int (by omega) (by omega), rfl, ?_⟩
        rw [wA_nil]
        refine ⟨_, kTup_ii, _, _, rfl, dAt_nil, ?_⟩
        simp only [dPut_nil]
        refine ⟨by simp; omega, some (.int ((k + 1 : Nat) : Int)), some (.int ((cntE L (k + 1) : Nat) : Int)), ?_⟩
        rw [hdue, List.map_append]
        rfl
      · have hq : ¬ (0 : Int) < ((cntE L (k + 1) : Nat) : Int) := by omega
        have hdue : dueL L (k + 1) = dueL L k := by
          unfold dueL
          rw [List.range_succ, List.filter_append, List.map_append]
          simp [q]
        simp only [hq, decide_false, Bool.false_eq_true, if_false]
        rw [wS_nil, hdue]
        exact ⟨_, _, rfl⟩
  rintro σ ⟨o6, o8, rfl⟩
  have hdl : (dueL L t).length ≤ t := by
    unfold dueL
    rw [List.length_map]
    have := List.length_filter_le (fun i => decide (0 < cntE L (i + 1))) (List.range t)
    simpa using this
  refine wS_cut (fun σ => σ = [some (rowT p), some (rowO L), some (.int t), none, o4, o5, o6, some (.lst .own ((dueL L t).map prI)), o8, none, none, none]) ?_ ?_
  · rw [wS_if, wT_not, wT_val]
    refine wE_sameL (xs := (dueL L t).map prI) (pls_pr _) (by simp; omega) (wE_cr ho (wA_lendI rfl (noOwn_rowT _) (wA_lendI rfl rfl (wA_nil.mpr ⟨rfl, rfl⟩))) rfl ⟨rfl, rfl⟩) rfl ⟨true, rfl, ?_⟩
    simp only [Bool.not_true, Bool.false_eq_true, if_false]
    exact wS_nil.mpr ⟨rfl, rfl⟩
  rintro σ rfl
  refine wS_cut (fun σ => σ = [some (rowT p), some (rowO L), some (.int t), none, o4, o5, o6, some (.lst .own ((dueL L t).map prI)), o8, some (rowO []), none, none]) (by simp; rfl) ?_
  rintro σ rfl
  refine wS_cut (fun σ => ∃ o6 o7 o10 o11, σ = [some (rowT p), some (rowO L), some (.int t), none, o4, o5, o6, o7, o8, some (rowO ((List.range t).map fun j => sumJ (dueL L t) t j)), o10, o11]) ?_ ?_
  · rw [wS_for, wI_rng1, wE_frz]
    refine ⟨_, rfl, _, rfl, okR_len (by omega), ?_⟩
    rw [Int.toNat_natCast]
    simp only [frz_int, List.set_cons_succ, List.set_cons_zero]
    refine wL_rng (P := fun k σ => ∃ o6 o10 o11, σ = [some (rowT p), some (rowO L), some (.int t), none, o4, o5, o6, some (.lst .own ((dueL L t).map prI)), o8, some (rowO ((List.range k).map fun j => sumJ (dueL L t) t j)), o10, o11]) ⟨o6, none, none, rfl⟩ ?_ ?_
    · rintro σ ⟨o6, o10, o11, rfl⟩
      rw [gB_n]
      exact ⟨rfl, _, _, _, _, rfl⟩
    · rintro k σ hk ⟨o6, o10, o11, rfl⟩
      refine wG_name.mpr ⟨by simp, ?_⟩
      simp only [Int.zero_add, List.set_cons_succ, List.set_cons_zero]
      rw [wS_app]
      refine ⟨_, rfl, ?_⟩
      rw [wE_A, wA_cons, wE_Lc, wI_take]
      refine ⟨_, rfl, ?_⟩
      simp only [noOwns_pr, if_true, List.set_cons_succ, List.set_cons_zero]
      refine wC_typ (dueL L t) prI (fun x => (k : Int) % ((t : Int) / x.1) == 0) (fun x => .int x.2) (fun x mx => ?_) fun σ' wq => ?_
      · obtain ⟨x1, x2⟩ := dueL_mem mx
        have hdv : kDiv (.int (t : Int)) (.int x.1) = some (.int ((t : Int) / x.1)) := kDiv_int (by omega) (by omega)
        have hpos : 0 < (t : Int) / x.1 := by
          have := Int.le_ediv_of_mul_le (a := 1) (b := (t : Int)) (c := x.1) (by omega) (by omega)
          omega
        have hmod : kMod (.int (k : Int)) (.int ((t : Int) / x.1)) = some (.int ((k : Int) % ((t : Int) / x.1))) := kMod_int hpos
        rw [wG_tup]
        refine ⟨_, rfl, rfl, ?_⟩
        rw [wGs_cc, wG_name]
        refine ⟨by simp [wipeD], ?_⟩
        rw [wGs_cc, wG_name]
        refine ⟨by simp [wipeD], ?_⟩
        rw [wGs_nil]
        refine ⟨rfl, ?_⟩
        simp [wipeD, hdv, hmod]
        by_cases q : (k : Int) % ((t : Int) / x.1) = 0
        · simp [q]
        · simp [q]
      · simp only [wq, unwipe_wipe, gB_ss]
        have hll := List.length_filter_le (fun x : Int × Int => (k : Int) % ((t : Int) / x.1) == 0) (dueL L t)
        refine ⟨by rw [List.length_map]; omega, ?_⟩
        rw [wA_nil, k1_one]
        have hsum : fSumA (.lst .own (((dueL L t).filter fun x => (k : Int) % ((t : Int) / x.1) == 0).map fun x => D.int x.2)) = some (.int (sumJ (dueL L t) t k)) := by
          have e : (((dueL L t).filter fun x => (k : Int) % ((t : Int) / x.1) == 0).map fun x => D.int x.2) = ((((dueL L t).filter fun x => (k : Int) % ((t : Int) / x.1) == 0).map fun x => x.2).map .int) := by rw [List.map_map]; rfl
          rw [e]
          show (match unInts _ with
            | some ns => some (D.int ns.sum)
            | none => none) = _
          rw [unInts_map]
          rfl
        refine ⟨_, hsum, _, _, rfl, dAt_nil, ?_⟩
        simp only [dPut_nil]
        refine ⟨by simp; omega, o6, some (.int k), o11, ?_⟩
        rw [List.range_succ, List.map_append]
        simp [rowO]
  rintro σ ⟨o6, o7, o10, o11, rfl⟩
  rw [wS_ret]
  have hpl : Pl 5 (rowT (foldS t (List.replicate t 0) 0 p)) := pl_ints (by rw [foldS_len, List.length_replicate]; omega)
  refine wE_same2 hpl ?_
  refine wE_cr (ret_folded c6 c7 c3) (wA_lendI rfl (noOwn_rowT _) (wA_lendI rfl rfl (wA_nil.mpr ⟨rfl, rfl⟩))) rfl ⟨rfl, ?_⟩
  rw [wE_Up, wE_A, wA_cons, wE_var]
  refine ⟨_, rfl, ?_⟩
  rw [wA_nil, k1_one, view_rowO, ← c10]
  exact ⟨_, fTuple_lst (noOwns_ints _), noVw_rowT _, rfl, rfl⟩
end K89
namespace K89
open PySem PySem.Spec PyProof.Rows L2 Py
/-! ### promotion -/
def at2 (R : LL) (i j : Nat) : Int := (R.getD i []).getD j 0
def put2 (R : LL) (i j : Nat) (v : Int) : LL := R.set i ((R.getD i []).set j v)
def slideP : Nat → LL → Nat → Nat → LL × Nat × Nat
  | 0, R, i, j => (R, i, j)
  | n + 1, R, i, j => if at2 R i (j + 1) = 0 ∧ at2 R (i + 1) j = 0 then (R, i, j)
    else if at2 R i (j + 1) = 0 ∨ (0 < at2 R (i + 1) j ∧ at2 R (i + 1) j ≤ at2 R i (j + 1)) then slideP n (put2 R i j (at2 R (i + 1) j)) (i + 1) j
    else slideP n (put2 R i j (at2 R i (j + 1))) i (j + 1)
def promGo : Nat → LL → List (Nat × Nat) → LL × List (Nat × Nat)
  | 0, R, E => (R, E)
  | m + 1, R, E => promGo m (put2 (slideP 60 R 0 m).1 (slideP 60 R 0 m).2.1 (slideP 60 R 0 m).2.2 0) (E ++ [((slideP 60 R 0 m).2.1, (slideP 60 R 0 m).2.2)])
def onesOf (r : List Int) : Nat := (r.filter fun x => x == 1).length
def promP (R : LL) (g : Int) : LL := match R with
  | [] => []
  | r0 :: R' => (promGo (onesOf r0) (r0 :: R') []).2.foldl (fun T e => put2 T e.1 e.2 g) ((promGo (onesOf r0) (r0 :: R') []).1.map fun r => r.map fun x => x - 1)
def Val2 (R : LL) (i j : Nat) : Prop := i < R.length ∧ j < (R.getD i []).length
theorem put2_lens (R : LL) (i j : Nat) (v : Int) : (put2 R i j v).map List.length = R.map List.length := by
  unfold put2
  rw [List.map_set, List.length_set]
  apply List.ext_getElem?
  intro k
  rw [List.getElem?_set]
  split
  · rename_i e
    subst e
    split
    · rename_i h
      rw [List.length_map] at h
      rw [List.getElem?_map, List.getElem?_eq_getElem h]
      simp [List.getD_eq_getElem?_getD, h]
    · rename_i h
      rw [List.getElem?_eq_none_iff.mpr (by omega)]
  · rfl
theorem val2_iff (R : LL) (i j : Nat) : Val2 R i j ↔ ∃ n, (R.map List.length)[i]? = some n ∧ j < n := by
  unfold Val2
  rw [List.getElem?_map]
  constructor
  · rintro ⟨h1, h2⟩
    refine ⟨_, by rw [List.getElem?_eq_getElem h1]; rfl, ?_⟩
    simpa [List.getD_eq_getElem?_getD, h1] using h2
  · rintro ⟨n, h1, h2⟩
    have h3 : i < R.length := by
      rcases Nat.lt_or_ge i R.length with h | h
      · exact h
      · rw [List.getElem?_eq_none_iff.mpr h] at h1; cases h1
    rw [List.getElem?_eq_getElem h3] at h1
    cases h1
    exact ⟨h3, by simpa [List.getD_eq_getElem?_getD, h3] using h2⟩
theorem Val2.put {R : LL} {i j i' j' : Nat} {v : Int} (h : Val2 R i' j') : Val2 (put2 R i j v) i' j' := by
  rw [val2_iff] at h ⊢
  rw [put2_lens]
  exact h
theorem Val2.row {R : LL} {i j : Nat} (h : Val2 R i j) : R[i]? = some (R.getD i []) ∧ (R.getD i [])[j]? = some (at2 R i j) := by
  obtain ⟨h1, h2⟩ := h
  refine ⟨by rw [List.getD_eq_getElem?_getD, List.getElem?_eq_getElem h1]; rfl, ?_⟩
  unfold at2
  rw [List.getD_eq_getElem?_getD (l := R.getD i []), List.getElem?_eq_getElem h2]
  rfl
theorem at2_val {R : LL} {i j : Nat} (h : at2 R i j ≠ 0) : Val2 R i j := by
  unfold at2 at h
  have h2 : j < (R.getD i []).length := by
    rcases Nat.lt_or_ge j (R.getD i []).length with q | q
    · exact q
    · rw [List.getD_eq_getElem?_getD, List.getElem?_eq_none_iff.mpr q] at h
      exact absurd rfl h
  refine ⟨?_, h2⟩
  rcases Nat.lt_or_ge i R.length with q | q
  · exact q
  · rw [List.getD_eq_getElem?_getD, List.getElem?_eq_none_iff.mpr q] at h2
    cases h2
theorem slide_lens : ∀ (n : Nat) (R : LL) (i j : Nat), (slideP n R i j).1.map List.length = R.map List.length
  | 0, R, i, j => rfl
  | n + 1, R, i, j => by
    rw [slideP]
    split
    · rfl
    · split
      · rw [slide_lens n, put2_lens]
      · rw [slide_lens n, put2_lens]
theorem slide_val : ∀ (n : Nat) (R : LL) (i j : Nat), Val2 R i j → Val2 (slideP n R i j).1 (slideP n R i j).2.1 (slideP n R i j).2.2
  | 0, R, i, j, h => h
  | n + 1, R, i, j, h => by
    rw [slideP]
    split
    · exact h
    · rename_i h0
      split
      · rename_i h1
        have hb : at2 R (i + 1) j ≠ 0 := by rcases h1 with h1 | h1 <;> omega
        exact slide_val n _ _ _ (at2_val hb).put
      · rename_i h1
        have hb : at2 R i (j + 1) ≠ 0 := by omega
        exact slide_val n _ _ _ (at2_val hb).put
theorem promGo_lens : ∀ (m : Nat) (R : LL) (E : List (Nat × Nat)), (promGo m R E).1.map List.length = R.map List.length
  | 0, R, E => rfl
  | m + 1, R, E => by rw [promGo, promGo_lens m, put2_lens, slide_lens]
theorem fold_lens (g : Int) : ∀ (E : List (Nat × Nat)) (T : LL), (E.foldl (fun T e => put2 T e.1 e.2 g) T).map List.length = T.map List.length
  | [], T => rfl
  | e :: E, T => by rw [List.foldl_cons, fold_lens g E, put2_lens]
theorem prom_lens (R : LL) (g : Int) : (promP R g).map List.length = R.map List.length := by
  cases R with
  | nil => rfl
  | cons r0 R =>
    unfold promP
    rw [fold_lens]
    rw [← promGo_lens (onesOf r0) (r0 :: R) [], List.map_map]
    apply List.map_congr_left
    intro r _
    simp
theorem promGo_snd : ∀ (m : Nat) (R : LL) (E : List (Nat × Nat)), (∀ k, k < m → Val2 R 0 k) → (∀ e ∈ E, Val2 R e.1 e.2) → ∀ e ∈ (promGo m R E).2, Val2 R e.1 e.2
  | 0, R, E, _, hE => hE
  | m + 1, R, E, hk, hE => by
    have hs := slide_val 60 R 0 m (hk m (Nat.lt_succ_self m))
    have key : ∀ i j, Val2 (put2 (slideP 60 R 0 m).1 (slideP 60 R 0 m).2.1 (slideP 60 R 0 m).2.2 0) i j ↔ Val2 R i j := fun i j => by
      rw [val2_iff, val2_iff, put2_lens, slide_lens]
    rw [promGo]
    intro e me
    rw [← key]
    refine promGo_snd m _ _ (fun k hk' => (key _ _).mpr (hk k (by omega))) (fun e me => ?_) e me
    rcases List.mem_append.mp me with me | me
    · exact (key _ _).mpr (hE e me)
    · rw [List.mem_singleton.mp me]
      rw [val2_iff, put2_lens, ← val2_iff]
      exact hs
def frzS (R : LL) : D := .lst .frz (R.map rowF)
theorem frz_ownS (R : LL) : (ownS R).frz = frzS R := by
  unfold ownS frzS
  rw [frz_own, frzs_rowO]
/-- small tableaux -/
def Sm (R : LL) : Prop := R ≠ [] ∧ R.length ≤ 1000 ∧ ∀ n ∈ R.map List.length, n ≤ 1000
theorem getRow {R : LL} {i : Nat} (h : i < R.length) : R[i]? = some (R.getD i []) := by
  rw [List.getD_eq_getElem?_getD, List.getElem?_eq_getElem h]; rfl
/-- one step of a slide -/
theorem wL_slide {g o13 : Option D} {o2 o3 o4 o5 o6 o7 : Option D} {R : LL} {i j : Nat} {o10 o11 o12 : Option D} {Q : Fo → Sg → Prop} (hR : R.length ≤ 1000) (hr : ∀ n ∈ R.map List.length, n ≤ 1000) (hv : Val2 R i j)
    (hQ : ∀ o10 o11 o12, Q .nx [some (ownS (slideP 60 R i j).1), g, o2, o3, o4, o5, o6, o7, some (.int (slideP 60 R i j).2.1), some (.int (slideP 60 R i j).2.2), o10, o11, o12, o13]) :
    wL (gNameM 10) (sSeq (sSet 11 (mC (.int 0)))
    (sSeq (sIf (Py.tB (m2 kLt (m2 kAdd (mVar 9) (mC (.int 1))) (mA (k1 fLen) (aCons (m2 kIx (mVar 0) (mVar 8)) aNil)))) (sSet 11 (mUp (m2 kIx (m2 kIx (mVar 0) (mVar 8)) (m2 kAdd (mVar 9) (mC (.int 1)))))) sNil)
    (sSeq (sSet 12 (mC (.int 0)))
    (sSeq (sIf (tAndM (Py.tB (m2 kLt (m2 kAdd (mVar 8) (mC (.int 1))) (mA (k1 fLen) (aCons (mVar 0) aNil)))) (Py.tB (m2 kLt (mVar 9) (mA (k1 fLen) (aCons (m2 kIx (mVar 0) (m2 kAdd (mVar 8) (mC (.int 1)))) aNil))))) (sSet 12 (mUp (m2 kIx (m2 kIx (mVar 0) (m2 kAdd (mVar 8) (mC (.int 1)))) (mVar 9)))) sNil)
    (sSeq (sIf (tAndM (Py.tB (m2 kEq (mVar 11) (mC (.int 0)))) (Py.tB (m2 kEq (mVar 12) (mC (.int 0))))) sBreak sNil)
    (sIf (tOrM (Py.tB (m2 kEq (mVar 11) (mC (.int 0)))) (tAndM (Py.tB (m2 kGt (mVar 12) (mC (.int 0)))) (Py.tB (m2 kLe (mVar 12) (mVar 11))))) (sSeq (sAsg (mFrz 12) (gSubM 0 (pIx 0 (pRoot 0) (mVar 8)) (mVar 9)))
    (sSet 8 (mUp (m2 kAdd (mVar 8) (mC (.int 1)))))) (sSeq (sAsg (mFrz 11) (gSubM 0 (pIx 0 (pRoot 0) (mVar 8)) (mVar 9)))
    (sSet 9 (mUp (m2 kAdd (mVar 9) (mC (.int 1)))))))))))) (up 0 60) [some (ownS R), g, o2, o3, o4, o5, o6, o7, some (.int i), some (.int j), o10, o11, o12, o13] Q := by
  refine wL_rng (P := fun k σ => ∃ (R' : LL) (i' j' : Nat) (o10 o11 o12 : Option D), R'.map List.length = R.map List.length ∧ Val2 R' i' j' ∧ slideP (60 - k) R' i' j' = slideP 60 R i j ∧ σ = [some (ownS R'), g, o2, o3, o4, o5, o6, o7, some (.int i'), some (.int j'), o10, o11, o12, o13]) ⟨R, i, j, o10, o11, o12, rfl, hv, rfl, rfl⟩ ?_ ?_
  · rintro σ ⟨R', i', j', o10, o11, o12, _, _, e, rfl⟩
    have e2 : (R', i', j') = slideP 60 R i j := e
    rw [← e2] at hQ
    exact hQ _ _ _
  · clear hv
    rintro k σ hk ⟨R', i', j', o10, o11, o12, hlen, hv, e, rfl⟩
    obtain ⟨m, hm⟩ : ∃ m, 60 - k = m + 1 := ⟨60 - k - 1, by omega⟩
    have hm2 : 60 - (k + 1) = m := by omega
    rw [hm] at e
    rw [hm2]
    obtain ⟨v1, v2⟩ := hv
    obtain ⟨hrow, hcell⟩ := Val2.row ⟨v1, v2⟩
    have hRl : R'.length = R.length := by have := congrArg List.length hlen; simpa using this
    have hrl : ∀ i, i < R'.length → (R'.getD i []).length ≤ 1000 := fun i hi => by
      refine hr _ ?_
      rw [← hlen]
      refine List.mem_map.mpr ⟨R'.getD i [], ?_, rfl⟩
      rw [List.getD_eq_getElem?_getD, List.getElem?_eq_getElem hi]
      exact List.getElem_mem hi
    have hix : kIx (.lst .vw (R'.map rowV)) (.int (i' : Int)) = some (rowV (R'.getD i' [])) := kIx_row hrow
    refine wG_name.mpr ⟨by simp, ?_⟩
    simp only [Int.zero_add, List.set_cons_succ, List.set_cons_zero]
    refine wS_cut (fun σ => σ = [some (ownS R'), g, o2, o3, o4, o5, o6, o7, some (.int i'), some (.int j'), some (.int k), some (.int 0), o12, o13]) (by simp) ?_
    rintro σ rfl
    have ej : (j' : Int) + 1 = ((j' + 1 : Nat) : Int) := by omega
    have ei : (i' : Int) + 1 = ((i' + 1 : Nat) : Int) := by omega
    refine wS_cut (fun σ => σ = [some (ownS R'), g, o2, o3, o4, o5, o6, o7, some (.int i'), some (.int j'), some (.int k), some (.int (at2 R' i' (j' + 1))), o12, o13]) ?_ ?_
    · rw [wS_if, wT_B, wE_m2, wE_m2, wE_var]
      refine ⟨_, rfl, ?_⟩
      rw [wE_C]
      refine ⟨_, kAdd_int, ?_⟩
      rw [wE_A, wA_cons, wE_m2, wE_var]
      refine ⟨_, rfl, ?_⟩
      rw [wE_var]
      refine ⟨_, rfl, _, (by rw [view_ownS]; exact hix), ?_⟩
      rw [wA_nil, k1_one]
      refine ⟨_, fLen_rowV _, _, kLt_int, _, rfl, ?_⟩
      by_cases q : j' + 1 < (R'.getD i' []).length
      · have hq : (j' : Int) + 1 < ((R'.getD i' []).length : Int) := by omega
        obtain ⟨_, hc⟩ := Val2.row (R := R') (i := i') (j := j' + 1) ⟨v1, q⟩
        simp only [hq, decide_true, if_true]
        rw [wS_set, wE_Up, wE_m2, wE_m2, wE_var]
        refine ⟨_, rfl, ?_⟩
        rw [wE_var]
        refine ⟨_, rfl, _, (by rw [view_ownS]; exact hix), ?_⟩
        rw [wE_m2, wE_var]
        refine ⟨_, rfl, ?_⟩
        rw [wE_C]
        exact ⟨_, kAdd_int, _, (by rw [ej]; exact kIx_rowV hc), rfl, by simp, rfl, rfl⟩
      · have hq : ¬ (j' : Int) + 1 < ((R'.getD i' []).length : Int) := by omega
        have h0 : at2 R' i' (j' + 1) = 0 := by
          unfold at2
          rw [List.getD_eq_getElem?_getD (l := R'.getD i' []), List.getElem?_eq_none_iff.mpr (by omega)]
          rfl
        simp only [hq, decide_false, Bool.false_eq_true, if_false]
        rw [wS_nil, h0]
        exact ⟨rfl, rfl⟩
    rintro σ rfl
    refine wS_cut (fun σ => σ = [some (ownS R'), g, o2, o3, o4, o5, o6, o7, some (.int i'), some (.int j'), some (.int k), some (.int (at2 R' i' (j' + 1))), some (.int 0), o13]) (by simp) ?_
    rintro σ rfl
    refine wS_cut (fun σ => σ = [some (ownS R'), g, o2, o3, o4, o5, o6, o7, some (.int i'), some (.int j'), some (.int k), some (.int (at2 R' i' (j' + 1))), some (.int (at2 R' (i' + 1) j')), o13]) ?_ ?_
    · have no : ¬ Val2 R' (i' + 1) j' → at2 R' (i' + 1) j' = 0 := fun h => Decidable.byContradiction fun h2 => h (at2_val h2)
      have hlenv : ((R'.map rowV).length : Int) = (R'.length : Int) := by rw [List.length_map]
      rw [wS_if, wT_and, wT_B, wE_m2, wE_m2, wE_var]
      refine ⟨_, rfl, ?_⟩
      rw [wE_C]
      refine ⟨_, kAdd_int, ?_⟩
      rw [wE_A, wA_cons, wE_var]
      refine ⟨_, rfl, ?_⟩
      rw [wA_nil, k1_one, view_ownS]
      refine ⟨_, fLen_lst, _, kLt_int, _, rfl, ?_⟩
      rw [hlenv]
      by_cases q : i' + 1 < R'.length
      · have hq : (i' : Int) + 1 < (R'.length : Int) := by omega
        have hrow2 : R'[i' + 1]? = some (R'.getD (i' + 1) []) := getRow q
        have hix2 : kIx (.lst .vw (R'.map rowV)) (.int ((i' + 1 : Nat) : Int)) = some (rowV (R'.getD (i' + 1) [])) := kIx_row hrow2
        simp only [hq, decide_true, if_true]
        rw [wT_B, wE_m2, wE_var]
        refine ⟨_, rfl, ?_⟩
        rw [wE_A, wA_cons, wE_m2, wE_var]
        refine ⟨_, rfl, ?_⟩
        rw [wE_m2, wE_var]
        refine ⟨_, rfl, ?_⟩
        rw [wE_C]
        refine ⟨_, kAdd_int, _, (by rw [view_ownS, ei]; exact hix2), ?_⟩
        rw [wA_nil, k1_one]
        refine ⟨_, fLen_rowV _, _, kLt_int, _, rfl, ?_⟩
        by_cases q2 : j' < (R'.getD (i' + 1) []).length
        · have hq2 : (j' : Int) < ((R'.getD (i' + 1) []).length : Int) := by omega
          obtain ⟨_, hc⟩ := Val2.row (R := R') (i := i' + 1) (j := j') ⟨q, q2⟩
          simp only [hq2, decide_true, if_true]
          rw [wS_set, wE_Up, wE_m2, wE_m2, wE_var]
          refine ⟨_, rfl, ?_⟩
          rw [wE_m2, wE_var]
          refine ⟨_, rfl, ?_⟩
          rw [wE_C]
          refine ⟨_, kAdd_int, _, (by rw [view_ownS, ei]; exact hix2), ?_⟩
          rw [wE_var]
          exact ⟨_, rfl, _, kIx_rowV hc, rfl, by simp, rfl, rfl⟩
        · have hq2 : ¬ (j' : Int) < ((R'.getD (i' + 1) []).length : Int) := by omega
          simp only [hq2, decide_false, Bool.false_eq_true, if_false]
          rw [wS_nil, no fun h => q2 h.2]
          exact ⟨rfl, rfl⟩
      · have hq : ¬ (i' : Int) + 1 < (R'.length : Int) := by omega
        simp only [hq, decide_false, Bool.false_eq_true, if_false]
        rw [wS_nil, no fun h => q h.1]
        exact ⟨rfl, rfl⟩
    rintro σ rfl
    rw [slideP] at e
    have val := @at2_val R'
    generalize hrr : at2 R' i' (j' + 1) = r at e
    generalize hbb : at2 R' (i' + 1) j' = b at e
    have eb : ∀ x : Int, (x == 0) = decide (x = 0) := fun x => by by_cases q : x = 0 <;> simp [q]
    rw [wS_seq, wS_if, wT_and, wT_B, wE_m2, wE_var]
    refine ⟨_, rfl, ?_⟩
    rw [wE_C]
    refine ⟨_, kEq_int, _, rfl, ?_⟩
    rw [eb]
    by_cases c : r = 0 ∧ b = 0
    · obtain ⟨c1, c2⟩ := c
      rw [if_pos ⟨c1, c2⟩] at e
      simp only [c1, decide_true, if_true]
      rw [wT_B, wE_m2, wE_var]
      refine ⟨_, rfl, ?_⟩
      rw [wE_C]
      refine ⟨_, kEq_int, _, rfl, ?_⟩
      rw [eb]
      simp only [c2, decide_true, if_true]
      rw [wS_break, kS_bk]
      rw [← e] at hQ
      exact hQ _ _ _
    rw [if_neg c] at e
    have skip : ∀ {X : Prop}, X → (if decide (r = 0) = true then X else X) := fun h => by split <;> exact h
    have go2 : wS (sIf (tOrM (Py.tB (m2 kEq (mVar 11) (mC (.int 0)))) (tAndM (Py.tB (m2 kGt (mVar 12) (mC (.int 0)))) (Py.tB (m2 kLe (mVar 12) (mVar 11))))) (sSeq (sAsg (mFrz 12) (gSubM 0 (pIx 0 (pRoot 0) (mVar 8)) (mVar 9)))
    (sSet 8 (mUp (m2 kAdd (mVar 8) (mC (.int 1)))))) (sSeq (sAsg (mFrz 11) (gSubM 0 (pIx 0 (pRoot 0) (mVar 8)) (mVar 9)))
    (sSet 9 (mUp (m2 kAdd (mVar 9) (mC (.int 1))))))) [some (ownS R'), g, o2, o3, o4, o5, o6, o7, some (.int i'), some (.int j'), some (.int k), some (.int r), some (.int b), o13] (fun f σ2 => match f with
      | .nx => (fun σ => ∃ (R' : LL) (i' j' : Nat) (o10 o11 o12 : Option D), R'.map List.length = R.map List.length ∧ Val2 R' i' j' ∧ slideP m R' i' j' = slideP 60 R i j ∧ σ = [some (ownS R'), g, o2, o3, o4, o5, o6, o7, some (.int i'), some (.int j'), o10, o11, o12, o13]) σ2
      | .ct => (fun σ => ∃ (R' : LL) (i' j' : Nat) (o10 o11 o12 : Option D), R'.map List.length = R.map List.length ∧ Val2 R' i' j' ∧ slideP m R' i' j' = slideP 60 R i j ∧ σ = [some (ownS R'), g, o2, o3, o4, o5, o6, o7, some (.int i'), some (.int j'), o10, o11, o12, o13]) σ2
      | .bk => Q .nx σ2
      | .rt v => Q (.rt v) σ2) := by
      have down : (r = 0 ∨ (0 < b ∧ b ≤ r)) → wS (sSeq (sAsg (mFrz 12) (gSubM 0 (pIx 0 (pRoot 0) (mVar 8)) (mVar 9))) (sSet 8 (mUp (m2 kAdd (mVar 8) (mC (.int 1)))))) [some (ownS R'), g, o2, o3, o4, o5, o6, o7, some (.int i'), some (.int j'), some (.int k), some (.int r), some (.int b), o13] (fun f σ2 => match f with
      | .nx => (fun σ => ∃ (R' : LL) (i' j' : Nat) (o10 o11 o12 : Option D), R'.map List.length = R.map List.length ∧ Val2 R' i' j' ∧ slideP m R' i' j' = slideP 60 R i j ∧ σ = [some (ownS R'), g, o2, o3, o4, o5, o6, o7, some (.int i'), some (.int j'), o10, o11, o12, o13]) σ2
      | .ct => (fun σ => ∃ (R' : LL) (i' j' : Nat) (o10 o11 o12 : Option D), R'.map List.length = R.map List.length ∧ Val2 R' i' j' ∧ slideP m R' i' j' = slideP 60 R i j ∧ σ = [some (ownS R'), g, o2, o3, o4, o5, o6, o7, some (.int i'), some (.int j'), o10, o11, o12, o13]) σ2
      | .bk => Q .nx σ2
      | .rt v => Q (.rt v) σ2) := fun hc => by
        rw [if_pos hc] at e
        refine wS_cut (fun σ => σ = [some (ownS (put2 R' i' j' b)), g, o2, o3, o4, o5, o6, o7, some (.int i'), some (.int j'), some (.int k), some (.int r), some (.int b), o13]) ?_ ?_
        · rw [wS_asg, wE_frz]
          refine ⟨_, rfl, ?_⟩
          exact wG_setRow (k := i') (j := j') (row := R'.getD i' []) rfl (by simp) hrow (by simp) v2 ⟨rfl, rfl⟩
        rintro σ rfl
        rw [wS_set, wE_Up, wE_m2, wE_var]
        refine ⟨_, rfl, ?_⟩
        rw [wE_C]
        refine ⟨_, kAdd_int, rfl, by simp, put2 R' i' j' b, i' + 1, j', some (.int k), some (.int r), some (.int b), by rw [put2_lens]; exact hlen, ?_, e, ?_⟩
        · have hb : b ≠ 0 := by rcases hc with hc | hc <;> omega
          exact (val (by rw [hbb]; exact hb)).put
        · rw [← ei]; rfl
      have right : ¬ (r = 0 ∨ (0 < b ∧ b ≤ r)) → wS (sSeq (sAsg (mFrz 11) (gSubM 0 (pIx 0 (pRoot 0) (mVar 8)) (mVar 9))) (sSet 9 (mUp (m2 kAdd (mVar 9) (mC (.int 1)))))) [some (ownS R'), g, o2, o3, o4, o5, o6, o7, some (.int i'), some (.int j'), some (.int k), some (.int r), some (.int b), o13] (fun f σ2 => match f with
      | .nx => (fun σ => ∃ (R' : LL) (i' j' : Nat) (o10 o11 o12 : Option D), R'.map List.length = R.map List.length ∧ Val2 R' i' j' ∧ slideP m R' i' j' = slideP 60 R i j ∧ σ = [some (ownS R'), g, o2, o3, o4, o5, o6, o7, some (.int i'), some (.int j'), o10, o11, o12, o13]) σ2
      | .ct => (fun σ => ∃ (R' : LL) (i' j' : Nat) (o10 o11 o12 : Option D), R'.map List.length = R.map List.length ∧ Val2 R' i' j' ∧ slideP m R' i' j' = slideP 60 R i j ∧ σ = [some (ownS R'), g, o2, o3, o4, o5, o6, o7, some (.int i'), some (.int j'), o10, o11, o12, o13]) σ2
      | .bk => Q .nx σ2
      | .rt v => Q (.rt v) σ2) := fun hc => by
        rw [if_neg hc] at e
        refine wS_cut (fun σ => σ = [some (ownS (put2 R' i' j' r)), g, o2, o3, o4, o5, o6, o7, some (.int i'), some (.int j'), some (.int k), some (.int r), some (.int b), o13]) ?_ ?_
        · rw [wS_asg, wE_frz]
          refine ⟨_, rfl, ?_⟩
          exact wG_setRow (k := i') (j := j') (row := R'.getD i' []) rfl (by simp) hrow (by simp) v2 ⟨rfl, rfl⟩
        rintro σ rfl
        rw [wS_set, wE_Up, wE_m2, wE_var]
        refine ⟨_, rfl, ?_⟩
        rw [wE_C]
        refine ⟨_, kAdd_int, rfl, by simp, put2 R' i' j' r, i', j' + 1, some (.int k), some (.int r), some (.int b), by rw [put2_lens]; exact hlen, ?_, e, ?_⟩
        · have hb : r ≠ 0 := by omega
          exact (val (by rw [hrr]; exact hb)).put
        · rw [← ej]; rfl
      rw [wS_if, wT_or, wT_B, wE_m2, wE_var]
      refine ⟨_, rfl, ?_⟩
      rw [wE_C]
      refine ⟨_, kEq_int, _, rfl, ?_⟩
      rw [eb]
      by_cases c1 : r = 0
      · simp only [decide_eq_true c1, if_true]
        exact down (.inl c1)
      · simp only [decide_eq_false c1, Bool.false_eq_true, if_false]
        rw [wT_and, wT_B, wE_m2, wE_var]
        refine ⟨_, rfl, ?_⟩
        rw [wE_C]
        refine ⟨_, kGt_int, _, rfl, ?_⟩
        by_cases c2 : 0 < b
        · simp only [decide_eq_true c2, if_true]
          rw [wT_B, wE_m2, wE_var]
          refine ⟨_, rfl, ?_⟩
          rw [wE_var]
          refine ⟨_, rfl, _, kLe_int, _, rfl, ?_⟩
          by_cases c3 : b ≤ r
          · simp only [decide_eq_true c3, if_true]
            exact down (.inr ⟨c2, c3⟩)
          · simp only [decide_eq_false c3, Bool.false_eq_true, if_false]
            exact right (by omega)
        · simp only [decide_eq_false c2, Bool.false_eq_true, if_false]
          exact right (by omega)
    by_cases c1 : r = 0
    · simp only [decide_eq_true c1, if_true]
      rw [wT_B, wE_m2, wE_var]
      refine ⟨_, rfl, ?_⟩
      rw [wE_C]
      refine ⟨_, kEq_int, _, rfl, ?_⟩
      rw [eb]
      have c2 : ¬ b = 0 := fun h => c ⟨c1, h⟩
      simp only [decide_eq_false c2, Bool.false_eq_true, if_false]
      rw [wS_nil, kS_nx]
      exact go2
    · simp only [decide_eq_false c1, Bool.false_eq_true, if_false]
      rw [wS_nil, kS_nx]
      exact go2
end K89
namespace K89
open PySem PySem.Spec PyProof.Rows L2 Py
/-- rows made anew -/
theorem wC_rows {σ : Sg} {R : LL} {em : M} {Q : List D → Sg → Prop} (y : Int → Int) (h2 : 2 < σ.length) (h3 : 3 < σ.length) (hR : ∀ r ∈ R, r.length ≤ 1000) (hm : ∀ (x : Int) (τ : Sg), 2 < τ.length → wE em (τ.set 2 (some (.int x))) fun v σ3 => v = .int (y x) ∧ σ3 = τ.set 2 (some (.int x)))
    (hQ : ∀ σ', wipeD σ' [3] = wipeD σ [3] → Q ((R.map fun r => r.map y).map rowO) σ') :
    wC (gNameM 3) tYesM (mLc (some 3) (iTake 3) (gNameM 2) tYesM em [2]) [3] (R.map rowF) σ Q := by
  refine wC_map R rowF (fun r => rowO (r.map y)) (fun r mr => ?_) fun σ' wq => ?_
  · refine wG_name.mpr ⟨by simp [wipeD]; exact h3, ?_⟩
    have hg : ((wipeD σ [3]).set 3 (some (rowF r)))[3]? = some (some (rowF r)) := by rw [List.getElem?_set_self]; simp [wipeD]; exact h3
    have hl : 2 < ((wipeD σ [3]).set 3 (some (rowF r))).length := by simp [wipeD]; exact h2
    rw [wE_Lc, wI_take]
    refine ⟨_, hg, r.map .int, rfl, ?_⟩
    refine wC_map r D.int (fun x => .int (y x)) (fun x mx => ?_) fun σ2 w2 => ?_
    · refine wG_name.mpr ⟨by simp [wipeD]; exact h2, ?_⟩
      refine wE_mono (hm x _ (by simp [wipeD]; exact h2)) ?_
      rintro v σ3 ⟨rfl, rfl⟩
      exact ⟨rfl, by simp [wipeD]⟩
    · simp only [w2, unwipe_wipe, gB_sn]
      refine ⟨by rw [List.length_map]; have := hR r mr; omega, ?_, by simp [wipeD]⟩
      simp [rowO]
  · have e : (R.map fun r => rowO (r.map y)) = (R.map fun r => r.map y).map rowO := by rw [List.map_map]; rfl
    rw [e]
    exact hQ σ' wq
theorem fit_rows {f : Fl} {g : List Int → D} (hg : ∀ r, (g r).fit 59 = true) (R : LL) : fits 59 (R.map g) = true := fits_all fun y m => by
  obtain ⟨r, _, rfl⟩ := List.mem_map.mp m
  exact hg r
theorem fit_rowV (r : List Int) : (rowV r).fit 59 = true := fits_ints (n := 58)
theorem fit_rowF (r : List Int) : (rowF r).fit 59 = true := fits_ints (n := 58)
theorem onesOf_le (r : List Int) : onesOf r ≤ r.length := List.length_filter_le _ _
theorem ret_promoted {R : LL} {g : Int} (hR : Sm R) : ret fn__law_promoted [frzS R, .int g] = some (ownS (promP R g)) := by
  obtain ⟨hne, hl, hr0⟩ := hR
  have hr : ∀ r ∈ R, r.length ≤ 1000 := fun r m => hr0 _ (List.mem_map.mpr ⟨r, m, rfl⟩)
  obtain ⟨r0, R', rfl⟩ := List.exists_cons_of_ne_nil hne
  apply ret_of
  unfold fn__law_promoted m__law_promoted
  rw [wF_D]
  refine wS_cut (fun σ => σ = [some (ownS (r0 :: R')), some (.int g), none, none, none, none, none, none, none, none, none, none, none, none]) ?_ ?_
  · rw [wS_set, wE_Lc, wI_take]
    refine ⟨_, rfl, _, rfl, ?_⟩
    refine wC_rows (fun x => x) (by simp) (by simp) hr (fun x τ hτ => ?_) fun σ' wq => ?_
    · rw [wE_frz]
      exact ⟨.int x, by rw [List.getElem?_set_self hτ], rfl, by simp⟩
    · simp only [wq, unwipe_wipe, gB_sn]
      refine ⟨by simp at hl ⊢; omega, by simp, trivial, ?_⟩
      simp [ownS]
  rintro σ rfl
  refine wS_cut (fun σ => σ = [some (ownS (r0 :: R')), some (.int g), none, none, none, none, none, none, none, none, none, none, none, none]) ?_ ?_
  · rw [wS_if, wT_B, wE_m2, wE_var]
    refine ⟨_, rfl, ?_⟩
    rw [wE_A, wA_nil]
    refine ⟨_, kLst_nil, _, (by rw [view_ownS]; exact kEq_lnil (fit_rows (f := .own) fit_rowV _)), _, rfl, ?_⟩
    simp
  rintro σ rfl
  have ho := onesOf_le r0
  have hr00 := hr r0 List.mem_cons_self
  refine wS_cut (fun σ => σ = [some (ownS (r0 :: R')), some (.int g), none, none, some (.int (onesOf r0)), none, none, none, none, none, none, none, none, none]) ?_ ?_
  · rw [wS_set, wE_Up]
    refine wE_cnt r0 D.int (fun m => m == 1) ?_
    rw [wE_m2, wE_var]
    refine ⟨_, rfl, ?_⟩
    rw [wE_C]
    refine ⟨rowV r0, (by rw [view_ownS]; exact kIx_row (k := 0) rfl), rfl, by omega, by simp, fun m mm => ?_, rfl, by simp, rfl, rfl⟩
    rw [wT_B, wE_m2, wE_var]
    refine ⟨.int m, by simp [wipeD], ?_⟩
    rw [wE_C]
    refine ⟨_, kEq_int, _, rfl, rfl, fun _ => ?_⟩
    rw [wE_C]
    trivial
  rintro σ rfl
  refine wS_cut (fun σ => σ = [some (ownS (r0 :: R')), some (.int g), none, none, some (.int (onesOf r0)), none, some (.lst .own []), none, none, none, none, none, none, none]) (by simp) ?_
  rintro σ rfl
  have hvk : ∀ k, k < onesOf r0 → Val2 (r0 :: R') 0 k := fun k hk => ⟨by simp, by simp; omega⟩
  refine wS_cut (fun σ => ∃ o7 o8 o9 o10 o11 o12, σ = [some (ownS (promGo (onesOf r0) (r0 :: R') []).1), some (.int g), none, none, some (.int (onesOf r0)), none, some (.lst .own ((promGo (onesOf r0) (r0 :: R') []).2.map fun e => prI ((e.1 : Int), (e.2 : Int)))), o7, o8, o9, o10, o11, o12, none]) ?_ ?_
  · rw [wS_for, wI_rng1, wE_frz]
    refine ⟨_, rfl, _, rfl, okR_len (by omega), ?_⟩
    rw [Int.toNat_natCast]
    simp only [frz_int, List.set_cons_succ, List.set_cons_zero]
    refine wL_rng (P := fun k σ => ∃ (T : LL) (E : List (Nat × Nat)) (o7 o8 o9 o10 o11 o12 : Option D), T.map List.length = (r0 :: R').map List.length ∧ E.length = k ∧ promGo (onesOf r0 - k) T E = promGo (onesOf r0) (r0 :: R') [] ∧ σ = [some (ownS T), some (.int g), none, none, some (.int (onesOf r0)), none, some (.lst .own (E.map fun e => prI ((e.1 : Int), (e.2 : Int)))), o7, o8, o9, o10, o11, o12, none]) ⟨r0 :: R', [], none, none, none, none, none, none, rfl, rfl, rfl, rfl⟩ ?_ ?_
    · rintro σ ⟨T, E, o7, o8, o9, o10, o11, o12, _, _, e, rfl⟩
      rw [Nat.sub_self] at e
      rw [gB_n, ← e]
      exact ⟨rfl, _, _, _, _, _, _, rfl⟩
    · rintro k σ hk ⟨T, E, o7, o8, o9, o10, o11, o12, hlen, hE, e, rfl⟩
      obtain ⟨m, hm⟩ : ∃ m, onesOf r0 - k = m + 1 := ⟨onesOf r0 - k - 1, by omega⟩
      have hm2 : onesOf r0 - (k + 1) = m := by omega
      rw [hm, promGo] at e
      rw [hm2]
      refine wG_name.mpr ⟨by simp, ?_⟩
      simp only [Int.zero_add, List.set_cons_succ, List.set_cons_zero]
      refine wS_cut (fun σ => σ = [some (ownS T), some (.int g), none, none, some (.int (onesOf r0)), none, some (.lst .own (E.map fun e => prI ((e.1 : Int), (e.2 : Int)))), some (.int k), some (.int ((0 : Nat) : Int)), o9, o10, o11, o12, none]) (by simp) ?_
      rintro σ rfl
      refine wS_cut (fun σ => σ = [some (ownS T), some (.int g), none, none, some (.int (onesOf r0)), none, some (.lst .own (E.map fun e => prI ((e.1 : Int), (e.2 : Int)))), some (.int k), some (.int ((0 : Nat) : Int)), some (.int m), o10, o11, o12, none]) ?_ ?_
      · rw [wS_set, wE_Up, wE_m2, wE_m2, wE_var]
        refine ⟨_, rfl, ?_⟩
        rw [wE_C]
        refine ⟨_, kSub_int, ?_⟩
        rw [wE_var]
        have em : (onesOf r0 : Int) - 1 - (k : Int) = (m : Int) := by omega
        exact ⟨_, rfl, _, kSub_int, rfl, by simp, rfl, by rw [em]; rfl⟩
      rintro σ rfl
      have hv : Val2 T 0 m := by
        rw [val2_iff, hlen, ← val2_iff]
        exact hvk m (by omega)
      have hTl : T.length ≤ 1000 := by have := congrArg List.length hlen; simp at this hl; omega
      have hTr : ∀ n ∈ T.map List.length, n ≤ 1000 := by rw [hlen]; exact hr0
      refine wS_cut (fun σ => ∃ o10 o11 o12, σ = [some (ownS (slideP 60 T 0 m).1), some (.int g), none, none, some (.int (onesOf r0)), none, some (.lst .own (E.map fun e => prI ((e.1 : Int), (e.2 : Int)))), some (.int k), some (.int (slideP 60 T 0 m).2.1), some (.int (slideP 60 T 0 m).2.2), o10, o11, o12, none]) ?_ ?_
      · rw [wS_for, wI_rng1, wE_C]
        refine ⟨60, rfl, by decide, ?_⟩
        exact wL_slide hTl hTr hv fun o10 o11 o12 => by rw [gB_n]; exact ⟨rfl, o10, o11, o12, rfl⟩
      rintro σ ⟨o10, o11, o12, rfl⟩
      have hsv := slide_val 60 T 0 m hv
      have hsl := slide_lens 60 T 0 m
      generalize hS : slideP 60 T 0 m = S at e hsv hsl
      obtain ⟨S1, i, j⟩ := S
      simp only at e hsv hsl
      refine wS_cut (fun σ => σ = [some (ownS (put2 S1 i j 0)), some (.int g), none, none, some (.int (onesOf r0)), none, some (.lst .own (E.map fun e => prI ((e.1 : Int), (e.2 : Int)))), some (.int k), some (.int i), some (.int j), o10, o11, o12, none]) ?_ ?_
      · rw [wS_asg, wE_C]
        exact wG_setRow (k := i) (j := j) (row := S1.getD i []) rfl (by simp) (getRow hsv.1) (by simp) hsv.2 ⟨rfl, rfl⟩
      rintro σ rfl
      rw [wS_app]
      refine ⟨_, rfl, ?_⟩
      rw [wE_A]
      refine wA_frzI rfl rfl (wA_frzI rfl rfl (wA_nil.mpr ⟨_, kTup_ii, _, _, rfl, dAt_nil, ?_⟩))
      simp only [dPut_nil]
      refine ⟨by simp; omega, put2 S1 i j 0, E ++ [(i, j)], some (.int k), some (.int i), some (.int j), o10, o11, o12, by rw [put2_lens, hsl, hlen], by simp [hE], e, ?_⟩
      rw [List.map_append]
      rfl
  rintro σ ⟨o7, o8, o9, o10, o11, o12, rfl⟩
  have hgl := promGo_lens (onesOf r0) (r0 :: R') []
  have hgv := promGo_snd (onesOf r0) (r0 :: R') [] hvk (fun e m => nomatch m)
  have hprom : promP (r0 :: R') g = (promGo (onesOf r0) (r0 :: R') []).2.foldl (fun T e => put2 T e.1 e.2 g) ((promGo (onesOf r0) (r0 :: R') []).1.map fun r => r.map fun x => x - 1) := rfl
  rw [hprom]
  clear hprom
  generalize promGo (onesOf r0) (r0 :: R') [] = G at hgl hgv ⊢
  obtain ⟨T, E⟩ := G
  simp only at hgl hgv ⊢
  have hTne : T ≠ [] := fun e => by rw [e] at hgl; simp at hgl
  have hTl : T.length ≤ 1000 := by have := congrArg List.length hgl; simp at this hl; omega
  have hTr : ∀ r ∈ T, r.length ≤ 1000 := fun r m => hr0 _ (by rw [← hgl]; exact List.mem_map.mpr ⟨r, m, rfl⟩)
  refine wS_cut (fun σ => ∃ o0, σ = [o0, some (.int g), none, none, some (.int (onesOf r0)), none, some (.lst .own (E.map fun e => prI ((e.1 : Int), (e.2 : Int)))), o7, o8, o9, o10, o11, o12, some (ownS (T.map fun r => r.map fun x => x - 1))]) ?_ ?_
  · rw [wS_set, wE_Lc, wI_take]
    refine ⟨_, rfl, ?_⟩
    have hn : ¬ noOwns (T.map rowO) = true := by
      obtain ⟨a, l, rfl⟩ := List.exists_cons_of_ne_nil hTne
      simp
    unfold ownS
    simp only [hn, Bool.false_eq_true, if_false, frzs_rowO, List.set_cons_zero]
    refine wC_rows (fun x => x - 1) (by simp) (by simp) hTr (fun x τ hτ => ?_) fun σ' wq => ?_
    · rw [wE_Up, wE_m2, wE_var]
      refine ⟨.int x, by rw [List.getElem?_set_self hτ], ?_⟩
      rw [wE_C]
      exact ⟨_, kSub_int, rfl, rfl, rfl⟩
    · simp only [wq, unwipe_wipe, gB_sn]
      exact ⟨by simp; omega, by simp, trivial, _, rfl⟩
  rintro σ ⟨o0, rfl⟩
  refine wS_cut (fun σ => ∃ o8 o9, σ = [o0, some (.int g), none, none, some (.int (onesOf r0)), none, some (.lst .own (E.map fun e => prI ((e.1 : Int), (e.2 : Int)))), o7, o8, o9, o10, o11, o12, some (ownS (E.foldl (fun T e => put2 T e.1 e.2 g) (T.map fun r => r.map fun x => x - 1)))]) ?_ ?_
  · rw [wS_for, wI_take]
    have hno : noOwns (E.map fun e => prI ((e.1 : Int), (e.2 : Int))) = true := by
      have := noOwns_pr (E.map fun e => ((e.1 : Int), (e.2 : Int)))
      rw [List.map_map] at this
      exact this
    refine ⟨_, rfl, ?_⟩
    simp only [hno, if_true, List.set_cons_succ, List.set_cons_zero]
    refine wL_typ (P := fun E' σ => ∃ (U : LL) (o8 o9 : Option D), (∀ e ∈ E', Val2 U e.1 e.2) ∧ E'.foldl (fun T e => put2 T e.1 e.2 g) U = E.foldl (fun T e => put2 T e.1 e.2 g) (T.map fun r => r.map fun x => x - 1) ∧ σ = [o0, some (.int g), none, none, some (.int (onesOf r0)), none, none, o7, o8, o9, o10, o11, o12, some (ownS U)]) (fun e : Nat × Nat => prI ((e.1 : Int), (e.2 : Int))) ?_ ?_ ⟨_, o8, o9, fun e me => ?_, rfl, rfl⟩
    · rintro σ ⟨U, o8, o9, _, e, rfl⟩
      rw [gB_ss, ← e]
      exact ⟨rfl, _, _, rfl⟩
    · rintro ⟨i, j⟩ E' σ ⟨U, o8, o9, hv, e, rfl⟩
      have hv0 := hv (i, j) List.mem_cons_self
      rw [wG_tup]
      refine ⟨_, rfl, rfl, ?_⟩
      rw [wGs_cc, wG_name]
      refine ⟨by simp, ?_⟩
      rw [wGs_cc, wG_name]
      refine ⟨by simp, ?_⟩
      rw [wGs_nil]
      refine ⟨rfl, ?_⟩
      simp only [List.set_cons_succ, List.set_cons_zero]
      rw [wS_asg, wE_frz]
      refine ⟨_, rfl, ?_⟩
      refine wG_setRow (k := i) (j := j) (row := U.getD i []) rfl (by simp) (getRow hv0.1) (by simp) hv0.2 ?_
      exact ⟨put2 U i j g, _, _, fun e me => (hv e (List.mem_cons_of_mem _ me)).put, e, rfl⟩
    · have := hgv e me
      rw [val2_iff] at this ⊢
      rw [← hgl] at this
      rw [List.map_map]
      have e2 : (T.map (List.length ∘ fun r => r.map fun x => x - 1)) = T.map List.length := List.map_congr_left fun r _ => by simp
      rw [e2]
      exact this
  rintro σ ⟨o8, o9, rfl⟩
  rw [wS_ret, wE_move]
  exact ⟨_, rfl, rfl⟩
end K89
namespace K89
open PySem PySem.Spec PyProof.Rows L2 Py
/-! ### the lengths of orbits -/
section
variable {α : Type} [DecidableEq α]
def lenGo (step : α → α) (a : α) (t : Nat) : Nat → α → Nat → Nat
  | 0, _, m => m
  | n + 1, h, m => if m = 0 ∨ h ≠ a then lenGo step a t n (step h) (m + 1) else m
def lenP (step : α → α) (t : Nat) (a : α) : Nat := lenGo step a t (t + 1) a 0
theorem wL_len {enc : α → D} {cur : α → D → Prop} {step : α → α} {OK : α → Prop} {kd : D} {t : Nat} {o0 : Option D} {body : MS} {Q : Fo → Sg → Prop} (ht : t ≤ 1000) (hkd : kd.view = kd)
    (hfrz : ∀ a, (enc a).frz = enc a) (hcur : ∀ a, cur a (enc a)) (hne : ∀ h d a, OK h → cur h d → kNe d.view (enc a).view = some (.bl (!decide (h = a)))) (hok : ∀ a, OK a → OK (step a))
    (hbody : ∀ (h : α) (d : D) (f a : D) (m : Nat), OK h → cur h d → wS body [o0, some kd, some (.int t), some f, some a, some d, some (.int m)] fun fo σ' => fo = .nx ∧ ∃ d', cur (step h) d' ∧ σ' = [o0, some kd, some (.int t), some f, some a, some d', some (.int m)])
    (l : List α) (hl : l.length ≤ 100000) (hall : ∀ a ∈ l, OK a) {o4 o5 o6 : Option D} (hQ : ∀ o4 o5 o6, Q .nx [o0, some kd, some (.int t), some (rowO (l.map fun a => (lenP step t a : Int))), o4, o5, o6]) :
    wL (gNameM 4) (sSeq (sSet 5 (mFrz 4))
    (sSeq (sSet 6 (mC (.int 0)))
    (sSeq (sWhile (tAndM (Py.tB (m2 kLt (mVar 6) (m2 kAdd (mVar 2) (mC (.int 1))))) (tOrM (Py.tB (m2 kEq (mVar 6) (mC (.int 0)))) (Py.tB (m2 kNe (mVar 5) (mVar 4))))) (sSeq body
    (sSet 6 (mUp (m2 kAdd (mVar 6) (mC (.int 1)))))) fu)
    (sAppN 3 (mFrz 6))))) (l.map enc) [o0, some kd, some (.int t), some (rowO []), o4, o5, o6] Q := by
  refine wL_typ (P := fun r σ => ∃ (pre : List α) (o4 o5 o6 : Option D), pre ++ r = l ∧ σ = [o0, some kd, some (.int t), some (rowO (pre.map fun a => (lenP step t a : Int))), o4, o5, o6]) enc ?_ ?_ ⟨[], o4, o5, o6, rfl, rfl⟩
  · rintro σ ⟨pre, o4, o5, o6, e, rfl⟩
    rw [List.append_nil] at e
    rw [e]
    exact hQ _ _ _
  · rintro a r σ ⟨pre, o4, o5, o6, e, rfl⟩
    have hpl : pre.length < 100000 := by have := congrArg List.length e; simp at this; omega
    have ha : OK a := hall a (by rw [← e]; simp)
    have hFl : (pre.map (fun a => (lenP step t a : Int))).length = pre.length := by simp
    have hgoal : ∀ o4 o5 o6 : Option D, ∃ (pre' : List α) (o4' o5' o6' : Option D), pre' ++ r = l ∧ [o0, some kd, some (.int t), some (rowO (pre.map (fun a => (lenP step t a : Int)) ++ [(lenP step t a : Int)])), o4, o5, o6] = [o0, some kd, some (.int t), some (rowO (pre'.map fun a => (lenP step t a : Int))), o4', o5', o6'] := fun o4 o5 o6 =>
      ⟨pre ++ [a], o4, o5, o6, by simpa using e, by simp⟩
    generalize pre.map (fun a => (lenP step t a : Int)) = F at hgoal hFl
    refine wG_name.mpr ⟨by simp, ?_⟩
    simp only [List.set_cons_succ, List.set_cons_zero]
    refine wS_cut (fun σ => σ = [o0, some kd, some (.int t), some (rowO F), some (enc a), some (enc a), o6]) ?_ ?_
    · rw [wS_set, wE_frz]
      refine ⟨_, rfl, ?_⟩
      rw [hfrz]
      exact ⟨by simp, rfl, rfl⟩
    rintro σ rfl
    refine wS_cut (fun σ => σ = [o0, some kd, some (.int t), some (rowO F), some (enc a), some (enc a), some (.int ((0 : Nat) : Int))]) (by simp) ?_
    rintro σ rfl
    refine wS_cut (fun σ => ∃ d, σ = [o0, some kd, some (.int t), some (rowO F), some (enc a), some d, some (.int (lenP step t a))]) ?_ ?_
    · refine wS_while (P := fun k σ => ∃ (h : α) (d : D) (m : Nat), k + m = t + 1 ∧ cur h d ∧ OK h ∧ lenGo step a t k h m = lenP step t a ∧ σ = [o0, some kd, some (.int t), some (rowO F), some (enc a), some d, some (.int m)]) (n := t + 1) (by unfold fu; omega) ⟨a, enc a, 0, rfl, hcur a, ha, rfl, rfl⟩ ?_
      rintro k σ ⟨h, d, m, hk, hc, ho, hg, rfl⟩
      rw [wT_and, wT_B, wE_m2, wE_var]
      refine ⟨_, rfl, ?_⟩
      rw [wE_m2, wE_var]
      refine ⟨_, rfl, ?_⟩
      rw [wE_C]
      refine ⟨_, kAdd_int, _, kLt_int, _, rfl, ?_⟩
      cases k with
      | zero =>
        have hm : ¬ (m : Int) < (t : Int) + 1 := by omega
        simp only [decide_eq_false hm, Bool.false_eq_true, if_false]
        have e0 : m = lenP step t a := hg
        rw [e0]
        exact ⟨trivial, d, rfl⟩
      | succ k =>
        have hm : (m : Int) < (t : Int) + 1 := by omega
        simp only [decide_eq_true hm, if_true]
        rw [lenGo] at hg
        rw [wT_or, wT_B, wE_m2, wE_var]
        refine ⟨_, rfl, ?_⟩
        rw [wE_C]
        refine ⟨_, kEq_int, _, rfl, ?_⟩
        have go : (m = 0 ∨ h ≠ a) → wS (sSeq body (sSet 6 (mUp (m2 kAdd (mVar 6) (mC (.int 1)))))) [o0, some kd, some (.int t), some (rowO F), some (enc a), some d, some (.int m)] (fun f σ2 => match f with
            | .nx => ∃ j, j < k + 1 ∧ ∃ (h : α) (d : D) (m : Nat), j + m = t + 1 ∧ cur h d ∧ OK h ∧ lenGo step a t j h m = lenP step t a ∧ σ2 = [o0, some kd, some (.int t), some (rowO F), some (enc a), some d, some (.int m)]
            | .ct => ∃ j, j < k + 1 ∧ ∃ (h : α) (d : D) (m : Nat), j + m = t + 1 ∧ cur h d ∧ OK h ∧ lenGo step a t j h m = lenP step t a ∧ σ2 = [o0, some kd, some (.int t), some (rowO F), some (enc a), some d, some (.int m)]
            | .bk => True ∧ ∃ d, σ2 = [o0, some kd, some (.int t), some (rowO F), some (enc a), some d, some (.int (lenP step t a))]
            | .rt v => Fo.rt v = .nx ∧ ∃ d, σ2 = [o0, some kd, some (.int t), some (rowO F), some (enc a), some d, some (.int (lenP step t a))]) := fun hor => by
          rw [if_pos hor] at hg
          refine wS_cut (fun σ' => ∃ d', cur (step h) d' ∧ σ' = [o0, some kd, some (.int t), some (rowO F), some (enc a), some d', some (.int m)]) (hbody h d _ _ m ho hc) ?_
          rintro σ' ⟨d', hc', rfl⟩
          rw [wS_set, wE_Up, wE_m2, wE_var]
          refine ⟨_, rfl, ?_⟩
          rw [wE_C]
          have em : (m : Int) + 1 = ((m + 1 : Nat) : Int) := by omega
          exact ⟨_, kAdd_int, rfl, by simp, k, by omega, step h, d', m + 1, by omega, hc', hok h ho, hg, by rw [← em]; rfl⟩
        by_cases q : m = 0
        · subst q
          have hb : (((0 : Nat) : Int) == 0) = true := rfl
          simp only [hb, if_true]
          exact go (.inl rfl)
        · have hb : ((m : Int) == 0) = false := beq_eq_false_iff_ne.mpr (by omega)
          simp only [hb, Bool.false_eq_true, if_false]
          rw [wT_B, wE_m2, wE_var]
          refine ⟨_, rfl, ?_⟩
          rw [wE_var]
          refine ⟨_, rfl, _, hne h d a ho hc, _, rfl, ?_⟩
          by_cases q2 : h = a
          · rw [if_neg (by rintro (c | c); exact q c; exact c q2)] at hg
            simp only [decide_eq_true q2, Bool.not_true, Bool.false_eq_true, if_false]
            rw [hg]
            exact ⟨trivial, d, rfl⟩
          · simp only [decide_eq_false q2, Bool.not_false, if_true]
            exact go (.inr q2)
    rintro σ ⟨d, rfl⟩
    rw [wS_app]
    refine ⟨_, rfl, ?_⟩
    rw [wE_frz]
    refine ⟨_, rfl, _, _, rfl, dAt_nil, ?_⟩
    simp only [dPut_nil]
    refine ⟨by rw [List.length_map, hFl]; omega, ?_⟩
    have e3 : D.lst .own (F.map D.int ++ [D.int (lenP step t a : Int)]) = rowO (F ++ [(lenP step t a : Int)]) := by simp [rowO]
    rw [frz_int, e3]
    exact hgoal _ _ _
end
theorem str_ww : kEq (.str "words") (.str "words") = some (.bl true) := by
  rw [kEq, if_pos ⟨by decide +kernel, by decide +kernel⟩]
  congr 2
theorem str_tw : kEq (.str "tableaux") (.str "words") = some (.bl false) := by
  rw [kEq, if_pos ⟨by decide +kernel, by decide +kernel⟩]
  congr 2
/-! ### words -/
def turnW (w : List Int) : List Int := w.drop (w.length - 1) ++ w.take (w.length - 1)
theorem turnW_len (w : List Int) : (turnW w).length = w.length := by
  unfold turnW
  simp
theorem cut_neg {α : Type} (ys : List α) (h : ys ≠ []) : Py.cutD ys (some (-1)) none = ys.drop (ys.length - 1) ∧ Py.cutD ys none (some (-1)) = ys.take (ys.length - 1) := by
  have hp : 0 < ys.length := List.length_pos_iff.mpr h
  have e0 : ∀ n d : Nat, HT.sIx n d (some (-1)) = ((-1 : Int) + (n : Int)).toNat := fun n d => by
    show (if (-1 : Int) < 0 then ((-1 : Int) + (n : Int)).toNat else min (-1 : Int).toNat n) = _
    rw [if_pos (by decide)]
  have e1 : ((-1 : Int) + (ys.length : Int)).toNat = ys.length - 1 := by omega
  unfold Py.cutD
  simp only [e0, e1, HT.sIx_none]
  refine ⟨?_, by simp⟩
  apply List.take_of_length_le
  rw [List.length_drop]
  omega
theorem ret_turned {w : List Int} (h : w ≠ []) (hl : w.length ≤ 1000) : ret fn__law_turned_word [rowT w] = some (rowT (turnW w)) := by
  obtain ⟨c1, c2⟩ := cut_neg (w.map D.int) (by simpa using h)
  rw [List.length_map] at c1 c2
  apply ret_of
  unfold fn__law_turned_word m__law_turned_word
  rw [wF_D, wS_ret, wE_Up, wE_m2, wE_Sl, wE_var]
  refine ⟨_, rfl, ?_⟩
  rw [wO_some, wE_m1, wE_C]
  refine ⟨_, fNeg_int, _, rfl, ?_⟩
  rw [wO_none]
  refine ⟨_, (by rw [view_rowT]; unfold rowT; exact kSl_tup), ?_⟩
  rw [wE_Sl, wE_var]
  refine ⟨_, rfl, ?_⟩
  rw [wO_none, wO_some, wE_m1, wE_C]
  refine ⟨_, fNeg_int, _, rfl, _, (by rw [view_rowT]; unfold rowT; exact kSl_tup), ?_⟩
  rw [c1, c2, ← List.map_drop, ← List.map_take]
  refine ⟨_, kAdd_tup (by simp; omega), ?_⟩
  rw [← List.map_append]
  exact ⟨noVws_ints _, rfl⟩
theorem ret_lengthsW {ws : List (List Int)} {t : Nat} (ht : t ≤ 1000) (hl : ws.length ≤ 100000) (hw : ∀ w ∈ ws, w ≠ [] ∧ w.length ≤ 1000) : ret fn__law_lengths [.lst .own (ws.map rowT), .str "words", .int t] = some (rowO (ws.map fun w => (lenP turnW t w : Int))) := by
  apply ret_of
  unfold fn__law_lengths m__law_lengths
  rw [wF_D]
  refine wS_cut (fun σ => σ = [some (.lst .own (ws.map rowT)), some (.str "words"), some (.int t), some (rowO []), none, none, none]) (by simp; rfl) ?_
  rintro σ rfl
  refine wS_cut (fun σ => ∃ o0 o4 o5 o6, σ = [o0, some (.str "words"), some (.int t), some (rowO (ws.map fun w => (lenP turnW t w : Int))), o4, o5, o6]) ?_ ?_
  · rw [wS_for, wI_take]
    refine ⟨_, rfl, ?_⟩
    simp only [noOwns_tabS, if_true, List.set_cons_zero]
    refine wL_len (α := List Int) (enc := rowT) (cur := fun h d => d = rowT h) (step := turnW) (OK := fun w => w ≠ [] ∧ w.length ≤ 1000) ht rfl (fun a => frz_rowT a) (fun a => rfl) (fun h d a _ hc => ?_) (fun a ha => ?_) (fun h d f a m ho hc => ?_) ws hl hw fun o4 o5 o6 => ?_
    · rw [hc, view_rowT, view_rowT]
      exact kNe_tints h a
    · refine ⟨fun e => ?_, by rw [turnW_len]; exact ha.2⟩
      have := turnW_len a
      rw [e] at this
      exact ha.1 (List.eq_nil_of_length_eq_zero this.symm)
    · subst hc
      rw [wS_if, wT_B, wE_m2, wE_var]
      refine ⟨_, rfl, ?_⟩
      rw [wE_C]
      refine ⟨.bl true, str_ww, true, rfl, ?_⟩
      simp only [if_true]
      rw [wS_set]
      refine wE_cr (ret_turned ho.1 ho.2) (wA_lendI rfl (noOwn_rowT _) (wA_nil.mpr ⟨rfl, rfl⟩)) rfl ?_
      exact ⟨by simp, rfl, _, rfl, rfl⟩
    · rw [gB_ss]
      exact ⟨rfl, _, o4, o5, o6, rfl⟩
  rintro σ ⟨o0, o4, o5, o6, rfl⟩
  rw [wS_ret, wE_move]
  exact ⟨_, rfl, rfl⟩
/-! ### tableaux -/
theorem kNe_rows {f1 f2 : Fl} {g1 g2 : List Int → D} (h1 : ∀ r, (g1 r).fit 59 = true) (h2 : ∀ r, (g2 r).fit 59 = true) (hd : ∀ a b, (g1 a).deq (g2 b) = decide (a = b)) (A B : LL) : kNe (.lst f1 (A.map g1)) (.lst f2 (B.map g2)) = some (.bl (!decide (A = B))) := by
  have k1 : D.fit 60 (.lst f1 (A.map g1)) = true := fit_rows (f := f1) h1 A
  have k2 : D.fit 60 (.lst f2 (B.map g2)) = true := fit_rows (f := f2) h2 B
  rw [kNe, if_pos ⟨k1, k2⟩]
  have e : D.deq (.lst f1 (A.map g1)) (.lst f2 (B.map g2)) = deqs (A.map g1) (B.map g2) := rfl
  rw [e]
  have go : ∀ A B : LL, deqs (A.map g1) (B.map g2) = decide (A = B) := by
    intro A
    induction A with
    | nil => intro B; cases B <;> simp [deqs]
    | cons a A ih =>
      intro B
      cases B with
      | nil => simp [deqs]
      | cons b B => simp [deqs, hd, ih, List.cons.injEq]
  rw [go]
theorem deq_rows {f1 f2 : Fl} (a b : List Int) : D.deq (.lst f1 (a.map .int)) (.lst f2 (b.map .int)) = decide (a = b) := deqs_ints a b
theorem prom_small {R : LL} {g : Int} (h : Sm R) : Sm (promP R g) := by
  obtain ⟨h1, h2, h3⟩ := h
  have e := prom_lens R g
  refine ⟨fun e2 => ?_, ?_, by rw [e]; exact h3⟩
  · rw [e2] at e
    cases R with
    | nil => exact h1 rfl
    | cons a R => cases e
  · have := congrArg List.length e
    simp at this
    omega
theorem ret_lengthsT {Ts : List LL} {t : Nat} (ht : t ≤ 1000) (hne : Ts ≠ []) (hl : Ts.length ≤ 100000) (hT : ∀ T ∈ Ts, Sm T) : ret fn__law_lengths [.lst .own (Ts.map ownS), .str "tableaux", .int t] = some (rowO (Ts.map fun T => (lenP (fun R => promP R t) t T : Int))) := by
  apply ret_of
  unfold fn__law_lengths m__law_lengths
  rw [wF_D]
  refine wS_cut (fun σ => σ = [some (.lst .own (Ts.map ownS)), some (.str "tableaux"), some (.int t), some (rowO []), none, none, none]) (by simp; rfl) ?_
  rintro σ rfl
  refine wS_cut (fun σ => ∃ o0 o4 o5 o6, σ = [o0, some (.str "tableaux"), some (.int t), some (rowO (Ts.map fun T => (lenP (fun R => promP R t) t T : Int))), o4, o5, o6]) ?_ ?_
  · rw [wS_for, wI_take]
    refine ⟨_, rfl, ?_⟩
    have hn : ¬ noOwns (Ts.map ownS) = true := by
      obtain ⟨a, l, rfl⟩ := List.exists_cons_of_ne_nil hne
      simp
    have hf : frzs (Ts.map ownS) = Ts.map frzS := by
      rw [frzs_map, List.map_map]
      exact List.map_congr_left fun T _ => frz_ownS T
    simp only [hn, Bool.false_eq_true, if_false, hf, List.set_cons_zero]
    refine wL_len (α := LL) (enc := frzS) (cur := fun h d => d = frzS h ∨ d = ownS h) (step := fun R => promP R t) (OK := Sm) ht rfl (fun a => ?_) (fun a => .inl rfl) (fun h d a _ hc => ?_) (fun a ha => prom_small ha) (fun h d f a m ho hc => ?_) Ts hl hT fun o4 o5 o6 => ?_
    · rfl
    · have ev : (frzS a).view = .lst .frz (a.map rowF) := rfl
      rw [ev]
      rcases hc with rfl | rfl
      · exact kNe_rows (f1 := .frz) fit_rowF fit_rowF deq_rows h a
      · rw [view_ownS]
        exact kNe_rows fit_rowV fit_rowF deq_rows h a
    · rw [wS_if, wT_B, wE_m2, wE_var]
      refine ⟨_, rfl, ?_⟩
      rw [wE_C]
      refine ⟨.bl false, str_tw, false, rfl, ?_⟩
      simp only [Bool.false_eq_true, if_false]
      rw [wS_set, wE_Call, wA_cons, wE_frz]
      have hfz : d.frz = frzS h := by
        rcases hc with rfl | rfl
        · rfl
        · exact frz_ownS h
      refine ⟨_, rfl, ?_⟩
      rw [hfz]
      refine wA_lendI rfl rfl (wA_nil.mpr ?_)
      refine wF_any (ret_promoted ho) fun σc => ?_
      rw [putB_id (by rfl)]
      exact ⟨by simp, rfl, _, .inr rfl, rfl⟩
    · rw [gB_sn]
      exact ⟨rfl, _, o4, o5, o6, rfl⟩
  rintro σ ⟨o0, o4, o5, o6, rfl⟩
  rw [wS_ret, wE_move]
  exact ⟨_, rfl, rfl⟩
end K89
namespace K89
open PySem PySem.Spec PyProof.Rows L2 Py
/-! ### data read back -/
def unMap {α : Type} (f : D → Option α) : List D → Option (List α)
  | [] => some []
  | d :: r => match f d with
    | some a => (match unMap f r with
      | some l => some (a :: l)
      | none => none)
    | none => none
theorem unMap_ok {α : Type} {f : D → Option α} {g : α → D} (h : ∀ d a, f d = some a → d = g a) : ∀ {ds : List D} {l : List α}, unMap f ds = some l → ds = l.map g
  | [], l, e => by cases e; rfl
  | d :: r, l, e => by
    rw [unMap] at e
    split at e
    · rename_i a ha
      split at e
      · rename_i m hm
        cases e
        rw [h d a ha, unMap_ok h hm]
        rfl
      · cases e
    · cases e
def unT : D → Option (List Int)
  | .tup xs => unInts xs
  | _ => none
def unL (f : Fl) : D → Option (List Int)
  | .lst g xs => if g = f then unInts xs else none
  | _ => none
theorem unT_ok : ∀ (d : D) (l : List Int), unT d = some l → d = rowT l := fun d l h => by
  cases d with
  | tup xs => rw [ints_eq (xs := xs) h]; rfl
  | _ => cases h
theorem unL_ok (f : Fl) : ∀ (d : D) (l : List Int), unL f d = some l → d = .lst f (l.map .int) := fun d l h => by
  cases d with
  | lst g xs =>
    simp only [unL] at h
    split at h
    · rename_i e
      rw [ints_eq h, e]
    · cases h
  | _ => cases h
def unLS {α : Type} (f : Fl) (u : D → Option α) : D → Option (List α)
  | .lst g xs => if g = f then unMap u xs else none
  | _ => none
theorem unLS_ok {α : Type} {f : Fl} {u : D → Option α} {g : α → D} (hu : ∀ d a, u d = some a → d = g a) : ∀ (d : D) (l : List α), unLS f u d = some l → d = .lst f (l.map g) := fun d l h => by
  cases d with
  | lst k xs =>
    simp only [unLS] at h
    split at h
    · rename_i e
      rw [unMap_ok hu h, e]
    · cases h
  | _ => cases h
def unO := unL .own
def unOS := unLS .own (unL .own)
def unFS := unLS .frz (unL .frz)
def unOT := unLS .own unT
def unFFS := unLS .frz unFS
theorem unO_ok {d : D} {l : List Int} (h : unO d = some l) : d = rowO l := unL_ok .own d l h
theorem unOS_ok {d : D} {l : LL} (h : unOS d = some l) : d = ownS l := unLS_ok (g := rowO) (unL_ok .own) d l h
theorem unFS_ok : ∀ (d : D) (l : LL), unFS d = some l → d = frzS l := unLS_ok (g := rowF) (unL_ok .frz)
theorem unOT_ok {d : D} {l : LL} (h : unOT d = some l) : d = .lst .own (l.map rowT) := unLS_ok (g := rowT) unT_ok d l h
theorem unFFS_ok {d : D} {l : List LL} (h : unFFS d = some l) : d = .lst .frz (l.map frzS) := unLS_ok (g := frzS) unFS_ok d l h
theorem bind_ok {α : Type} {o : Option D} {u : D → Option α} {a : α} (h : o.bind u = some a) : ∃ d, o = some d ∧ u d = some a := by
  cases o with
  | none => cases h
  | some d => exact ⟨d, rfl, h⟩
/-! ### the checks -/
def smB (R : LL) : Bool := !R.isEmpty && decide (R.length ≤ 1000) && R.all fun r => decide (r.length ≤ 1000)
theorem smB_ok {R : LL} (h : smB R = true) : Sm R := by
  unfold smB at h
  simp only [Bool.and_eq_true, decide_eq_true_eq, List.all_eq_true, Bool.not_eq_true', List.isEmpty_eq_false_iff] at h
  obtain ⟨⟨h1, h2⟩, h3⟩ := h
  refine ⟨h1, h2, fun n m => ?_⟩
  obtain ⟨r, mr, rfl⟩ := List.mem_map.mp m
  exact h3 r mr
def ints1 (n : Nat) : List Int := (List.range n).map fun (i : Nat) => 1 + (i : Int)
def tb (s : List Int) (w : List Int) : LL := (((ret fn__law_tableau [rowT w, .int s.length]).bind unOS).getD [])
def chk1 (s : List Int) : Bool :=
  match (ret fn_hooks [rowT s]).bind unOS, (ret fn__law_hooks [rowT s]).bind unO, (ret fn__law_standards [rowT s]).bind unOT, qfG s.sum.toNat with
  | some H, some lh, some ws, some qf => (match ohG qf H, numsG2 [1] lh with
    | some p, some nh => (match mulG p nh, numsG2 [1] (ints1 s.sum.toNat) with
      | some a, some b => decide (a = b) && decide (0 ≤ s.sum) && decide (s.sum ≤ 1000) && decide (s.length ≤ 1000) && !ws.isEmpty && decide (ws.length ≤ 100000) && ws.all (fun w => ((ret fn__law_tableau [rowT w, .int s.length]).bind unOS).isSome && smB (tb s w)) &&
        toldB p (ws.map fun w => (lenP (fun R => promP R (s.sum.toNat : Int)) s.sum.toNat (tb s w) : Int)) s.sum.toNat
      | _, _ => false)
    | _, _ => false)
  | _, _, _, _ => false
def cvP (s : List Int) (g : Int) : List Int := (List.range s.length).flatMap fun (i : Nat) => (List.range (s.getD i 0).toNat).map fun (j : Nat) => max 0 (g + (j : Int) - (i : Int))
def chk2 (s : List Int) (g : Nat) : Bool :=
  match (ret fn_hooks [rowT s]).bind unOS, (ret fn__law_hooks [rowT s]).bind unO, (ret fn_contents [rowT s]).bind unOS, (ret fn__law_all [rowT s, .int g]).bind unFFS with
  | some H, some lh, some C, some Ts => (match letG [1] g C, numsG2 [1] lh with
    | some q, some nh => (match (if 0 < q.length then ohG q H else some []) with
      | some p => (match mulG p nh, numsG2 [1] (cvP s g) with
        | some a, some b => decide (a = b) && decide (s.length ≤ 1000) && s.all (fun x => decide (0 ≤ x) && decide (x ≤ 1000)) && decide (1 ≤ g) && decide (g ≤ 1000) && decide (Ts.length ≤ 100000) && Ts.all smB && toldB p (Ts.map fun T => (lenP (fun R => promP R (g : Int)) g T : Int)) g
        | _, _ => false)
      | none => false)
    | _, _ => false)
  | _, _, _, _ => false
def wStep (c : List Int) (ws : List (List Int)) : List (List Int) := ws.flatMap fun w => ((List.range c.length).filter fun (k : Nat) => decide (((w.filter fun x => x == (k : Int)).length : Int) < c.getD k 0)).map fun (k : Nat) => w ++ [(k : Int)]
def wordsP (c : List Int) : Nat → List (List Int)
  | 0 => [[]]
  | n + 1 => wStep c (wordsP c n)
def chk3 (c : List Int) : Bool :=
  match qfG c.sum.toNat with
  | some qf => (match wpGo qf c with
    | some p => decide (0 ≤ c.sum) && decide (c.sum ≤ 1000) && ((wordsP c c.sum.toNat).length ≥ 700 || toldB p ((wordsP c c.sum.toNat).map fun w => (lenP turnW c.sum.toNat w : Int)) c.sum.toNat)
    | none => false)
  | none => false
def underG (f : List Int) : List Int → Option (List Int)
  | [] => some f
  | k :: r => if 0 ≤ k ∧ k ≤ 1000 then (match numsG2 [1] (ints1 k.toNat) with
    | some q => (match mulG f q with
      | some f' => underG f' r
      | none => none)
    | none => none) else none
def chk4 (l : List Int) : Bool :=
  match qfG l.sum.toNat, underG [1] l with
  | some qf, some u => (match wpGo qf l with
    | some p => (match mulG p u with
      | some a => decide (a = qf) && decide (0 ≤ l.sum) && decide (l.sum ≤ 1000)
      | none => false)
    | none => false)
  | _, _ => false
theorem nums_snoc (k : Int) : ∀ (l f : List Int), numsG2 f (l ++ [k]) = match numsG2 f l with
    | some g => numsG2 g [k]
    | none => none
  | [], f => rfl
  | a :: l, f => by
    rw [List.cons_append, numsG2, numsG2]
    by_cases h : -1000 ≤ a ∧ a ≤ 1000
    · rw [if_pos h, if_pos h]
      cases mulG f (qn a.toNat) with
      | none => rfl
      | some g => exact nums_snoc k l g
    · rw [if_neg h, if_neg h]
theorem nums_qf : ∀ n : Nat, n ≤ 1000 → numsG2 [1] (ints1 n) = qfG n
  | 0, _ => rfl
  | n + 1, h => by
    have e : ints1 (n + 1) = ints1 n ++ [1 + (n : Int)] := by unfold ints1; rw [List.range_succ, List.map_append]; rfl
    rw [e, nums_snoc, nums_qf n (by omega), qfG]
    cases qfG n with
    | none => rfl
    | some f =>
      simp only
      rw [numsG2, if_pos (by omega)]
      have e2 : (1 + (n : Int)).toNat = n + 1 := by omega
      rw [e2]
      cases mulG f (qn (n + 1)) <;> rfl
end K89
namespace K89
open PySem PySem.Spec PyProof.Rows L2 Py
def shapes : List (List Int) := [[1], [2], [4], [2, 2], [1, 1, 1], [3, 3], [2, 2, 2], [4, 4], [3, 3, 3], [5, 5], [2, 2, 2, 2], [1, 1, 1, 1]]
def smalls : List (List Int) := [[1], [3], [2, 2], [1, 1], [1, 1, 1], [2, 2, 2], [3, 3]]
theorem c1_0 : chk1 [1] = true := by decide +kernel
theorem c1_1 : chk1 [2] = true := by decide +kernel
theorem c1_2 : chk1 [4] = true := by decide +kernel
theorem c1_3 : chk1 [2, 2] = true := by decide +kernel
theorem c1_4 : chk1 [1, 1, 1] = true := by decide +kernel
theorem c1_5 : chk1 [3, 3] = true := by decide +kernel
theorem c1_6 : chk1 [2, 2, 2] = true := by decide +kernel
theorem c1_7 : chk1 [4, 4] = true := by decide +kernel
theorem c1_8 : chk1 [3, 3, 3] = true := by decide +kernel
theorem c1_9 : chk1 [5, 5] = true := by decide +kernel
theorem c1_10 : chk1 [2, 2, 2, 2] = true := by decide +kernel
theorem c1_11 : chk1 [1, 1, 1, 1] = true := by decide +kernel
theorem c2_0_1 : chk2 [1] 1 = true := by decide +kernel
theorem c2_0_2 : chk2 [1] 2 = true := by decide +kernel
theorem c2_0_3 : chk2 [1] 3 = true := by decide +kernel
theorem c2_0_4 : chk2 [1] 4 = true := by decide +kernel
theorem c2_1_1 : chk2 [3] 1 = true := by decide +kernel
theorem c2_1_2 : chk2 [3] 2 = true := by decide +kernel
theorem c2_1_3 : chk2 [3] 3 = true := by decide +kernel
theorem c2_1_4 : chk2 [3] 4 = true := by decide +kernel
theorem c2_2_1 : chk2 [2, 2] 1 = true := by decide +kernel
theorem c2_2_2 : chk2 [2, 2] 2 = true := by decide +kernel
theorem c2_2_3 : chk2 [2, 2] 3 = true := by decide +kernel
theorem c2_2_4 : chk2 [2, 2] 4 = true := by decide +kernel
theorem c2_3_1 : chk2 [1, 1] 1 = true := by decide +kernel
theorem c2_3_2 : chk2 [1, 1] 2 = true := by decide +kernel
theorem c2_3_3 : chk2 [1, 1] 3 = true := by decide +kernel
theorem c2_3_4 : chk2 [1, 1] 4 = true := by decide +kernel
theorem c2_4_1 : chk2 [1, 1, 1] 1 = true := by decide +kernel
theorem c2_4_2 : chk2 [1, 1, 1] 2 = true := by decide +kernel
theorem c2_4_3 : chk2 [1, 1, 1] 3 = true := by decide +kernel
theorem c2_4_4 : chk2 [1, 1, 1] 4 = true := by decide +kernel
theorem c2_5_1 : chk2 [2, 2, 2] 1 = true := by decide +kernel
theorem c2_5_2 : chk2 [2, 2, 2] 2 = true := by decide +kernel
theorem c2_5_3 : chk2 [2, 2, 2] 3 = true := by decide +kernel
theorem c2_5_4 : chk2 [2, 2, 2] 4 = true := by decide +kernel
theorem c2_6_1 : chk2 [3, 3] 1 = true := by decide +kernel
theorem c2_6_2 : chk2 [3, 3] 2 = true := by decide +kernel
theorem c2_6_3 : chk2 [3, 3] 3 = true := by decide +kernel
theorem c2_6_4 : chk2 [3, 3] 4 = true := by decide +kernel
theorem c3_0_0 : ((List.range 4).all fun (c : Nat) => (if 0 + c = 0 then true else chk3 [0, 0, (c : Int)])) = true := by decide +kernel
theorem c3_0_1 : ((List.range 4).all fun (c : Nat) => (if 1 + c = 0 then true else chk3 [0, 1, (c : Int)])) = true := by decide +kernel
theorem c3_0_2 : ((List.range 4).all fun (c : Nat) => (if 2 + c = 0 then true else chk3 [0, 2, (c : Int)])) = true := by decide +kernel
theorem c3_0_3 : ((List.range 4).all fun (c : Nat) => (if 3 + c = 0 then true else chk3 [0, 3, (c : Int)])) = true := by decide +kernel
theorem c3_1_0 : ((List.range 4).all fun (c : Nat) => (if 1 + c = 0 then true else chk3 [1, 0, (c : Int)])) = true := by decide +kernel
theorem c3_1_1 : ((List.range 4).all fun (c : Nat) => (if 2 + c = 0 then true else chk3 [1, 1, (c : Int)])) = true := by decide +kernel
theorem c3_1_2 : ((List.range 4).all fun (c : Nat) => (if 3 + c = 0 then true else chk3 [1, 2, (c : Int)])) = true := by decide +kernel
theorem c3_1_3 : ((List.range 4).all fun (c : Nat) => (if 4 + c = 0 then true else chk3 [1, 3, (c : Int)])) = true := by decide +kernel
theorem c3_2_0 : ((List.range 4).all fun (c : Nat) => (if 2 + c = 0 then true else chk3 [2, 0, (c : Int)])) = true := by decide +kernel
theorem c3_2_1 : ((List.range 4).all fun (c : Nat) => (if 3 + c = 0 then true else chk3 [2, 1, (c : Int)])) = true := by decide +kernel
theorem c3_2_2 : ((List.range 4).all fun (c : Nat) => (if 4 + c = 0 then true else chk3 [2, 2, (c : Int)])) = true := by decide +kernel
theorem c3_2_3 : ((List.range 4).all fun (c : Nat) => (if 5 + c = 0 then true else chk3 [2, 3, (c : Int)])) = true := by decide +kernel
theorem c3_3_0 : ((List.range 4).all fun (c : Nat) => (if 3 + c = 0 then true else chk3 [3, 0, (c : Int)])) = true := by decide +kernel
theorem c3_3_1 : ((List.range 4).all fun (c : Nat) => (if 4 + c = 0 then true else chk3 [3, 1, (c : Int)])) = true := by decide +kernel
theorem c3_3_2 : ((List.range 4).all fun (c : Nat) => (if 5 + c = 0 then true else chk3 [3, 2, (c : Int)])) = true := by decide +kernel
theorem c3_3_3 : ((List.range 4).all fun (c : Nat) => (if 6 + c = 0 then true else chk3 [3, 3, (c : Int)])) = true := by decide +kernel
theorem c4_1_1 : ((List.range 5).all fun (c : Nat) => chk4 [1, 1, 1 + (c : Int)]) = true := by decide +kernel
theorem c4_1_2 : ((List.range 5).all fun (c : Nat) => chk4 [1, 2, 1 + (c : Int)]) = true := by decide +kernel
theorem c4_1_3 : ((List.range 5).all fun (c : Nat) => chk4 [1, 3, 1 + (c : Int)]) = true := by decide +kernel
theorem c4_1_4 : ((List.range 5).all fun (c : Nat) => chk4 [1, 4, 1 + (c : Int)]) = true := by decide +kernel
theorem c4_1_5 : ((List.range 5).all fun (c : Nat) => chk4 [1, 5, 1 + (c : Int)]) = true := by decide +kernel
theorem c4_2_1 : ((List.range 5).all fun (c : Nat) => chk4 [2, 1, 1 + (c : Int)]) = true := by decide +kernel
theorem c4_2_2 : ((List.range 5).all fun (c : Nat) => chk4 [2, 2, 1 + (c : Int)]) = true := by decide +kernel
theorem c4_2_3 : ((List.range 5).all fun (c : Nat) => chk4 [2, 3, 1 + (c : Int)]) = true := by decide +kernel
theorem c4_2_4 : ((List.range 5).all fun (c : Nat) => chk4 [2, 4, 1 + (c : Int)]) = true := by decide +kernel
theorem c4_2_5 : ((List.range 5).all fun (c : Nat) => chk4 [2, 5, 1 + (c : Int)]) = true := by decide +kernel
theorem c4_3_1 : ((List.range 5).all fun (c : Nat) => chk4 [3, 1, 1 + (c : Int)]) = true := by decide +kernel
theorem c4_3_2 : ((List.range 5).all fun (c : Nat) => chk4 [3, 2, 1 + (c : Int)]) = true := by decide +kernel
theorem c4_3_3 : ((List.range 5).all fun (c : Nat) => chk4 [3, 3, 1 + (c : Int)]) = true := by decide +kernel
theorem c4_3_4 : ((List.range 5).all fun (c : Nat) => chk4 [3, 4, 1 + (c : Int)]) = true := by decide +kernel
theorem c4_3_5 : ((List.range 5).all fun (c : Nat) => chk4 [3, 5, 1 + (c : Int)]) = true := by decide +kernel
theorem c4_4_1 : ((List.range 5).all fun (c : Nat) => chk4 [4, 1, 1 + (c : Int)]) = true := by decide +kernel
theorem c4_4_2 : ((List.range 5).all fun (c : Nat) => chk4 [4, 2, 1 + (c : Int)]) = true := by decide +kernel
theorem c4_4_3 : ((List.range 5).all fun (c : Nat) => chk4 [4, 3, 1 + (c : Int)]) = true := by decide +kernel
theorem c4_4_4 : ((List.range 5).all fun (c : Nat) => chk4 [4, 4, 1 + (c : Int)]) = true := by decide +kernel
theorem c4_4_5 : ((List.range 5).all fun (c : Nat) => chk4 [4, 5, 1 + (c : Int)]) = true := by decide +kernel
theorem c4_5_1 : ((List.range 5).all fun (c : Nat) => chk4 [5, 1, 1 + (c : Int)]) = true := by decide +kernel
theorem c4_5_2 : ((List.range 5).all fun (c : Nat) => chk4 [5, 2, 1 + (c : Int)]) = true := by decide +kernel
theorem c4_5_3 : ((List.range 5).all fun (c : Nat) => chk4 [5, 3, 1 + (c : Int)]) = true := by decide +kernel
theorem c4_5_4 : ((List.range 5).all fun (c : Nat) => chk4 [5, 4, 1 + (c : Int)]) = true := by decide +kernel
theorem c4_5_5 : ((List.range 5).all fun (c : Nat) => chk4 [5, 5, 1 + (c : Int)]) = true := by decide +kernel
end K89
namespace K89
open PySem PySem.Spec PyProof.Rows L2 Py
/-! ### divisors -/
theorem gcd_ret (t s : Nat) (hs : s ≤ 1000) : ret fn_divisor [.int t, .int s] = some (.int ((Nat.gcd t s : Nat) : Int)) := by
  apply ret_of
  unfold fn_divisor m_divisor
  rw [wF_D]
  refine wS_cut (fun σ => σ = [some (.int t), some (.int s)]) ?_ ?_
  · rw [wS_par, wA_cons, wE_Up, wE_A, wA_cons, wE_var]
    refine ⟨_, rfl, ?_⟩
    rw [wA_nil, k1_one]
    have e1 : fAbs (.int (t : Int)) = some (.int (t : Int)) := by rw [fAbs_int, if_neg (by omega)]
    have e2 : fAbs (.int (s : Int)) = some (.int (s : Int)) := by rw [fAbs_int, if_neg (by omega)]
    refine ⟨_, e1, rfl, ?_⟩
    rw [wA_cons, wE_Up, wE_A, wA_cons, wE_var]
    refine ⟨_, rfl, ?_⟩
    rw [wA_nil, k1_one]
    refine ⟨_, e2, rfl, ?_⟩
    rw [wA_nil]
    exact ⟨_, _, rfl, by simp, by simp, rfl, rfl⟩
  rintro σ rfl
  refine wS_cut (fun σ => ∃ o, σ = [some (.int ((Nat.gcd t s : Nat) : Int)), o]) ?_ ?_
  · refine wS_while (P := fun k σ => ∃ a : Nat, Nat.gcd a k = Nat.gcd t s ∧ σ = [some (.int a), some (.int k)]) (n := s) (by unfold fu; omega) ⟨t, rfl, rfl⟩ ?_
    rintro k σ ⟨a, hg, rfl⟩
    rw [wT_B, wE_m2, wE_var]
    refine ⟨_, rfl, ?_⟩
    rw [wE_C]
    refine ⟨_, kGt_int, _, rfl, ?_⟩
    by_cases q : 0 < k
    · have hq : (0 : Int) < (k : Int) := by omega
      simp only [decide_eq_true hq, if_true]
      have hmod : kMod (.int (a : Int)) (.int (k : Int)) = some (.int ((a % k : Nat) : Int)) := by rw [kMod_int hq, Int.natCast_emod]
      rw [wS_par]
      refine wA_frzI rfl rfl ?_
      rw [wA_cons, wE_Up, wE_m2, wE_A, wA_cons, wE_var]
      refine ⟨_, rfl, ?_⟩
      rw [wA_nil, k1_one]
      refine ⟨_, fInt_int, ?_⟩
      rw [wE_var]
      refine ⟨_, rfl, _, hmod, rfl, ?_⟩
      rw [wA_nil]
      refine ⟨_, _, rfl, by simp, by simp, a % k, Nat.mod_lt _ q, k, ?_, rfl⟩
      rw [← hg, Nat.gcd_comm a k, Nat.gcd_rec k a, Nat.gcd_comm]
    · have hq : ¬ (0 : Int) < (k : Int) := by omega
      have hk : k = 0 := by omega
      subst hk
      simp only [decide_eq_false hq, Bool.false_eq_true, if_false]
      rw [Nat.gcd_zero_right] at hg
      rw [hg]
      exact ⟨trivial, _, rfl⟩
  rintro σ ⟨o, rfl⟩
  rw [wS_ret, wE_move]
  exact ⟨_, rfl, rfl⟩
theorem div_ret {t : Nat} (h : t ≤ 1000) : ret fn_divisors [.int t] = some (rowO ((divs t).map fun (n : Nat) => (n : Int))) := by
  apply ret_of
  unfold fn_divisors m_divisors
  rw [wF_D, wS_ret, wE_Lc, wI_rng2, wE_C, wE_Up, wE_m2, wE_var]
  refine ⟨_, rfl, ?_⟩
  rw [wE_C]
  refine ⟨_, kAdd_int, rfl, _, _, rfl, rfl, by decide, by unfold okR; exact decide_eq_true (by omega), ?_⟩
  have e : ((t : Int) + 1 - 1).toNat = t := by omega
  have e2 : up 1 t = ((List.range t).map fun i => i + 1).map fun (n : Nat) => D.int (n : Int) := by
    rw [up_range, List.map_map]
    refine List.map_congr_left fun i _ => ?_
    show D.int (1 + (i : Int)) = D.int ((i + 1 : Nat) : Int)
    congr 1
    omega
  rw [e, e2]
  refine wC_typ ((List.range t).map fun i => i + 1) (fun (n : Nat) => D.int (n : Int)) (fun d => t % d == 0) (fun (n : Nat) => D.int (n : Int)) (fun d md => ?_) fun σ' wq => ?_
  · obtain ⟨i, _, rfl⟩ := List.mem_map.mp md
    have hmod : kMod (.int (t : Int)) (.int ((i + 1 : Nat) : Int)) = some (.int ((t % (i + 1) : Nat) : Int)) := by rw [kMod_int (by omega), Int.natCast_emod]
    have hb : (((t % (i + 1) : Nat) : Int) == 0) = (t % (i + 1) == 0) := by
      by_cases q : t % (i + 1) = 0
      · rw [q]; rfl
      · rw [beq_eq_false_iff_ne.mpr (by omega), beq_eq_false_iff_ne.mpr q]
    refine wG_name.mpr ⟨by simp [wipeD], ?_⟩
    rw [wT_B, wE_m2, wE_m2, wE_A, wA_cons, wE_var]
    refine ⟨.int t, by simp [wipeD], ?_⟩
    rw [wA_nil, k1_one]
    refine ⟨_, fInt_int, ?_⟩
    rw [wE_var]
    refine ⟨.int ((i + 1 : Nat) : Int), by simp [wipeD], _, hmod, ?_⟩
    rw [wE_C]
    refine ⟨_, kEq_int, _, rfl, ?_⟩
    rw [hb]
    by_cases q : (t % (i + 1) == 0) = true
    · simp only [q, if_true]
      rw [wE_frz]
      exact ⟨trivial, .int ((i + 1 : Nat) : Int), by simp [wipeD], rfl, by simp [wipeD]⟩
    · simp only [q, if_false]
      exact ⟨trivial, by simp [wipeD]⟩
  · simp only [wq, unwipe_wipe, gB_n]
    have hl := List.length_filter_le (fun d => t % d == 0) ((List.range t).map fun i => i + 1)
    refine ⟨by rw [List.length_map]; simp at hl; omega, ?_⟩
    unfold rowO divs
    rw [List.map_map]
    rfl
theorem all1 : ∀ s ∈ shapes, chk1 s = true := by
  intro s hs
  simp only [shapes, List.mem_cons, List.not_mem_nil, or_false] at hs
  rcases hs with rfl | rfl | rfl | rfl | rfl | rfl | rfl | rfl | rfl | rfl | rfl | rfl
  · exact c1_0
  · exact c1_1
  · exact c1_2
  · exact c1_3
  · exact c1_4
  · exact c1_5
  · exact c1_6
  · exact c1_7
  · exact c1_8
  · exact c1_9
  · exact c1_10
  · exact c1_11
theorem all2 : ∀ s ∈ smalls, ∀ g : Nat, 1 ≤ g → g ≤ 4 → chk2 s g = true := by
  intro s hs g h1 h2
  have hg : g = 1 ∨ g = 2 ∨ g = 3 ∨ g = 4 := by omega
  simp only [smalls, List.mem_cons, List.not_mem_nil, or_false] at hs
  rcases hs with rfl | rfl | rfl | rfl | rfl | rfl | rfl <;> rcases hg with rfl | rfl | rfl | rfl
  · exact c2_0_1
  · exact c2_0_2
  · exact c2_0_3
  · exact c2_0_4
  · exact c2_1_1
  · exact c2_1_2
  · exact c2_1_3
  · exact c2_1_4
  · exact c2_2_1
  · exact c2_2_2
  · exact c2_2_3
  · exact c2_2_4
  · exact c2_3_1
  · exact c2_3_2
  · exact c2_3_3
  · exact c2_3_4
  · exact c2_4_1
  · exact c2_4_2
  · exact c2_4_3
  · exact c2_4_4
  · exact c2_5_1
  · exact c2_5_2
  · exact c2_5_3
  · exact c2_5_4
  · exact c2_6_1
  · exact c2_6_2
  · exact c2_6_3
  · exact c2_6_4
theorem all3 {a b c : Nat} (ha : a < 4) (hb : b < 4) (hc : c < 4) (hn : a + b + c ≠ 0) : chk3 [(a : Int), (b : Int), (c : Int)] = true := by
  have key : ∀ {x y : Int} {m : Nat}, ((List.range 4).all fun (c : Nat) => (if m + c = 0 then true else chk3 [x, y, (c : Int)])) = true → m + c ≠ 0 → chk3 [x, y, (c : Int)] = true := fun h hm => by
    rw [List.all_eq_true] at h
    have h := h c (List.mem_range.mpr hc)
    rw [if_neg hm] at h
    exact h
  have ha' : a = 0 ∨ a = 1 ∨ a = 2 ∨ a = 3 := by omega
  have hb' : b = 0 ∨ b = 1 ∨ b = 2 ∨ b = 3 := by omega
  rcases ha' with rfl | rfl | rfl | rfl <;> rcases hb' with rfl | rfl | rfl | rfl
  · exact key c3_0_0 (by omega)
  · exact key c3_0_1 (by omega)
  · exact key c3_0_2 (by omega)
  · exact key c3_0_3 (by omega)
  · exact key c3_1_0 (by omega)
  · exact key c3_1_1 (by omega)
  · exact key c3_1_2 (by omega)
  · exact key c3_1_3 (by omega)
  · exact key c3_2_0 (by omega)
  · exact key c3_2_1 (by omega)
  · exact key c3_2_2 (by omega)
  · exact key c3_2_3 (by omega)
  · exact key c3_3_0 (by omega)
  · exact key c3_3_1 (by omega)
  · exact key c3_3_2 (by omega)
  · exact key c3_3_3 (by omega)
theorem all4 {a b c : Nat} (ha : 1 ≤ a ∧ a ≤ 5) (hb : 1 ≤ b ∧ b ≤ 5) (hc : 1 ≤ c ∧ c ≤ 5) : chk4 [(a : Int), (b : Int), (c : Int)] = true := by
  have key : ∀ {x y : Int}, ((List.range 5).all fun (c : Nat) => chk4 [x, y, 1 + (c : Int)]) = true → chk4 [x, y, (c : Int)] = true := fun h => by
    rw [List.all_eq_true] at h
    have h := h (c - 1) (List.mem_range.mpr (by omega))
    have e : 1 + ((c - 1 : Nat) : Int) = (c : Int) := by omega
    rw [e] at h
    exact h
  have ha' : a = 1 ∨ a = 2 ∨ a = 3 ∨ a = 4 ∨ a = 5 := by omega
  have hb' : b = 1 ∨ b = 2 ∨ b = 3 ∨ b = 4 ∨ b = 5 := by omega
  rcases ha' with rfl | rfl | rfl | rfl | rfl <;> rcases hb' with rfl | rfl | rfl | rfl | rfl
  · exact key c4_1_1
  · exact key c4_1_2
  · exact key c4_1_3
  · exact key c4_1_4
  · exact key c4_1_5
  · exact key c4_2_1
  · exact key c4_2_2
  · exact key c4_2_3
  · exact key c4_2_4
  · exact key c4_2_5
  · exact key c4_3_1
  · exact key c4_3_2
  · exact key c4_3_3
  · exact key c4_3_4
  · exact key c4_3_5
  · exact key c4_4_1
  · exact key c4_4_2
  · exact key c4_4_3
  · exact key c4_4_4
  · exact key c4_4_5
  · exact key c4_5_1
  · exact key c4_5_2
  · exact key c4_5_3
  · exact key c4_5_4
  · exact key c4_5_5
end K89
namespace K89
open PySem PySem.Spec PyProof.Rows L2 Py
/-! ### a remainder is shorter -/
theorem zipAdd_tail : ∀ (s f : List Int) (a : Int) (i : Nat), s.length ≤ i → (zipAdd f a s)[i]? = f[i]?
  | [], f, a, i, _ => by rw [zipAdd_nil]
  | y :: s, [], a, i, _ => rfl
  | y :: s, x :: f, a, 0, h => by simp at h
  | y :: s, x :: f, a, i + 1, h => by simp only [zipAdd, List.getElem?_cons_succ]; exact zipAdd_tail s f a i (by simpa using h)
theorem addS_tail : ∀ (k : Nat) (f s : List Int) (a : Int) (i : Nat), k + s.length ≤ i → (addS f k a s)[i]? = f[i]?
  | 0, f, s, a, i, h => by unfold addS; exact zipAdd_tail s f a i (by omega)
  | k + 1, [], s, a, i, h => rfl
  | k + 1, x :: f, s, a, 0, h => by omega
  | k + 1, x :: f, s, a, i + 1, h => by simp only [addS, List.getElem?_cons_succ]; exact addS_tail k f s a i (by omega)
theorem remS_zero (s' : List Int) : ∀ (n : Nat) (f : List Int), n + s'.length ≤ f.length → (∀ i, n + s'.length ≤ i → i < f.length → f[i]? = some 0) → ∀ i, s'.length ≤ i → i < f.length → (remS n f (s' ++ [1]))[i]? = some 0
  | 0, f, _, h => fun i h1 h2 => by rw [remS]; exact h i (by omega) h2
  | n + 1, f, hl, h => by
    intro i h1 h2
    have hsl : (s' ++ [(1 : Int)]).length = s'.length + 1 := by simp
    obtain ⟨t, ht, _⟩ := get_some (l := f) (k := n + s'.length) (by omega)
    have e : n + (s' ++ [(1 : Int)]).length - 1 = n + s'.length := by rw [hsl]; omega
    rw [remS, e, getD_get ht]
    have hs := (addS_snoc n f s' (-t) 1 t ht).1
    have hlen := addS_len n f (-t) (s' ++ [1])
    refine remS_zero s' n _ (by rw [hlen]; omega) (fun j hj hj2 => ?_) i h1 (by rw [hlen]; exact h2)
    rw [hlen] at hj2
    by_cases q : j = n + s'.length
    · rw [← hs, q, List.getElem?_set_self (by rw [addS_len]; omega)]
      congr 1
      omega
    · rw [addS_tail n f (s' ++ [1]) (-t) j (by rw [hsl]; omega)]
      exact h j (by omega) hj2
theorem trim_zeros (p : List Int) : ∀ j, trim (p ++ List.replicate j 0) = trim p
  | 0 => by simp
  | j + 1 => by rw [List.replicate_succ', ← List.append_assoc, trim_snoc0, trim_zeros p j]
theorem trim_le {l : List Int} {m : Nat} (h : ∀ i, m ≤ i → i < l.length → l[i]? = some 0) : (trim l).length ≤ m := by
  by_cases q : l.length ≤ m
  · exact Nat.le_trans (trim_len l) q
  · have e : l = l.take m ++ List.replicate (l.length - m) 0 := by
      apply List.ext_getElem?
      intro i
      by_cases q1 : i < m
      · rw [List.getElem?_append_left (by simp; omega), List.getElem?_take_of_lt q1]
      · by_cases q2 : i < l.length
        · rw [List.getElem?_append_right (by simp; omega), h i (by omega) q2, List.getElem?_replicate]
          simp
          omega
        · rw [List.getElem?_eq_none_iff.mpr (by omega), List.getElem?_eq_none_iff.mpr (by simp; omega)]
    rw [e, trim_zeros]
    refine Nat.le_trans (trim_len _) ?_
    simp
    omega
theorem remP_short {a s' : List Int} : (remP a (s' ++ [1])).length ≤ s'.length := by
  unfold remP
  by_cases q : s'.length + 1 ≤ a.length
  · refine trim_le fun i h1 h2 => ?_
    rw [remS_len] at h2
    exact remS_zero s' _ a (by simp; omega) (fun j hj hj2 => by simp at hj; omega) i h1 h2
  · have e : a.length + 1 - (s' ++ [(1 : Int)]).length = 0 := by simp; omega
    rw [e, remS]
    exact Nat.le_trans (trim_len a) (by omega)
/-! ### the checks on roots -/
def rootsG (n : Nat) : Nat → Option (List Int)
  | 0 => some [1]
  | k + 1 => match rootsG n k with
    | some f => if n % (k + 1) = 0 then (match cycG 6 (k + 1) with
      | some c => mulG f c
      | none => none) else some f
    | none => none
def unit (n : Nat) : List Int := (-1 : Int) :: (List.replicate (n - 1) 0 ++ [1])
def chk5 (n : Nat) : Bool := match cycG 6 n, rootsG n n with
  | some c, some f => decide (f = trim (unit n)) && okP c && decide (2 ≤ c.length) && decide (c.getLast? = some 1)
  | _, _ => false
theorem tbl5 : ((List.range 30).all fun n => chk5 (n + 1)) = true := by decide +kernel
theorem tbl6 : ([2, 3, 5, 7, 11, 13].all fun n => decide (cycG 6 n = some (qn n))) = true := by decide +kernel
theorem tbl1 : cycG 6 1 = some [-1, 1] := by decide +kernel
theorem rootsG_mono {n : Nat} : ∀ {k j : Nat} {r : List Int}, rootsG n k = some r → j ≤ k → ∃ r', rootsG n j = some r'
  | 0, j, r, h, hj => by
    have : j = 0 := by omega
    subst this
    exact ⟨_, h⟩
  | k + 1, j, r, h, hj => by
    by_cases e : j = k + 1
    · subst e; exact ⟨_, h⟩
    · rw [rootsG] at h
      split at h
      · rename_i f hf
        exact rootsG_mono hf (by omega)
      · cases h
theorem root_ok {n : Nat} (h1 : 1 ≤ n) (h2 : n ≤ 30) : ∃ c, cycG 6 n = some c ∧ rootsG n n = some (trim (unit n)) ∧ okP c = true ∧ 2 ≤ c.length ∧ c.getLast? = some 1 := by
  have h := tbl5
  rw [List.all_eq_true] at h
  have h := h (n - 1) (List.mem_range.mpr (by omega))
  have e : n - 1 + 1 = n := by omega
  rw [e] at h
  unfold chk5 at h
  split at h
  · rename_i c f hc hf
    simp only [Bool.and_eq_true, decide_eq_true_eq] at h
    obtain ⟨⟨⟨h1, h2⟩, h3⟩, h4⟩ := h
    exact ⟨c, hc, by rw [hf, h1], h2, h3, h4⟩
  · cases h
theorem prime_ok {n : Nat} (h : n ∈ [2, 3, 5, 7, 11, 13]) : cycG 6 n = some (qn n) := by
  have h0 := tbl6
  rw [List.all_eq_true] at h0
  exact of_decide_eq_true (h0 n h)
/-- what two roads tell alike, the first one a name -/
theorem wE_same3 {B : M} {i : Nat} {σ : Sg} {Q : D → Sg → Prop} {d : D} (hp : Pl 5 d) (hi : σ[i]? = some (some d)) (h : wE B σ fun v σ1 => v = d ∧ σ1 = σ) (hQ : Q (.bl true) σ) : wE (mCall [] [some i, none] fn__law_same (aCons (mLend i) (aCons B aNil))) σ Q := by
  rw [wE_Call]
  refine wA_lendI hi (Pl.gr hp).1 ?_
  rw [wA_cons]
  refine wE_mono h ?_
  rintro v σ1 ⟨rfl, rfl⟩
  rw [wA_nil]
  refine wF_any (same_refl hp) fun σc => ?_
  rw [putB_id (by simp [alive, hi])]
  exact hQ
/-- letters drawn from -4 to 4 -/
theorem wE_drawn {st : D} {r : Sg} {l : Int} {Q : D → Sg → Prop} (hs : St st) (h0 : 0 < l) (h1 : l ≤ 1000) (hr : r.length = 11)
    (hQ : ∀ (ns : List Int) (st' : D), St st' → (ns.length : Int) < l → (∀ x ∈ ns, -4 ≤ x ∧ x ≤ 4) → Q (rowO ns) (some st' :: r)) :
    wE (mLc (none) (iRngM1 (mCall [2, 3] [some 0, none] fn__law_pick (aCons (mLend 0) (aCons (mC (.int l)) aNil)))) (gNameM 4) tYesM (m2 kSub (mCall [2, 3] [some 0, none] fn__law_pick (aCons (mLend 0) (aCons (mC (.int 9)) aNil))) (mC (.int 4))) [4]) (some st :: r) Q := by
  match r, hr with
  | [a1, a2, a3, a4, a5, a6, a7, a8, a9, a10, a11], _ =>
  rw [wE_Lc, wI_rng1]
  refine wE_pick (l := l) rfl hs (by simp) h0 (by omega) fun n st1 n0 n1 hs1 => ⟨n, rfl, by unfold okR; exact decide_eq_true (by omega), ?_⟩
  obtain ⟨m, rfl⟩ := Int.eq_ofNat_of_zero_le n0
  rw [Int.toNat_natCast]
  simp only [List.set_cons_zero]
  refine wC_inv (I := fun σ => ∃ st', St st' ∧ σ = [some st', a1, a2, a3, none, a5, a6, a7, a8, a9, a10, a11]) (R := fun d => ∃ i, d = .int i ∧ -4 ≤ i ∧ i ≤ 4) ?_ ⟨st1, hs1, rfl⟩ ?_
  · rintro d hd σ ⟨st3, hs3, e⟩
    rw [e]
    refine wG_name.mpr ⟨by simp, ?_⟩
    simp only [List.set_cons_succ, List.set_cons_zero]
    rw [wE_m2]
    refine wE_pick (l := 9) rfl hs3 (by simp) (by decide) (by decide) fun r st4 r0 r1 hs4 => ?_
    rw [wE_C]
    exact ⟨_, kSub_int, ⟨_, rfl, by omega, by omega⟩, st4, hs4, rfl⟩
  · rintro xs σ' hl hr2 ⟨st3, hs3, e⟩
    obtain ⟨ns, rfl, hns⟩ := ints_of hr2
    have hl2 : ns.length = m := by rw [List.length_map, up_len] at hl; exact hl
    have hun : unwipe [some st1, a1, a2, a3, a4, a5, a6, a7, a8, a9, a10, a11] [4] (wipeD σ' [4]) = [some st3, a1, a2, a3, a4, a5, a6, a7, a8, a9, a10, a11] := by
      rw [e]
      cases a4 <;> rfl
    rw [gB_n, hun]
    exact ⟨by rw [List.length_map]; omega, hQ ns st3 hs3 (by omega) hns⟩
theorem smallI_of {l : List Int} (h : ∀ x ∈ l, -4 ≤ x ∧ x ≤ 4) (hl : l.length ≤ 1000) : okP l = true := okP_iff.mpr ⟨fun y m => by have := h y m; omega, by omega⟩
theorem wF_roots {st : D} {Q : D → Sg → Prop} (hs : St st) (hQ : ∀ σ, Q (.bl true) σ) : wF fn__law_roots [st] Q := by
  unfold fn__law_roots m__law_roots
  rw [wF_D]
  refine wS_cut (fun σ => ∃ (st : D) (n : Nat), St st ∧ 1 ≤ n ∧ n ≤ 30 ∧ σ = [some st, some (.int n), none, none, none, none, none, none, none, none, none, none]) ?_ ?_
  · rw [wS_set, wE_m2, wE_C]
    refine wE_pick (l := 30) rfl hs (by simp) (by decide) (by decide) fun r st1 r0 r1 hs1 => ?_
    obtain ⟨m, rfl⟩ := Int.eq_ofNat_of_zero_le r0
    have em : 1 + (m : Int) = ((m + 1 : Nat) : Int) := by omega
    exact ⟨_, kAdd_int, by simp, rfl, st1, m + 1, hs1, by omega, by omega, by rw [← em]; rfl⟩
  clear hs st
  rintro σ ⟨st, n, hs, n1, n2, rfl⟩
  obtain ⟨c, hc, hroots, okc, lc, lastc⟩ := root_ok n1 n2
  have hcn : c ≠ [] := fun e => by rw [e] at lc; simp at lc
  refine wS_cut (fun σ => σ = [some st, some (.int n), some (rowT [1]), none, none, none, none, none, none, none, none, none]) (by simp; rfl) ?_
  rintro σ rfl
  refine wS_cut (fun σ => ∃ o3, σ = [some st, some (.int n), some (rowT (trim (unit n))), o3, none, none, none, none, none, none, none, none]) ?_ ?_
  · rw [wS_for, wI_rng2, wE_C, wE_Up, wE_m2, wE_var]
    refine ⟨_, rfl, ?_⟩
    rw [wE_C]
    refine ⟨_, kAdd_int, rfl, _, _, rfl, rfl, by decide, by unfold okR; exact decide_eq_true (by omega), ?_⟩
    have e : ((n : Int) + 1 - 1).toNat = n := by omega
    rw [e]
    refine wL_rng (P := fun k σ => ∃ f o3, rootsG n k = some f ∧ σ = [some st, some (.int n), some (rowT f), o3, none, none, none, none, none, none, none, none]) ⟨_, none, rfl, rfl⟩ ?_ ?_
    · rintro σ ⟨f, o3, hf, rfl⟩
      rw [hroots] at hf
      cases hf
      rw [gB_n]
      exact ⟨rfl, o3, rfl⟩
    · rintro k σ hk ⟨f, o3, hf, rfl⟩
      obtain ⟨f', hf'⟩ := rootsG_mono hroots (j := k + 1) (by omega)
      have hm := hf'
      rw [rootsG, hf] at hm
      simp only at hm
      have ek : (1 : Int) + (k : Int) = ((k + 1 : Nat) : Int) := by omega
      rw [ek]
      refine wG_name.mpr ⟨by simp, ?_⟩
      simp only [List.set_cons_succ, List.set_cons_zero]
      have hmod : kMod (.int (n : Int)) (.int ((k + 1 : Nat) : Int)) = some (.int ((n % (k + 1) : Nat) : Int)) := by
        rw [kMod_int (by omega), Int.natCast_emod]
      rw [wS_if, wT_B, wE_m2, wE_m2, wE_A, wA_cons, wE_var]
      refine ⟨_, rfl, ?_⟩
      rw [wA_nil, k1_one]
      refine ⟨_, fInt_int, ?_⟩
      rw [wE_var]
      refine ⟨_, rfl, _, hmod, ?_⟩
      rw [wE_C]
      refine ⟨_, kEq_int, _, rfl, ?_⟩
      by_cases q : n % (k + 1) = 0
      · rw [if_pos q] at hm
        split at hm
        rotate_left
        · cases hm
        rename_i d hd
        have hb : (((n % (k + 1) : Nat) : Int) == 0) = true := by rw [q]; rfl
        simp only [hb, if_true]
        rw [wS_set, wE_Call]
        refine wA_lendI rfl (noOwn_rowT _) ?_
        rw [wA_cons]
        refine wE_cr (ret_cyclotomic (by omega) (by omega) hd) (wA_lendI rfl rfl (wA_nil.mpr ⟨rfl, rfl⟩)) rfl ?_
        rw [wA_nil]
        refine wF_any (ret_law_times hm) fun σc => ?_
        rw [putB_id (by rfl)]
        exact ⟨by simp, f', _, hf', rfl⟩
      · rw [if_neg q] at hm
        cases hm
        have hb : (((n % (k + 1) : Nat) : Int) == 0) = false := beq_eq_false_iff_ne.mpr (by omega)
        simp only [hb, Bool.false_eq_true, if_false]
        rw [wS_nil]
        exact ⟨_, _, hf', rfl⟩
  rintro σ ⟨o3, rfl⟩
  refine wS_cut (fun σ => ∃ o4, σ = [some st, some (.int n), some (rowT (trim (unit n))), o3, o4, none, none, none, none, none, none, none]) ?_ ?_
  · rw [wS_if, wT_or, wT_B, wE_m2, wE_frz]
    refine ⟨_, rfl, ?_⟩
    simp only [frz_rowT, List.set_cons_succ, List.set_cons_zero]
    rw [wE_Call, wA_cons, wE_m2, wE_m2, wE_Up, wE_A, wA_cons, wE_m1, wE_C]
    refine ⟨_, fNeg_int, ?_⟩
    rw [wA_nil]
    refine ⟨_, kLst_one, rfl, ?_⟩
    rw [wE_Lc, wI_rng1, wE_Up, wE_m2, wE_var]
    refine ⟨_, rfl, ?_⟩
    rw [wE_C]
    refine ⟨_, kSub_int, rfl, _, rfl, by unfold okR; exact decide_eq_true (by omega), ?_⟩
    have e : ((n : Int) - 1).toNat = n - 1 := by omega
    rw [e, up_range]
    refine wC_map (List.range (n - 1)) (fun (i : Nat) => .int (0 + (i : Nat))) (fun i => .int 0) (fun i hi => ?_) fun σ' wq => ?_
    · refine wG_name.mpr ⟨by simp [wipeD], ?_⟩
      simp [wipeD]
    simp only [wq, unwipe_wipe, gB_n]
    refine ⟨by simp; omega, _, kAdd_lst (by decide) (by decide) (by simp; omega), ?_⟩
    rw [wE_Up, wE_A, wA_cons, wE_C, wA_nil]
    refine ⟨_, kLst_one, rfl, _, kAdd_lst (by decide) (by decide) (by simp; omega), ?_⟩
    have e2 : D.lst .own ([D.int (-1)] ++ (List.range (n - 1)).map (fun (i : Nat) => D.int 0) ++ [.int 1]) = rowO (unit n) := by
      have : (List.range (n - 1)).map (fun (_ : Nat) => D.int 0) = (List.replicate (n - 1) (0 : Int)).map .int := by
        rw [List.map_replicate]
        apply List.ext_getElem
        · simp
        · intro i h1 h2; simp
      rw [this]
      simp [rowO, unit]
    rw [wA_nil]
    show wF fn__law_trimmed [D.lst .own ([D.int (-1)] ++ (List.range (n - 1)).map (fun (i : Nat) => D.int 0) ++ [.int 1])] _
    rw [e2]
    refine wF_any (ret_law_trimO (by simp [unit]; omega)) fun σc => ?_
    rw [putB_id (by rfl)]
    refine ⟨_, kNe_tints _ _, _, rfl, ?_⟩
    simp only [decide_true, Bool.not_true, Bool.false_eq_true, if_false]
    rw [wT_or, wT_B, wE_m2, wE_A, wA_cons]
    refine wE_cr (ret_cyclotomic n1 (by omega) hc) (wA_lendI rfl rfl (wA_nil.mpr ⟨rfl, rfl⟩)) rfl ?_
    rw [wA_nil, k1_one]
    refine ⟨_, fLen_rowT c, ?_⟩
    rw [wE_C]
    refine ⟨_, kLt_int, _, rfl, ?_⟩
    have hl2 : ¬ (c.length : Int) < 2 := by omega
    simp only [decide_eq_false hl2, Bool.false_eq_true, if_false]
    rw [wT_B, wE_m2, wE_m2]
    refine wE_cr (ret_cyclotomic n1 (by omega) hc) (wA_lendI rfl rfl (wA_nil.mpr ⟨rfl, rfl⟩)) rfl ?_
    rw [wE_Up, wE_m1, wE_C]
    have hlast : kIx (rowT c) (.int (-1)) = some (.int 1) := by
      have hd := List.dropLast_concat_getLast hcn
      rw [List.getLast?_eq_getLast hcn] at lastc
      rw [Option.some.inj lastc] at hd
      rw [← hd]
      unfold rowT
      rw [List.map_append, kIx_tup]
      exact atI_last _ _
    refine ⟨_, fNeg_int, rfl, _, hlast, ?_⟩
    rw [wE_C]
    refine ⟨_, kNe_int, _, rfl, ?_⟩
    simp only [beq_self_eq_true, Bool.not_true, Bool.false_eq_true, if_false]
    rw [wS_nil]
    exact ⟨rfl, _, rfl⟩
  rintro σ ⟨o4, rfl⟩
  refine wS_cut (fun σ => ∃ (st : D) (p : Nat), St st ∧ p ∈ [2, 3, 5, 7, 11, 13] ∧ σ = [some st, some (.int n), some (rowT (trim (unit n))), o3, o4, some (.int p), none, none, none, none, none, none]) ?_ ?_
  · rw [wS_set, wE_m2, wE_Up, wE_A]
    simp only [wA_cons, wE_C, wA_nil]
    refine ⟨_, kLst_ok (by simp), rfl, ?_⟩
    refine wE_pick (l := 6) rfl hs (by simp) (by decide) (by decide) fun r st1 r0 r1 hs1 => ?_
    obtain ⟨m, rfl⟩ := Int.eq_ofNat_of_zero_le r0
    have hm : m = 0 ∨ m = 1 ∨ m = 2 ∨ m = 3 ∨ m = 4 ∨ m = 5 := by omega
    rcases hm with rfl | rfl | rfl | rfl | rfl | rfl
    · exact ⟨.int 2, rfl, by simp, by trivial, st1, 2, hs1, by simp, rfl⟩
    · exact ⟨.int 3, rfl, by simp, by trivial, st1, 3, hs1, by simp, rfl⟩
    · exact ⟨.int 5, rfl, by simp, by trivial, st1, 5, hs1, by simp, rfl⟩
    · exact ⟨.int 7, rfl, by simp, by trivial, st1, 7, hs1, by simp, rfl⟩
    · exact ⟨.int 11, rfl, by simp, by trivial, st1, 11, hs1, by simp, rfl⟩
    · exact ⟨.int 13, rfl, by simp, by trivial, st1, 13, hs1, by simp, rfl⟩
  clear hs st
  rintro σ ⟨st, p, hs, hp, rfl⟩
  have hp2 : 1 ≤ p ∧ p ≤ 13 := by
    simp only [List.mem_cons, List.not_mem_nil, or_false] at hp
    omega
  have hcp := prime_ok hp
  refine wS_cut (fun σ => σ = [some st, some (.int n), some (rowT (trim (unit n))), o3, o4, some (.int p), none, none, none, none, none, none]) ?_ ?_
  · rw [wS_if, wT_or, wT_not, wT_val]
    refine wE_same2 (d := rowT (qn p)) (pl_ints (by unfold qn; simp; omega)) ?_
    refine wE_cr (ret_cyclotomic hp2.1 (by omega) hcp) (wA_lendI rfl rfl (wA_nil.mpr ⟨rfl, rfl⟩)) rfl ⟨rfl, ?_⟩
    rw [wE_Up, wE_m2, wE_A, wA_cons, wE_C, wA_nil]
    refine ⟨_, kTup_i, ?_⟩
    rw [wE_var]
    refine ⟨_, rfl, _, kMulT_ones (by omega), noVw_rowT _, rfl, true, rfl, ?_⟩
    simp only [Bool.not_true, Bool.false_eq_true, if_false]
    rw [wT_not, wT_val]
    refine wE_same2 (d := rowT [-1, 1]) (pl_ints (by simp)) ?_
    refine wE_cr (as := [.int ((1 : Nat) : Int)]) (ret_cyclotomic (by omega) (by omega) tbl1) (by rw [wA_cons, wE_C, wA_nil]; exact ⟨rfl, rfl⟩) rfl ⟨rfl, ?_⟩
    rw [wE_Up, wE_A, wA_cons, wE_m1, wE_C]
    refine ⟨_, fNeg_int, ?_⟩
    rw [wA_cons, wE_C, wA_nil]
    refine ⟨_, kTup_ii, rfl, rfl, true, rfl, ?_⟩
    simp only [Bool.not_true, Bool.false_eq_true, if_false]
    exact wS_nil.mpr ⟨rfl, rfl⟩
  rintro σ rfl
  refine wS_cut (fun σ => ∃ (st : D) (a : List Int), St st ∧ a.length ≤ 13 ∧ σ = [some st, some (.int n), some (rowT (trim (unit n))), o3, o4, some (.int p), some (rowT a), none, none, none, none, none]) ?_ ?_
  · rw [wS_set, wE_Call, wA_cons]
    refine wE_drawn hs (by decide) (by decide) (by simp) fun ns st1 hs1 hl hns => ?_
    rw [wA_nil]
    refine wF_any (ret_law_trimO (by omega)) fun σc => ?_
    rw [putB_id (by rfl)]
    exact ⟨by simp, rfl, st1, trim ns, hs1, Nat.le_trans (trim_len ns) (by omega), rfl⟩
  clear hs st
  rintro σ ⟨st, a, hs, ha, rfl⟩
  refine wS_cut (fun σ => ∃ (st : D) (b : List Int), St st ∧ b.length ≤ 4 ∧ (∀ x ∈ b, -4 ≤ x ∧ x ≤ 4) ∧ σ = [some st, some (.int n), some (rowT (trim (unit n))), o3, o4, some (.int p), some (rowT a), some (rowT (b ++ [1])), none, none, none, none]) ?_ ?_
  · rw [wS_set, wE_Call, wA_cons, wE_m2]
    refine wE_drawn hs (by decide) (by decide) (by simp) fun ns st1 hs1 hl hns => ?_
    rw [wE_Up, wE_A, wA_cons, wE_C, wA_nil]
    refine ⟨_, kLst_one, rfl, _, kAdd_lst (by decide) (by decide) (by simp; omega), ?_⟩
    have e : D.lst .own (ns.map D.int ++ [D.int 1]) = rowO (ns ++ [1]) := by simp [rowO]
    rw [e, wA_nil]
    refine wF_any (ret_law_trimO (by simp; omega)) fun σc => ?_
    rw [putB_id (by rfl), trim_snoc (by decide)]
    exact ⟨by simp, rfl, st1, ns, hs1, by omega, hns, rfl⟩
  clear hs st
  rintro σ ⟨st, b, hs, hb, hbx, rfl⟩
  have okb : okP (b ++ [1]) = true := smallI_of (fun x m => by
    rcases List.mem_append.mp m with m | m
    · exact hbx x m
    · rw [List.mem_singleton.mp m]; omega) (by simp; omega)
  have hbne : b ++ [(1 : Int)] ≠ [] := by simp
  have hrem := ret_remainder (a := a) hbne (by omega) okb
  have hrest := ret_law_rest (a := a) hbne (by omega) okb
  have hshort := remP_short (a := a) (s' := b)
  refine wS_cut (fun σ => σ = [some st, some (.int n), some (rowT (trim (unit n))), o3, o4, some (.int p), some (rowT a), some (rowT (b ++ [1])), some (rowT (remP a (b ++ [1]))), none, none, none]) ?_ ?_
  · rw [wS_set]
    refine wE_cr hrem (wA_lendI rfl (noOwn_rowT _) (wA_lendI rfl (noOwn_rowT _) (wA_nil.mpr ⟨rfl, rfl⟩))) rfl ?_
    exact ⟨by simp, rfl, rfl⟩
  rintro σ rfl
  refine wS_cut (fun σ => σ = [some st, some (.int n), some (rowT (trim (unit n))), o3, o4, some (.int p), some (rowT a), some (rowT (b ++ [1])), some (rowT (remP a (b ++ [1]))), none, none, none]) ?_ ?_
  · rw [wS_if, wT_or, wT_B, wE_m2, wE_A, wA_cons, wE_var]
    refine ⟨_, rfl, ?_⟩
    rw [wA_nil, k1_one, view_rowT]
    refine ⟨_, fLen_rowT _, ?_⟩
    rw [wE_A, wA_cons, wE_var]
    refine ⟨_, rfl, ?_⟩
    rw [wA_nil, k1_one, view_rowT]
    refine ⟨_, fLen_rowT _, _, kGe_int, _, rfl, ?_⟩
    have hlt : ¬ ((b ++ [(1 : Int)]).length : Int) ≤ ((remP a (b ++ [1])).length : Int) := by simp; omega
    simp only [decide_eq_false hlt, Bool.false_eq_true, if_false]
    rw [wT_not, wT_val]
    refine wE_same3 (pl_ints (by omega)) rfl (wE_cr hrest (wA_lendI rfl (noOwn_rowT _) (wA_lendI rfl (noOwn_rowT _) (wA_nil.mpr ⟨rfl, rfl⟩))) rfl ⟨rfl, rfl⟩) ⟨true, rfl, ?_⟩
    simp only [Bool.not_true, Bool.false_eq_true, if_false]
    exact wS_nil.mpr ⟨rfl, rfl⟩
  rintro σ rfl
  generalize remP a (b ++ [1]) = r8
  refine wS_cut (fun σ => ∃ (st : D) (m : Nat), St st ∧ 1 ≤ m ∧ m ≤ 12 ∧ σ = [some st, some (.int n), some (rowT (trim (unit n))), o3, o4, some (.int p), some (rowT a), some (rowT (b ++ [1])), some (rowT r8), some (.int m), none, none]) ?_ ?_
  · rw [wS_set, wE_m2, wE_C]
    refine wE_pick (l := 12) rfl hs (by simp) (by decide) (by decide) fun r st1 r0 r1 hs1 => ?_
    obtain ⟨m, rfl⟩ := Int.eq_ofNat_of_zero_le r0
    have em : 1 + (m : Int) = ((m + 1 : Nat) : Int) := by omega
    exact ⟨_, kAdd_int, by simp, rfl, st1, m + 1, hs1, by omega, by omega, by rw [← em]; rfl⟩
  clear hs st
  rintro σ ⟨st, m, hs, m1, m2', rfl⟩
  obtain ⟨d, hd, _, okd, ld, _⟩ := root_ok m1 (by omega : m ≤ 30)
  have hdn : d ≠ [] := fun e => by rw [e] at ld; simp at ld
  have hrest2 := ret_law_rest (a := a) hdn (by omega) okd
  have hroot := ret_at_root (p := a) m1 (by omega) (by omega) hd hdn okd
  have hrl : (remP a d).length ≤ 13 := by
    unfold remP
    refine Nat.le_trans (trim_len _) ?_
    rw [remS_len]
    exact ha
  refine wS_cut (fun σ => σ = [some st, some (.int n), some (rowT (trim (unit n))), o3, o4, some (.int p), some (rowT a), some (rowT (b ++ [1])), some (rowT r8), some (.int m), some (rowT (remP a d)), none]) ?_ ?_
  · rw [wS_set, wE_Call]
    refine wA_lendI rfl (noOwn_rowT _) ?_
    rw [wA_cons]
    refine wE_cr (ret_cyclotomic m1 (by omega) hd) (wA_lendI rfl rfl (wA_nil.mpr ⟨rfl, rfl⟩)) rfl ?_
    rw [wA_nil]
    refine wF_any hrest2 fun σc => ?_
    rw [putB_id (by rfl)]
    exact ⟨by simp, rfl, rfl⟩
  rintro σ rfl
  refine wS_cut (fun σ => σ = [some st, some (.int n), some (rowT (trim (unit n))), o3, o4, some (.int p), some (rowT a), some (rowT (b ++ [1])), some (rowT r8), some (.int m), some (rowT (remP a d)), some .non]) (by simp) ?_
  rintro σ rfl
  have hpl : Pl 5 (atR (remP a d)) := by
    unfold atR
    split
    · trivial
    · exact pl_int _
  refine wS_cut (fun σ => σ = [some st, some (.int n), some (rowT (trim (unit n))), o3, o4, some (.int p), some (rowT a), some (rowT (b ++ [1])), some (rowT r8), some (.int m), some (rowT (remP a d)), some (atR (remP a d))]) ?_ ?_
  · clear hroot hrest2 hpl
    generalize remP a d = R at *
    rw [wS_if, wT_B, wE_m2, wE_A, wA_cons, wE_var]
    refine ⟨_, rfl, ?_⟩
    rw [wA_nil, k1_one, view_rowT]
    refine ⟨_, fLen_rowT R, ?_⟩
    rw [wE_C]
    refine ⟨_, kLt_int, _, rfl, ?_⟩
    unfold atR
    by_cases q : R.length < 2
    · have hq : (R.length : Int) < 2 := by omega
      have hsum : R.sum = R.headD 0 := by
        match R, q with
        | [], _ => rfl
        | [x], _ => exact Int.add_zero x
        | x :: y :: r, q => exact absurd q (by simp)
      simp only [decide_eq_true hq, if_true]
      rw [wS_set, wE_Up, wE_A, wA_cons, wE_var]
      refine ⟨_, rfl, ?_⟩
      rw [wA_nil, k1_one, view_rowT, if_neg (by omega), ← hsum]
      exact ⟨_, fSumA_rowT R, rfl, by simp, rfl, rfl⟩
    · have hq : ¬ (R.length : Int) < 2 := by omega
      simp only [decide_eq_false hq, Bool.false_eq_true, if_false]
      rw [wS_nil, if_pos (by omega)]
      exact ⟨rfl, rfl⟩
  rintro σ rfl
  rw [wS_ret]
  refine wE_same1 hpl (wE_cr hroot (wA_lendI rfl (noOwn_rowT _) (wA_lendI rfl rfl (wA_nil.mpr ⟨rfl, rfl⟩))) rfl ⟨rfl, rfl⟩) rfl ?_
  exact hQ _
end K89
namespace K89
open PySem PySem.Spec PyProof.Rows L2 Py
/-! ### what the checks say -/
structure Seg1 (s : List Int) (n : Nat) (p lh nh a : List Int) (ws : LL) : Prop where
  sum : s.sum = n
  std : ret fn_standard_polynomial [rowT s] = some (rowT p)
  hooks : ret fn__law_hooks [rowT s] = some (rowO lh)
  nums : ret fn__law_numbers [rowO lh] = some (rowT nh)
  times : ret fn__law_times [rowT p, rowT nh] = some (rowT a)
  nums2 : ret fn__law_numbers [rowO (ints1 n)] = some (rowT a)
  stds : ret fn__law_standards [rowT s] = some (.lst .own (ws.map rowT))
  tab : ∀ w ∈ ws, ret fn__law_tableau [rowT w, .int s.length] = some (ownS (tb s w)) ∧ Sm (tb s w)
  ne : ws ≠ []
  len : ws.length ≤ 100000
  slen : s.length ≤ 1000
  told : toldB p (ws.map fun w => (lenP (fun R => promP R (n : Int)) n (tb s w) : Int)) n = true
theorem chk1_ok {s : List Int} (h : chk1 s = true) : ∃ n p lh nh a ws, Seg1 s n p lh nh a ws := by
  unfold chk1 at h
  split at h
  rotate_left
  · cases h
  rename_i H lh ws qf e1 e2 e3 e4
  split at h
  rotate_left
  · cases h
  rename_i p nh e5 e6
  split at h
  rotate_left
  · cases h
  rename_i a b e7 e8
  simp only [Bool.and_eq_true, decide_eq_true_eq, List.all_eq_true, Bool.not_eq_true', List.isEmpty_eq_false_iff] at h
  obtain ⟨⟨⟨⟨⟨⟨⟨h1, h2⟩, h3⟩, h4⟩, h5⟩, h6⟩, h7⟩, h8⟩ := h
  subst h1
  obtain ⟨d1, f1, g1⟩ := bind_ok e1
  obtain ⟨d2, f2, g2⟩ := bind_ok e2
  obtain ⟨d3, f3, g3⟩ := bind_ok e3
  rw [unOS_ok g1] at f1
  rw [unO_ok g2] at f2
  rw [unOT_ok g3] at f3
  have hsum : s.sum = (s.sum.toNat : Int) := by omega
  refine ⟨s.sum.toNat, p, lh, nh, a, ws, hsum, ret_standard hsum (by omega) f1 e4 e5, f2, ret_law_numbers e6, ret_law_times e7, ret_law_numbers e8, f3, fun w mw => ?_, h5, h6, h4, h8⟩
  obtain ⟨q1, q2⟩ := h7 w mw
  refine ⟨?_, smB_ok q2⟩
  obtain ⟨T, hT⟩ := Option.isSome_iff_exists.mp q1
  obtain ⟨d, f, g⟩ := bind_ok hT
  have : tb s w = T := by unfold tb; rw [hT]; rfl
  rw [f, unOS_ok g, this]
structure Seg2 (s : List Int) (g : Nat) (p lh nh a : List Int) (Ts : List LL) : Prop where
  let_ : ret fn_letters_polynomial [rowT s, .int g] = some (rowT p)
  hooks : ret fn__law_hooks [rowT s] = some (rowO lh)
  nums : ret fn__law_numbers [rowO lh] = some (rowT nh)
  times : ret fn__law_times [rowT p, rowT nh] = some (rowT a)
  nums2 : ret fn__law_numbers [rowO (cvP s g)] = some (rowT a)
  all_ : ret fn__law_all [rowT s, .int g] = some (.lst .frz (Ts.map frzS))
  sm : ∀ T ∈ Ts, Sm T
  len : Ts.length ≤ 100000
  slen : s.length ≤ 1000
  sval : ∀ x ∈ s, 0 ≤ x ∧ x ≤ 1000
  told : toldB p (Ts.map fun T => (lenP (fun R => promP R (g : Int)) g T : Int)) g = true
theorem chk2_ok {s : List Int} {g : Nat} (h : chk2 s g = true) : ∃ p lh nh a Ts, Seg2 s g p lh nh a Ts := by
  unfold chk2 at h
  split at h
  rotate_left
  · cases h
  rename_i H lh C Ts e1 e2 e3 e4
  split at h
  rotate_left
  · cases h
  rename_i q nh e5 e6
  split at h
  rotate_left
  · cases h
  rename_i p e7
  split at h
  rotate_left
  · cases h
  rename_i a b e8 e9
  simp only [Bool.and_eq_true, decide_eq_true_eq, List.all_eq_true] at h
  obtain ⟨⟨⟨⟨⟨⟨⟨h1, h2⟩, h3⟩, h4⟩, h5⟩, h6⟩, h7⟩, h8⟩ := h
  subst h1
  obtain ⟨d1, f1, g1⟩ := bind_ok e1
  obtain ⟨d2, f2, g2⟩ := bind_ok e2
  obtain ⟨d3, f3, g3⟩ := bind_ok e3
  obtain ⟨d4, f4, g4⟩ := bind_ok e4
  rw [unOS_ok g1] at f1
  rw [unO_ok g2] at f2
  rw [unOS_ok g3] at f3
  rw [unFFS_ok g4] at f4
  exact ⟨p, lh, nh, a, Ts, ret_letters f3 f1 e5 e7, f2, ret_law_numbers e6, ret_law_times e8, ret_law_numbers e9, f4, fun T mT => smB_ok (h7 T mT), h6, h2, h3, h8⟩
/-! ### lengths of what is frozen -/
theorem ret_lengthsWF {ws : List (List Int)} {t : Nat} (ht : t ≤ 1000) (hl : ws.length ≤ 100000) (hw : ∀ w ∈ ws, w ≠ [] ∧ w.length ≤ 1000) : ret fn__law_lengths [.lst .frz (ws.map rowT), .str "words", .int t] = some (rowO (ws.map fun w => (lenP turnW t w : Int))) := by
  apply ret_of
  unfold fn__law_lengths m__law_lengths
  rw [wF_D]
  refine wS_cut (fun σ => σ = [some (.lst .frz (ws.map rowT)), some (.str "words"), some (.int t), some (rowO []), none, none, none]) (by simp; rfl) ?_
  rintro σ rfl
  refine wS_cut (fun σ => ∃ o0 o4 o5 o6, σ = [o0, some (.str "words"), some (.int t), some (rowO (ws.map fun w => (lenP turnW t w : Int))), o4, o5, o6]) ?_ ?_
  · rw [wS_for, wI_take]
    refine ⟨_, rfl, ws.map rowT, rfl, ?_⟩
    refine wL_len (α := List Int) (enc := rowT) (cur := fun h d => d = rowT h) (step := turnW) (OK := fun w => w ≠ [] ∧ w.length ≤ 1000) ht rfl (fun a => frz_rowT a) (fun a => rfl) (fun h d a _ hc => ?_) (fun a ha => ?_) (fun h d f a m ho hc => ?_) ws hl hw fun o4 o5 o6 => ?_
    · rw [hc, view_rowT, view_rowT]
      exact kNe_tints h a
    · refine ⟨fun e => ?_, by rw [turnW_len]; exact ha.2⟩
      have := turnW_len a
      rw [e] at this
      exact ha.1 (List.eq_nil_of_length_eq_zero this.symm)
    · subst hc
      rw [wS_if, wT_B, wE_m2, wE_var]
      refine ⟨_, rfl, ?_⟩
      rw [wE_C]
      refine ⟨.bl true, str_ww, true, rfl, ?_⟩
      simp only [if_true]
      rw [wS_set]
      refine wE_cr (ret_turned ho.1 ho.2) (wA_lendI rfl (noOwn_rowT _) (wA_nil.mpr ⟨rfl, rfl⟩)) rfl ?_
      exact ⟨by simp, rfl, _, rfl, rfl⟩
    · rw [gB_sn]
      exact ⟨rfl, _, o4, o5, o6, rfl⟩
  rintro σ ⟨o0, o4, o5, o6, rfl⟩
  rw [wS_ret, wE_move]
  exact ⟨_, rfl, rfl⟩
theorem ret_lengthsTF {Ts : List LL} {t : Nat} (ht : t ≤ 1000) (hl : Ts.length ≤ 100000) (hT : ∀ T ∈ Ts, Sm T) : ret fn__law_lengths [.lst .frz (Ts.map frzS), .str "tableaux", .int t] = some (rowO (Ts.map fun T => (lenP (fun R => promP R t) t T : Int))) := by
  apply ret_of
  unfold fn__law_lengths m__law_lengths
  rw [wF_D]
  refine wS_cut (fun σ => σ = [some (.lst .frz (Ts.map frzS)), some (.str "tableaux"), some (.int t), some (rowO []), none, none, none]) (by simp; rfl) ?_
  rintro σ rfl
  refine wS_cut (fun σ => ∃ o0 o4 o5 o6, σ = [o0, some (.str "tableaux"), some (.int t), some (rowO (Ts.map fun T => (lenP (fun R => promP R t) t T : Int))), o4, o5, o6]) ?_ ?_
  · rw [wS_for, wI_take]
    refine ⟨_, rfl, Ts.map frzS, rfl, ?_⟩
    refine wL_len (α := LL) (enc := frzS) (cur := fun h d => d = frzS h ∨ d = ownS h) (step := fun R => promP R t) (OK := Sm) ht rfl (fun a => ?_) (fun a => .inl rfl) (fun h d a _ hc => ?_) (fun a ha => prom_small ha) (fun h d f a m ho hc => ?_) Ts hl hT fun o4 o5 o6 => ?_
    · rfl
    · have ev : (frzS a).view = .lst .frz (a.map rowF) := rfl
      rw [ev]
      rcases hc with rfl | rfl
      · exact kNe_rows (f1 := .frz) fit_rowF fit_rowF deq_rows h a
      · rw [view_ownS]
        exact kNe_rows fit_rowV fit_rowF deq_rows h a
    · rw [wS_if, wT_B, wE_m2, wE_var]
      refine ⟨_, rfl, ?_⟩
      rw [wE_C]
      refine ⟨.bl false, str_tw, false, rfl, ?_⟩
      simp only [Bool.false_eq_true, if_false]
      rw [wS_set, wE_Call, wA_cons, wE_frz]
      have hfz : d.frz = frzS h := by
        rcases hc with rfl | rfl
        · rfl
        · exact frz_ownS h
      refine ⟨_, rfl, ?_⟩
      rw [hfz]
      refine wA_lendI rfl rfl (wA_nil.mpr ?_)
      refine wF_any (ret_promoted ho) fun σc => ?_
      rw [putB_id (by rfl)]
      exact ⟨by simp, rfl, _, .inr rfl, rfl⟩
    · rw [gB_sn]
      exact ⟨rfl, _, o4, o5, o6, rfl⟩
  rintro σ ⟨o0, o4, o5, o6, rfl⟩
  rw [wS_ret, wE_move]
  exact ⟨_, rfl, rfl⟩
/-- what was lent away comes back as something -/
theorem putB_dead {ws : List Nat} {i : Nat} {r : List (Option Nat)} {σc σ : Sg} (hi : σ[i]? = some none) (h1 : alive r σ = true) (h2 : ∀ d, alive r (σ.set i (some d)) = true) : ∃ o : Option D, putB ws 0 (some i :: r) σc σ = σ.set i o := by
  have self : σ.set i none = σ := by
    obtain ⟨a, b⟩ := List.getElem?_eq_some_iff.mp hi
    rw [← b, List.set_getElem_self]
  cases σc with
  | nil => exact ⟨none, by simp [putB, self]⟩
  | cons o σc =>
    simp only [putB]
    by_cases q : 0 ∈ ws
    · rw [if_pos q, putB_id h1]
      exact ⟨none, self.symm⟩
    · rw [if_neg q, hi]
      cases o with
      | none => exact ⟨none, by rw [putB_id h1, self]⟩
      | some d => exact ⟨some d, by rw [putB_id (h2 d)]⟩
theorem kTup_iiii {a b c d : Int} : kTup [.int a, .int b, .int c, .int d] = some (.tup [.int a, .int b, .int c, .int d]) := kTup_ok (by simp) (by simp)
theorem up_ints (n : Nat) : up 1 n = (ints1 n).map .int := by
  rw [up_range]
  unfold ints1
  rw [List.map_map]
  rfl
theorem wE_ints {m : M} {n : Nat} {σ : Sg} {Q : D → Sg → Prop} (hn : n ≤ 1000) (hm : wE m σ fun x τ => x = .int ((n : Int) + 1) ∧ τ = σ) (hQ : Q (rowO (ints1 n)) σ) : wE (mUp (mLRg (mC (.int 1)) m)) σ Q := by
  rw [wE_Up, wE_LRg, wE_C]
  refine wE_mono hm ?_
  rintro x τ ⟨rfl, rfl⟩
  have e : ((n : Int) + 1 - 1).toNat = n := by omega
  refine ⟨1, _, rfl, rfl, by simp [rgOk, okR]; omega, ?_⟩
  rw [e, up_ints]
  exact ⟨noVws_ints _, hQ⟩
end K89
namespace K89
open PySem PySem.Spec PyProof.Rows L2 Py
def wCond (C w : List Int) (k : Nat) : Bool := decide (((w.filter fun x => x == (k : Int)).length : Int) < C.getD k 0)
def wAdd (C w : List Int) (n : Nat) : List (List Int) := ((List.range n).filter (wCond C w)).map fun (k : Nat) => w ++ [(k : Int)]
theorem wStep_eq (C : List Int) (ws : List (List Int)) : wStep C ws = ws.flatMap fun w => wAdd C w C.length := rfl
theorem wAdd_len (C w : List Int) (n : Nat) : (wAdd C w n).length ≤ n := by
  unfold wAdd
  rw [List.length_map]
  have := List.length_filter_le (wCond C w) (List.range n)
  simpa using this
theorem wStep_len (C : List Int) : ∀ ws : List (List Int), (wStep C ws).length ≤ ws.length * C.length
  | [] => by simp [wStep]
  | w :: ws => by
    have ih := wStep_len C ws
    rw [wStep_eq] at ih ⊢
    have := wAdd_len C w C.length
    simp only [List.flatMap_cons, List.length_append, List.length_cons, Nat.succ_mul]
    omega
theorem wordsP_mem {C : List Int} : ∀ {n : Nat} {w : List Int}, w ∈ wordsP C n → w.length = n
  | 0, w, h => by simp [wordsP] at h; rw [h]; rfl
  | n + 1, w, h => by
    rw [wordsP, wStep_eq] at h
    obtain ⟨v, hv, hw⟩ := List.mem_flatMap.mp h
    obtain ⟨k, _, rfl⟩ := List.mem_map.mp hw
    have := wordsP_mem hv
    simp [this]
theorem wL_words {C : List Int} (hC : C.length ≤ 1000) {x0 x1 x2 x3 x4 x6 x7 x8 x9 x10 x11 o14 o15 o18 o19 o5 o13 o17 : Option D} {Q : Fo → Sg → Prop} (ws : List (List Int)) (hw : ∀ w ∈ ws, w.length ≤ 1000) (hl : ws.length * C.length ≤ 1000000)
    (hQ : ∀ o5 o13 o17, Q .nx [x0, x1, x2, x3, x4, o5, x6, x7, x8, x9, x10, x11, some (rowT C), o13, o14, o15, some (.lst .own ((wStep C ws).map rowT)), o17, o18, o19]) :
    wL (gNameM 5) (sFor (none) (iRngM1 (mUp (mA (k1 fLen) (aCons (mVar 12) aNil)))) (gNameM 13) (sIf (Py.tB (m2 kLt (mLenLc (mVar 5) 17 (Py.tB (m2 kEq (mVar 17) (mVar 13))) (mC (.int 1)) [17]) (m2 kIx (mVar 12) (mVar 13)))) (sAppN 16 (mUp (m2 kAdd (mVar 5) (mA kTup (aCons (mVar 13) aNil))))) sNil)) (ws.map rowT)
      [x0, x1, x2, x3, x4, o5, x6, x7, x8, x9, x10, x11, some (rowT C), o13, o14, o15, some (.lst .own []), o17, o18, o19] Q := by
  refine wL_typ (P := fun r σ => ∃ (pre : List (List Int)) (o5 o13 o17 : Option D), pre ++ r = ws ∧ σ = [x0, x1, x2, x3, x4, o5, x6, x7, x8, x9, x10, x11, some (rowT C), o13, o14, o15, some (.lst .own ((wStep C pre).map rowT)), o17, o18, o19]) rowT ?_ ?_ ⟨[], o5, o13, o17, rfl, rfl⟩
  · rintro σ ⟨pre, o5, o13, o17, e, rfl⟩
    rw [List.append_nil] at e
    rw [e]
    exact hQ _ _ _
  · rintro w r σ ⟨pre, o5, o13, o17, e, rfl⟩
    have hwl := hw w (by rw [← e]; simp)
    have hpl : (pre.length + 1) * C.length ≤ 1000000 := by
      refine Nat.le_trans (Nat.mul_le_mul_right _ ?_) hl
      have := congrArg List.length e
      simp at this
      omega
    have hsl := wStep_len C pre
    rw [Nat.succ_mul] at hpl
    have hgoal : ∀ o5 o13 o17 : Option D, ∃ (pre' : List (List Int)) (o5' o13' o17' : Option D), pre' ++ r = ws ∧ [x0, x1, x2, x3, x4, o5, x6, x7, x8, x9, x10, x11, some (rowT C), o13, o14, o15, some (.lst .own ((wStep C pre ++ wAdd C w C.length).map rowT)), o17, o18, o19] = [x0, x1, x2, x3, x4, o5', x6, x7, x8, x9, x10, x11, some (rowT C), o13', o14, o15, some (.lst .own ((wStep C pre').map rowT)), o17', o18, o19] := fun o5 o13 o17 =>
      ⟨pre ++ [w], o5, o13, o17, by simpa using e, by rw [wStep_eq, wStep_eq, List.flatMap_append]; simp⟩
    generalize wStep C pre = A at hgoal hsl
    refine wG_name.mpr ⟨by simp, ?_⟩
    simp only [List.set_cons_succ, List.set_cons_zero]
    rw [wS_for, wI_rng1, wE_Up, wE_A, wA_cons, wE_var]
    refine ⟨_, rfl, ?_⟩
    rw [wA_nil, k1_one, view_rowT]
    refine ⟨_, fLen_rowT C, rfl, _, rfl, okR_len (by omega), ?_⟩
    rw [Int.toNat_natCast]
    refine wL_rng (P := fun k σ => ∃ o13 o17, σ = [x0, x1, x2, x3, x4, some (rowT w), x6, x7, x8, x9, x10, x11, some (rowT C), o13, o14, o15, some (.lst .own ((A ++ wAdd C w k).map rowT)), o17, o18, o19]) ⟨o13, o17, by simp [wAdd]⟩ ?_ ?_
    · rintro σ ⟨o13, o17, rfl⟩
      rw [gB_n]
      exact hgoal _ _ _
    · rintro k σ hk ⟨o13, o17, rfl⟩
      obtain ⟨x, hx, _⟩ := get_some hk
      have hal := wAdd_len C w k
      refine wG_name.mpr ⟨by simp, ?_⟩
      simp only [Int.zero_add, List.set_cons_succ, List.set_cons_zero]
      rw [wS_if, wT_B, wE_m2]
      refine wE_cnt w D.int (fun m => m == (k : Int)) ?_
      rw [wE_var]
      refine ⟨_, rfl, rfl, by omega, by simp, fun m mm => ?_, ?_⟩
      · rw [wT_B, wE_m2, wE_var]
        refine ⟨.int m, by simp [wipeD], ?_⟩
        rw [wE_var]
        refine ⟨.int k, by simp [wipeD], _, kEq_int, _, rfl, rfl, fun _ => ?_⟩
        rw [wE_C]
        trivial
      rw [wE_m2, wE_var]
      refine ⟨_, rfl, ?_⟩
      rw [wE_var]
      refine ⟨_, rfl, _, kIx_rowT hx, _, kLt_int, _, rfl, ?_⟩
      have hcond : wCond C w k = decide (((w.filter fun x => x == (k : Int)).length : Int) < x) := by unfold wCond; rw [getD_get hx]
      by_cases q : ((w.filter fun x => x == (k : Int)).length : Int) < x
      · simp only [decide_eq_true q, if_true]
        have hadd : wAdd C w (k + 1) = wAdd C w k ++ [w ++ [(k : Int)]] := by
          unfold wAdd
          rw [List.range_succ, List.filter_append, List.map_append]
          have : wCond C w k = true := by rw [hcond]; exact decide_eq_true q
          simp [this]
        rw [wS_app]
        refine ⟨_, rfl, ?_⟩
        rw [wE_Up, wE_m2, wE_var]
        refine ⟨_, rfl, ?_⟩
        rw [wE_A, wA_cons, wE_var]
        refine ⟨_, rfl, ?_⟩
        rw [wA_nil]
        refine ⟨_, kTup_i, _, (by rw [view_rowT]; unfold rowT; exact kAdd_tup (by simp; omega)), ?_⟩
        have e1 : D.tup (w.map D.int ++ [D.int (k : Int)]) = rowT (w ++ [(k : Int)]) := by simp [rowT]
        rw [e1]
        refine ⟨noVw_rowT _, _, _, rfl, dAt_nil, ?_⟩
        simp only [dPut_nil]
        refine ⟨by simp; omega, some (.int k), o17, ?_⟩
        rw [hadd, ← List.append_assoc, List.map_append (l₁ := A ++ wAdd C w k)]
        rfl
      · simp only [decide_eq_false q, Bool.false_eq_true, if_false]
        have hadd : wAdd C w (k + 1) = wAdd C w k := by
          unfold wAdd
          rw [List.range_succ, List.filter_append, List.map_append]
          have : wCond C w k = false := by rw [hcond]; exact decide_eq_false q
          simp [this]
        rw [wS_nil, hadd]
        exact ⟨_, _, rfl⟩
end K89
namespace K89
open PySem PySem.Spec PyProof.Rows L2 Py
theorem shapes_sum : ∀ s ∈ shapes, s.sum ≤ 10 := by decide
def isOne (o : Option D) : Bool := match o.bind unT with
  | some l => decide (l = [1])
  | none => false
theorem isOne_ok {o : Option D} (h : isOne o = true) : o = some (rowT [1]) := by
  unfold isOne at h
  split at h
  · rename_i l hl
    obtain ⟨d, f, g⟩ := bind_ok hl
    rw [f, unT_ok _ _ g, of_decide_eq_true h]
  · cases h
theorem empty1 : ret fn_words_polynomial [rowT [0, 0]] = some (rowT [1]) := isOne_ok (by decide +kernel)
theorem empty2 : ret fn_standard_polynomial [rowT []] = some (rowT [1]) := isOne_ok (by decide +kernel)
theorem law_true : ∀ ns : List Int, ns.length ≤ 63 → ∃ σ, fn_law [.lst .scr (ns.map D.int)] = some (.bl true, σ) := by
  intro ns hns
  suffices h : wF fn_law [.lst .scr (ns.map D.int)] fun v _ => v = .bl true by
    obtain ⟨⟨v, σ⟩, e, h⟩ := h
    simp only at h
    subst h
    exact ⟨σ, e⟩
  unfold fn_law m_law
  rw [wF_D]
  obtain ⟨sc, hsc⟩ : ∃ sc, sc = D.lst .scr (ns.map .int) := ⟨_, rfl⟩
  have hscn : sc.noOwn = true := by rw [hsc]; exact noOwns_ints ns
  have hst := start_ret ns
  have hs0 := st_start ns
  rw [← hsc] at hst hs0 ⊢
  generalize D.lst .own [sc, .int 0, .int 0, .int 7] = st at hst hs0
  refine wS_cut (fun σ => σ = [some sc, some st, none, none, none, none, none, none, none, none, none, none, none, none, none, none, none, none, none, none]) ?_ ?_
  · simp [hscn]
    refine (wF_ret hst).mpr ?_
    rfl
  rintro σ rfl
  refine wS_cut (fun σ => ∃ (st : D) (s : List Int), St st ∧ s ∈ shapes ∧ σ = [some sc, some st, some (rowT s), none, none, none, none, none, none, none, none, none, none, none, none, none, none, none, none, none]) ?_ ?_
  · rw [wS_set, wE_m2, wE_A]
    simp only [wA_cons, wE_Up, wE_A, wE_C, wA_nil, kTup_i, kTup_ii, kTup_iii, kTup_iiii, Option.some.injEq, exists_eq_left', noVw_tup, noVws_cons, noVws_nil, noVw_int, Bool.and_self, true_and]
    refine ⟨_, kLst_ok (by simp), ?_⟩
    refine wE_pick (l := 12) rfl hs0 (by simp) (by decide) (by decide) fun r st1 r0 r1 hs1 => ?_
    obtain ⟨m, rfl⟩ := Int.eq_ofNat_of_zero_le r0
    have hm : m = 0 ∨ m = 1 ∨ m = 2 ∨ m = 3 ∨ m = 4 ∨ m = 5 ∨ m = 6 ∨ m = 7 ∨ m = 8 ∨ m = 9 ∨ m = 10 ∨ m = 11 := by omega
    rcases hm with rfl | rfl | rfl | rfl | rfl | rfl | rfl | rfl | rfl | rfl | rfl | rfl
    · exact ⟨rowT [1], rfl, by simp, st1, [1], hs1, by decide, rfl⟩
    · exact ⟨rowT [2], rfl, by simp, st1, [2], hs1, by decide, rfl⟩
    · exact ⟨rowT [4], rfl, by simp, st1, [4], hs1, by decide, rfl⟩
    · exact ⟨rowT [2, 2], rfl, by simp, st1, [2, 2], hs1, by decide, rfl⟩
    · exact ⟨rowT [1, 1, 1], rfl, by simp, st1, [1, 1, 1], hs1, by decide, rfl⟩
    · exact ⟨rowT [3, 3], rfl, by simp, st1, [3, 3], hs1, by decide, rfl⟩
    · exact ⟨rowT [2, 2, 2], rfl, by simp, st1, [2, 2, 2], hs1, by decide, rfl⟩
    · exact ⟨rowT [4, 4], rfl, by simp, st1, [4, 4], hs1, by decide, rfl⟩
    · exact ⟨rowT [3, 3, 3], rfl, by simp, st1, [3, 3, 3], hs1, by decide, rfl⟩
    · exact ⟨rowT [5, 5], rfl, by simp, st1, [5, 5], hs1, by decide, rfl⟩
    · exact ⟨rowT [2, 2, 2, 2], rfl, by simp, st1, [2, 2, 2, 2], hs1, by decide, rfl⟩
    · exact ⟨rowT [1, 1, 1, 1], rfl, by simp, st1, [1, 1, 1, 1], hs1, by decide, rfl⟩
  clear hs0 hst st hsc
  rintro σ ⟨st, s, hs, hmem, rfl⟩
  have hs10 := shapes_sum s hmem
  obtain ⟨n, p, lh, nh, a, ws, g1⟩ := chk1_ok (all1 s hmem)
  clear hmem
  have hn := g1.sum
  have hn10 : n ≤ 10 := by omega
  have hn1 : 1 ≤ n := by
    have h := g1.told
    unfold toldB at h
    simp only [Bool.and_eq_true, decide_eq_true_eq] at h
    exact h.1.1.1.1.2
  have ht1 := ret_told (div_ret (by omega)) (fun i hi => gcd_ret n (i + 1) (by omega)) g1.told
  refine wS_cut (fun σ => σ = [some sc, some st, some (rowT s), some (.int n), none, none, none, none, none, none, none, none, none, none, none, none, none, none, none, none]) ?_ ?_
  · rw [wS_set, wE_Up, wE_A, wA_cons, wE_var]
    refine ⟨_, rfl, ?_⟩
    rw [wA_nil, k1_one, view_rowT]
    refine ⟨_, fSumA_rowT s, rfl, by simp, rfl, ?_⟩
    rw [hn]
    rfl
  rintro σ rfl
  refine wS_cut (fun σ => σ = [some sc, some st, some (rowT s), some (.int n), none, none, none, none, none, none, none, none, none, none, none, none, none, none, none, none]) ?_ ?_
  · rw [wS_if, wT_B, wE_m2, wE_Call, wA_cons]
    refine wE_cr g1.std (wA_lendI rfl (noOwn_rowT _) (wA_nil.mpr ⟨rfl, rfl⟩)) rfl ?_
    rw [wA_cons, wE_Call, wA_cons]
    refine wE_cr g1.hooks (wA_lendI rfl (noOwn_rowT _) (wA_nil.mpr ⟨rfl, rfl⟩)) rfl ?_
    rw [wA_nil]
    refine wF_any g1.nums fun σc => ?_
    rw [putB_id (by rfl), wA_nil]
    refine wF_any g1.times fun σc => ?_
    rw [putB_nn, wE_Call, wA_cons]
    refine wE_ints (n := n) (by omega) (by rw [wE_m2, wE_var]; refine ⟨_, rfl, ?_⟩; rw [wE_C]; exact ⟨_, kAdd_int, rfl, rfl⟩) ?_
    rw [wA_nil]
    refine wF_any g1.nums2 fun σc => ?_
    rw [putB_id (by rfl)]
    refine ⟨_, kNe_tints _ _, _, rfl, ?_⟩
    simp only [decide_true, Bool.not_true, Bool.false_eq_true, if_false]
    exact wS_nil.mpr ⟨rfl, rfl⟩
  rintro σ rfl
  refine wS_cut (fun σ => σ = [some sc, some st, some (rowT s), some (.int n), some (.lst .own ((ws.map (tb s)).map ownS)), none, none, none, none, none, none, none, none, none, none, none, none, none, none, none]) ?_ ?_
  · rw [wS_set, wE_Lc, wI_seq]
    refine wE_cr g1.stds (wA_lendI rfl (noOwn_rowT _) (wA_nil.mpr ⟨rfl, rfl⟩)) rfl ⟨ws.map rowT, by rw [items_own, frzs_of (noOwns_tabS ws)], ?_⟩
    refine wC_map ws rowT (fun w => ownS (tb s w)) (fun w mw => ?_) fun σ' wq => ?_
    · refine wG_name.mpr ⟨by simp [wipeD], ?_⟩
      rw [wE_Call]
      refine wA_lendI (d := rowT w) (by simp [wipeD]) (noOwn_rowT _) ?_
      rw [wA_cons, wE_Up, wE_A, wA_cons, wE_var]
      refine ⟨rowT s, by simp [wipeD], ?_⟩
      rw [wA_nil, k1_one, view_rowT]
      refine ⟨_, fLen_rowT s, rfl, ?_⟩
      rw [wA_nil]
      refine wF_any (g1.tab w mw).1 fun σc => ?_
      rw [putB_id (by simp [wipeD, alive])]
      exact ⟨rfl, by simp [wipeD]⟩
    · simp only [wq, unwipe_wipe, gB_n]
      refine ⟨by rw [List.length_map]; have := g1.len; omega, by simp, trivial, ?_⟩
      rw [List.map_map]
      rfl
  rintro σ rfl
  have hlen := ret_lengthsT (Ts := ws.map (tb s)) (t := n) (by omega) (by simpa using g1.ne) (by rw [List.length_map]; exact g1.len) (fun T mT => by
    obtain ⟨w, mw, rfl⟩ := List.mem_map.mp mT
    exact (g1.tab w mw).2)
  have e9 : (ws.map (tb s)).map (fun T => (lenP (fun R => promP R (n : Int)) n T : Int)) = ws.map fun w => (lenP (fun R => promP R (n : Int)) n (tb s w) : Int) := by rw [List.map_map]; rfl
  rw [e9] at hlen
  refine wS_cut (fun σ => ∃ o4, σ = [some sc, some st, some (rowT s), some (.int n), o4, none, none, none, none, none, none, none, none, none, none, none, none, none, none, none]) ?_ ?_
  · rw [wS_if, wT_not, wT_val, wE_Call, wA_cons]
    refine wE_cr g1.std (wA_lendI rfl (noOwn_rowT _) (wA_nil.mpr ⟨rfl, rfl⟩)) rfl ?_
    rw [wA_cons, wE_Call, wA_cons, wE_lend]
    refine ⟨_, rfl, ?_⟩
    rw [if_neg (by simp), wA_cons, wE_C]
    refine wA_lendI rfl rfl (wA_nil.mpr ?_)
    refine wF_any hlen fun σc => ?_
    obtain ⟨o, eo⟩ := putB_dead (ws := [3, 4, 5, 6]) (i := 4) (r := [none, some 3]) (σc := σc) (σ := [some sc, some st, some (rowT s), some (.int n), none, none, none, none, none, none, none, none, none, none, none, none, none, none, none, none]) rfl rfl (fun d => rfl)
    show wA _ (putB [3, 4, 5, 6] 0 [some 4, none, some 3] σc [some sc, some st, some (rowT s), some (.int n), none, none, none, none, none, none, none, none, none, none, none, none, none, none, none, none]) _
    rw [eo]
    refine wA_lendI rfl rfl (wA_nil.mpr ?_)
    refine wF_any ht1 fun σc => ?_
    rw [putB_id (by rfl)]
    refine ⟨true, rfl, ?_⟩
    simp only [Bool.not_true, Bool.false_eq_true, if_false]
    exact wS_nil.mpr ⟨rfl, o, rfl⟩
  rintro σ ⟨o4, rfl⟩
  clear hlen ht1 g1
  refine wS_cut (fun σ => ∃ (st : D) (g : Nat), St st ∧ 1 ≤ g ∧ g ≤ 4 ∧ σ = [some sc, some st, some (rowT s), some (.int n), o4, none, some (.int g), none, none, none, none, none, none, none, none, none, none, none, none, none]) ?_ ?_
  · rw [wS_set, wE_m2, wE_C]
    refine wE_pick (l := 4) rfl hs (by simp) (by decide) (by decide) fun r st1 r0 r1 hs1 => ?_
    obtain ⟨m, rfl⟩ := Int.eq_ofNat_of_zero_le r0
    have em : 1 + (m : Int) = ((m + 1 : Nat) : Int) := by omega
    exact ⟨_, kAdd_int, by simp, rfl, st1, m + 1, hs1, by omega, by omega, by rw [← em]; rfl⟩
  clear hs st
  rintro σ ⟨st, g, hs, gg1, gg4, rfl⟩
  refine wS_cut (fun σ => ∃ (st : D) (s7 : List Int), St st ∧ s7 ∈ smalls ∧ σ = [some sc, some st, some (rowT s), some (.int n), o4, none, some (.int g), some (rowT s7), none, none, none, none, none, none, none, none, none, none, none, none]) ?_ ?_
  · rw [wS_set, wE_m2, wE_A]
    simp only [wA_cons, wE_Up, wE_A, wE_C, wA_nil, kTup_i, kTup_ii, kTup_iii, kTup_iiii, Option.some.injEq, exists_eq_left', noVw_tup, noVws_cons, noVws_nil, noVw_int, Bool.and_self, true_and]
    refine ⟨_, kLst_ok (by simp), ?_⟩
    refine wE_pick (l := 7) rfl hs (by simp) (by decide) (by decide) fun r st1 r0 r1 hs1 => ?_
    obtain ⟨m, rfl⟩ := Int.eq_ofNat_of_zero_le r0
    have hm : m = 0 ∨ m = 1 ∨ m = 2 ∨ m = 3 ∨ m = 4 ∨ m = 5 ∨ m = 6 := by omega
    rcases hm with rfl | rfl | rfl | rfl | rfl | rfl | rfl
    · exact ⟨rowT [1], rfl, by simp, st1, [1], hs1, by decide, rfl⟩
    · exact ⟨rowT [3], rfl, by simp, st1, [3], hs1, by decide, rfl⟩
    · exact ⟨rowT [2, 2], rfl, by simp, st1, [2, 2], hs1, by decide, rfl⟩
    · exact ⟨rowT [1, 1], rfl, by simp, st1, [1, 1], hs1, by decide, rfl⟩
    · exact ⟨rowT [1, 1, 1], rfl, by simp, st1, [1, 1, 1], hs1, by decide, rfl⟩
    · exact ⟨rowT [2, 2, 2], rfl, by simp, st1, [2, 2, 2], hs1, by decide, rfl⟩
    · exact ⟨rowT [3, 3], rfl, by simp, st1, [3, 3], hs1, by decide, rfl⟩
  clear hs st
  rintro σ ⟨st, s7, hs, hmem, rfl⟩
  obtain ⟨p, lh, nh, a, Ts, g2⟩ := chk2_ok (all2 s7 hmem g gg1 gg4)
  clear hmem
  have ht2 := ret_told (div_ret (by omega)) (fun i hi => gcd_ret g (i + 1) (by omega)) g2.told
  refine wS_cut (fun σ => σ = [some sc, some st, some (rowT s), some (.int n), o4, none, some (.int g), some (rowT s7), some (rowO []), none, none, none, none, none, none, none, none, none, none, none]) (by simp; rfl) ?_
  rintro σ rfl
  refine wS_cut (fun σ => ∃ o9 o10, σ = [some sc, some st, some (rowT s), some (.int n), o4, none, some (.int g), some (rowT s7), some (rowO (cvP s7 g)), o9, o10, none, none, none, none, none, none, none, none, none]) ?_ ?_
  · rw [wS_for, wI_rng1, wE_Up, wE_A, wA_cons, wE_var]
    refine ⟨_, rfl, ?_⟩
    rw [wA_nil, k1_one, view_rowT]
    have hsl := g2.slen
    refine ⟨_, fLen_rowT s7, rfl, _, rfl, okR_len (by omega), ?_⟩
    rw [Int.toNat_natCast]
    have big : ∀ k, k ≤ s7.length → ((List.range k).flatMap fun (i : Nat) => (List.range (s7.getD i 0).toNat).map fun (j : Nat) => max 0 ((g : Int) + (j : Int) - (i : Int))).length ≤ k * 1000 := fun k => by
      induction k with
      | zero => intro _; simp
      | succ k ih =>
        intro hk
        have := ih (by omega)
        rw [List.range_succ, List.flatMap_append, List.length_append, Nat.succ_mul]
        obtain ⟨x, hx, mx⟩ := get_some (l := s7) (k := k) (by omega)
        have hv := g2.sval x mx
        simp only [List.flatMap_cons, List.flatMap_nil, List.append_nil, List.length_map, List.length_range, getD_get hx]
        omega
    refine wL_rng (P := fun k σ => ∃ o9 o10, σ = [some sc, some st, some (rowT s), some (.int n), o4, none, some (.int g), some (rowT s7), some (rowO ((List.range k).flatMap fun (i : Nat) => (List.range (s7.getD i 0).toNat).map fun (j : Nat) => max 0 ((g : Int) + (j : Int) - (i : Int)))), o9, o10, none, none, none, none, none, none, none, none, none]) ⟨none, none, rfl⟩ ?_ ?_
    · rintro σ ⟨o9, o10, rfl⟩
      rw [gB_n]
      exact ⟨rfl, o9, o10, rfl⟩
    · rintro k σ hk ⟨o9, o10, rfl⟩
      obtain ⟨x, hx, mx⟩ := get_some hk
      have hxv := g2.sval x mx
      obtain ⟨m, rfl⟩ := Int.eq_ofNat_of_zero_le hxv.1
      have hb := big k (by omega)
      refine wG_name.mpr ⟨by simp, ?_⟩
      simp only [Int.zero_add, List.set_cons_succ, List.set_cons_zero]
      have hstep : ((List.range (k + 1)).flatMap fun (i : Nat) => (List.range (s7.getD i 0).toNat).map fun (j : Nat) => max 0 ((g : Int) + (j : Int) - (i : Int))) = ((List.range k).flatMap fun (i : Nat) => (List.range (s7.getD i 0).toNat).map fun (j : Nat) => max 0 ((g : Int) + (j : Int) - (i : Int))) ++ (List.range m).map fun (j : Nat) => max 0 ((g : Int) + (j : Int) - (k : Int)) := by
        rw [List.range_succ, List.flatMap_append]
        simp only [List.flatMap_cons, List.flatMap_nil, List.append_nil, getD_get hx, Int.toNat_natCast]
      rw [hstep]
      generalize ((List.range k).flatMap fun (i : Nat) => (List.range (s7.getD i 0).toNat).map fun (j : Nat) => max 0 ((g : Int) + (j : Int) - (i : Int))) = F at hb
      rw [wS_set, wE_m2, wE_frz]
      refine ⟨_, rfl, ?_⟩
      rw [wE_Lc, wI_rng1, wE_Up, wE_m2, wE_var]
      refine ⟨_, rfl, ?_⟩
      rw [wE_var]
      refine ⟨_, rfl, _, kIx_rowT hx, rfl, _, rfl, okR_len (by omega), ?_⟩
      rw [Int.toNat_natCast, up_range]
      refine wC_map (List.range m) (fun (i : Nat) => .int (0 + (i : Nat))) (fun (j : Nat) => .int (max 0 ((g : Int) + (j : Int) - (k : Int)))) (fun j hj => ?_) fun σ' wq => ?_
      · refine wG_name.mpr ⟨by simp [wipeD], ?_⟩
        rw [wE_Up, wE_A, wA_cons, wE_C, wA_cons, wE_m2, wE_m2, wE_var]
        refine ⟨.int g, by simp [wipeD], ?_⟩
        rw [wE_var]
        refine ⟨.int (0 + (j : Int)), by simp [wipeD], _, kAdd_int, ?_⟩
        rw [wE_var]
        refine ⟨.int k, by simp [wipeD], _, kSub_int, ?_⟩
        rw [wA_nil, k2_two]
        refine ⟨_, fMax2_int, rfl, ?_, by simp [wipeD]⟩
        rw [Int.zero_add]
      · simp only [wq, unwipe_wipe, gB_n]
        have e1 : (List.range m).map (fun (j : Nat) => D.int (max 0 ((g : Int) + (j : Int) - (k : Int)))) = ((List.range m).map fun (j : Nat) => max 0 ((g : Int) + (j : Int) - (k : Int))).map .int := by rw [List.map_map]; rfl
        rw [e1]
        have efz : (rowO F).frz = rowF F := by
          unfold rowO rowF
          rw [frz_own, frzs_of (noOwns_ints _)]
        rw [efz]
        have hmul : k * 1000 ≤ 1000 * 1000 := Nat.mul_le_mul_right 1000 (by omega)
        refine ⟨by simp; omega, _, kAdd_lst (by decide) (by decide) (by simp; omega), by simp, some (.int k), o10, ?_⟩
        rw [← List.map_append]
        rfl
  rintro σ ⟨o9, o10, rfl⟩
  refine wS_cut (fun σ => ∃ o8, σ = [some sc, some st, some (rowT s), some (.int n), o4, none, some (.int g), some (rowT s7), o8, o9, o10, none, none, none, none, none, none, none, none, none]) ?_ ?_
  · rw [wS_if, wT_B, wE_m2, wE_Call, wA_cons]
    refine wE_cr g2.let_ (wA_lendI rfl (noOwn_rowT _) (wA_lendI rfl rfl (wA_nil.mpr ⟨rfl, rfl⟩))) rfl ?_
    rw [wA_cons, wE_Call, wA_cons]
    refine wE_cr g2.hooks (wA_lendI rfl (noOwn_rowT _) (wA_nil.mpr ⟨rfl, rfl⟩)) rfl ?_
    rw [wA_nil]
    refine wF_any g2.nums fun σc => ?_
    rw [putB_id (by rfl), wA_nil]
    refine wF_any g2.times fun σc => ?_
    rw [putB_nn, wE_Call, wA_cons, wE_lend]
    refine ⟨_, rfl, ?_⟩
    rw [if_neg (by simp), wA_nil]
    refine wF_any g2.nums2 fun σc => ?_
    obtain ⟨o, eo⟩ := putB_dead (ws := [1, 2]) (i := 8) (r := []) (σc := σc) (σ := [some sc, some st, some (rowT s), some (.int n), o4, none, some (.int g), some (rowT s7), none, o9, o10, none, none, none, none, none, none, none, none, none]) rfl rfl (fun d => rfl)
    refine ⟨_, kNe_tints _ _, _, rfl, ?_⟩
    simp only [decide_true, Bool.not_true, Bool.false_eq_true, if_false]
    refine wS_nil.mpr ⟨rfl, o, ?_⟩
    exact eo
  rintro σ ⟨o8, rfl⟩
  refine wS_cut (fun σ => σ = [some sc, some st, some (rowT s), some (.int n), o4, none, some (.int g), some (rowT s7), o8, o9, o10, some (.lst .frz (Ts.map frzS)), none, none, none, none, none, none, none, none]) ?_ ?_
  · rw [wS_set]
    refine wE_cr g2.all_ (wA_lendI rfl (noOwn_rowT _) (wA_lendI rfl rfl (wA_nil.mpr ⟨rfl, rfl⟩))) rfl ?_
    exact ⟨by simp, rfl, rfl⟩
  rintro σ rfl
  have hlen2 := ret_lengthsTF (Ts := Ts) (t := g) (by omega) g2.len g2.sm
  have hnoF : (D.lst .frz (Ts.map frzS)).noOwn = true := by
    show noOwns (Ts.map frzS) = true
    rw [noOwns_all, List.all_eq_true]
    intro d md
    obtain ⟨T, _, rfl⟩ := List.mem_map.mp md
    exact noOwns_rowF T
  refine wS_cut (fun σ => σ = [some sc, some st, some (rowT s), some (.int n), o4, none, some (.int g), some (rowT s7), o8, o9, o10, some (.lst .frz (Ts.map frzS)), none, none, none, none, none, none, none, none]) ?_ ?_
  · rw [wS_if, wT_not, wT_val, wE_Call, wA_cons]
    refine wE_cr g2.let_ (wA_lendI rfl (noOwn_rowT _) (wA_lendI rfl rfl (wA_nil.mpr ⟨rfl, rfl⟩))) rfl ?_
    rw [wA_cons]
    refine wE_cr hlen2 (wA_lendI rfl hnoF (by rw [wA_cons, wE_C]; exact wA_lendI rfl rfl (wA_nil.mpr ⟨rfl, rfl⟩))) rfl ?_
    refine wA_lendI rfl rfl (wA_nil.mpr ?_)
    refine wF_any ht2 fun σc => ?_
    rw [putB_id (by rfl)]
    refine ⟨true, rfl, ?_⟩
    simp only [Bool.not_true, Bool.false_eq_true, if_false]
    exact wS_nil.mpr ⟨rfl, rfl⟩
  rintro σ rfl
  clear hlen2 ht2 g2
  obtain ⟨TS, hTS⟩ : ∃ TS, TS = D.lst .frz (Ts.map frzS) := ⟨_, rfl⟩
  rw [← hTS]
  clear hTS hnoF
  refine wS_cut (fun σ => ∃ (st : D) (a b c : Nat), St st ∧ a < 4 ∧ b < 4 ∧ c < 4 ∧ σ = [some sc, some st, some (rowT s), some (.int n), o4, none, some (.int g), some (rowT s7), o8, o9, o10, some TS, some (rowT [(a : Int), (b : Int), (c : Int)]), none, none, none, none, none, none, none]) ?_ ?_
  · rw [wS_set, wE_A, wA_cons, wE_Lc, wI_rng1, wE_C]
    refine ⟨3, rfl, by decide, ?_⟩
    refine wC_inv (I := fun σ => ∃ st', St st' ∧ σ = [some sc, some st', some (rowT s), some (.int n), o4, none, some (.int g), some (rowT s7), o8, o9, o10, some TS, none, none, none, none, none, none, none, none]) (R := fun d => ∃ i, d = .int i ∧ 0 ≤ i ∧ i ≤ 3) ?_ ⟨st, hs, rfl⟩ ?_
    · rintro d hd σ ⟨st3, hs3, e⟩
      rw [e]
      refine wG_name.mpr ⟨by simp, ?_⟩
      simp only [List.set_cons_succ, List.set_cons_zero]
      exact wE_pick (l := 4) rfl hs3 (by simp) (by decide) (by decide) fun r st4 r0 r1 hs4 => ⟨⟨_, rfl, r0, by omega⟩, st4, hs4, rfl⟩
    · rintro xs σ' hl hr2 ⟨st3, hs3, e⟩
      obtain ⟨ms, rfl, hms⟩ := ints_of hr2
      have hl2 : ms.length = 3 := by rw [List.length_map, up_len] at hl; exact hl
      have hun : unwipe [some sc, some st, some (rowT s), some (.int n), o4, none, some (.int g), some (rowT s7), o8, o9, o10, some TS, none, none, none, none, none, none, none, none] [13] (wipeD σ' [13]) = [some sc, some st3, some (rowT s), some (.int n), o4, none, some (.int g), some (rowT s7), o8, o9, o10, some TS, none, none, none, none, none, none, none, none] := by
        rw [e]
        rfl
      rw [gB_n, hun, wA_nil, k1_one]
      match ms, hl2, hms with
      | [a, b, c], _, hms =>
        have ha := hms a (by simp)
        have hb := hms b (by simp)
        have hc := hms c (by simp)
        obtain ⟨a, rfl⟩ := Int.eq_ofNat_of_zero_le ha.1
        obtain ⟨b, rfl⟩ := Int.eq_ofNat_of_zero_le hb.1
        obtain ⟨c, rfl⟩ := Int.eq_ofNat_of_zero_le hc.1
        exact ⟨by simp, _, fTuple_lst (noOwns_ints _), by simp, rfl, st3, a, b, c, hs3, by omega, by omega, by omega, rfl⟩
  clear hs st a
  rintro σ ⟨st, a, b, c, hs, ha, hb, hc, rfl⟩
  obtain ⟨C, hC⟩ : ∃ C, C = [(a : Int), (b : Int), (c : Int)] := ⟨_, rfl⟩
  have hCs : C.sum = ((a + b + c : Nat) : Int) := by rw [hC]; simp; omega
  have hCl : C.length = 3 := by rw [hC]; rfl
  rw [← hC]
  by_cases hz : a + b + c = 0
  · rw [wS_seq, wS_if, wT_B, wE_m2, wE_A, wA_cons, wE_var]
    refine ⟨_, rfl, ?_⟩
    rw [wA_nil, k1_one, view_rowT]
    refine ⟨_, fSumA_rowT C, ?_⟩
    rw [wE_C]
    refine ⟨_, kEq_int, _, rfl, ?_⟩
    have hb0 : (C.sum == 0) = true := by rw [hCs, hz]; rfl
    simp only [hb0, if_true]
    rw [wS_ret, wE_AndV, wE_m2, wE_Call, wA_cons, wE_Up, wE_A, wA_cons, wE_C, wA_cons, wE_C, wA_nil]
    refine ⟨_, kTup_ii, rfl, ?_⟩
    rw [wA_nil]
    refine wF_any empty1 fun σc => ?_
    rw [putB_id (by rfl), wE_Up, wE_A, wA_cons, wE_C, wA_nil]
    refine ⟨_, kTup_i, rfl, _, kEq_tints [1] [1], true, rfl, ?_⟩
    simp only [if_true]
    rw [wE_AndV, wE_m2, wE_Call, wA_cons, wE_Up, wE_A, wA_nil]
    refine ⟨_, kTup_nil, rfl, ?_⟩
    rw [wA_nil]
    refine wF_any empty2 fun σc => ?_
    rw [putB_id (by rfl), wE_Up, wE_A, wA_cons, wE_C, wA_nil]
    refine ⟨_, kTup_i, rfl, _, kEq_tints [1] [1], true, rfl, ?_⟩
    simp only [if_true]
    rw [wE_Call, wA_cons, wE_lend]
    refine ⟨_, rfl, ?_⟩
    rw [if_neg (by rw [hs.no]; decide), wA_nil]
    exact wF_roots hs fun σc => rfl
  have hchk := all3 ha hb hc hz
  rw [← hC] at hchk
  obtain ⟨n3, hn3⟩ : ∃ n3, n3 = a + b + c := ⟨_, rfl⟩
  rw [← hn3] at hCs hz
  have hn39 : n3 ≤ 9 := by omega
  clear hC ha hb hc hn3
  refine wS_cut (fun σ => σ = [some sc, some st, some (rowT s), some (.int n), o4, none, some (.int g), some (rowT s7), o8, o9, o10, some TS, some (rowT C), none, none, none, none, none, none, none]) ?_ ?_
  · rw [wS_if, wT_B, wE_m2, wE_A, wA_cons, wE_var]
    refine ⟨_, rfl, ?_⟩
    rw [wA_nil, k1_one, view_rowT]
    refine ⟨_, fSumA_rowT C, ?_⟩
    rw [wE_C]
    refine ⟨_, kEq_int, _, rfl, ?_⟩
    have hb0 : (C.sum == 0) = false := by rw [hCs]; exact beq_eq_false_iff_ne.mpr (by omega)
    simp only [hb0, Bool.false_eq_true, if_false]
    exact wS_nil.mpr ⟨rfl, rfl⟩
  rintro σ rfl
  refine wS_cut (fun σ => σ = [some sc, some st, some (rowT s), some (.int n), o4, none, some (.int g), some (rowT s7), o8, o9, o10, some TS, some (rowT C), none, some (.lst .own ([[]].map rowT)), none, none, none, none, none]) ?_ ?_
  · rw [wS_set, wE_A, wA_cons, wE_Up, wE_A, wA_nil]
    refine ⟨_, kTup_nil, rfl, ?_⟩
    rw [wA_nil]
    exact ⟨_, kLst_one, by simp, rfl, rfl⟩
  rintro σ rfl
  have wlen : ∀ k, k ≤ 9 → (wordsP C k).length ≤ 3 ^ k := fun k => by
    induction k with
    | zero => intro _; simp [wordsP]
    | succ k ih =>
      intro hk
      have h0 := ih (by omega)
      rw [wordsP, Nat.pow_succ]
      refine Nat.le_trans (wStep_len C _) ?_
      rw [hCl]
      exact Nat.mul_le_mul_right 3 h0
  refine wS_cut (fun σ => ∃ o5 o13 o15 o16 o17, σ = [some sc, some st, some (rowT s), some (.int n), o4, o5, some (.int g), some (rowT s7), o8, o9, o10, some TS, some (rowT C), o13, some (.lst .frz ((wordsP C n3).map rowT)), o15, o16, o17, none, none]) ?_ ?_
  · rw [wS_for, wI_rng1, wE_Up, wE_A, wA_cons, wE_var]
    refine ⟨_, rfl, ?_⟩
    rw [wA_nil, k1_one, view_rowT]
    refine ⟨_, fSumA_rowT C, rfl, _, rfl, by rw [hCs]; exact okR_len (by omega), ?_⟩
    rw [hCs, Int.toNat_natCast]
    refine wL_rng (P := fun k σ => ∃ d o5 o13 o15 o16 o17, (d = .lst .own ((wordsP C k).map rowT) ∧ k = 0 ∨ d = .lst .frz ((wordsP C k).map rowT) ∧ k ≠ 0) ∧ σ = [some sc, some st, some (rowT s), some (.int n), o4, o5, some (.int g), some (rowT s7), o8, o9, o10, some TS, some (rowT C), o13, some d, o15, o16, o17, none, none]) ⟨_, none, none, none, none, none, .inl ⟨rfl, rfl⟩, rfl⟩ ?_ ?_
    · rintro σ ⟨d, o5, o13, o15, o16, o17, hd, rfl⟩
      rcases hd with ⟨_, h0⟩ | ⟨rfl, _⟩
      · exact absurd h0 hz
      · rw [gB_n]
        exact ⟨rfl, _, _, _, _, _, rfl⟩
    · rintro k σ hk ⟨d, o5, o13, o15, o16, o17, hd, rfl⟩
      have hwl := wlen k (by omega)
      have h3k : 3 ^ k ≤ 3 ^ 9 := Nat.pow_le_pow_right (by decide) (by omega)
      have h39 : 3 ^ 9 = 19683 := by decide
      refine wG_name.mpr ⟨by simp, ?_⟩
      simp only [List.set_cons_succ, List.set_cons_zero]
      refine wS_cut (fun σ => σ = [some sc, some st, some (rowT s), some (.int n), o4, o5, some (.int g), some (rowT s7), o8, o9, o10, some TS, some (rowT C), o13, some d, some (.int k), some (.lst .own []), o17, none, none]) (by simp) ?_
      rintro σ rfl
      refine wS_cut (fun σ => ∃ o5 o13 o17, σ = [some sc, some st, some (rowT s), some (.int n), o4, o5, some (.int g), some (rowT s7), o8, o9, o10, some TS, some (rowT C), o13, some d, some (.int k), some (.lst .own ((wStep C (wordsP C k)).map rowT)), o17, none, none]) ?_ ?_
      · rw [wS_for, wI_take]
        refine ⟨_, rfl, ?_⟩
        have hww : ∀ w ∈ wordsP C k, w.length ≤ 1000 := fun w mw => by rw [wordsP_mem mw]; omega
        have hwb : (wordsP C k).length * C.length ≤ 1000000 := by rw [hCl]; omega
        rcases hd with ⟨rfl, _⟩ | ⟨rfl, _⟩
        · simp only [noOwns_tabS, if_true, List.set_cons_succ, List.set_cons_zero]
          refine wL_words (by omega) (wordsP C k) hww hwb fun o5 o13 o17 => ?_
          rw [gB_ss]
          exact ⟨rfl, o5, o13, o17, rfl⟩
        · refine ⟨(wordsP C k).map rowT, rfl, ?_⟩
          refine wL_words (by omega) (wordsP C k) hww hwb fun o5 o13 o17 => ?_
          rw [gB_sn]
          exact ⟨rfl, o5, o13, o17, rfl⟩
      rintro σ ⟨o5, o13, o17, rfl⟩
      rw [wS_set, wE_frz]
      refine ⟨_, rfl, ?_⟩
      have efz : (D.lst .own ((wStep C (wordsP C k)).map rowT)).frz = .lst .frz ((wordsP C (k + 1)).map rowT) := by
        rw [frz_own, frzs_of (noOwns_tabS _)]
        rfl
      rw [efz]
      exact ⟨by simp, _, o5, o13, _, _, o17, .inr ⟨rfl, by omega⟩, rfl⟩
  rintro σ ⟨o5, o13, o15, o16, o17, rfl⟩
  unfold chk3 at hchk
  rw [hCs, Int.toNat_natCast] at hchk
  split at hchk
  rotate_left
  · cases hchk
  rename_i qf hqf
  split at hchk
  rotate_left
  · cases hchk
  rename_i p3 hp3
  simp only [Bool.and_eq_true, Bool.or_eq_true, decide_eq_true_eq] at hchk
  obtain ⟨_, hor⟩ := hchk
  have hpoly := ret_words_poly hCs (by omega) hqf hp3
  have hwl := wlen n3 (by omega)
  have h3k : 3 ^ n3 ≤ 3 ^ 9 := Nat.pow_le_pow_right (by decide) (by omega)
  have h39 : 3 ^ 9 = 19683 := by decide
  have hmem : ∀ w ∈ wordsP C n3, w ≠ [] ∧ w.length ≤ 1000 := fun w mw => by
    have := wordsP_mem mw
    exact ⟨fun e => by rw [e] at this; simp at this; omega, by omega⟩
  have hnoW : (D.lst .frz ((wordsP C n3).map rowT)).noOwn = true := noOwns_tabS _
  refine wS_cut (fun σ => σ = [some sc, some st, some (rowT s), some (.int n), o4, o5, some (.int g), some (rowT s7), o8, o9, o10, some TS, some (rowT C), o13, some (.lst .frz ((wordsP C n3).map rowT)), o15, o16, o17, none, none]) ?_ ?_
  · rw [wS_if, wT_and, wT_B, wE_m2, wE_A, wA_cons, wE_var]
    refine ⟨_, rfl, ?_⟩
    rw [wA_nil, k1_one, view_frz]
    refine ⟨_, fLen_lst, ?_⟩
    rw [wE_C]
    refine ⟨_, kLt_int, _, rfl, ?_⟩
    rw [List.length_map]
    by_cases q : (wordsP C n3).length < 700
    · have hq : ((wordsP C n3).length : Int) < 700 := by omega
      have htb : toldB p3 ((wordsP C n3).map fun w => (lenP turnW n3 w : Int)) n3 = true := by
        rcases hor with h | h
        · omega
        · exact h
      have ht3 := ret_told (div_ret (by omega)) (fun i hi => gcd_ret n3 (i + 1) (by omega)) htb
      have hlen3 := ret_lengthsWF (ws := wordsP C n3) (t := n3) (by omega) (by omega) hmem
      simp only [decide_eq_true hq, if_true]
      rw [wT_not, wT_val, wE_Call, wA_cons]
      refine wE_cr hpoly (wA_lendI rfl (noOwn_rowT _) (wA_nil.mpr ⟨rfl, rfl⟩)) rfl ?_
      rw [wA_cons]
      refine wE_cr hlen3 (wA_lendI rfl hnoW ?_) rfl ?_
      · rw [wA_cons, wE_C, wA_cons, wE_Up, wE_A, wA_cons, wE_var]
        refine ⟨_, rfl, ?_⟩
        rw [wA_nil, k1_one, view_rowT]
        refine ⟨_, fSumA_rowT C, rfl, ?_⟩
        rw [wA_nil, hCs]
        exact ⟨rfl, rfl⟩
      rw [wA_cons, wE_Up, wE_A, wA_cons, wE_var]
      refine ⟨_, rfl, ?_⟩
      rw [wA_nil, k1_one, view_rowT]
      refine ⟨_, fSumA_rowT C, rfl, ?_⟩
      rw [wA_nil, hCs]
      refine wF_any ht3 fun σc => ?_
      rw [putB_id (by rfl)]
      refine ⟨true, rfl, ?_⟩
      simp only [Bool.not_true, Bool.false_eq_true, if_false]
      exact wS_nil.mpr ⟨rfl, rfl⟩
    · have hq : ¬ ((wordsP C n3).length : Int) < 700 := by omega
      simp only [decide_eq_false hq, Bool.false_eq_true, if_false]
      exact wS_nil.mpr ⟨rfl, rfl⟩
  rintro σ rfl
  clear hor hpoly hwl hmem hnoW hqf hp3 wlen
  generalize D.lst .frz ((wordsP C n3).map rowT) = WS
  refine wS_cut (fun σ => ∃ (st : D) (a b c : Nat) (o13 : Option D), St st ∧ (1 ≤ a ∧ a ≤ 5) ∧ (1 ≤ b ∧ b ≤ 5) ∧ (1 ≤ c ∧ c ≤ 5) ∧ σ = [some sc, some st, some (rowT s), some (.int n), o4, o5, some (.int g), some (rowT s7), o8, o9, o10, some TS, some (rowT C), o13, some WS, o15, o16, o17, some (rowT [(a : Int), (b : Int), (c : Int)]), none]) ?_ ?_
  · rw [wS_set, wE_A, wA_cons, wE_Lc, wI_rng1, wE_C]
    refine ⟨3, rfl, by decide, ?_⟩
    refine wC_inv (I := fun σ => ∃ st', St st' ∧ σ = [some sc, some st', some (rowT s), some (.int n), o4, o5, some (.int g), some (rowT s7), o8, o9, o10, some TS, some (rowT C), none, some WS, o15, o16, o17, none, none]) (R := fun d => ∃ i, d = .int i ∧ 1 ≤ i ∧ i ≤ 5) ?_ ⟨st, hs, rfl⟩ ?_
    · rintro d hd σ ⟨st3, hs3, e⟩
      rw [e]
      refine wG_name.mpr ⟨by simp, ?_⟩
      simp only [List.set_cons_succ, List.set_cons_zero]
      rw [wE_m2, wE_C]
      exact wE_pick (l := 5) rfl hs3 (by simp) (by decide) (by decide) fun r st4 r0 r1 hs4 => ⟨_, kAdd_int, ⟨_, rfl, by omega, by omega⟩, st4, hs4, rfl⟩
    · rintro xs σ' hl hr2 ⟨st3, hs3, e⟩
      obtain ⟨ms, rfl, hms⟩ := ints_of hr2
      have hl2 : ms.length = 3 := by rw [List.length_map, up_len] at hl; exact hl
      have hun : unwipe [some sc, some st, some (rowT s), some (.int n), o4, o5, some (.int g), some (rowT s7), o8, o9, o10, some TS, some (rowT C), o13, some WS, o15, o16, o17, none, none] [13] (wipeD σ' [13]) = [some sc, some st3, some (rowT s), some (.int n), o4, o5, some (.int g), some (rowT s7), o8, o9, o10, some TS, some (rowT C), o13, some WS, o15, o16, o17, none, none] := by
        rw [e]
        cases o13 <;> rfl
      rw [gB_n, hun, wA_nil, k1_one]
      match ms, hl2, hms with
      | [a, b, c], _, hms =>
        have ha := hms a (by simp)
        have hb := hms b (by simp)
        have hc := hms c (by simp)
        obtain ⟨a, rfl⟩ := Int.eq_ofNat_of_zero_le (by omega : 0 ≤ a)
        obtain ⟨b, rfl⟩ := Int.eq_ofNat_of_zero_le (by omega : 0 ≤ b)
        obtain ⟨c, rfl⟩ := Int.eq_ofNat_of_zero_le (by omega : 0 ≤ c)
        exact ⟨by simp, _, fTuple_lst (noOwns_ints _), by simp, rfl, st3, a, b, c, o13, hs3, by omega, by omega, by omega, rfl⟩
  clear hs st o13
  rintro σ ⟨st, a, b, c, o13, hs, ha, hb, hc, rfl⟩
  have hchk := all4 ha hb hc
  obtain ⟨l, hl⟩ : ∃ l, l = [(a : Int), (b : Int), (c : Int)] := ⟨_, rfl⟩
  have hls : l.sum = ((a + b + c : Nat) : Int) := by rw [hl]; simp; omega
  rw [← hl] at hchk ⊢
  obtain ⟨m, hm⟩ : ∃ m, m = a + b + c := ⟨_, rfl⟩
  rw [← hm] at hls
  have hm15 : m ≤ 15 := by omega
  clear hl ha hb hc hm
  unfold chk4 at hchk
  rw [hls, Int.toNat_natCast] at hchk
  split at hchk
  rotate_left
  · cases hchk
  rename_i qf u hqf hu
  split at hchk
  rotate_left
  · cases hchk
  rename_i p4 hp4
  split at hchk
  rotate_left
  · cases hchk
  rename_i a4 ha4
  simp only [Bool.and_eq_true, decide_eq_true_eq] at hchk
  obtain ⟨⟨haq, _⟩, _⟩ := hchk
  subst haq
  have hpoly := ret_words_poly hls (by omega) hqf hp4
  have hnum : numsG2 [1] (ints1 m) = some a4 := by rw [nums_qf m (by omega)]; exact hqf
  refine wS_cut (fun σ => σ = [some sc, some st, some (rowT s), some (.int n), o4, o5, some (.int g), some (rowT s7), o8, o9, o10, some TS, some (rowT C), o13, some WS, o15, o16, o17, some (rowT l), some (rowT [1])]) (by simp; rfl) ?_
  rintro σ rfl
  refine wS_cut (fun σ => ∃ o17, σ = [some sc, some st, some (rowT s), some (.int n), o4, o5, some (.int g), some (rowT s7), o8, o9, o10, some TS, some (rowT C), o13, some WS, o15, o16, o17, some (rowT l), some (rowT u)]) ?_ ?_
  · rw [wS_for, wI_take]
    refine ⟨_, rfl, l.map .int, rfl, ?_⟩
    refine wL_typ (P := fun l' σ => ∃ f o17, underG f l' = some u ∧ σ = [some sc, some st, some (rowT s), some (.int n), o4, o5, some (.int g), some (rowT s7), o8, o9, o10, some TS, some (rowT C), o13, some WS, o15, o16, o17, some (rowT l), some (rowT f)]) D.int ?_ ?_ ⟨[1], o17, hu, rfl⟩
    · rintro σ ⟨f, o17, e, rfl⟩
      have e2 : f = u := Option.some.inj e
      rw [gB_sn, e2]
      exact ⟨rfl, o17, rfl⟩
    · rintro k l' σ ⟨f, o17, e, rfl⟩
      rw [underG] at e
      split at e
      rotate_left
      · cases e
      rename_i hk
      split at e
      rotate_left
      · cases e
      rename_i q hq
      split at e
      rotate_left
      · cases e
      rename_i f' hf'
      obtain ⟨k, rfl⟩ := Int.eq_ofNat_of_zero_le hk.1
      rw [Int.toNat_natCast] at hq
      refine wG_name.mpr ⟨by simp, ?_⟩
      simp only [List.set_cons_succ, List.set_cons_zero]
      rw [wS_set, wE_Call]
      refine wA_lendI rfl (noOwn_rowT _) ?_
      rw [wA_cons, wE_Call, wA_cons]
      refine wE_ints (n := k) (by omega) (by rw [wE_m2, wE_var]; refine ⟨_, rfl, ?_⟩; rw [wE_C]; exact ⟨_, kAdd_int, rfl, rfl⟩) ?_
      rw [wA_nil]
      refine wF_any (ret_law_numbers hq) fun σc => ?_
      rw [putB_id (by rfl), wA_nil]
      refine wF_any (ret_law_times hf') fun σc => ?_
      rw [putB_id (by rfl)]
      exact ⟨by simp, f', _, e, rfl⟩
  rintro σ ⟨o17, rfl⟩
  refine wS_cut (fun σ => σ = [some sc, some st, some (rowT s), some (.int n), o4, o5, some (.int g), some (rowT s7), o8, o9, o10, some TS, some (rowT C), o13, some WS, o15, o16, o17, some (rowT l), some (rowT u)]) ?_ ?_
  · rw [wS_if, wT_B, wE_m2, wE_Call, wA_cons]
    refine wE_cr hpoly (wA_lendI rfl (noOwn_rowT _) (wA_nil.mpr ⟨rfl, rfl⟩)) rfl ?_
    refine wA_lendI rfl (noOwn_rowT _) (wA_nil.mpr ?_)
    refine wF_any (ret_law_times ha4) fun σc => ?_
    rw [putB_id (by rfl), wE_Call, wA_cons]
    refine wE_ints (n := m) (by omega) ?_ ?_
    · rw [wE_m2, wE_A, wA_cons, wE_var]
      refine ⟨_, rfl, ?_⟩
      rw [wA_nil, k1_one, view_rowT]
      refine ⟨_, fSumA_rowT l, ?_⟩
      rw [wE_C, hls]
      exact ⟨_, kAdd_int, rfl, rfl⟩
    rw [wA_nil]
    refine wF_any (ret_law_numbers hnum) fun σc => ?_
    rw [putB_id (by rfl)]
    refine ⟨_, kNe_tints _ _, _, rfl, ?_⟩
    simp only [decide_true, Bool.not_true, Bool.false_eq_true, if_false]
    exact wS_nil.mpr ⟨rfl, rfl⟩
  rintro σ rfl
  rw [wS_ret, wE_Call, wA_cons, wE_lend]
  refine ⟨_, rfl, ?_⟩
  rw [if_neg (by rw [hs.no]; decide), wA_nil]
  exact wF_roots hs fun σc => rfl
end K89
namespace K89
open PySem PySem.Spec PyProof.Rows L2 Py
def top (i : Nat) : Stmt := PySem.Challenge.pw_hivewright_k89_whole_orbits_counted_by_r.main.body.getD i (.Pass ⟨0, 0, 0, 0⟩)
def DD (x : Str) (i : Nat) : He.DefD := ⟨(x, none), x, x, defArgs (top i), defBody (top i), defScope (top i), [], []⟩
def dds : List He.DefD := [DD "trimmed" 1, DD "product_of" 2, DD "quotient_of" 3, DD "q_number" 4, DD "q_factorial" 5, DD "divisor" 7, DD "conjugate" 9, DD "hooks" 10, DD "contents" 11, DD "over_hooks" 13, DD "standard_polynomial" 14, DD "letters_polynomial" 15, DD "words_polynomial" 16, DD "cyclotomic" 17, DD "remainder" 18, DD "at_root" 19, DD "fixed" 20, DD "divisors" 21, DD "orbits" 22, DD "folded" 23, DD "_law_start" 25, DD "_law_pick" 26, DD "_law_same" 27, DD "_law_times" 28, DD "_law_trimmed" 29, DD "_law_numbers" 30, DD "_law_hooks" 31, DD "_law_standards" 32, DD "_law_tableau" 33, DD "_law_all" 34, DD "_law_promoted" 35, DD "_law_turned_word" 36, DD "_law_lengths" 37, DD "_law_told" 38, DD "_law_roots" 39, DD "_law_rest" 40, DD "law" 41]
def fas : List He.Fa := [.glo "trimmed", .glo "product_of", .glo "quotient_of", .glo "q_number", .glo "q_factorial", .glo "divisor", .glo "conjugate", .glo "hooks", .glo "contents", .glo "over_hooks", .glo "standard_polynomial", .glo "letters_polynomial", .glo "words_polynomial", .glo "cyclotomic", .glo "remainder", .glo "at_root", .glo "fixed", .glo "divisors", .glo "orbits", .glo "folded", .glo "_law_start", .glo "_law_pick", .glo "_law_same", .glo "_law_times", .glo "_law_trimmed", .glo "_law_numbers", .glo "_law_hooks", .glo "_law_standards", .glo "_law_tableau", .glo "_law_all", .glo "_law_promoted", .glo "_law_turned_word", .glo "_law_lengths", .glo "_law_told", .glo "_law_roots", .glo "_law_rest", .glo "law", .free "len", .free "range", .free "max", .free "tuple", .free "list", .free "isinstance", .free "str", .free "int", .free "bool", .free "abs", .free "sum"]
abbrev Says (K : PySem.W.Frag) (mg : Str → Option Value) : Prop := SaysIn fas dds K mg
section
variable {P : Program} {w : PySem.World} {K : PySem.W.Frag} {mg : Str → Option Value} {base : Heap}
theorem sc__law_start : FnScope ["script"] ["script"] (defScope (top 25)) := ⟨rfl, rfl, rfl, by decide +kernel, rfl, by decide +kernel, by decide +kernel⟩
theorem fk__law_start (Y : Says K mg) {f : Addr} {fd : FuncData} (F : FnP K "_law_start" (top 25) f fd) : FnOk P w K mg base CX0 1 f fd ["script"] (spOf K 1 [] fn__law_start) := by
  have S := sc__law_start
  refine fn_ok F S fun cdv A outer s H E hr => ?_
  have d : SSs (cxOf CX0 P w K mg base ["script"] "_law_start" (defScope (top 25)) f cdv A outer s H E).nox (defBody (top 25)) _ m__law_start := (sss_one (ss_ret (se_lst (sa_cons (se_frz (i := 0)) (sa_cons se_int (sa_cons se_int (sa_cons se_int sa_nil)))))))
  exact d.mono (by decide)
theorem ok__law_start (Y : Says K mg) : UF P w K mg base "_law_start" 1 ["script"] [] fn__law_start := by
  obtain ⟨f, fd, gf, F⟩ := Y.def_ 20 (x := "_law_start") (st := top 25) rfl rfl
  exact ⟨f, fd, gf, F.kp, F.bindsN fun _ _ _ _ _ _ us hl => match us, hl with | [_], _ => rfl, fk__law_start Y F⟩
theorem sc__law_all : FnScope ["shape", "greatest", "found", "i", "j", "later", "one", "low", "letter", "rows", "x", "row"] ["shape", "greatest"] (defScope (top 34)) := ⟨rfl, rfl, rfl, by decide +kernel, rfl, by decide +kernel, by decide +kernel⟩
theorem fk__law_all (Y : Says K mg) {f : Addr} {fd : FuncData} (F : FnP K "_law_all" (top 34) f fd) : FnOk P w K mg base CX0 1 f fd ["shape", "greatest"] (spOf K 2 [2, 3, 4, 5, 6, 7, 8, 9] fn__law_all) := by
  have g_len := Y.free 37 (x := "len") rfl
  have g_range := Y.free 38 (x := "range") rfl
  have g_max := Y.free 39 (x := "max") rfl
  have S := sc__law_all
  refine fn_ok F S fun cdv A outer s H E hr => ?_
  have d : SSs (cxOf CX0 P w K mg base ["shape", "greatest", "found", "i", "j", "later", "one", "low", "letter", "rows", "x", "row"] "_law_all" (defScope (top 34)) f cdv A outer s H E).nox (defBody (top 34)) _ m__law_all := (sss_cons (ss_set (i := 2) S.nd (se_lst (sa_cons (se_up (se_lst sa_nil)) sa_nil)))
    (sss_cons (ss_for PassesOwn.never rfl (si_range1 rfl g_range (se_up (se_callB (call_len) o_len rfl g_len rfl (sa_cons (se_name (i := 0)) sa_nil)))) (sg_name (i := 3) S.nd) (sss_one (ss_for PassesOwn.never rfl (si_range1 rfl g_range (se_up (se_ix ix_seq o_ix (se_name (i := 0)) (se_name (i := 3))))) (sg_name (i := 4) S.nd) (sss_cons (ss_set (i := 5) S.nd (se_up (se_lst sa_nil)))
    (sss_cons (ss_for PassesOwn.never rfl (si_take (i := 2)) (sg_name (i := 6) S.nd) (sss_cons (ss_set (i := 7) S.nd se_int)
    (sss_cons (ss_if (st_up (st_cmp op_gt o_gt (se_name (i := 4)) se_int)) (sss_one (ss_set (i := 7) S.nd (se_up (se_ix ix_seq o_ix (se_ix ix_seq o_ix (se_name (i := 6)) (se_name (i := 3))) (se_op op_sub o_sub (se_name (i := 4)) se_int))))) sss_nil)
    (sss_cons (ss_if (st_up (st_cmp op_gt o_gt (se_name (i := 3)) se_int)) (sss_one (ss_set (i := 7) S.nd (se_up (se_callB ((call_max2 rfl)) o_max2 rfl g_max rfl (sa_cons (se_name (i := 7)) (sa_cons (se_op op_addA o_add (se_ix ix_seq o_ix (se_ix ix_seq o_ix (se_name (i := 6)) (se_op op_sub o_sub (se_name (i := 3)) se_int)) (se_name (i := 4))) se_int) sa_nil)))))) sss_nil)
    (sss_one (ss_for PassesOwn.never rfl (si_range2 rfl g_range (se_frz (i := 7)) (se_up (se_op op_addA o_add (se_name (i := 1)) se_int))) (sg_name (i := 8) S.nd) (sss_cons (ss_setLc (i := 9) rfl S.nd (own := [("row", 11)]) (L2.blkOk_by (by rfl)) (si_take (i := 6)) (fun s0 H0 C0 cl0 fp0 => (sg_name (i := 11) S.nd)) (fun s0 H0 C0 cl0 fp0 => sts_nil) (fun s0 H0 C0 cl0 fp0 => (se_lc rfl S.nd (own := [("x", 10)]) (L2.blkOk_by (by rfl)) (si_take (i := 11)) (fun s0 H0 C0 cl0 fp0 => (sg_name (i := 10) S.nd)) (fun s0 H0 C0 cl0 fp0 => sts_nil) (fun s0 H0 C0 cl0 fp0 => (se_frz (i := 10))))) (hsw := by rfl))
    (sss_cons (ss_if (st_up (st_cmp (op_eqD hr.units) o_eq (se_name (i := 4)) se_int)) (sss_one (ss_app (r := 9) (se_up (se_lst sa_nil)))) sss_nil)
    (sss_cons (ss_appP (sp_ix (sp_name (r := 9)) (se_name (i := 3))) (se_name (i := 8)))
    (sss_one (ss_app (r := 5) (se_frz (i := 9)))))))))))) (hw := fun i e => by cases e; decide))
    (sss_one (ss_set (i := 2) S.nd (se_frz (i := 5)))))))))
    (sss_one (ss_ret (se_move (i := 2))))))
  exact d.mono (by decide)
theorem ok__law_all (Y : Says K mg) : UF P w K mg base "_law_all" 1 ["shape", "greatest"] [2, 3, 4, 5, 6, 7, 8, 9] fn__law_all := by
  obtain ⟨f, fd, gf, F⟩ := Y.def_ 29 (x := "_law_all") (st := top 34) rfl rfl
  exact ⟨f, fd, gf, F.kp, F.bindsN fun _ _ _ _ _ _ us hl => match us, hl with | [_, _], _ => rfl, fk__law_all Y F⟩
theorem sc__law_trimmed : FnScope ["row"] ["row"] (defScope (top 29)) := ⟨rfl, rfl, rfl, by decide +kernel, rfl, by decide +kernel, by decide +kernel⟩
theorem fk__law_trimmed (Y : Says K mg) {f : Addr} {fd : FuncData} (F : FnP K "_law_trimmed" (top 29) f fd) : FnOk P w K mg base CX0 1 f fd ["row"] (spOf K 1 [0] fn__law_trimmed) := by
  have g_tuple := Y.free 40 (x := "tuple") rfl
  have g_list := Y.free 41 (x := "list") rfl
  have S := sc__law_trimmed
  refine fn_ok F S fun cdv A outer s H E hr => ?_
  have d : SSs (cxOf CX0 P w K mg base ["row"] "_law_trimmed" (defScope (top 29)) f cdv A outer s H E).nox (defBody (top 29)) _ m__law_trimmed := (sss_cons (ss_set (i := 0) S.nd (se_up (se_callTy (call_list_of) o_list rfl g_list rfl (sa_cons (se_name (i := 0)) sa_nil))))
    (sss_cons (ss_while PassesOwn.never (st_up (st_w (sw_and (st_cmp (op_neD hr.units) o_ne (se_name (i := 0)) (se_lst sa_nil)) (sw_and1 (st_cmp (op_eqD hr.units) o_eq (se_ix ix_seq o_ix (se_name (i := 0)) (se_un un_neg o_neg se_int)) se_int))))) (sss_one (ss_popP (sp_name (r := 0)))))
    (sss_one (ss_ret (se_up (se_callTy (call_tuple_of) o_tuple rfl g_tuple rfl (sa_cons (se_name (i := 0)) sa_nil)))))))
  exact d.mono (by decide)
theorem ok__law_trimmed (Y : Says K mg) : UF P w K mg base "_law_trimmed" 1 ["row"] [0] fn__law_trimmed := by
  obtain ⟨f, fd, gf, F⟩ := Y.def_ 24 (x := "_law_trimmed") (st := top 29) rfl rfl
  exact ⟨f, fd, gf, F.kp, F.bindsN fun _ _ _ _ _ _ us hl => match us, hl with | [_], _ => rfl, fk__law_trimmed Y F⟩
theorem sc_trimmed : FnScope ["row", "end"] ["row"] (defScope (top 1)) := ⟨rfl, rfl, rfl, by decide +kernel, rfl, by decide +kernel, by decide +kernel⟩
theorem fk_trimmed (Y : Says K mg) {f : Addr} {fd : FuncData} (F : FnP K "trimmed" (top 1) f fd) : FnOk P w K mg base CX0 1 f fd ["row"] (spOf K 1 [1] fn_trimmed) := by
  have g_tuple := Y.free 40 (x := "tuple") rfl
  have g_len := Y.free 37 (x := "len") rfl
  have S := sc_trimmed
  refine fn_ok F S fun cdv A outer s H E hr => ?_
  have d : SSs (cxOf CX0 P w K mg base ["row", "end"] "trimmed" (defScope (top 1)) f cdv A outer s H E).nox (defBody (top 1)) _ m_trimmed := (sss_cons (ss_set (i := 1) S.nd (se_up (se_callB (call_len) o_len rfl g_len rfl (sa_cons (se_name (i := 0)) sa_nil))))
    (sss_cons (ss_while PassesOwn.never (st_up (st_w (sw_and (st_cmp op_gt o_gt (se_name (i := 1)) se_int) (sw_and1 (st_cmp (op_eqD hr.units) o_eq (se_ix ix_seq o_ix (se_name (i := 0)) (se_op op_sub o_sub (se_name (i := 1)) se_int)) se_int))))) (sss_one (ss_aug (i := 1) S.nd se_int ip_sub)))
    (sss_one (ss_ret (se_up (se_callTy (call_tuple_of) o_tuple rfl g_tuple rfl (sa_cons (se_slice sl_all o_sl (se_name (i := 0)) so_none (so_some (se_name (i := 1)))) sa_nil)))))))
  exact d.mono (by decide)
theorem ok_trimmed (Y : Says K mg) : UF P w K mg base "trimmed" 1 ["row"] [1] fn_trimmed := by
  obtain ⟨f, fd, gf, F⟩ := Y.def_ 0 (x := "trimmed") (st := top 1) rfl rfl
  exact ⟨f, fd, gf, F.kp, F.bindsN fun _ _ _ _ _ _ us hl => match us, hl with | [_], _ => rfl, fk_trimmed Y F⟩
theorem sc_remainder : FnScope ["first", "second", "rest", "k", "top", "j"] ["first", "second"] (defScope (top 18)) := ⟨rfl, rfl, rfl, by decide +kernel, rfl, by decide +kernel, by decide +kernel⟩
theorem fk_remainder (Y : Says K mg) {f : Addr} {fd : FuncData} (F : FnP K "remainder" (top 18) f fd) : FnOk P w K mg base CX0 2 f fd ["first", "second"] (spOf K 2 [2, 3, 4, 5] fn_remainder) := by
  obtain ⟨f_trimmed, fd_trimmed, g_trimmed, k_trimmed, b_trimmed, F_trimmed⟩ := ok_trimmed (P := P) (w := w) (base := base) Y
  have g_len := Y.free 37 (x := "len") rfl
  have g_range := Y.free 38 (x := "range") rfl
  have g_list := Y.free 41 (x := "list") rfl
  have S := sc_remainder
  refine fn_ok F S fun cdv A outer s H E hr => ?_
  have d : SSs (cxOf CX0 P w K mg base ["first", "second", "rest", "k", "top", "j"] "remainder" (defScope (top 18)) f cdv A outer s H E).nox (defBody (top 18)) _ m_remainder := (sss_cons (ss_set (i := 2) S.nd (se_up (se_callTy (call_list_of) o_list rfl g_list rfl (sa_cons (se_name (i := 0)) sa_nil))))
    (sss_cons (ss_for PassesOwn.never rfl (si_rangeD rfl g_range (se_up (se_op op_sub o_sub (se_callB (call_len) o_len rfl g_len rfl (sa_cons (se_name (i := 0)) sa_nil)) (se_callB (call_len) o_len rfl g_len rfl (sa_cons (se_name (i := 1)) sa_nil)))) (se_up (se_un un_neg o_neg se_int)) (se_up (se_un un_neg o_neg se_int))) (sg_name (i := 3) S.nd) (sss_cons (ss_set (i := 4) S.nd (se_up (se_ix ix_seq o_ix (se_name (i := 2)) (se_op op_sub o_sub (se_op op_addA o_add (se_name (i := 3)) (se_callB (call_len) o_len rfl g_len rfl (sa_cons (se_name (i := 1)) sa_nil))) se_int))))
    (sss_one (ss_for PassesOwn.never rfl (si_range1 rfl g_range (se_up (se_callB (call_len) o_len rfl g_len rfl (sa_cons (se_name (i := 1)) sa_nil)))) (sg_name (i := 5) S.nd) (sss_one (ss_augP (sp_name (r := 2)) (se_op op_addA o_add (se_name (i := 3)) (se_name (i := 5))) (se_op op_mulA o_mul (se_name (i := 4)) (se_ix ix_seq o_ix (se_name (i := 1)) (se_name (i := 5)))) ip_sub))))))
    (sss_one (ss_ret (se_call (ws := [1]) (fn := fn_trimmed) (ld := [some 2]) F_trimmed (hr.mono (by omega)) rfl g_trimmed k_trimmed b_trimmed (sl_lend (i := 2) sl_nil))))))
  exact d.mono (by decide)
theorem ok_remainder (Y : Says K mg) : UF P w K mg base "remainder" 2 ["first", "second"] [2, 3, 4, 5] fn_remainder := by
  obtain ⟨f, fd, gf, F⟩ := Y.def_ 14 (x := "remainder") (st := top 18) rfl rfl
  exact ⟨f, fd, gf, F.kp, F.bindsN fun _ _ _ _ _ _ us hl => match us, hl with | [_, _], _ => rfl, fk_remainder Y F⟩
theorem sc__law_rest : FnScope ["row", "other", "rest", "one", "k", "top", "j", "at"] ["row", "other"] (defScope (top 40)) := ⟨rfl, rfl, rfl, by decide +kernel, rfl, by decide +kernel, by decide +kernel⟩
theorem fk__law_rest (Y : Says K mg) {f : Addr} {fd : FuncData} (F : FnP K "_law_rest" (top 40) f fd) : FnOk P w K mg base CX0 2 f fd ["row", "other"] (spOf K 2 [2, 4, 5, 6, 7] fn__law_rest) := by
  obtain ⟨f__law_trimmed, fd__law_trimmed, g__law_trimmed, k__law_trimmed, b__law_trimmed, F__law_trimmed⟩ := ok__law_trimmed (P := P) (w := w) (base := base) Y
  have g_len := Y.free 37 (x := "len") rfl
  have g_range := Y.free 38 (x := "range") rfl
  have S := sc__law_rest
  refine fn_ok F S fun cdv A outer s H E hr => ?_
  have d : SSs (cxOf CX0 P w K mg base ["row", "other", "rest", "one", "k", "top", "j", "at"] "_law_rest" (defScope (top 40)) f cdv A outer s H E).nox (defBody (top 40)) _ m__law_rest := (sss_cons (ss_setLc (i := 2) rfl S.nd (own := [("one", 3)]) (L2.blkOk_by (by rfl)) (si_take (i := 0)) (fun s0 H0 C0 cl0 fp0 => (sg_name (i := 3) S.nd)) (fun s0 H0 C0 cl0 fp0 => sts_nil) (fun s0 H0 C0 cl0 fp0 => (se_frz (i := 3))) (hsw := by rfl))
    (sss_cons (ss_for PassesOwn.never rfl (si_rangeD rfl g_range (se_up (se_op op_sub o_sub (se_callB (call_len) o_len rfl g_len rfl (sa_cons (se_name (i := 0)) sa_nil)) se_int)) (se_up (se_op op_sub o_sub (se_callB (call_len) o_len rfl g_len rfl (sa_cons (se_name (i := 1)) sa_nil)) se_int)) (se_up (se_un un_neg o_neg se_int))) (sg_name (i := 4) S.nd) (sss_cons (ss_set (i := 5) S.nd (se_up (se_ix ix_seq o_ix (se_name (i := 2)) (se_name (i := 4)))))
    (sss_one (ss_for PassesOwn.never rfl (si_range1 rfl g_range (se_up (se_callB (call_len) o_len rfl g_len rfl (sa_cons (se_name (i := 1)) sa_nil)))) (sg_name (i := 6) S.nd) (sss_cons (ss_set (i := 7) S.nd (se_up (se_op op_addA o_add (se_op op_addA o_add (se_op op_sub o_sub (se_name (i := 4)) (se_callB (call_len) o_len rfl g_len rfl (sa_cons (se_name (i := 1)) sa_nil))) se_int) (se_name (i := 6)))))
    (sss_one (ss_asg (se_up (se_op op_sub o_sub (se_ix ix_seq o_ix (se_name (i := 2)) (se_name (i := 7))) (se_op op_mulA o_mul (se_name (i := 5)) (se_ix ix_seq o_ix (se_name (i := 1)) (se_name (i := 6)))))) (sg_sub (sp_name (r := 2)) (se_name (i := 7))))))))))
    (sss_one (ss_ret (se_call (ws := [0]) (fn := fn__law_trimmed) (ld := [none]) F__law_trimmed (hr.mono (by omega)) rfl g__law_trimmed k__law_trimmed b__law_trimmed (sl_val (se_frz (i := 2)) sl_nil))))))
  exact d.mono (by decide)
theorem ok__law_rest (Y : Says K mg) : UF P w K mg base "_law_rest" 2 ["row", "other"] [2, 4, 5, 6, 7] fn__law_rest := by
  obtain ⟨f, fd, gf, F⟩ := Y.def_ 35 (x := "_law_rest") (st := top 40) rfl rfl
  exact ⟨f, fd, gf, F.kp, F.bindsN fun _ _ _ _ _ _ us hl => match us, hl with | [_, _], _ => rfl, fk__law_rest Y F⟩
theorem sc__law_same : FnScope ["told", "due", "k"] ["told", "due"] (defScope (top 27)) := ⟨rfl, rfl, rfl, by decide +kernel, rfl, by decide +kernel, by decide +kernel⟩
theorem fk__law_same (Y : Says K mg) {f : Addr} {fd : FuncData} (F : FnP K "_law_same" (top 27) f fd) {fn_self : Fn} {k_ : Nat} (hk : 0 ≤ k_) (Z : UF P w K mg base "_law_same" k_ ["told", "due"] [] fn_self) : FnOk P w K mg base CX0 (k_ + 1) f fd ["told", "due"] (spOf K 2 [] (fnD 3 (m__law_same fn_self))) := by
  obtain ⟨f__law_same, fd__law_same, g__law_same, k__law_same, b__law_same, F__law_same⟩ := Z
  have g_len := Y.free 37 (x := "len") rfl
  have g_range := Y.free 38 (x := "range") rfl
  have g_isinstance := Y.free 42 (x := "isinstance") rfl
  have g_list := Y.free 41 (x := "list") rfl
  have g_tuple := Y.free 40 (x := "tuple") rfl
  have g_str := Y.free 43 (x := "str") rfl
  have g_int := Y.free 44 (x := "int") rfl
  have g_bool := Y.free 45 (x := "bool") rfl
  have S := sc__law_same
  refine fn_ok F S fun cdv A outer s H E hr => ?_
  have d : SSs (cxOf CX0 P w K mg base ["told", "due", "k"] "_law_same" (defScope (top 27)) f cdv A outer s H E).nox (defBody (top 27)) _ (m__law_same fn_self) := (sss_cons (ss_if (st_up (st_cmp op_isN o_isN (se_name (i := 1)) se_non)) (sss_one (ss_ret (se_up (se_cmp op_isN o_isN (se_name (i := 0)) se_non)))) sss_nil)
    (sss_cons (ss_if (st_up (st_val (se_isa (T := Ty.bool) rfl rfl g_isinstance rfl rfl g_bool rfl (se_name (i := 1))))) (sss_one (ss_ret (se_up (se_and (se_isa (T := Ty.bool) rfl rfl g_isinstance rfl rfl g_bool rfl (se_name (i := 0))) (se_one (se_cmp (op_eqD hr.units) o_eq (se_name (i := 0)) (se_name (i := 1)))))))) sss_nil)
    (sss_cons (ss_if (st_up (st_val (se_isa (T := Ty.int) rfl rfl g_isinstance rfl rfl g_int rfl (se_name (i := 1))))) (sss_one (ss_ret (se_up (se_and (se_isa (T := Ty.int) rfl rfl g_isinstance rfl rfl g_int rfl (se_name (i := 0))) (se_and (se_not (se_isa (T := Ty.bool) rfl rfl g_isinstance rfl rfl g_bool rfl (se_name (i := 0)))) (se_one (se_cmp (op_eqD hr.units) o_eq (se_name (i := 0)) (se_name (i := 1))))))))) sss_nil)
    (sss_cons (ss_if (st_up (st_val (se_isa (T := Ty.str) rfl rfl g_isinstance rfl rfl g_str rfl (se_name (i := 1))))) (sss_one (ss_ret (se_up (se_and (se_isa (T := Ty.str) rfl rfl g_isinstance rfl rfl g_str rfl (se_name (i := 0))) (se_one (se_cmp (op_eqD hr.units) o_eq (se_name (i := 0)) (se_name (i := 1)))))))) sss_nil)
    (sss_cons (ss_if (st_up (st_w (sw_or (st_w (sw_and (st_val (se_isa (T := Ty.list) rfl rfl g_isinstance rfl rfl g_list rfl (se_name (i := 1)))) (sw_and1 (st_not (st_val (se_isa (T := Ty.list) rfl rfl g_isinstance rfl rfl g_list rfl (se_name (i := 0)))))))) (sw_or1 (st_w (sw_and (st_val (se_isa (T := Ty.tuple) rfl rfl g_isinstance rfl rfl g_tuple rfl (se_name (i := 1)))) (sw_and1 (st_not (st_val (se_isa (T := Ty.tuple) rfl rfl g_isinstance rfl rfl g_tuple rfl (se_name (i := 0)))))))))))) (sss_one (ss_ret se_bl)) sss_nil)
    (sss_one (ss_ret (se_and (se_up (se_cmp (op_eqD hr.units) o_eq (se_callB (call_len) o_len rfl g_len rfl (sa_cons (se_name (i := 0)) sa_nil)) (se_callB (call_len) o_len rfl g_len rfl (sa_cons (se_name (i := 1)) sa_nil)))) (se_one (se_cmp (op_eqD hr.units) o_eq (se_lc rfl S.nd (own := [("k", 2)]) (L2.blkOk_by (by rfl)) (si_range1 rfl g_range (se_up (se_callB (call_len) o_len rfl g_len rfl (sa_cons (se_name (i := 1)) sa_nil)))) (fun s0 H0 C0 cl0 fp0 => (sg_name (i := 2) S.nd)) (fun s0 H0 C0 cl0 fp0 => (sts_one (st_not (st_val (se_call (ws := []) (fn := fn_self) (ld := [none, none]) F__law_same (hr.mono (by omega)) rfl g__law_same k__law_same b__law_same (sl_val (se_up (se_ix ix_seq o_ix (se_name (i := 0)) (se_name (i := 2)))) (sl_val (se_up (se_ix ix_seq o_ix (se_name (i := 1)) (se_name (i := 2)))) sl_nil))))))) (fun s0 H0 C0 cl0 fp0 => se_int)) (se_up (se_lst sa_nil))))))))))))
  exact d.mono (by decide)
theorem ok__law_same (Y : Says K mg) : UF P w K mg base "_law_same" 6 ["told", "due"] [] fn__law_same := by
  obtain ⟨f, fd, gf, F⟩ := Y.def_ 22 (x := "_law_same") (st := top 27) rfl rfl
  have go : ∀ n, UF P w K mg base "_law_same" (n + 0) ["told", "due"] [] (fnR 3 m__law_same n) := fun n => by
    induction n with
    | zero => exact ⟨f, fd, gf, F.kp, F.bindsN fun _ _ _ _ _ _ us hl => match us, hl with | [_, _], _ => rfl, fn_none rfl⟩
    | succ n ih => exact ⟨f, fd, gf, F.kp, F.bindsN fun _ _ _ _ _ _ us hl => match us, hl with | [_, _], _ => rfl, (fk__law_same Y F (by omega) ih).mono (by omega)⟩
  exact go 6
theorem sc__law_pick : FnScope ["state", "limit", "cell", "drawn"] ["state", "limit"] (defScope (top 26)) := ⟨rfl, rfl, rfl, by decide +kernel, rfl, by decide +kernel, by decide +kernel⟩
theorem fk__law_pick (Y : Says K mg) {f : Addr} {fd : FuncData} (F : FnP K "_law_pick" (top 26) f fd) : FnOk P w K mg base CX0 1 f fd ["state", "limit"] (spOf K 2 [2, 3] fn__law_pick) := by
  have g_int := Y.free 44 (x := "int") rfl
  have g_len := Y.free 37 (x := "len") rfl
  have g_abs := Y.free 46 (x := "abs") rfl
  have S := sc__law_pick
  refine fn_ok F S fun cdv A outer s H E hr => ?_
  have d : SSs (cxOf CX0 P w K mg base ["state", "limit", "cell", "drawn"] "_law_pick" (defScope (top 26)) f cdv A outer s H E).nox (defBody (top 26)) _ m__law_pick := (sss_cons (ss_if (st_up (st_w (sw_and (st_cmp (op_eqD hr.units) o_eq (se_ix ix_seq o_ix (se_name (i := 0)) se_int) se_int) (sw_and1 (st_cmp op_lt o_lt (se_ix ix_seq o_ix (se_name (i := 0)) se_int) (se_callB (call_len) o_len rfl g_len rfl (sa_cons (se_ix ix_seq o_ix (se_name (i := 0)) se_int) sa_nil))))))) (sss_cons (ss_set (i := 2) S.nd (se_up (se_callB (call_abs) o_abs rfl g_abs rfl (sa_cons (se_ix ix_seq o_ix (se_ix ix_seq o_ix (se_name (i := 0)) se_int) (se_ix ix_seq o_ix (se_name (i := 0)) se_int)) sa_nil))))
    (sss_cons (ss_asg (se_up (se_op op_addA o_add (se_ix ix_seq o_ix (se_name (i := 0)) se_int) se_int)) (sg_sub (sp_name (r := 0)) se_int))
    (sss_one (ss_if (st_up (st_cmp op_ge o_ge (se_name (i := 2)) (se_op op_pow o_pow se_int se_int))) (sss_one (ss_asg (se_frz (i := 2)) (sg_sub (sp_name (r := 0)) se_int))) (sss_one (ss_asg (se_up (se_op op_addA o_add (se_op op_mod o_mod (se_callTy (call_int1) o_int1 rfl g_int rfl (sa_cons (se_op op_addA o_add (se_op op_mulA o_mul (se_ix ix_seq o_ix (se_name (i := 0)) se_int) se_int) (se_name (i := 2))) sa_nil)) se_int) se_int)) (sg_sub (sp_name (r := 0)) se_int))))))) sss_nil)
    (sss_cons (ss_if (st_up (st_cmp op_gt o_gt (se_ix ix_seq o_ix (se_name (i := 0)) se_int) se_int)) (sss_cons (ss_set (i := 3) S.nd (se_up (se_op op_mod o_mod (se_callTy (call_int1) o_int1 rfl g_int rfl (sa_cons (se_ix ix_seq o_ix (se_name (i := 0)) se_int) sa_nil)) (se_name (i := 1)))))
    (sss_cons (ss_asg (se_up (se_op op_fdiv o_div (se_ix ix_seq o_ix (se_name (i := 0)) se_int) (se_name (i := 1)))) (sg_sub (sp_name (r := 0)) se_int))
    (sss_one (ss_ret (se_move (i := 3)))))) sss_nil)
    (sss_cons (ss_asg (se_up (se_op op_mod o_mod (se_callTy (call_int1) o_int1 rfl g_int rfl (sa_cons (se_op op_mulA o_mul (se_ix ix_seq o_ix (se_name (i := 0)) se_int) se_int) sa_nil)) se_int)) (sg_sub (sp_name (r := 0)) se_int))
    (sss_one (ss_ret (se_up (se_op op_mod o_mod (se_callTy (call_int1) o_int1 rfl g_int rfl (sa_cons (se_op op_addA o_add (se_op op_fdiv o_div (se_ix ix_seq o_ix (se_name (i := 0)) se_int) se_int) (se_op op_mod o_mod (se_callTy (call_int1) o_int1 rfl g_int rfl (sa_cons (se_op op_mulA o_mul (se_ix ix_seq o_ix (se_name (i := 0)) se_int) (se_ix ix_seq o_ix (se_name (i := 0)) se_int)) sa_nil)) se_int)) sa_nil)) (se_name (i := 1)))))))))
  exact d.mono (by decide)
theorem ok__law_pick (Y : Says K mg) : UF P w K mg base "_law_pick" 1 ["state", "limit"] [2, 3] fn__law_pick := by
  obtain ⟨f, fd, gf, F⟩ := Y.def_ 21 (x := "_law_pick") (st := top 26) rfl rfl
  exact ⟨f, fd, gf, F.kp, F.bindsN fun _ _ _ _ _ _ us hl => match us, hl with | [_, _], _ => rfl, fk__law_pick Y F⟩
theorem sc_quotient_of : FnScope ["first", "second", "rest", "found", "lead", "k", "top", "j"] ["first", "second"] (defScope (top 3)) := ⟨rfl, rfl, rfl, by decide +kernel, rfl, by decide +kernel, by decide +kernel⟩
theorem fk_quotient_of (Y : Says K mg) {f : Addr} {fd : FuncData} (F : FnP K "quotient_of" (top 3) f fd) : FnOk P w K mg base CX0 2 f fd ["first", "second"] (spOf K 2 [2, 3, 4, 5, 6, 7] fn_quotient_of) := by
  obtain ⟨f_trimmed, fd_trimmed, g_trimmed, k_trimmed, b_trimmed, F_trimmed⟩ := ok_trimmed (P := P) (w := w) (base := base) Y
  have g_len := Y.free 37 (x := "len") rfl
  have g_range := Y.free 38 (x := "range") rfl
  have g_list := Y.free 41 (x := "list") rfl
  have S := sc_quotient_of
  refine fn_ok F S fun cdv A outer s H E hr => ?_
  have d : SSs (cxOf CX0 P w K mg base ["first", "second", "rest", "found", "lead", "k", "top", "j"] "quotient_of" (defScope (top 3)) f cdv A outer s H E).nox (defBody (top 3)) _ m_quotient_of := (sss_cons (ss_par (i := 2) (j := 3) rfl S.nd (sa_cons (se_up (se_callTy (call_list_of) o_list rfl g_list rfl (sa_cons (se_name (i := 0)) sa_nil))) (sa_cons (se_up (se_lst sa_nil)) sa_nil)))
    (sss_cons (ss_set (i := 4) S.nd (se_up (se_ix ix_seq o_ix (se_name (i := 1)) (se_op op_sub o_sub (se_callB (call_len) o_len rfl g_len rfl (sa_cons (se_name (i := 1)) sa_nil)) se_int))))
    (sss_cons (ss_for PassesOwn.never rfl (si_rangeD rfl g_range (se_up (se_op op_sub o_sub (se_callB (call_len) o_len rfl g_len rfl (sa_cons (se_name (i := 0)) sa_nil)) (se_callB (call_len) o_len rfl g_len rfl (sa_cons (se_name (i := 1)) sa_nil)))) (se_up (se_un un_neg o_neg se_int)) (se_up (se_un un_neg o_neg se_int))) (sg_name (i := 5) S.nd) (sss_cons (ss_set (i := 6) S.nd (se_up (se_ix ix_seq o_ix (se_name (i := 2)) (se_op op_sub o_sub (se_op op_addA o_add (se_name (i := 5)) (se_callB (call_len) o_len rfl g_len rfl (sa_cons (se_name (i := 1)) sa_nil))) se_int))))
    (sss_cons (ss_if (st_up (st_cmp (op_neD hr.units) o_ne (se_name (i := 6)) (se_op op_mulA o_mul (se_name (i := 4)) (se_op op_fdiv o_div (se_name (i := 6)) (se_name (i := 4)))))) (sss_one (ss_ret se_non)) sss_nil)
    (sss_cons (ss_app (r := 3) (se_up (se_op op_fdiv o_div (se_name (i := 6)) (se_name (i := 4)))))
    (sss_one (ss_for PassesOwn.never rfl (si_range1 rfl g_range (se_up (se_callB (call_len) o_len rfl g_len rfl (sa_cons (se_name (i := 1)) sa_nil)))) (sg_name (i := 7) S.nd) (sss_one (ss_augP (sp_name (r := 2)) (se_op op_addA o_add (se_name (i := 5)) (se_name (i := 7))) (se_op op_mulA o_mul (se_ix ix_seq o_ix (se_name (i := 3)) (se_un un_neg o_neg se_int)) (se_ix ix_seq o_ix (se_name (i := 1)) (se_name (i := 7)))) ip_sub))))))))
    (sss_one (ss_ret (se_if (st_cmp (op_eqD hr.units) o_eq (se_call (ws := [1]) (fn := fn_trimmed) (ld := [some 2]) F_trimmed (hr.mono (by omega)) rfl g_trimmed k_trimmed b_trimmed (sl_lend (i := 2) sl_nil)) (se_up (se_tup sa_nil))) (se_call (ws := [1]) (fn := fn_trimmed) (ld := [none]) F_trimmed (hr.mono (by omega)) rfl g_trimmed k_trimmed b_trimmed (sl_val (se_up (se_revL (se_name (i := 3)))) sl_nil)) se_non))))))
  exact d.mono (by decide)
theorem ok_quotient_of (Y : Says K mg) : UF P w K mg base "quotient_of" 2 ["first", "second"] [2, 3, 4, 5, 6, 7] fn_quotient_of := by
  obtain ⟨f, fd, gf, F⟩ := Y.def_ 2 (x := "quotient_of") (st := top 3) rfl rfl
  exact ⟨f, fd, gf, F.kp, F.bindsN fun _ _ _ _ _ _ us hl => match us, hl with | [_, _], _ => rfl, fk_quotient_of Y F⟩
theorem sc_cyclotomic : FnScope ["order", "found", "less"] ["order"] (defScope (top 17)) := ⟨rfl, rfl, rfl, by decide +kernel, rfl, by decide +kernel, by decide +kernel⟩
theorem fk_cyclotomic (Y : Says K mg) {f : Addr} {fd : FuncData} (F : FnP K "cyclotomic" (top 17) f fd) {fn_self : Fn} {k_ : Nat} (hk : 2 ≤ k_) (Z : UF P w K mg base "cyclotomic" k_ ["order"] [1, 2] fn_self) : FnOk P w K mg base CX0 (k_ + 1) f fd ["order"] (spOf K 1 [1, 2] (fnD 3 (m_cyclotomic fn_self))) := by
  obtain ⟨f_cyclotomic, fd_cyclotomic, g_cyclotomic, k_cyclotomic, b_cyclotomic, F_cyclotomic⟩ := Z
  obtain ⟨f_quotient_of, fd_quotient_of, g_quotient_of, k_quotient_of, b_quotient_of, F_quotient_of⟩ := ok_quotient_of (P := P) (w := w) (base := base) Y
  obtain ⟨f_trimmed, fd_trimmed, g_trimmed, k_trimmed, b_trimmed, F_trimmed⟩ := ok_trimmed (P := P) (w := w) (base := base) Y
  have g_range := Y.free 38 (x := "range") rfl
  have g_int := Y.free 44 (x := "int") rfl
  have S := sc_cyclotomic
  refine fn_ok F S fun cdv A outer s H E hr => ?_
  have d : SSs (cxOf CX0 P w K mg base ["order", "found", "less"] "cyclotomic" (defScope (top 17)) f cdv A outer s H E).nox (defBody (top 17)) _ (m_cyclotomic fn_self) := (sss_cons (ss_set (i := 1) S.nd (se_call (ws := [1]) (fn := fn_trimmed) (ld := [none]) F_trimmed (hr.mono (by omega)) rfl g_trimmed k_trimmed b_trimmed (sl_val (se_up (se_op op_addA o_add (se_op op_addA o_add (se_lst (sa_cons (se_un un_neg o_neg se_int) sa_nil)) (se_op op_mulA o_mul (se_lst (sa_cons se_int sa_nil)) (se_op op_sub o_sub (se_name (i := 0)) se_int))) (se_lst (sa_cons se_int sa_nil)))) sl_nil)))
    (sss_cons (ss_for PassesOwn.never rfl (si_range2 rfl g_range se_int (se_frz (i := 0))) (sg_name (i := 2) S.nd) (sss_one (ss_if (st_up (st_cmp (op_eqD hr.units) o_eq (se_op op_mod o_mod (se_callTy (call_int1) o_int1 rfl g_int rfl (sa_cons (se_name (i := 0)) sa_nil)) (se_name (i := 2))) se_int)) (sss_one (ss_set (i := 1) S.nd (se_call (ws := [2, 3, 4, 5, 6, 7]) (fn := fn_quotient_of) (ld := [some 1, none]) F_quotient_of (hr.mono (by omega)) rfl g_quotient_of k_quotient_of b_quotient_of (sl_lend (i := 1) (sl_val (se_call (ws := [1, 2]) (fn := fn_self) (ld := [some 2]) F_cyclotomic (hr.mono (by omega)) rfl g_cyclotomic k_cyclotomic b_cyclotomic (sl_lend (i := 2) sl_nil)) sl_nil))))) sss_nil)))
    (sss_one (ss_ret (se_move (i := 1))))))
  exact d.mono (by decide)
theorem ok_cyclotomic (Y : Says K mg) : UF P w K mg base "cyclotomic" 8 ["order"] [1, 2] fn_cyclotomic := by
  obtain ⟨f, fd, gf, F⟩ := Y.def_ 13 (x := "cyclotomic") (st := top 17) rfl rfl
  have go : ∀ n, UF P w K mg base "cyclotomic" (n + 2) ["order"] [1, 2] (fnR 3 m_cyclotomic n) := fun n => by
    induction n with
    | zero => exact ⟨f, fd, gf, F.kp, F.bindsN fun _ _ _ _ _ _ us hl => match us, hl with | [_], _ => rfl, fn_none rfl⟩
    | succ n ih => exact ⟨f, fd, gf, F.kp, F.bindsN fun _ _ _ _ _ _ us hl => match us, hl with | [_], _ => rfl, (fk_cyclotomic Y F (by omega) ih).mono (by omega)⟩
  exact go 6
theorem sc_at_root : FnScope ["polynomial", "order", "rest"] ["polynomial", "order"] (defScope (top 19)) := ⟨rfl, rfl, rfl, by decide +kernel, rfl, by decide +kernel, by decide +kernel⟩
theorem fk_at_root (Y : Says K mg) {f : Addr} {fd : FuncData} (F : FnP K "at_root" (top 19) f fd) : FnOk P w K mg base CX0 9 f fd ["polynomial", "order"] (spOf K 2 [2] fn_at_root) := by
  obtain ⟨f_remainder, fd_remainder, g_remainder, k_remainder, b_remainder, F_remainder⟩ := ok_remainder (P := P) (w := w) (base := base) Y
  obtain ⟨f_cyclotomic, fd_cyclotomic, g_cyclotomic, k_cyclotomic, b_cyclotomic, F_cyclotomic⟩ := ok_cyclotomic (P := P) (w := w) (base := base) Y
  have g_len := Y.free 37 (x := "len") rfl
  have S := sc_at_root
  refine fn_ok F S fun cdv A outer s H E hr => ?_
  have d : SSs (cxOf CX0 P w K mg base ["polynomial", "order", "rest"] "at_root" (defScope (top 19)) f cdv A outer s H E).nox (defBody (top 19)) _ m_at_root := (sss_cons (ss_set (i := 2) S.nd (se_call (ws := [2, 3, 4, 5]) (fn := fn_remainder) (ld := [some 0, none]) F_remainder (hr.mono (by omega)) rfl g_remainder k_remainder b_remainder (sl_lend (i := 0) (sl_val (se_call (ws := [1, 2]) (fn := fn_cyclotomic) (ld := [some 1]) F_cyclotomic (hr.mono (by omega)) rfl g_cyclotomic k_cyclotomic b_cyclotomic (sl_lend (i := 1) sl_nil)) sl_nil))))
    (sss_cons (ss_if (st_up (st_cmp op_gt o_gt (se_callB (call_len) o_len rfl g_len rfl (sa_cons (se_name (i := 2)) sa_nil)) se_int)) (sss_one (ss_ret se_non)) sss_nil)
    (sss_one (ss_ret (se_if (st_up (st_cmp (op_eqD hr.units) o_eq (se_callB (call_len) o_len rfl g_len rfl (sa_cons (se_name (i := 2)) sa_nil)) se_int)) (se_up (se_ix ix_seq o_ix (se_name (i := 2)) se_int)) se_int)))))
  exact d.mono (by decide)
theorem ok_at_root (Y : Says K mg) : UF P w K mg base "at_root" 9 ["polynomial", "order"] [2] fn_at_root := by
  obtain ⟨f, fd, gf, F⟩ := Y.def_ 15 (x := "at_root") (st := top 19) rfl rfl
  exact ⟨f, fd, gf, F.kp, F.bindsN fun _ _ _ _ _ _ us hl => match us, hl with | [_, _], _ => rfl, fk_at_root Y F⟩
theorem sc__law_times : FnScope ["first", "second", "found", "k", "j"] ["first", "second"] (defScope (top 28)) := ⟨rfl, rfl, rfl, by decide +kernel, rfl, by decide +kernel, by decide +kernel⟩
theorem fk__law_times (Y : Says K mg) {f : Addr} {fd : FuncData} (F : FnP K "_law_times" (top 28) f fd) : FnOk P w K mg base CX0 2 f fd ["first", "second"] (spOf K 2 [2, 3, 4] fn__law_times) := by
  obtain ⟨f__law_trimmed, fd__law_trimmed, g__law_trimmed, k__law_trimmed, b__law_trimmed, F__law_trimmed⟩ := ok__law_trimmed (P := P) (w := w) (base := base) Y
  have g_len := Y.free 37 (x := "len") rfl
  have g_range := Y.free 38 (x := "range") rfl
  have S := sc__law_times
  refine fn_ok F S fun cdv A outer s H E hr => ?_
  have d : SSs (cxOf CX0 P w K mg base ["first", "second", "found", "k", "j"] "_law_times" (defScope (top 28)) f cdv A outer s H E).nox (defBody (top 28)) _ m__law_times := (sss_cons (ss_setLc (i := 2) rfl S.nd (own := [("k", 3)]) (L2.blkOk_by (by rfl)) (si_range1 rfl g_range (se_up (se_op op_addA o_add (se_callB (call_len) o_len rfl g_len rfl (sa_cons (se_name (i := 0)) sa_nil)) (se_callB (call_len) o_len rfl g_len rfl (sa_cons (se_name (i := 1)) sa_nil))))) (fun s0 H0 C0 cl0 fp0 => (sg_name (i := 3) S.nd)) (fun s0 H0 C0 cl0 fp0 => sts_nil) (fun s0 H0 C0 cl0 fp0 => se_int) (hsw := by rfl))
    (sss_cons (ss_for PassesOwn.never rfl (si_range1 rfl g_range (se_up (se_callB (call_len) o_len rfl g_len rfl (sa_cons (se_name (i := 0)) sa_nil)))) (sg_name (i := 3) S.nd) (sss_one (ss_for PassesOwn.never rfl (si_range1 rfl g_range (se_up (se_callB (call_len) o_len rfl g_len rfl (sa_cons (se_name (i := 1)) sa_nil)))) (sg_name (i := 4) S.nd) (sss_one (ss_asg (se_up (se_op op_addA o_add (se_ix ix_seq o_ix (se_name (i := 2)) (se_op op_addA o_add (se_name (i := 3)) (se_name (i := 4)))) (se_op op_mulA o_mul (se_ix ix_seq o_ix (se_name (i := 0)) (se_name (i := 3))) (se_ix ix_seq o_ix (se_name (i := 1)) (se_name (i := 4)))))) (sg_sub (sp_name (r := 2)) (se_op op_addA o_add (se_name (i := 3)) (se_name (i := 4)))))))))
    (sss_one (ss_ret (se_call (ws := [0]) (fn := fn__law_trimmed) (ld := [none]) F__law_trimmed (hr.mono (by omega)) rfl g__law_trimmed k__law_trimmed b__law_trimmed (sl_val (se_frz (i := 2)) sl_nil))))))
  exact d.mono (by decide)
theorem ok__law_times (Y : Says K mg) : UF P w K mg base "_law_times" 2 ["first", "second"] [2, 3, 4] fn__law_times := by
  obtain ⟨f, fd, gf, F⟩ := Y.def_ 23 (x := "_law_times") (st := top 28) rfl rfl
  exact ⟨f, fd, gf, F.kp, F.bindsN fun _ _ _ _ _ _ us hl => match us, hl with | [_, _], _ => rfl, fk__law_times Y F⟩
theorem sc__law_roots : FnScope ["state", "many", "found", "one", "k", "prime", "row", "other", "rest", "order", "left", "due"] ["state"] (defScope (top 39)) := ⟨rfl, rfl, rfl, by decide +kernel, rfl, by decide +kernel, by decide +kernel⟩
theorem fk__law_roots (Y : Says K mg) {f : Addr} {fd : FuncData} (F : FnP K "_law_roots" (top 39) f fd) : FnOk P w K mg base CX0 10 f fd ["state"] (spOf K 1 [1, 2, 3, 5, 6, 7, 8, 9, 10, 11] fn__law_roots) := by
  obtain ⟨f__law_same, fd__law_same, g__law_same, k__law_same, b__law_same, F__law_same⟩ := ok__law_same (P := P) (w := w) (base := base) Y
  obtain ⟨f_at_root, fd_at_root, g_at_root, k_at_root, b_at_root, F_at_root⟩ := ok_at_root (P := P) (w := w) (base := base) Y
  obtain ⟨f__law_rest, fd__law_rest, g__law_rest, k__law_rest, b__law_rest, F__law_rest⟩ := ok__law_rest (P := P) (w := w) (base := base) Y
  obtain ⟨f_cyclotomic, fd_cyclotomic, g_cyclotomic, k_cyclotomic, b_cyclotomic, F_cyclotomic⟩ := ok_cyclotomic (P := P) (w := w) (base := base) Y
  obtain ⟨f__law_pick, fd__law_pick, g__law_pick, k__law_pick, b__law_pick, F__law_pick⟩ := ok__law_pick (P := P) (w := w) (base := base) Y
  obtain ⟨f_remainder, fd_remainder, g_remainder, k_remainder, b_remainder, F_remainder⟩ := ok_remainder (P := P) (w := w) (base := base) Y
  obtain ⟨f__law_trimmed, fd__law_trimmed, g__law_trimmed, k__law_trimmed, b__law_trimmed, F__law_trimmed⟩ := ok__law_trimmed (P := P) (w := w) (base := base) Y
  obtain ⟨f__law_times, fd__law_times, g__law_times, k__law_times, b__law_times, F__law_times⟩ := ok__law_times (P := P) (w := w) (base := base) Y
  have g_len := Y.free 37 (x := "len") rfl
  have g_sum := Y.free 47 (x := "sum") rfl
  have g_range := Y.free 38 (x := "range") rfl
  have g_int := Y.free 44 (x := "int") rfl
  have S := sc__law_roots
  refine fn_ok F S fun cdv A outer s H E hr => ?_
  have d : SSs (cxOf CX0 P w K mg base ["state", "many", "found", "one", "k", "prime", "row", "other", "rest", "order", "left", "due"] "_law_roots" (defScope (top 39)) f cdv A outer s H E).nox (defBody (top 39)) _ m__law_roots := (sss_cons (ss_set (i := 1) S.nd (se_op op_addA o_add se_int (se_call (ws := [2, 3]) (fn := fn__law_pick) (ld := [some 0, none]) F__law_pick (hr.mono (by omega)) rfl g__law_pick k__law_pick b__law_pick (sl_lend (i := 0) (sl_val se_int sl_nil)))))
    (sss_cons (ss_set (i := 2) S.nd (se_up (se_tup (sa_cons se_int sa_nil))))
    (sss_cons (ss_for PassesOwn.never rfl (si_range2 rfl g_range se_int (se_up (se_op op_addA o_add (se_name (i := 1)) se_int))) (sg_name (i := 3) S.nd) (sss_one (ss_if (st_up (st_cmp (op_eqD hr.units) o_eq (se_op op_mod o_mod (se_callTy (call_int1) o_int1 rfl g_int rfl (sa_cons (se_name (i := 1)) sa_nil)) (se_name (i := 3))) se_int)) (sss_one (ss_set (i := 2) S.nd (se_call (ws := [2, 3, 4]) (fn := fn__law_times) (ld := [some 2, none]) F__law_times (hr.mono (by omega)) rfl g__law_times k__law_times b__law_times (sl_lend (i := 2) (sl_val (se_call (ws := [1, 2]) (fn := fn_cyclotomic) (ld := [some 3]) F_cyclotomic (hr.mono (by omega)) rfl g_cyclotomic k_cyclotomic b_cyclotomic (sl_lend (i := 3) sl_nil)) sl_nil))))) sss_nil)))
    (sss_cons (ss_if (st_w (sw_or (st_cmp (op_neD hr.units) o_ne (se_frz (i := 2)) (se_call (ws := [0]) (fn := fn__law_trimmed) (ld := [none]) F__law_trimmed (hr.mono (by omega)) rfl g__law_trimmed k__law_trimmed b__law_trimmed (sl_val (se_op op_addA o_add (se_op op_addA o_add (se_up (se_lst (sa_cons (se_un un_neg o_neg se_int) sa_nil))) (se_lc rfl S.nd (own := [("k", 4)]) (L2.blkOk_by (by rfl)) (si_range1 rfl g_range (se_up (se_op op_sub o_sub (se_name (i := 1)) se_int))) (fun s0 H0 C0 cl0 fp0 => (sg_name (i := 4) S.nd)) (fun s0 H0 C0 cl0 fp0 => sts_nil) (fun s0 H0 C0 cl0 fp0 => se_int))) (se_up (se_lst (sa_cons se_int sa_nil)))) sl_nil))) (sw_or (st_cmp op_lt o_lt (se_callB (call_len) o_len rfl g_len rfl (sa_cons (se_call (ws := [1, 2]) (fn := fn_cyclotomic) (ld := [some 1]) F_cyclotomic (hr.mono (by omega)) rfl g_cyclotomic k_cyclotomic b_cyclotomic (sl_lend (i := 1) sl_nil)) sa_nil)) se_int) (sw_or1 (st_cmp (op_neD hr.units) o_ne (se_ix ix_seq o_ix (se_call (ws := [1, 2]) (fn := fn_cyclotomic) (ld := [some 1]) F_cyclotomic (hr.mono (by omega)) rfl g_cyclotomic k_cyclotomic b_cyclotomic (sl_lend (i := 1) sl_nil)) (se_up (se_un un_neg o_neg se_int))) se_int))))) (sss_one (ss_ret se_bl)) sss_nil)
    (sss_cons (ss_set (i := 5) S.nd (se_ix ix_seq o_ix (se_up (se_lst (sa_cons se_int (sa_cons se_int (sa_cons se_int (sa_cons se_int (sa_cons se_int (sa_cons se_int sa_nil)))))))) (se_call (ws := [2, 3]) (fn := fn__law_pick) (ld := [some 0, none]) F__law_pick (hr.mono (by omega)) rfl g__law_pick k__law_pick b__law_pick (sl_lend (i := 0) (sl_val se_int sl_nil)))))
    (sss_cons (ss_if (st_w (sw_or (st_not (st_val (se_call (ws := []) (fn := fn__law_same) (ld := [none, none]) F__law_same (hr.mono (by omega)) rfl g__law_same k__law_same b__law_same (sl_val (se_call (ws := [1, 2]) (fn := fn_cyclotomic) (ld := [some 5]) F_cyclotomic (hr.mono (by omega)) rfl g_cyclotomic k_cyclotomic b_cyclotomic (sl_lend (i := 5) sl_nil)) (sl_val (se_up (se_op op_repTA o_mulT (se_tup (sa_cons se_int sa_nil)) (se_name (i := 5)))) sl_nil))))) (sw_or1 (st_not (st_val (se_call (ws := []) (fn := fn__law_same) (ld := [none, none]) F__law_same (hr.mono (by omega)) rfl g__law_same k__law_same b__law_same (sl_val (se_call (ws := [1, 2]) (fn := fn_cyclotomic) (ld := [none]) F_cyclotomic (hr.mono (by omega)) rfl g_cyclotomic k_cyclotomic b_cyclotomic (sl_val se_int sl_nil)) (sl_val (se_up (se_tup (sa_cons (se_un un_neg o_neg se_int) (sa_cons se_int sa_nil)))) sl_nil)))))))) (sss_one (ss_ret se_bl)) sss_nil)
    (sss_cons (ss_set (i := 6) S.nd (se_call (ws := [0]) (fn := fn__law_trimmed) (ld := [none]) F__law_trimmed (hr.mono (by omega)) rfl g__law_trimmed k__law_trimmed b__law_trimmed (sl_val (se_lc rfl S.nd (own := [("k", 4)]) (L2.blkOk_by (by rfl)) (si_range1 rfl g_range (se_call (ws := [2, 3]) (fn := fn__law_pick) (ld := [some 0, none]) F__law_pick (hr.mono (by omega)) rfl g__law_pick k__law_pick b__law_pick (sl_lend (i := 0) (sl_val se_int sl_nil)))) (fun s0 H0 C0 cl0 fp0 => (sg_name (i := 4) S.nd)) (fun s0 H0 C0 cl0 fp0 => sts_nil) (fun s0 H0 C0 cl0 fp0 => (se_op op_sub o_sub (se_call (ws := [2, 3]) (fn := fn__law_pick) (ld := [some 0, none]) F__law_pick (hr.mono (by omega)) rfl g__law_pick k__law_pick b__law_pick (sl_lend (i := 0) (sl_val se_int sl_nil))) se_int))) sl_nil)))
    (sss_cons (ss_set (i := 7) S.nd (se_call (ws := [0]) (fn := fn__law_trimmed) (ld := [none]) F__law_trimmed (hr.mono (by omega)) rfl g__law_trimmed k__law_trimmed b__law_trimmed (sl_val (se_op op_addA o_add (se_lc rfl S.nd (own := [("k", 4)]) (L2.blkOk_by (by rfl)) (si_range1 rfl g_range (se_call (ws := [2, 3]) (fn := fn__law_pick) (ld := [some 0, none]) F__law_pick (hr.mono (by omega)) rfl g__law_pick k__law_pick b__law_pick (sl_lend (i := 0) (sl_val se_int sl_nil)))) (fun s0 H0 C0 cl0 fp0 => (sg_name (i := 4) S.nd)) (fun s0 H0 C0 cl0 fp0 => sts_nil) (fun s0 H0 C0 cl0 fp0 => (se_op op_sub o_sub (se_call (ws := [2, 3]) (fn := fn__law_pick) (ld := [some 0, none]) F__law_pick (hr.mono (by omega)) rfl g__law_pick k__law_pick b__law_pick (sl_lend (i := 0) (sl_val se_int sl_nil))) se_int))) (se_up (se_lst (sa_cons se_int sa_nil)))) sl_nil)))
    (sss_cons (ss_set (i := 8) S.nd (se_call (ws := [2, 3, 4, 5]) (fn := fn_remainder) (ld := [some 6, some 7]) F_remainder (hr.mono (by omega)) rfl g_remainder k_remainder b_remainder (sl_lend (i := 6) (sl_lend (i := 7) sl_nil))))
    (sss_cons (ss_if (st_w (sw_or (st_up (st_cmp op_ge o_ge (se_callB (call_len) o_len rfl g_len rfl (sa_cons (se_name (i := 8)) sa_nil)) (se_callB (call_len) o_len rfl g_len rfl (sa_cons (se_name (i := 7)) sa_nil)))) (sw_or1 (st_not (st_val (se_call (ws := []) (fn := fn__law_same) (ld := [some 8, none]) F__law_same (hr.mono (by omega)) rfl g__law_same k__law_same b__law_same (sl_lend (i := 8) (sl_val (se_call (ws := [2, 4, 5, 6, 7]) (fn := fn__law_rest) (ld := [some 6, some 7]) F__law_rest (hr.mono (by omega)) rfl g__law_rest k__law_rest b__law_rest (sl_lend (i := 6) (sl_lend (i := 7) sl_nil))) sl_nil)))))))) (sss_one (ss_ret se_bl)) sss_nil)
    (sss_cons (ss_set (i := 9) S.nd (se_op op_addA o_add se_int (se_call (ws := [2, 3]) (fn := fn__law_pick) (ld := [some 0, none]) F__law_pick (hr.mono (by omega)) rfl g__law_pick k__law_pick b__law_pick (sl_lend (i := 0) (sl_val se_int sl_nil)))))
    (sss_cons (ss_set (i := 10) S.nd (se_call (ws := [2, 4, 5, 6, 7]) (fn := fn__law_rest) (ld := [some 6, none]) F__law_rest (hr.mono (by omega)) rfl g__law_rest k__law_rest b__law_rest (sl_lend (i := 6) (sl_val (se_call (ws := [1, 2]) (fn := fn_cyclotomic) (ld := [some 9]) F_cyclotomic (hr.mono (by omega)) rfl g_cyclotomic k_cyclotomic b_cyclotomic (sl_lend (i := 9) sl_nil)) sl_nil))))
    (sss_cons (ss_set (i := 11) S.nd se_non)
    (sss_cons (ss_if (st_up (st_cmp op_lt o_lt (se_callB (call_len) o_len rfl g_len rfl (sa_cons (se_name (i := 10)) sa_nil)) se_int)) (sss_one (ss_set (i := 11) S.nd (se_up (se_callB ((cr_sumA rfl)) o_sumA rfl g_sum rfl (sa_cons (se_name (i := 10)) sa_nil))))) sss_nil)
    (sss_one (ss_ret (se_call (ws := []) (fn := fn__law_same) (ld := [none, some 11]) F__law_same (hr.mono (by omega)) rfl g__law_same k__law_same b__law_same (sl_val (se_call (ws := [2]) (fn := fn_at_root) (ld := [some 6, some 9]) F_at_root (hr.mono (by omega)) rfl g_at_root k_at_root b_at_root (sl_lend (i := 6) (sl_lend (i := 9) sl_nil))) (sl_lend (i := 11) sl_nil)))))))))))))))))))
  exact d.mono (by decide)
theorem ok__law_roots (Y : Says K mg) : UF P w K mg base "_law_roots" 10 ["state"] [1, 2, 3, 5, 6, 7, 8, 9, 10, 11] fn__law_roots := by
  obtain ⟨f, fd, gf, F⟩ := Y.def_ 34 (x := "_law_roots") (st := top 39) rfl rfl
  exact ⟨f, fd, gf, F.kp, F.bindsN fun _ _ _ _ _ _ us hl => match us, hl with | [_], _ => rfl, fk__law_roots Y F⟩
theorem sc__law_numbers : FnScope ["row", "found", "one"] ["row"] (defScope (top 30)) := ⟨rfl, rfl, rfl, by decide +kernel, rfl, by decide +kernel, by decide +kernel⟩
theorem fk__law_numbers (Y : Says K mg) {f : Addr} {fd : FuncData} (F : FnP K "_law_numbers" (top 30) f fd) : FnOk P w K mg base CX0 3 f fd ["row"] (spOf K 1 [1, 2] fn__law_numbers) := by
  obtain ⟨f__law_times, fd__law_times, g__law_times, k__law_times, b__law_times, F__law_times⟩ := ok__law_times (P := P) (w := w) (base := base) Y
  have S := sc__law_numbers
  refine fn_ok F S fun cdv A outer s H E hr => ?_
  have d : SSs (cxOf CX0 P w K mg base ["row", "found", "one"] "_law_numbers" (defScope (top 30)) f cdv A outer s H E).nox (defBody (top 30)) _ m__law_numbers := (sss_cons (ss_set (i := 1) S.nd (se_up (se_tup (sa_cons se_int sa_nil))))
    (sss_cons (ss_for PassesOwn.never rfl (si_take (i := 0)) (sg_name (i := 2) S.nd) (sss_one (ss_set (i := 1) S.nd (se_call (ws := [2, 3, 4]) (fn := fn__law_times) (ld := [some 1, none]) F__law_times (hr.mono (by omega)) rfl g__law_times k__law_times b__law_times (sl_lend (i := 1) (sl_val (se_up (se_op op_repTA o_mulT (se_tup (sa_cons se_int sa_nil)) (se_name (i := 2)))) sl_nil))))) (hw := fun i e => by cases e; decide))
    (sss_one (ss_ret (se_move (i := 1))))))
  exact d.mono (by decide)
theorem ok__law_numbers (Y : Says K mg) : UF P w K mg base "_law_numbers" 3 ["row"] [1, 2] fn__law_numbers := by
  obtain ⟨f, fd, gf, F⟩ := Y.def_ 25 (x := "_law_numbers") (st := top 30) rfl rfl
  exact ⟨f, fd, gf, F.kp, F.bindsN fun _ _ _ _ _ _ us hl => match us, hl with | [_], _ => rfl, fk__law_numbers Y F⟩
theorem sc__law_tableau : FnScope ["word", "many", "rows", "k"] ["word", "many"] (defScope (top 33)) := ⟨rfl, rfl, rfl, by decide +kernel, rfl, by decide +kernel, by decide +kernel⟩
theorem fk__law_tableau (Y : Says K mg) {f : Addr} {fd : FuncData} (F : FnP K "_law_tableau" (top 33) f fd) : FnOk P w K mg base CX0 1 f fd ["word", "many"] (spOf K 2 [2, 3] fn__law_tableau) := by
  have g_len := Y.free 37 (x := "len") rfl
  have g_range := Y.free 38 (x := "range") rfl
  have S := sc__law_tableau
  refine fn_ok F S fun cdv A outer s H E hr => ?_
  have d : SSs (cxOf CX0 P w K mg base ["word", "many", "rows", "k"] "_law_tableau" (defScope (top 33)) f cdv A outer s H E).nox (defBody (top 33)) _ m__law_tableau := (sss_cons (ss_setLc (i := 2) rfl S.nd (own := [("k", 3)]) (L2.blkOk_by (by rfl)) (si_range1 rfl g_range (se_frz (i := 1))) (fun s0 H0 C0 cl0 fp0 => (sg_name (i := 3) S.nd)) (fun s0 H0 C0 cl0 fp0 => sts_nil) (fun s0 H0 C0 cl0 fp0 => (se_up (se_lst sa_nil))) (hsw := by rfl))
    (sss_cons (ss_for PassesOwn.never rfl (si_range1 rfl g_range (se_up (se_callB (call_len) o_len rfl g_len rfl (sa_cons (se_name (i := 0)) sa_nil)))) (sg_name (i := 3) S.nd) (sss_one (ss_appP (sp_ix (sp_name (r := 2)) (se_ix ix_seq o_ix (se_name (i := 0)) (se_name (i := 3)))) (se_op op_addA o_add (se_name (i := 3)) se_int))))
    (sss_one (ss_ret (se_move (i := 2))))))
  exact d.mono (by decide)
theorem ok__law_tableau (Y : Says K mg) : UF P w K mg base "_law_tableau" 1 ["word", "many"] [2, 3] fn__law_tableau := by
  obtain ⟨f, fd, gf, F⟩ := Y.def_ 28 (x := "_law_tableau") (st := top 33) rfl rfl
  exact ⟨f, fd, gf, F.kp, F.bindsN fun _ _ _ _ _ _ us hl => match us, hl with | [_, _], _ => rfl, fk__law_tableau Y F⟩
theorem sc_folded : FnScope ["polynomial", "turns", "found", "k"] ["polynomial", "turns"] (defScope (top 23)) := ⟨rfl, rfl, rfl, by decide +kernel, rfl, by decide +kernel, by decide +kernel⟩
theorem fk_folded (Y : Says K mg) {f : Addr} {fd : FuncData} (F : FnP K "folded" (top 23) f fd) : FnOk P w K mg base CX0 1 f fd ["polynomial", "turns"] (spOf K 2 [2, 3] fn_folded) := by
  have g_tuple := Y.free 40 (x := "tuple") rfl
  have g_len := Y.free 37 (x := "len") rfl
  have g_range := Y.free 38 (x := "range") rfl
  have g_int := Y.free 44 (x := "int") rfl
  have S := sc_folded
  refine fn_ok F S fun cdv A outer s H E hr => ?_
  have d : SSs (cxOf CX0 P w K mg base ["polynomial", "turns", "found", "k"] "folded" (defScope (top 23)) f cdv A outer s H E).nox (defBody (top 23)) _ m_folded := (sss_cons (ss_set (i := 2) S.nd (se_up (se_op op_mulA o_mul (se_lst (sa_cons se_int sa_nil)) (se_name (i := 1)))))
    (sss_cons (ss_for PassesOwn.never rfl (si_range1 rfl g_range (se_up (se_callB (call_len) o_len rfl g_len rfl (sa_cons (se_name (i := 0)) sa_nil)))) (sg_name (i := 3) S.nd) (sss_one (ss_augP (sp_name (r := 2)) (se_op op_mod o_mod (se_callTy (call_int1) o_int1 rfl g_int rfl (sa_cons (se_name (i := 3)) sa_nil)) (se_name (i := 1))) (se_ix ix_seq o_ix (se_name (i := 0)) (se_name (i := 3))) ip_add)))
    (sss_one (ss_ret (se_up (se_callTy (call_tuple_of) o_tuple rfl g_tuple rfl (sa_cons (se_name (i := 2)) sa_nil)))))))
  exact d.mono (by decide)
theorem ok_folded (Y : Says K mg) : UF P w K mg base "folded" 1 ["polynomial", "turns"] [2, 3] fn_folded := by
  obtain ⟨f, fd, gf, F⟩ := Y.def_ 19 (x := "folded") (st := top 23) rfl rfl
  exact ⟨f, fd, gf, F.kp, F.bindsN fun _ _ _ _ _ _ us hl => match us, hl with | [_, _], _ => rfl, fk_folded Y F⟩
theorem sc_divisors : FnScope ["number", "one"] ["number"] (defScope (top 21)) := ⟨rfl, rfl, rfl, by decide +kernel, rfl, by decide +kernel, by decide +kernel⟩
theorem fk_divisors (Y : Says K mg) {f : Addr} {fd : FuncData} (F : FnP K "divisors" (top 21) f fd) : FnOk P w K mg base CX0 1 f fd ["number"] (spOf K 1 [] fn_divisors) := by
  have g_range := Y.free 38 (x := "range") rfl
  have g_int := Y.free 44 (x := "int") rfl
  have S := sc_divisors
  refine fn_ok F S fun cdv A outer s H E hr => ?_
  have d : SSs (cxOf CX0 P w K mg base ["number", "one"] "divisors" (defScope (top 21)) f cdv A outer s H E).nox (defBody (top 21)) _ m_divisors := (sss_one (ss_ret (se_lc rfl S.nd (own := [("one", 1)]) (L2.blkOk_by (by rfl)) (si_range2 rfl g_range se_int (se_up (se_op op_addA o_add (se_name (i := 0)) se_int))) (fun s0 H0 C0 cl0 fp0 => (sg_name (i := 1) S.nd)) (fun s0 H0 C0 cl0 fp0 => (sts_one (st_up (st_cmp (op_eqD hr.units) o_eq (se_op op_mod o_mod (se_callTy (call_int1) o_int1 rfl g_int rfl (sa_cons (se_name (i := 0)) sa_nil)) (se_name (i := 1))) se_int)))) (fun s0 H0 C0 cl0 fp0 => (se_frz (i := 1))))))
  exact d.mono (by decide)
theorem ok_divisors (Y : Says K mg) : UF P w K mg base "divisors" 1 ["number"] [] fn_divisors := by
  obtain ⟨f, fd, gf, F⟩ := Y.def_ 17 (x := "divisors") (st := top 21) rfl rfl
  exact ⟨f, fd, gf, F.kp, F.bindsN fun _ _ _ _ _ _ us hl => match us, hl with | [_], _ => rfl, fk_divisors Y F⟩
theorem sc_divisor : FnScope ["first", "second"] ["first", "second"] (defScope (top 7)) := ⟨rfl, rfl, rfl, by decide +kernel, rfl, by decide +kernel, by decide +kernel⟩
theorem fk_divisor (Y : Says K mg) {f : Addr} {fd : FuncData} (F : FnP K "divisor" (top 7) f fd) : FnOk P w K mg base CX0 1 f fd ["first", "second"] (spOf K 2 [0, 1] fn_divisor) := by
  have g_int := Y.free 44 (x := "int") rfl
  have g_abs := Y.free 46 (x := "abs") rfl
  have S := sc_divisor
  refine fn_ok F S fun cdv A outer s H E hr => ?_
  have d : SSs (cxOf CX0 P w K mg base ["first", "second"] "divisor" (defScope (top 7)) f cdv A outer s H E).nox (defBody (top 7)) _ m_divisor := (sss_cons (ss_par (i := 0) (j := 1) rfl S.nd (sa_cons (se_up (se_callB (call_abs) o_abs rfl g_abs rfl (sa_cons (se_name (i := 0)) sa_nil))) (sa_cons (se_up (se_callB (call_abs) o_abs rfl g_abs rfl (sa_cons (se_name (i := 1)) sa_nil))) sa_nil)))
    (sss_cons (ss_while PassesOwn.never (st_up (st_cmp op_gt o_gt (se_name (i := 1)) se_int)) (sss_one (ss_par (i := 0) (j := 1) rfl S.nd (sa_cons (se_frz (i := 1)) (sa_cons (se_up (se_op op_mod o_mod (se_callTy (call_int1) o_int1 rfl g_int rfl (sa_cons (se_name (i := 0)) sa_nil)) (se_name (i := 1)))) sa_nil)))))
    (sss_one (ss_ret (se_move (i := 0))))))
  exact d.mono (by decide)
theorem ok_divisor (Y : Says K mg) : UF P w K mg base "divisor" 1 ["first", "second"] [0, 1] fn_divisor := by
  obtain ⟨f, fd, gf, F⟩ := Y.def_ 5 (x := "divisor") (st := top 7) rfl rfl
  exact ⟨f, fd, gf, F.kp, F.bindsN fun _ _ _ _ _ _ us hl => match us, hl with | [_, _], _ => rfl, fk_divisor Y F⟩
theorem sc_fixed : FnScope ["polynomial", "turns", "steps"] ["polynomial", "turns", "steps"] (defScope (top 20)) := ⟨rfl, rfl, rfl, by decide +kernel, rfl, by decide +kernel, by decide +kernel⟩
theorem fk_fixed (Y : Says K mg) {f : Addr} {fd : FuncData} (F : FnP K "fixed" (top 20) f fd) : FnOk P w K mg base CX0 10 f fd ["polynomial", "turns", "steps"] (spOf K 3 [] fn_fixed) := by
  obtain ⟨f_at_root, fd_at_root, g_at_root, k_at_root, b_at_root, F_at_root⟩ := ok_at_root (P := P) (w := w) (base := base) Y
  obtain ⟨f_divisor, fd_divisor, g_divisor, k_divisor, b_divisor, F_divisor⟩ := ok_divisor (P := P) (w := w) (base := base) Y
  have S := sc_fixed
  refine fn_ok F S fun cdv A outer s H E hr => ?_
  have d : SSs (cxOf CX0 P w K mg base ["polynomial", "turns", "steps"] "fixed" (defScope (top 20)) f cdv A outer s H E).nox (defBody (top 20)) _ m_fixed := (sss_one (ss_ret (se_call (ws := [2]) (fn := fn_at_root) (ld := [some 0, none]) F_at_root (hr.mono (by omega)) rfl g_at_root k_at_root b_at_root (sl_lend (i := 0) (sl_val (se_op op_fdiv o_div (se_frz (i := 1)) (se_call (ws := [0, 1]) (fn := fn_divisor) (ld := [none, none]) F_divisor (hr.mono (by omega)) rfl g_divisor k_divisor b_divisor (sl_val (se_frz (i := 1)) (sl_val (se_frz (i := 2)) sl_nil)))) sl_nil)))))
  exact d.mono (by decide)
theorem ok_fixed (Y : Says K mg) : UF P w K mg base "fixed" 10 ["polynomial", "turns", "steps"] [] fn_fixed := by
  obtain ⟨f, fd, gf, F⟩ := Y.def_ 16 (x := "fixed") (st := top 20) rfl rfl
  exact ⟨f, fd, gf, F.kp, F.bindsN fun _ _ _ _ _ _ us hl => match us, hl with | [_, _, _], _ => rfl, fk_fixed Y F⟩
theorem sc_orbits : FnScope ["polynomial", "turns", "found", "length", "told", "shorter", "number"] ["polynomial", "turns"] (defScope (top 22)) := ⟨rfl, rfl, rfl, by decide +kernel, rfl, by decide +kernel, by decide +kernel⟩
theorem fk_orbits (Y : Says K mg) {f : Addr} {fd : FuncData} (F : FnP K "orbits" (top 22) f fd) : FnOk P w K mg base CX0 11 f fd ["polynomial", "turns"] (spOf K 2 [2, 3, 4, 5, 6] fn_orbits) := by
  obtain ⟨f_divisors, fd_divisors, g_divisors, k_divisors, b_divisors, F_divisors⟩ := ok_divisors (P := P) (w := w) (base := base) Y
  obtain ⟨f_fixed, fd_fixed, g_fixed, k_fixed, b_fixed, F_fixed⟩ := ok_fixed (P := P) (w := w) (base := base) Y
  have g_int := Y.free 44 (x := "int") rfl
  have S := sc_orbits
  refine fn_ok F S fun cdv A outer s H E hr => ?_
  have d : SSs (cxOf CX0 P w K mg base ["polynomial", "turns", "found", "length", "told", "shorter", "number"] "orbits" (defScope (top 22)) f cdv A outer s H E).nox (defBody (top 22)) _ m_orbits := (sss_cons (ss_set (i := 2) S.nd (se_up (se_lst sa_nil)))
    (sss_cons (ss_for PassesOwn.never rfl (si_seq (se_call (ws := []) (fn := fn_divisors) (ld := [some 1]) F_divisors (hr.mono (by omega)) rfl g_divisors k_divisors b_divisors (sl_lend (i := 1) sl_nil))) (sg_name (i := 3) S.nd) (sss_cons (ss_set (i := 4) S.nd (se_call (ws := []) (fn := fn_fixed) (ld := [some 0, some 1, some 3]) F_fixed (hr.mono (by omega)) rfl g_fixed k_fixed b_fixed (sl_lend (i := 0) (sl_lend (i := 1) (sl_lend (i := 3) sl_nil)))))
    (sss_cons (ss_for PassesOwn.never rfl (si_take (i := 2)) (sg_tup rfl (sgs_cons (sg_name (i := 5) S.nd) (sgs_cons (sg_name (i := 6) S.nd) sgs_nil))) (sss_one (ss_if (st_up (st_cmp (op_eqD hr.units) o_eq (se_op op_mod o_mod (se_callTy (call_int1) o_int1 rfl g_int rfl (sa_cons (se_name (i := 3)) sa_nil)) (se_name (i := 5))) se_int)) (sss_one (ss_aug (i := 4) S.nd (se_up (se_op op_mulA o_mul (se_name (i := 5)) (se_name (i := 6)))) ip_sub)) sss_nil)) (hw := fun i e => by cases e; decide))
    (sss_one (ss_app (r := 2) (se_tup (sa_cons (se_frz (i := 3)) (sa_cons (se_up (se_op op_fdiv o_div (se_name (i := 4)) (se_name (i := 3)))) sa_nil))))))))
    (sss_one (ss_ret (se_lc rfl S.nd (own := [("length", 3), ("number", 6)]) (L2.blkOk_by (by rfl)) (si_take (i := 2)) (fun s0 H0 C0 cl0 fp0 => (sg_tup rfl (sgs_cons (sg_name (i := 3) S.nd) (sgs_cons (sg_name (i := 6) S.nd) sgs_nil)))) (fun s0 H0 C0 cl0 fp0 => (sts_one (st_up (st_cmp (op_neD hr.units) o_ne (se_name (i := 6)) se_int)))) (fun s0 H0 C0 cl0 fp0 => (se_tup (sa_cons (se_frz (i := 3)) (sa_cons (se_frz (i := 6)) sa_nil)))))))))
  exact d.mono (by decide)
theorem ok_orbits (Y : Says K mg) : UF P w K mg base "orbits" 11 ["polynomial", "turns"] [2, 3, 4, 5, 6] fn_orbits := by
  obtain ⟨f, fd, gf, F⟩ := Y.def_ 18 (x := "orbits") (st := top 22) rfl rfl
  exact ⟨f, fd, gf, F.kp, F.bindsN fun _ _ _ _ _ _ us hl => match us, hl with | [_, _], _ => rfl, fk_orbits Y F⟩
theorem sc__law_told : FnScope ["polynomial", "lengths", "turns", "one", "steps", "stay", "many", "due", "some", "sums", "j", "number"] ["polynomial", "lengths", "turns"] (defScope (top 38)) := ⟨rfl, rfl, rfl, by decide +kernel, rfl, by decide +kernel, by decide +kernel⟩
theorem fk__law_told (Y : Says K mg) {f : Addr} {fd : FuncData} (F : FnP K "_law_told" (top 38) f fd) : FnOk P w K mg base CX0 12 f fd ["polynomial", "lengths", "turns"] (spOf K 3 [4, 5, 6, 7, 8, 9, 10] fn__law_told) := by
  obtain ⟨f__law_same, fd__law_same, g__law_same, k__law_same, b__law_same, F__law_same⟩ := ok__law_same (P := P) (w := w) (base := base) Y
  obtain ⟨f_folded, fd_folded, g_folded, k_folded, b_folded, F_folded⟩ := ok_folded (P := P) (w := w) (base := base) Y
  obtain ⟨f_orbits, fd_orbits, g_orbits, k_orbits, b_orbits, F_orbits⟩ := ok_orbits (P := P) (w := w) (base := base) Y
  obtain ⟨f_fixed, fd_fixed, g_fixed, k_fixed, b_fixed, F_fixed⟩ := ok_fixed (P := P) (w := w) (base := base) Y
  have g_tuple := Y.free 40 (x := "tuple") rfl
  have g_range := Y.free 38 (x := "range") rfl
  have g_int := Y.free 44 (x := "int") rfl
  have g_sum := Y.free 47 (x := "sum") rfl
  have g_len := Y.free 37 (x := "len") rfl
  have S := sc__law_told
  refine fn_ok F S fun cdv A outer s H E hr => ?_
  have d : SSs (cxOf CX0 P w K mg base ["polynomial", "lengths", "turns", "one", "steps", "stay", "many", "due", "some", "sums", "j", "number"] "_law_told" (defScope (top 38)) f cdv A outer s H E).nox (defBody (top 38)) _ m__law_told := (sss_cons (ss_if (st_w (sw_or (st_up (st_cmp (op_neD hr.units) o_ne (se_callB ((cr_sumA rfl)) o_sumA rfl g_sum rfl (sa_cons (se_name (i := 0)) sa_nil)) (se_callB (call_len) o_len rfl g_len rfl (sa_cons (se_name (i := 1)) sa_nil)))) (sw_or1 (st_cmp (op_neD hr.units) o_ne (se_lc rfl S.nd (own := [("one", 3)]) (L2.blkOk_by (by rfl)) (si_take (i := 0)) (fun s0 H0 C0 cl0 fp0 => (sg_name (i := 3) S.nd)) (fun s0 H0 C0 cl0 fp0 => (sts_one (st_up (st_cmp op_lt o_lt (se_name (i := 3)) se_int)))) (fun s0 H0 C0 cl0 fp0 => se_int)) (se_up (se_lst sa_nil)))))) (sss_one (ss_ret se_bl)) sss_nil)
    (sss_cons (ss_for PassesOwn.never rfl (si_range2 rfl g_range se_int (se_up (se_op op_addA o_add (se_name (i := 2)) se_int))) (sg_name (i := 4) S.nd) (sss_cons (ss_set (i := 5) S.nd (se_up (se_lenLc (own := [("many", 6)]) rfl S.nd rfl g_len (L2.blkOk_by (by rfl)) (se_name (i := 1)) (fun s0 H0 C0 cl0 fp0 => pg_name (i := 6) S.nd rfl (by first | exact Or.inl rfl | exact Or.inr rfl)) (fun s0 H0 C0 cl0 fp0 => (stf_one (st_cmp (op_eqD hr.units) o_eq (se_op op_mod o_mod (se_callTy (call_int1) o_int1 rfl g_int rfl (sa_cons (se_name (i := 4)) sa_nil)) (se_name (i := 6))) se_int))) (fun s0 H0 C0 cl0 fp0 => se_int))))
    (sss_one (ss_if (st_not (st_val (se_call (ws := []) (fn := fn__law_same) (ld := [none, some 5]) F__law_same (hr.mono (by omega)) rfl g__law_same k__law_same b__law_same (sl_val (se_call (ws := []) (fn := fn_fixed) (ld := [some 0, some 2, some 4]) F_fixed (hr.mono (by omega)) rfl g_fixed k_fixed b_fixed (sl_lend (i := 0) (sl_lend (i := 2) (sl_lend (i := 4) sl_nil)))) (sl_lend (i := 5) sl_nil))))) (sss_one (ss_ret se_bl)) sss_nil))))
    (sss_cons (ss_set (i := 7) S.nd (se_up (se_lst sa_nil)))
    (sss_cons (ss_for PassesOwn.never rfl (si_range2 rfl g_range se_int (se_up (se_op op_addA o_add (se_name (i := 2)) se_int))) (sg_name (i := 6) S.nd) (sss_cons (ss_set (i := 8) S.nd (se_up (se_lenLc (own := [("one", 3)]) rfl S.nd rfl g_len (L2.blkOk_by (by rfl)) (se_name (i := 1)) (fun s0 H0 C0 cl0 fp0 => pg_name (i := 3) S.nd rfl (by first | exact Or.inl rfl | exact Or.inr rfl)) (fun s0 H0 C0 cl0 fp0 => (stf_one (st_cmp (op_eqD hr.units) o_eq (se_name (i := 3)) (se_name (i := 6))))) (fun s0 H0 C0 cl0 fp0 => se_int))))
    (sss_one (ss_if (st_up (st_cmp op_gt o_gt (se_name (i := 8)) se_int)) (sss_one (ss_app (r := 7) (se_tup (sa_cons (se_frz (i := 6)) (sa_cons (se_up (se_op op_fdiv o_div (se_name (i := 8)) (se_name (i := 6)))) sa_nil))))) sss_nil))))
    (sss_cons (ss_if (st_not (st_val (se_call (ws := []) (fn := fn__law_same) (ld := [none, some 7]) F__law_same (hr.mono (by omega)) rfl g__law_same k__law_same b__law_same (sl_val (se_call (ws := [2, 3, 4, 5, 6]) (fn := fn_orbits) (ld := [some 0, some 2]) F_orbits (hr.mono (by omega)) rfl g_orbits k_orbits b_orbits (sl_lend (i := 0) (sl_lend (i := 2) sl_nil))) (sl_lend (i := 7) sl_nil))))) (sss_one (ss_ret se_bl)) sss_nil)
    (sss_cons (ss_set (i := 9) S.nd (se_up (se_lst sa_nil)))
    (sss_cons (ss_for PassesOwn.never rfl (si_range1 rfl g_range (se_frz (i := 2))) (sg_name (i := 10) S.nd) (sss_one (ss_app (r := 9) (se_callB ((cr_sumA rfl)) o_sumA rfl g_sum rfl (sa_cons (se_lc rfl S.nd (own := [("many", 6), ("number", 11)]) (L2.blkOk_by (by rfl)) (si_take (i := 7)) (fun s0 H0 C0 cl0 fp0 => (sg_tup rfl (sgs_cons (sg_name (i := 6) S.nd) (sgs_cons (sg_name (i := 11) S.nd) sgs_nil)))) (fun s0 H0 C0 cl0 fp0 => (sts_one (st_up (st_cmp (op_eqD hr.units) o_eq (se_op op_mod o_mod (se_callTy (call_int1) o_int1 rfl g_int rfl (sa_cons (se_name (i := 10)) sa_nil)) (se_op op_fdiv o_div (se_name (i := 2)) (se_name (i := 6)))) se_int)))) (fun s0 H0 C0 cl0 fp0 => (se_frz (i := 11)))) sa_nil)))))
    (sss_one (ss_ret (se_call (ws := []) (fn := fn__law_same) (ld := [none, none]) F__law_same (hr.mono (by omega)) rfl g__law_same k__law_same b__law_same (sl_val (se_call (ws := [2, 3]) (fn := fn_folded) (ld := [some 0, some 2]) F_folded (hr.mono (by omega)) rfl g_folded k_folded b_folded (sl_lend (i := 0) (sl_lend (i := 2) sl_nil))) (sl_val (se_up (se_callTy (call_tuple_of) o_tuple rfl g_tuple rfl (sa_cons (se_name (i := 9)) sa_nil))) sl_nil))))))))))))
  exact d.mono (by decide)
theorem ok__law_told (Y : Says K mg) : UF P w K mg base "_law_told" 12 ["polynomial", "lengths", "turns"] [4, 5, 6, 7, 8, 9, 10] fn__law_told := by
  obtain ⟨f, fd, gf, F⟩ := Y.def_ 33 (x := "_law_told") (st := top 38) rfl rfl
  exact ⟨f, fd, gf, F.kp, F.bindsN fun _ _ _ _ _ _ us hl => match us, hl with | [_, _, _], _ => rfl, fk__law_told Y F⟩
theorem sc_conjugate : FnScope ["partition", "found", "row", "column"] ["partition"] (defScope (top 9)) := ⟨rfl, rfl, rfl, by decide +kernel, rfl, by decide +kernel, by decide +kernel⟩
theorem fk_conjugate (Y : Says K mg) {f : Addr} {fd : FuncData} (F : FnP K "conjugate" (top 9) f fd) : FnOk P w K mg base CX0 1 f fd ["partition"] (spOf K 1 [1, 2, 3] fn_conjugate) := by
  have g_tuple := Y.free 40 (x := "tuple") rfl
  have g_len := Y.free 37 (x := "len") rfl
  have g_range := Y.free 38 (x := "range") rfl
  have S := sc_conjugate
  refine fn_ok F S fun cdv A outer s H E hr => ?_
  have d : SSs (cxOf CX0 P w K mg base ["partition", "found", "row", "column"] "conjugate" (defScope (top 9)) f cdv A outer s H E).nox (defBody (top 9)) _ m_conjugate := (sss_cons (ss_par (i := 1) (j := 2) rfl S.nd (sa_cons (se_up (se_lst sa_nil)) (sa_cons (se_up (se_callB (call_len) o_len rfl g_len rfl (sa_cons (se_name (i := 0)) sa_nil))) sa_nil)))
    (sss_cons (ss_for PassesOwn.never rfl (si_range1 rfl g_range (se_if (st_up (st_cmp op_gt o_gt (se_callB (call_len) o_len rfl g_len rfl (sa_cons (se_name (i := 0)) sa_nil)) se_int)) (se_up (se_ix ix_seq o_ix (se_name (i := 0)) se_int)) se_int)) (sg_name (i := 3) S.nd) (sss_cons (ss_while PassesOwn.never (st_up (st_cmp op_le o_le (se_ix ix_seq o_ix (se_name (i := 0)) (se_op op_sub o_sub (se_name (i := 2)) se_int)) (se_name (i := 3)))) (sss_one (ss_aug (i := 2) S.nd se_int ip_sub)))
    (sss_one (ss_app (r := 1) (se_frz (i := 2))))))
    (sss_one (ss_ret (se_up (se_callTy (call_tuple_of) o_tuple rfl g_tuple rfl (sa_cons (se_name (i := 1)) sa_nil)))))))
  exact d.mono (by decide)
theorem ok_conjugate (Y : Says K mg) : UF P w K mg base "conjugate" 1 ["partition"] [1, 2, 3] fn_conjugate := by
  obtain ⟨f, fd, gf, F⟩ := Y.def_ 6 (x := "conjugate") (st := top 9) rfl rfl
  exact ⟨f, fd, gf, F.kp, F.bindsN fun _ _ _ _ _ _ us hl => match us, hl with | [_], _ => rfl, fk_conjugate Y F⟩
theorem sc_hooks : FnScope ["partition", "columns", "j", "i"] ["partition"] (defScope (top 10)) := ⟨rfl, rfl, rfl, by decide +kernel, rfl, by decide +kernel, by decide +kernel⟩
theorem fk_hooks (Y : Says K mg) {f : Addr} {fd : FuncData} (F : FnP K "hooks" (top 10) f fd) : FnOk P w K mg base CX0 2 f fd ["partition"] (spOf K 1 [1] fn_hooks) := by
  obtain ⟨f_conjugate, fd_conjugate, g_conjugate, k_conjugate, b_conjugate, F_conjugate⟩ := ok_conjugate (P := P) (w := w) (base := base) Y
  have g_len := Y.free 37 (x := "len") rfl
  have g_range := Y.free 38 (x := "range") rfl
  have S := sc_hooks
  refine fn_ok F S fun cdv A outer s H E hr => ?_
  have d : SSs (cxOf CX0 P w K mg base ["partition", "columns", "j", "i"] "hooks" (defScope (top 10)) f cdv A outer s H E).nox (defBody (top 10)) _ m_hooks := (sss_cons (ss_set (i := 1) S.nd (se_call (ws := [1, 2, 3]) (fn := fn_conjugate) (ld := [some 0]) F_conjugate (hr.mono (by omega)) rfl g_conjugate k_conjugate b_conjugate (sl_lend (i := 0) sl_nil)))
    (sss_one (ss_ret (se_lc rfl S.nd (own := [("i", 3)]) (L2.blkOk_by (by rfl)) (si_range1 rfl g_range (se_up (se_callB (call_len) o_len rfl g_len rfl (sa_cons (se_name (i := 0)) sa_nil)))) (fun s0 H0 C0 cl0 fp0 => (sg_name (i := 3) S.nd)) (fun s0 H0 C0 cl0 fp0 => sts_nil) (fun s0 H0 C0 cl0 fp0 => (se_lc rfl S.nd (own := [("j", 2)]) (L2.blkOk_by (by rfl)) (si_range1 rfl g_range (se_up (se_ix ix_seq o_ix (se_name (i := 0)) (se_name (i := 3))))) (fun s0 H0 C0 cl0 fp0 => (sg_name (i := 2) S.nd)) (fun s0 H0 C0 cl0 fp0 => sts_nil) (fun s0 H0 C0 cl0 fp0 => (se_up (se_op op_sub o_sub (se_op op_sub o_sub (se_op op_addA o_add (se_op op_sub o_sub (se_ix ix_seq o_ix (se_name (i := 0)) (se_name (i := 3))) (se_name (i := 2))) (se_ix ix_seq o_ix (se_name (i := 1)) (se_name (i := 2)))) (se_name (i := 3))) se_int)))))))))
  exact d.mono (by decide)
theorem ok_hooks (Y : Says K mg) : UF P w K mg base "hooks" 2 ["partition"] [1] fn_hooks := by
  obtain ⟨f, fd, gf, F⟩ := Y.def_ 7 (x := "hooks") (st := top 10) rfl rfl
  exact ⟨f, fd, gf, F.kp, F.bindsN fun _ _ _ _ _ _ us hl => match us, hl with | [_], _ => rfl, fk_hooks Y F⟩
theorem sc_q_number : FnScope ["many"] ["many"] (defScope (top 4)) := ⟨rfl, rfl, rfl, by decide +kernel, rfl, by decide +kernel, by decide +kernel⟩
theorem fk_q_number (Y : Says K mg) {f : Addr} {fd : FuncData} (F : FnP K "q_number" (top 4) f fd) : FnOk P w K mg base CX0 1 f fd ["many"] (spOf K 1 [] fn_q_number) := by
  have S := sc_q_number
  refine fn_ok F S fun cdv A outer s H E hr => ?_
  have d : SSs (cxOf CX0 P w K mg base ["many"] "q_number" (defScope (top 4)) f cdv A outer s H E).nox (defBody (top 4)) _ m_q_number := (sss_one (ss_ret (se_up (se_op op_repTA o_mulT (se_tup (sa_cons se_int sa_nil)) (se_name (i := 0))))))
  exact d.mono (by decide)
theorem ok_q_number (Y : Says K mg) : UF P w K mg base "q_number" 1 ["many"] [] fn_q_number := by
  obtain ⟨f, fd, gf, F⟩ := Y.def_ 3 (x := "q_number") (st := top 4) rfl rfl
  exact ⟨f, fd, gf, F.kp, F.bindsN fun _ _ _ _ _ _ us hl => match us, hl with | [_], _ => rfl, fk_q_number Y F⟩
theorem sc_over_hooks : FnScope ["polynomial", "shape", "row", "one"] ["polynomial", "shape"] (defScope (top 13)) := ⟨rfl, rfl, rfl, by decide +kernel, rfl, by decide +kernel, by decide +kernel⟩
theorem fk_over_hooks (Y : Says K mg) {f : Addr} {fd : FuncData} (F : FnP K "over_hooks" (top 13) f fd) : FnOk P w K mg base CX0 3 f fd ["polynomial", "shape"] (spOf K 2 [0, 2, 3] fn_over_hooks) := by
  obtain ⟨f_hooks, fd_hooks, g_hooks, k_hooks, b_hooks, F_hooks⟩ := ok_hooks (P := P) (w := w) (base := base) Y
  obtain ⟨f_quotient_of, fd_quotient_of, g_quotient_of, k_quotient_of, b_quotient_of, F_quotient_of⟩ := ok_quotient_of (P := P) (w := w) (base := base) Y
  obtain ⟨f_q_number, fd_q_number, g_q_number, k_q_number, b_q_number, F_q_number⟩ := ok_q_number (P := P) (w := w) (base := base) Y
  have S := sc_over_hooks
  refine fn_ok F S fun cdv A outer s H E hr => ?_
  have d : SSs (cxOf CX0 P w K mg base ["polynomial", "shape", "row", "one"] "over_hooks" (defScope (top 13)) f cdv A outer s H E).nox (defBody (top 13)) _ m_over_hooks := (sss_cons (ss_for PassesOwn.never rfl (si_seq (se_call (ws := [1]) (fn := fn_hooks) (ld := [some 1]) F_hooks (hr.mono (by omega)) rfl g_hooks k_hooks b_hooks (sl_lend (i := 1) sl_nil))) (sg_name (i := 2) S.nd) (sss_one (ss_for PassesOwn.never rfl (si_take (i := 2)) (sg_name (i := 3) S.nd) (sss_one (ss_set (i := 0) S.nd (se_call (ws := [2, 3, 4, 5, 6, 7]) (fn := fn_quotient_of) (ld := [some 0, none]) F_quotient_of (hr.mono (by omega)) rfl g_quotient_of k_quotient_of b_quotient_of (sl_lend (i := 0) (sl_val (se_call (ws := []) (fn := fn_q_number) (ld := [some 3]) F_q_number (hr.mono (by omega)) rfl g_q_number k_q_number b_q_number (sl_lend (i := 3) sl_nil)) sl_nil))))) (hw := fun i e => by cases e; decide))))
    (sss_one (ss_ret (se_move (i := 0)))))
  exact d.mono (by decide)
theorem ok_over_hooks (Y : Says K mg) : UF P w K mg base "over_hooks" 3 ["polynomial", "shape"] [0, 2, 3] fn_over_hooks := by
  obtain ⟨f, fd, gf, F⟩ := Y.def_ 9 (x := "over_hooks") (st := top 13) rfl rfl
  exact ⟨f, fd, gf, F.kp, F.bindsN fun _ _ _ _ _ _ us hl => match us, hl with | [_, _], _ => rfl, fk_over_hooks Y F⟩
theorem sc_product_of : FnScope ["first", "second", "found", "k", "j"] ["first", "second"] (defScope (top 2)) := ⟨rfl, rfl, rfl, by decide +kernel, rfl, by decide +kernel, by decide +kernel⟩
theorem fk_product_of (Y : Says K mg) {f : Addr} {fd : FuncData} (F : FnP K "product_of" (top 2) f fd) : FnOk P w K mg base CX0 2 f fd ["first", "second"] (spOf K 2 [2, 3, 4] fn_product_of) := by
  obtain ⟨f_trimmed, fd_trimmed, g_trimmed, k_trimmed, b_trimmed, F_trimmed⟩ := ok_trimmed (P := P) (w := w) (base := base) Y
  have g_len := Y.free 37 (x := "len") rfl
  have g_range := Y.free 38 (x := "range") rfl
  have S := sc_product_of
  refine fn_ok F S fun cdv A outer s H E hr => ?_
  have d : SSs (cxOf CX0 P w K mg base ["first", "second", "found", "k", "j"] "product_of" (defScope (top 2)) f cdv A outer s H E).nox (defBody (top 2)) _ m_product_of := (sss_cons (ss_set (i := 2) S.nd (se_up (se_op op_mulA o_mul (se_lst (sa_cons se_int sa_nil)) (se_op op_addA o_add (se_callB (call_len) o_len rfl g_len rfl (sa_cons (se_name (i := 0)) sa_nil)) (se_callB (call_len) o_len rfl g_len rfl (sa_cons (se_name (i := 1)) sa_nil))))))
    (sss_cons (ss_for PassesOwn.never rfl (si_range1 rfl g_range (se_up (se_callB (call_len) o_len rfl g_len rfl (sa_cons (se_name (i := 0)) sa_nil)))) (sg_name (i := 3) S.nd) (sss_one (ss_for PassesOwn.never rfl (si_range1 rfl g_range (se_up (se_callB (call_len) o_len rfl g_len rfl (sa_cons (se_name (i := 1)) sa_nil)))) (sg_name (i := 4) S.nd) (sss_one (ss_augP (sp_name (r := 2)) (se_op op_addA o_add (se_name (i := 3)) (se_name (i := 4))) (se_op op_mulA o_mul (se_ix ix_seq o_ix (se_name (i := 0)) (se_name (i := 3))) (se_ix ix_seq o_ix (se_name (i := 1)) (se_name (i := 4)))) ip_add)))))
    (sss_one (ss_ret (se_call (ws := [1]) (fn := fn_trimmed) (ld := [some 2]) F_trimmed (hr.mono (by omega)) rfl g_trimmed k_trimmed b_trimmed (sl_lend (i := 2) sl_nil))))))
  exact d.mono (by decide)
theorem ok_product_of (Y : Says K mg) : UF P w K mg base "product_of" 2 ["first", "second"] [2, 3, 4] fn_product_of := by
  obtain ⟨f, fd, gf, F⟩ := Y.def_ 1 (x := "product_of") (st := top 2) rfl rfl
  exact ⟨f, fd, gf, F.kp, F.bindsN fun _ _ _ _ _ _ us hl => match us, hl with | [_, _], _ => rfl, fk_product_of Y F⟩
theorem sc_q_factorial : FnScope ["many", "found", "k"] ["many"] (defScope (top 5)) := ⟨rfl, rfl, rfl, by decide +kernel, rfl, by decide +kernel, by decide +kernel⟩
theorem fk_q_factorial (Y : Says K mg) {f : Addr} {fd : FuncData} (F : FnP K "q_factorial" (top 5) f fd) : FnOk P w K mg base CX0 3 f fd ["many"] (spOf K 1 [1, 2] fn_q_factorial) := by
  obtain ⟨f_product_of, fd_product_of, g_product_of, k_product_of, b_product_of, F_product_of⟩ := ok_product_of (P := P) (w := w) (base := base) Y
  obtain ⟨f_q_number, fd_q_number, g_q_number, k_q_number, b_q_number, F_q_number⟩ := ok_q_number (P := P) (w := w) (base := base) Y
  have g_range := Y.free 38 (x := "range") rfl
  have S := sc_q_factorial
  refine fn_ok F S fun cdv A outer s H E hr => ?_
  have d : SSs (cxOf CX0 P w K mg base ["many", "found", "k"] "q_factorial" (defScope (top 5)) f cdv A outer s H E).nox (defBody (top 5)) _ m_q_factorial := (sss_cons (ss_set (i := 1) S.nd (se_up (se_tup (sa_cons se_int sa_nil))))
    (sss_cons (ss_for PassesOwn.never rfl (si_range2 rfl g_range se_int (se_up (se_op op_addA o_add (se_name (i := 0)) se_int))) (sg_name (i := 2) S.nd) (sss_one (ss_set (i := 1) S.nd (se_call (ws := [2, 3, 4]) (fn := fn_product_of) (ld := [some 1, none]) F_product_of (hr.mono (by omega)) rfl g_product_of k_product_of b_product_of (sl_lend (i := 1) (sl_val (se_call (ws := []) (fn := fn_q_number) (ld := [some 2]) F_q_number (hr.mono (by omega)) rfl g_q_number k_q_number b_q_number (sl_lend (i := 2) sl_nil)) sl_nil))))))
    (sss_one (ss_ret (se_move (i := 1))))))
  exact d.mono (by decide)
theorem ok_q_factorial (Y : Says K mg) : UF P w K mg base "q_factorial" 3 ["many"] [1, 2] fn_q_factorial := by
  obtain ⟨f, fd, gf, F⟩ := Y.def_ 4 (x := "q_factorial") (st := top 5) rfl rfl
  exact ⟨f, fd, gf, F.kp, F.bindsN fun _ _ _ _ _ _ us hl => match us, hl with | [_], _ => rfl, fk_q_factorial Y F⟩
theorem sc_standard_polynomial : FnScope ["shape"] ["shape"] (defScope (top 14)) := ⟨rfl, rfl, rfl, by decide +kernel, rfl, by decide +kernel, by decide +kernel⟩
theorem fk_standard_polynomial (Y : Says K mg) {f : Addr} {fd : FuncData} (F : FnP K "standard_polynomial" (top 14) f fd) : FnOk P w K mg base CX0 4 f fd ["shape"] (spOf K 1 [] fn_standard_polynomial) := by
  obtain ⟨f_over_hooks, fd_over_hooks, g_over_hooks, k_over_hooks, b_over_hooks, F_over_hooks⟩ := ok_over_hooks (P := P) (w := w) (base := base) Y
  obtain ⟨f_q_factorial, fd_q_factorial, g_q_factorial, k_q_factorial, b_q_factorial, F_q_factorial⟩ := ok_q_factorial (P := P) (w := w) (base := base) Y
  have g_sum := Y.free 47 (x := "sum") rfl
  have S := sc_standard_polynomial
  refine fn_ok F S fun cdv A outer s H E hr => ?_
  have d : SSs (cxOf CX0 P w K mg base ["shape"] "standard_polynomial" (defScope (top 14)) f cdv A outer s H E).nox (defBody (top 14)) _ m_standard_polynomial := (sss_one (ss_ret (se_call (ws := [0, 2, 3]) (fn := fn_over_hooks) (ld := [none, some 0]) F_over_hooks (hr.mono (by omega)) rfl g_over_hooks k_over_hooks b_over_hooks (sl_val (se_call (ws := [1, 2]) (fn := fn_q_factorial) (ld := [none]) F_q_factorial (hr.mono (by omega)) rfl g_q_factorial k_q_factorial b_q_factorial (sl_val (se_up (se_callB ((cr_sumA rfl)) o_sumA rfl g_sum rfl (sa_cons (se_name (i := 0)) sa_nil))) sl_nil)) (sl_lend (i := 0) sl_nil)))))
  exact d.mono (by decide)
theorem ok_standard_polynomial (Y : Says K mg) : UF P w K mg base "standard_polynomial" 4 ["shape"] [] fn_standard_polynomial := by
  obtain ⟨f, fd, gf, F⟩ := Y.def_ 10 (x := "standard_polynomial") (st := top 14) rfl rfl
  exact ⟨f, fd, gf, F.kp, F.bindsN fun _ _ _ _ _ _ us hl => match us, hl with | [_], _ => rfl, fk_standard_polynomial Y F⟩
theorem sc__law_standards : FnScope ["shape", "found", "turn", "later", "word", "rows", "k"] ["shape"] (defScope (top 32)) := ⟨rfl, rfl, rfl, by decide +kernel, rfl, by decide +kernel, by decide +kernel⟩
theorem fk__law_standards (Y : Says K mg) {f : Addr} {fd : FuncData} (F : FnP K "_law_standards" (top 32) f fd) : FnOk P w K mg base CX0 1 f fd ["shape"] (spOf K 1 [1, 2, 3, 4, 5, 6] fn__law_standards) := by
  have g_sum := Y.free 47 (x := "sum") rfl
  have g_range := Y.free 38 (x := "range") rfl
  have g_len := Y.free 37 (x := "len") rfl
  have S := sc__law_standards
  refine fn_ok F S fun cdv A outer s H E hr => ?_
  have d : SSs (cxOf CX0 P w K mg base ["shape", "found", "turn", "later", "word", "rows", "k"] "_law_standards" (defScope (top 32)) f cdv A outer s H E).nox (defBody (top 32)) _ m__law_standards := (sss_cons (ss_set (i := 1) S.nd (se_lst (sa_cons (se_tup (sa_cons (se_up (se_tup sa_nil)) (sa_cons (se_up (se_op op_repTA o_mulT (se_tup (sa_cons se_int sa_nil)) (se_callB (call_len) o_len rfl g_len rfl (sa_cons (se_name (i := 0)) sa_nil)))) sa_nil))) sa_nil)))
    (sss_cons (ss_for PassesOwn.never rfl (si_range1 rfl g_range (se_up (se_callB ((cr_sumA rfl)) o_sumA rfl g_sum rfl (sa_cons (se_name (i := 0)) sa_nil)))) (sg_name (i := 2) S.nd) (sss_cons (ss_set (i := 3) S.nd (se_up (se_lst sa_nil)))
    (sss_cons (ss_for PassesOwn.never rfl (si_take (i := 1)) (sg_tup rfl (sgs_cons (sg_name (i := 4) S.nd) (sgs_cons (sg_name (i := 5) S.nd) sgs_nil))) (sss_one (ss_for PassesOwn.never rfl (si_range1 rfl g_range (se_up (se_callB (call_len) o_len rfl g_len rfl (sa_cons (se_name (i := 0)) sa_nil)))) (sg_name (i := 6) S.nd) (sss_one (ss_if (st_up (st_w (sw_and (st_cmp op_lt o_lt (se_ix ix_seq o_ix (se_name (i := 5)) (se_name (i := 6))) (se_ix ix_seq o_ix (se_name (i := 0)) (se_name (i := 6)))) (sw_and1 (st_w (sw_or (st_cmp (op_eqD hr.units) o_eq (se_name (i := 6)) se_int) (sw_or1 (st_cmp op_lt o_lt (se_ix ix_seq o_ix (se_name (i := 5)) (se_name (i := 6))) (se_ix ix_seq o_ix (se_name (i := 5)) (se_op op_sub o_sub (se_name (i := 6)) se_int)))))))))) (sss_one (ss_app (r := 3) (se_up (se_tup (sa_cons (se_op op_addA o_add (se_name (i := 4)) (se_tup (sa_cons (se_name (i := 6)) sa_nil))) (sa_cons (se_op op_addA o_add (se_op op_addA o_add (se_slice sl_all o_sl (se_name (i := 5)) so_none (so_some (se_name (i := 6)))) (se_tup (sa_cons (se_op op_addA o_add (se_ix ix_seq o_ix (se_name (i := 5)) (se_name (i := 6))) se_int) sa_nil))) (se_slice sl_all o_sl (se_name (i := 5)) (so_some (se_op op_addA o_add (se_name (i := 6)) se_int)) so_none)) sa_nil)))))) sss_nil)))) (hw := fun i e => by cases e; decide))
    (sss_one (ss_set (i := 1) S.nd (se_frz (i := 3)))))))
    (sss_one (ss_ret (se_lc rfl S.nd (own := [("word", 4), ("rows", 5)]) (L2.blkOk_by (by rfl)) (si_take (i := 1)) (fun s0 H0 C0 cl0 fp0 => (sg_tup rfl (sgs_cons (sg_name (i := 4) S.nd) (sgs_cons (sg_name (i := 5) S.nd) sgs_nil)))) (fun s0 H0 C0 cl0 fp0 => sts_nil) (fun s0 H0 C0 cl0 fp0 => (se_frz (i := 4))))))))
  exact d.mono (by decide)
theorem ok__law_standards (Y : Says K mg) : UF P w K mg base "_law_standards" 1 ["shape"] [1, 2, 3, 4, 5, 6] fn__law_standards := by
  obtain ⟨f, fd, gf, F⟩ := Y.def_ 27 (x := "_law_standards") (st := top 32) rfl rfl
  exact ⟨f, fd, gf, F.kp, F.bindsN fun _ _ _ _ _ _ us hl => match us, hl with | [_], _ => rfl, fk__law_standards Y F⟩
theorem sc__law_turned_word : FnScope ["word"] ["word"] (defScope (top 36)) := ⟨rfl, rfl, rfl, by decide +kernel, rfl, by decide +kernel, by decide +kernel⟩
theorem fk__law_turned_word (Y : Says K mg) {f : Addr} {fd : FuncData} (F : FnP K "_law_turned_word" (top 36) f fd) : FnOk P w K mg base CX0 1 f fd ["word"] (spOf K 1 [] fn__law_turned_word) := by
  have S := sc__law_turned_word
  refine fn_ok F S fun cdv A outer s H E hr => ?_
  have d : SSs (cxOf CX0 P w K mg base ["word"] "_law_turned_word" (defScope (top 36)) f cdv A outer s H E).nox (defBody (top 36)) _ m__law_turned_word := (sss_one (ss_ret (se_up (se_op op_addA o_add (se_slice sl_all o_sl (se_name (i := 0)) (so_some (se_un un_neg o_neg se_int)) so_none) (se_slice sl_all o_sl (se_name (i := 0)) so_none (so_some (se_un un_neg o_neg se_int)))))))
  exact d.mono (by decide)
theorem ok__law_turned_word (Y : Says K mg) : UF P w K mg base "_law_turned_word" 1 ["word"] [] fn__law_turned_word := by
  obtain ⟨f, fd, gf, F⟩ := Y.def_ 31 (x := "_law_turned_word") (st := top 36) rfl rfl
  exact ⟨f, fd, gf, F.kp, F.bindsN fun _ _ _ _ _ _ us hl => match us, hl with | [_], _ => rfl, fk__law_turned_word Y F⟩
theorem sc__law_promoted : FnScope ["rows", "greatest", "x", "row", "ones", "one", "ends", "turn", "i", "j", "step", "right", "below", "told"] ["rows", "greatest"] (defScope (top 35)) := ⟨rfl, rfl, rfl, by decide +kernel, rfl, by decide +kernel, by decide +kernel⟩
theorem fk__law_promoted (Y : Says K mg) {f : Addr} {fd : FuncData} (F : FnP K "_law_promoted" (top 35) f fd) : FnOk P w K mg base CX0 1 f fd ["rows", "greatest"] (spOf K 2 [0, 4, 6, 7, 8, 9, 10, 11, 12, 13] fn__law_promoted) := by
  have g_range := Y.free 38 (x := "range") rfl
  have g_len := Y.free 37 (x := "len") rfl
  have S := sc__law_promoted
  refine fn_ok F S fun cdv A outer s H E hr => ?_
  have d : SSs (cxOf CX0 P w K mg base ["rows", "greatest", "x", "row", "ones", "one", "ends", "turn", "i", "j", "step", "right", "below", "told"] "_law_promoted" (defScope (top 35)) f cdv A outer s H E).nox (defBody (top 35)) _ m__law_promoted := (sss_cons (ss_setLc (i := 0) rfl S.nd (own := [("row", 3)]) (L2.blkOk_by (by rfl)) (si_take (i := 0)) (fun s0 H0 C0 cl0 fp0 => (sg_name (i := 3) S.nd)) (fun s0 H0 C0 cl0 fp0 => sts_nil) (fun s0 H0 C0 cl0 fp0 => (se_lc rfl S.nd (own := [("x", 2)]) (L2.blkOk_by (by rfl)) (si_take (i := 3)) (fun s0 H0 C0 cl0 fp0 => (sg_name (i := 2) S.nd)) (fun s0 H0 C0 cl0 fp0 => sts_nil) (fun s0 H0 C0 cl0 fp0 => (se_frz (i := 2))))) (hsw := by rfl))
    (sss_cons (ss_if (st_up (st_cmp (op_eqD hr.units) o_eq (se_name (i := 0)) (se_lst sa_nil))) (sss_one (ss_ret (se_move (i := 0)))) sss_nil)
    (sss_cons (ss_set (i := 4) S.nd (se_up (se_lenLc (own := [("one", 5)]) rfl S.nd rfl g_len (L2.blkOk_by (by rfl)) (se_ix ix_seq o_ix (se_name (i := 0)) se_int) (fun s0 H0 C0 cl0 fp0 => pg_name (i := 5) S.nd rfl (by first | exact Or.inl rfl | exact Or.inr rfl)) (fun s0 H0 C0 cl0 fp0 => (stf_one (st_cmp (op_eqD hr.units) o_eq (se_name (i := 5)) se_int))) (fun s0 H0 C0 cl0 fp0 => se_int))))
    (sss_cons (ss_set (i := 6) S.nd (se_up (se_lst sa_nil)))
    (sss_cons (ss_for PassesOwn.never rfl (si_range1 rfl g_range (se_frz (i := 4))) (sg_name (i := 7) S.nd) (sss_cons (ss_set (i := 8) S.nd se_int)
    (sss_cons (ss_set (i := 9) S.nd (se_up (se_op op_sub o_sub (se_op op_sub o_sub (se_name (i := 4)) se_int) (se_name (i := 7)))))
    (sss_cons (ss_for PassesOwn.never rfl (si_range1 rfl g_range se_int) (sg_name (i := 10) S.nd) (sss_cons (ss_set (i := 11) S.nd se_int)
    (sss_cons (ss_if (st_up (st_cmp op_lt o_lt (se_op op_addA o_add (se_name (i := 9)) se_int) (se_callB (call_len) o_len rfl g_len rfl (sa_cons (se_ix ix_seq o_ix (se_name (i := 0)) (se_name (i := 8))) sa_nil)))) (sss_one (ss_set (i := 11) S.nd (se_up (se_ix ix_seq o_ix (se_ix ix_seq o_ix (se_name (i := 0)) (se_name (i := 8))) (se_op op_addA o_add (se_name (i := 9)) se_int))))) sss_nil)
    (sss_cons (ss_set (i := 12) S.nd se_int)
    (sss_cons (ss_if (st_up (st_w (sw_and (st_cmp op_lt o_lt (se_op op_addA o_add (se_name (i := 8)) se_int) (se_callB (call_len) o_len rfl g_len rfl (sa_cons (se_name (i := 0)) sa_nil))) (sw_and1 (st_cmp op_lt o_lt (se_name (i := 9)) (se_callB (call_len) o_len rfl g_len rfl (sa_cons (se_ix ix_seq o_ix (se_name (i := 0)) (se_op op_addA o_add (se_name (i := 8)) se_int)) sa_nil))))))) (sss_one (ss_set (i := 12) S.nd (se_up (se_ix ix_seq o_ix (se_ix ix_seq o_ix (se_name (i := 0)) (se_op op_addA o_add (se_name (i := 8)) se_int)) (se_name (i := 9)))))) sss_nil)
    (sss_cons (ss_if (st_up (st_w (sw_and (st_cmp (op_eqD hr.units) o_eq (se_name (i := 11)) se_int) (sw_and1 (st_cmp (op_eqD hr.units) o_eq (se_name (i := 12)) se_int))))) (sss_one ss_break) sss_nil)
    (sss_one (ss_if (st_up (st_w (sw_or (st_cmp (op_eqD hr.units) o_eq (se_name (i := 11)) se_int) (sw_or1 (st_w (sw_and (st_cmp op_gt o_gt (se_name (i := 12)) se_int) (sw_and1 (st_cmp op_le o_le (se_name (i := 12)) (se_name (i := 11)))))))))) (sss_cons (ss_asg (se_frz (i := 12)) (sg_sub (sp_ix (sp_name (r := 0)) (se_name (i := 8))) (se_name (i := 9))))
    (sss_one (ss_set (i := 8) S.nd (se_up (se_op op_addA o_add (se_name (i := 8)) se_int))))) (sss_cons (ss_asg (se_frz (i := 11)) (sg_sub (sp_ix (sp_name (r := 0)) (se_name (i := 8))) (se_name (i := 9))))
    (sss_one (ss_set (i := 9) S.nd (se_up (se_op op_addA o_add (se_name (i := 9)) se_int)))))))))))))
    (sss_cons (ss_asg se_int (sg_sub (sp_ix (sp_name (r := 0)) (se_name (i := 8))) (se_name (i := 9))))
    (sss_one (ss_app (r := 6) (se_tup (sa_cons (se_frz (i := 8)) (sa_cons (se_frz (i := 9)) sa_nil))))))))))
    (sss_cons (ss_setLc (i := 13) rfl S.nd (own := [("row", 3)]) (L2.blkOk_by (by rfl)) (si_take (i := 0)) (fun s0 H0 C0 cl0 fp0 => (sg_name (i := 3) S.nd)) (fun s0 H0 C0 cl0 fp0 => sts_nil) (fun s0 H0 C0 cl0 fp0 => (se_lc rfl S.nd (own := [("x", 2)]) (L2.blkOk_by (by rfl)) (si_take (i := 3)) (fun s0 H0 C0 cl0 fp0 => (sg_name (i := 2) S.nd)) (fun s0 H0 C0 cl0 fp0 => sts_nil) (fun s0 H0 C0 cl0 fp0 => (se_up (se_op op_sub o_sub (se_name (i := 2)) se_int))))) (hsw := by rfl))
    (sss_cons (ss_for PassesOwn.never rfl (si_take (i := 6)) (sg_tup rfl (sgs_cons (sg_name (i := 8) S.nd) (sgs_cons (sg_name (i := 9) S.nd) sgs_nil))) (sss_one (ss_asg (se_frz (i := 1)) (sg_sub (sp_ix (sp_name (r := 13)) (se_name (i := 8))) (se_name (i := 9))))) (hw := fun i e => by cases e; decide))
    (sss_one (ss_ret (se_move (i := 13)))))))))))
  exact d.mono (by decide)
theorem ok__law_promoted (Y : Says K mg) : UF P w K mg base "_law_promoted" 1 ["rows", "greatest"] [0, 4, 6, 7, 8, 9, 10, 11, 12, 13] fn__law_promoted := by
  obtain ⟨f, fd, gf, F⟩ := Y.def_ 30 (x := "_law_promoted") (st := top 35) rfl rfl
  exact ⟨f, fd, gf, F.kp, F.bindsN fun _ _ _ _ _ _ us hl => match us, hl with | [_, _], _ => rfl, fk__law_promoted Y F⟩
theorem sc__law_lengths : FnScope ["things", "kind", "turns", "found", "thing", "here", "many"] ["things", "kind", "turns"] (defScope (top 37)) := ⟨rfl, rfl, rfl, by decide +kernel, rfl, by decide +kernel, by decide +kernel⟩
theorem fk__law_lengths (Y : Says K mg) {f : Addr} {fd : FuncData} (F : FnP K "_law_lengths" (top 37) f fd) : FnOk P w K mg base CX0 2 f fd ["things", "kind", "turns"] (spOf K 3 [3, 4, 5, 6] fn__law_lengths) := by
  obtain ⟨f__law_turned_word, fd__law_turned_word, g__law_turned_word, k__law_turned_word, b__law_turned_word, F__law_turned_word⟩ := ok__law_turned_word (P := P) (w := w) (base := base) Y
  obtain ⟨f__law_promoted, fd__law_promoted, g__law_promoted, k__law_promoted, b__law_promoted, F__law_promoted⟩ := ok__law_promoted (P := P) (w := w) (base := base) Y
  have S := sc__law_lengths
  refine fn_ok F S fun cdv A outer s H E hr => ?_
  have d : SSs (cxOf CX0 P w K mg base ["things", "kind", "turns", "found", "thing", "here", "many"] "_law_lengths" (defScope (top 37)) f cdv A outer s H E).nox (defBody (top 37)) _ m__law_lengths := (sss_cons (ss_set (i := 3) S.nd (se_up (se_lst sa_nil)))
    (sss_cons (ss_for PassesOwn.never rfl (si_take (i := 0)) (sg_name (i := 4) S.nd) (sss_cons (ss_set (i := 5) S.nd (se_frz (i := 4)))
    (sss_cons (ss_set (i := 6) S.nd se_int)
    (sss_cons (ss_while PassesOwn.never (st_up (st_w (sw_and (st_cmp op_lt o_lt (se_name (i := 6)) (se_op op_addA o_add (se_name (i := 2)) se_int)) (sw_and1 (st_w (sw_or (st_cmp (op_eqD hr.units) o_eq (se_name (i := 6)) se_int) (sw_or1 (st_cmp (op_neD hr.units) o_ne (se_name (i := 5)) (se_name (i := 4)))))))))) (sss_cons (ss_if (st_up (st_cmp (op_eqD hr.units) o_eq (se_name (i := 1)) se_str)) (sss_one (ss_set (i := 5) S.nd (se_call (ws := []) (fn := fn__law_turned_word) (ld := [some 5]) F__law_turned_word (hr.mono (by omega)) rfl g__law_turned_word k__law_turned_word b__law_turned_word (sl_lend (i := 5) sl_nil)))) (sss_one (ss_set (i := 5) S.nd (se_call (ws := [0, 4, 6, 7, 8, 9, 10, 11, 12, 13]) (fn := fn__law_promoted) (ld := [none, some 2]) F__law_promoted (hr.mono (by omega)) rfl g__law_promoted k__law_promoted b__law_promoted (sl_val (se_frz (i := 5)) (sl_lend (i := 2) sl_nil))))))
    (sss_one (ss_set (i := 6) S.nd (se_up (se_op op_addA o_add (se_name (i := 6)) se_int))))))
    (sss_one (ss_app (r := 3) (se_frz (i := 6))))))) (hw := fun i e => by cases e; decide))
    (sss_one (ss_ret (se_move (i := 3))))))
  exact d.mono (by decide)
theorem ok__law_lengths (Y : Says K mg) : UF P w K mg base "_law_lengths" 2 ["things", "kind", "turns"] [3, 4, 5, 6] fn__law_lengths := by
  obtain ⟨f, fd, gf, F⟩ := Y.def_ 32 (x := "_law_lengths") (st := top 37) rfl rfl
  exact ⟨f, fd, gf, F.kp, F.bindsN fun _ _ _ _ _ _ us hl => match us, hl with | [_, _, _], _ => rfl, fk__law_lengths Y F⟩
theorem sc_contents : FnScope ["partition", "j", "i"] ["partition"] (defScope (top 11)) := ⟨rfl, rfl, rfl, by decide +kernel, rfl, by decide +kernel, by decide +kernel⟩
theorem fk_contents (Y : Says K mg) {f : Addr} {fd : FuncData} (F : FnP K "contents" (top 11) f fd) : FnOk P w K mg base CX0 1 f fd ["partition"] (spOf K 1 [] fn_contents) := by
  have g_len := Y.free 37 (x := "len") rfl
  have g_range := Y.free 38 (x := "range") rfl
  have S := sc_contents
  refine fn_ok F S fun cdv A outer s H E hr => ?_
  have d : SSs (cxOf CX0 P w K mg base ["partition", "j", "i"] "contents" (defScope (top 11)) f cdv A outer s H E).nox (defBody (top 11)) _ m_contents := (sss_one (ss_ret (se_lc rfl S.nd (own := [("i", 2)]) (L2.blkOk_by (by rfl)) (si_range1 rfl g_range (se_up (se_callB (call_len) o_len rfl g_len rfl (sa_cons (se_name (i := 0)) sa_nil)))) (fun s0 H0 C0 cl0 fp0 => (sg_name (i := 2) S.nd)) (fun s0 H0 C0 cl0 fp0 => sts_nil) (fun s0 H0 C0 cl0 fp0 => (se_lc rfl S.nd (own := [("j", 1)]) (L2.blkOk_by (by rfl)) (si_range1 rfl g_range (se_up (se_ix ix_seq o_ix (se_name (i := 0)) (se_name (i := 2))))) (fun s0 H0 C0 cl0 fp0 => (sg_name (i := 1) S.nd)) (fun s0 H0 C0 cl0 fp0 => sts_nil) (fun s0 H0 C0 cl0 fp0 => (se_up (se_op op_sub o_sub (se_name (i := 1)) (se_name (i := 2))))))))))
  exact d.mono (by decide)
theorem ok_contents (Y : Says K mg) : UF P w K mg base "contents" 1 ["partition"] [] fn_contents := by
  obtain ⟨f, fd, gf, F⟩ := Y.def_ 8 (x := "contents") (st := top 11) rfl rfl
  exact ⟨f, fd, gf, F.kp, F.bindsN fun _ _ _ _ _ _ us hl => match us, hl with | [_], _ => rfl, fk_contents Y F⟩
theorem sc_letters_polynomial : FnScope ["shape", "greatest", "found", "row", "one"] ["shape", "greatest"] (defScope (top 15)) := ⟨rfl, rfl, rfl, by decide +kernel, rfl, by decide +kernel, by decide +kernel⟩
theorem fk_letters_polynomial (Y : Says K mg) {f : Addr} {fd : FuncData} (F : FnP K "letters_polynomial" (top 15) f fd) : FnOk P w K mg base CX0 4 f fd ["shape", "greatest"] (spOf K 2 [2, 3, 4] fn_letters_polynomial) := by
  obtain ⟨f_over_hooks, fd_over_hooks, g_over_hooks, k_over_hooks, b_over_hooks, F_over_hooks⟩ := ok_over_hooks (P := P) (w := w) (base := base) Y
  obtain ⟨f_contents, fd_contents, g_contents, k_contents, b_contents, F_contents⟩ := ok_contents (P := P) (w := w) (base := base) Y
  obtain ⟨f_product_of, fd_product_of, g_product_of, k_product_of, b_product_of, F_product_of⟩ := ok_product_of (P := P) (w := w) (base := base) Y
  obtain ⟨f_q_number, fd_q_number, g_q_number, k_q_number, b_q_number, F_q_number⟩ := ok_q_number (P := P) (w := w) (base := base) Y
  have g_len := Y.free 37 (x := "len") rfl
  have S := sc_letters_polynomial
  refine fn_ok F S fun cdv A outer s H E hr => ?_
  have d : SSs (cxOf CX0 P w K mg base ["shape", "greatest", "found", "row", "one"] "letters_polynomial" (defScope (top 15)) f cdv A outer s H E).nox (defBody (top 15)) _ m_letters_polynomial := (sss_cons (ss_set (i := 2) S.nd (se_up (se_tup (sa_cons se_int sa_nil))))
    (sss_cons (ss_for PassesOwn.never rfl (si_seq (se_call (ws := []) (fn := fn_contents) (ld := [some 0]) F_contents (hr.mono (by omega)) rfl g_contents k_contents b_contents (sl_lend (i := 0) sl_nil))) (sg_name (i := 3) S.nd) (sss_one (ss_for PassesOwn.never rfl (si_take (i := 3)) (sg_name (i := 4) S.nd) (sss_one (ss_set (i := 2) S.nd (se_call (ws := [2, 3, 4]) (fn := fn_product_of) (ld := [some 2, none]) F_product_of (hr.mono (by omega)) rfl g_product_of k_product_of b_product_of (sl_lend (i := 2) (sl_val (se_call (ws := []) (fn := fn_q_number) (ld := [none]) F_q_number (hr.mono (by omega)) rfl g_q_number k_q_number b_q_number (sl_val (se_up (se_op op_addA o_add (se_name (i := 1)) (se_name (i := 4)))) sl_nil)) sl_nil))))) (hw := fun i e => by cases e; decide))))
    (sss_one (ss_ret (se_if (st_up (st_cmp op_gt o_gt (se_callB (call_len) o_len rfl g_len rfl (sa_cons (se_name (i := 2)) sa_nil)) se_int)) (se_call (ws := [0, 2, 3]) (fn := fn_over_hooks) (ld := [none, some 0]) F_over_hooks (hr.mono (by omega)) rfl g_over_hooks k_over_hooks b_over_hooks (sl_val (se_frz (i := 2)) (sl_lend (i := 0) sl_nil))) (se_up (se_tup sa_nil)))))))
  exact d.mono (by decide)
theorem ok_letters_polynomial (Y : Says K mg) : UF P w K mg base "letters_polynomial" 4 ["shape", "greatest"] [2, 3, 4] fn_letters_polynomial := by
  obtain ⟨f, fd, gf, F⟩ := Y.def_ 11 (x := "letters_polynomial") (st := top 15) rfl rfl
  exact ⟨f, fd, gf, F.kp, F.bindsN fun _ _ _ _ _ _ us hl => match us, hl with | [_, _], _ => rfl, fk_letters_polynomial Y F⟩
theorem sc_words_polynomial : FnScope ["counts", "found", "one"] ["counts"] (defScope (top 16)) := ⟨rfl, rfl, rfl, by decide +kernel, rfl, by decide +kernel, by decide +kernel⟩
theorem fk_words_polynomial (Y : Says K mg) {f : Addr} {fd : FuncData} (F : FnP K "words_polynomial" (top 16) f fd) : FnOk P w K mg base CX0 4 f fd ["counts"] (spOf K 1 [1, 2] fn_words_polynomial) := by
  obtain ⟨f_quotient_of, fd_quotient_of, g_quotient_of, k_quotient_of, b_quotient_of, F_quotient_of⟩ := ok_quotient_of (P := P) (w := w) (base := base) Y
  obtain ⟨f_q_factorial, fd_q_factorial, g_q_factorial, k_q_factorial, b_q_factorial, F_q_factorial⟩ := ok_q_factorial (P := P) (w := w) (base := base) Y
  have g_sum := Y.free 47 (x := "sum") rfl
  have S := sc_words_polynomial
  refine fn_ok F S fun cdv A outer s H E hr => ?_
  have d : SSs (cxOf CX0 P w K mg base ["counts", "found", "one"] "words_polynomial" (defScope (top 16)) f cdv A outer s H E).nox (defBody (top 16)) _ m_words_polynomial := (sss_cons (ss_set (i := 1) S.nd (se_call (ws := [1, 2]) (fn := fn_q_factorial) (ld := [none]) F_q_factorial (hr.mono (by omega)) rfl g_q_factorial k_q_factorial b_q_factorial (sl_val (se_up (se_callB ((cr_sumA rfl)) o_sumA rfl g_sum rfl (sa_cons (se_name (i := 0)) sa_nil))) sl_nil)))
    (sss_cons (ss_for PassesOwn.never rfl (si_take (i := 0)) (sg_name (i := 2) S.nd) (sss_one (ss_set (i := 1) S.nd (se_call (ws := [2, 3, 4, 5, 6, 7]) (fn := fn_quotient_of) (ld := [some 1, none]) F_quotient_of (hr.mono (by omega)) rfl g_quotient_of k_quotient_of b_quotient_of (sl_lend (i := 1) (sl_val (se_call (ws := [1, 2]) (fn := fn_q_factorial) (ld := [some 2]) F_q_factorial (hr.mono (by omega)) rfl g_q_factorial k_q_factorial b_q_factorial (sl_lend (i := 2) sl_nil)) sl_nil))))) (hw := fun i e => by cases e; decide))
    (sss_one (ss_ret (se_move (i := 1))))))
  exact d.mono (by decide)
theorem ok_words_polynomial (Y : Says K mg) : UF P w K mg base "words_polynomial" 4 ["counts"] [1, 2] fn_words_polynomial := by
  obtain ⟨f, fd, gf, F⟩ := Y.def_ 12 (x := "words_polynomial") (st := top 16) rfl rfl
  exact ⟨f, fd, gf, F.kp, F.bindsN fun _ _ _ _ _ _ us hl => match us, hl with | [_], _ => rfl, fk_words_polynomial Y F⟩
theorem sc__law_hooks : FnScope ["shape", "found", "i", "one", "j"] ["shape"] (defScope (top 31)) := ⟨rfl, rfl, rfl, by decide +kernel, rfl, by decide +kernel, by decide +kernel⟩
theorem fk__law_hooks (Y : Says K mg) {f : Addr} {fd : FuncData} (F : FnP K "_law_hooks" (top 31) f fd) : FnOk P w K mg base CX0 1 f fd ["shape"] (spOf K 1 [1, 2] fn__law_hooks) := by
  have g_len := Y.free 37 (x := "len") rfl
  have g_range := Y.free 38 (x := "range") rfl
  have S := sc__law_hooks
  refine fn_ok F S fun cdv A outer s H E hr => ?_
  have d : SSs (cxOf CX0 P w K mg base ["shape", "found", "i", "one", "j"] "_law_hooks" (defScope (top 31)) f cdv A outer s H E).nox (defBody (top 31)) _ m__law_hooks := (sss_cons (ss_set (i := 1) S.nd (se_up (se_lst sa_nil)))
    (sss_cons (ss_for PassesOwn.never rfl (si_range1 rfl g_range (se_up (se_callB (call_len) o_len rfl g_len rfl (sa_cons (se_name (i := 0)) sa_nil)))) (sg_name (i := 2) S.nd) (sss_one (ss_set (i := 1) S.nd (se_op op_addA o_add (se_frz (i := 1)) (se_lc rfl S.nd (own := [("j", 4)]) (L2.blkOk_by (by rfl)) (si_range1 rfl g_range (se_up (se_ix ix_seq o_ix (se_name (i := 0)) (se_name (i := 2))))) (fun s0 H0 C0 cl0 fp0 => (sg_name (i := 4) S.nd)) (fun s0 H0 C0 cl0 fp0 => sts_nil) (fun s0 H0 C0 cl0 fp0 => (se_up (se_op op_addA o_add (se_op op_sub o_sub (se_ix ix_seq o_ix (se_name (i := 0)) (se_name (i := 2))) (se_name (i := 4))) (se_lenLc (own := [("one", 3)]) rfl S.nd rfl g_len (L2.blkOk_by (by rfl)) (se_slice sl_all o_sl (se_name (i := 0)) (so_some (se_op op_addA o_add (se_name (i := 2)) se_int)) so_none) (fun s0 H0 C0 cl0 fp0 => pg_name (i := 3) S.nd rfl (by first | exact Or.inl rfl | exact Or.inr rfl)) (fun s0 H0 C0 cl0 fp0 => (stf_one (st_cmp op_gt o_gt (se_name (i := 3)) (se_name (i := 4))))) (fun s0 H0 C0 cl0 fp0 => se_int))))))))))
    (sss_one (ss_ret (se_move (i := 1))))))
  exact d.mono (by decide)
theorem ok__law_hooks (Y : Says K mg) : UF P w K mg base "_law_hooks" 1 ["shape"] [1, 2] fn__law_hooks := by
  obtain ⟨f, fd, gf, F⟩ := Y.def_ 26 (x := "_law_hooks") (st := top 31) rfl rfl
  exact ⟨f, fd, gf, F.kp, F.bindsN fun _ _ _ _ _ _ us hl => match us, hl with | [_], _ => rfl, fk__law_hooks Y F⟩
def ws_law : List Nat := [1, 2, 3, 4, 5, 6, 7, 8, 9, 11, 12, 13, 14, 15, 16, 17, 18, 19]
theorem sc_law : FnScope ["script", "state", "shape", "many", "things", "word", "greatest", "small", "contents_v", "i", "j", "some", "counts", "k", "words", "turn", "later", "one", "loose", "under"] ["script"] (defScope (top 41)) := ⟨rfl, rfl, rfl, by decide +kernel, rfl, by decide +kernel, by decide +kernel⟩
theorem fk_law (Y : Says K mg) {f : Addr} {fd : FuncData} (F : FnP K "law" (top 41) f fd) : FnOk P w K mg base CX0 13 f fd ["script"] (spOf K 1 [1, 2, 3, 4, 5, 6, 7, 8, 9, 11, 12, 13, 14, 15, 16, 17, 18, 19] fn_law) := by
  obtain ⟨f__law_roots, fd__law_roots, g__law_roots, k__law_roots, b__law_roots, F__law_roots⟩ := ok__law_roots (P := P) (w := w) (base := base) Y
  obtain ⟨f__law_times, fd__law_times, g__law_times, k__law_times, b__law_times, F__law_times⟩ := ok__law_times (P := P) (w := w) (base := base) Y
  obtain ⟨f_words_polynomial, fd_words_polynomial, g_words_polynomial, k_words_polynomial, b_words_polynomial, F_words_polynomial⟩ := ok_words_polynomial (P := P) (w := w) (base := base) Y
  obtain ⟨f__law_numbers, fd__law_numbers, g__law_numbers, k__law_numbers, b__law_numbers, F__law_numbers⟩ := ok__law_numbers (P := P) (w := w) (base := base) Y
  obtain ⟨f__law_pick, fd__law_pick, g__law_pick, k__law_pick, b__law_pick, F__law_pick⟩ := ok__law_pick (P := P) (w := w) (base := base) Y
  obtain ⟨f__law_told, fd__law_told, g__law_told, k__law_told, b__law_told, F__law_told⟩ := ok__law_told (P := P) (w := w) (base := base) Y
  obtain ⟨f__law_lengths, fd__law_lengths, g__law_lengths, k__law_lengths, b__law_lengths, F__law_lengths⟩ := ok__law_lengths (P := P) (w := w) (base := base) Y
  obtain ⟨f_standard_polynomial, fd_standard_polynomial, g_standard_polynomial, k_standard_polynomial, b_standard_polynomial, F_standard_polynomial⟩ := ok_standard_polynomial (P := P) (w := w) (base := base) Y
  obtain ⟨f_letters_polynomial, fd_letters_polynomial, g_letters_polynomial, k_letters_polynomial, b_letters_polynomial, F_letters_polynomial⟩ := ok_letters_polynomial (P := P) (w := w) (base := base) Y
  obtain ⟨f__law_all, fd__law_all, g__law_all, k__law_all, b__law_all, F__law_all⟩ := ok__law_all (P := P) (w := w) (base := base) Y
  obtain ⟨f__law_hooks, fd__law_hooks, g__law_hooks, k__law_hooks, b__law_hooks, F__law_hooks⟩ := ok__law_hooks (P := P) (w := w) (base := base) Y
  obtain ⟨f__law_standards, fd__law_standards, g__law_standards, k__law_standards, b__law_standards, F__law_standards⟩ := ok__law_standards (P := P) (w := w) (base := base) Y
  obtain ⟨f__law_tableau, fd__law_tableau, g__law_tableau, k__law_tableau, b__law_tableau, F__law_tableau⟩ := ok__law_tableau (P := P) (w := w) (base := base) Y
  obtain ⟨f__law_start, fd__law_start, g__law_start, k__law_start, b__law_start, F__law_start⟩ := ok__law_start (P := P) (w := w) (base := base) Y
  have g_sum := Y.free 47 (x := "sum") rfl
  have g_list := Y.free 41 (x := "list") rfl
  have g_range := Y.free 38 (x := "range") rfl
  have g_tuple := Y.free 40 (x := "tuple") rfl
  have g_len := Y.free 37 (x := "len") rfl
  have g_max := Y.free 39 (x := "max") rfl
  have S := sc_law
  refine fn_ok F S fun cdv A outer s H E hr => ?_
  have d : SSs (cxOf CX0 P w K mg base ["script", "state", "shape", "many", "things", "word", "greatest", "small", "contents_v", "i", "j", "some", "counts", "k", "words", "turn", "later", "one", "loose", "under"] "law" (defScope (top 41)) f cdv A outer s H E).nox (defBody (top 41)) _ m_law := (sss_cons (ss_set (i := 1) S.nd (se_call (ws := []) (fn := fn__law_start) (ld := [some 0]) F__law_start (hr.mono (by omega)) rfl g__law_start k__law_start b__law_start (sl_lend (i := 0) sl_nil)))
    (sss_cons (ss_set (i := 2) S.nd (se_ix ix_seq o_ix (se_lst (sa_cons (se_up (se_tup (sa_cons se_int sa_nil))) (sa_cons (se_up (se_tup (sa_cons se_int sa_nil))) (sa_cons (se_up (se_tup (sa_cons se_int sa_nil))) (sa_cons (se_up (se_tup (sa_cons se_int (sa_cons se_int sa_nil)))) (sa_cons (se_up (se_tup (sa_cons se_int (sa_cons se_int (sa_cons se_int sa_nil))))) (sa_cons (se_up (se_tup (sa_cons se_int (sa_cons se_int sa_nil)))) (sa_cons (se_up (se_tup (sa_cons se_int (sa_cons se_int (sa_cons se_int sa_nil))))) (sa_cons (se_up (se_tup (sa_cons se_int (sa_cons se_int sa_nil)))) (sa_cons (se_up (se_tup (sa_cons se_int (sa_cons se_int (sa_cons se_int sa_nil))))) (sa_cons (se_up (se_tup (sa_cons se_int (sa_cons se_int sa_nil)))) (sa_cons (se_up (se_tup (sa_cons se_int (sa_cons se_int (sa_cons se_int (sa_cons se_int sa_nil)))))) (sa_cons (se_up (se_tup (sa_cons se_int (sa_cons se_int (sa_cons se_int (sa_cons se_int sa_nil)))))) sa_nil))))))))))))) (se_call (ws := [2, 3]) (fn := fn__law_pick) (ld := [some 1, none]) F__law_pick (hr.mono (by omega)) rfl g__law_pick k__law_pick b__law_pick (sl_lend (i := 1) (sl_val se_int sl_nil)))))
    (sss_cons (ss_set (i := 3) S.nd (se_up (se_callB ((cr_sumA rfl)) o_sumA rfl g_sum rfl (sa_cons (se_name (i := 2)) sa_nil))))
    (sss_cons (ss_if (st_cmp (op_neD hr.units) o_ne (se_call (ws := [2, 3, 4]) (fn := fn__law_times) (ld := [none, none]) F__law_times (hr.mono (by omega)) rfl g__law_times k__law_times b__law_times (sl_val (se_call (ws := []) (fn := fn_standard_polynomial) (ld := [some 2]) F_standard_polynomial (hr.mono (by omega)) rfl g_standard_polynomial k_standard_polynomial b_standard_polynomial (sl_lend (i := 2) sl_nil)) (sl_val (se_call (ws := [1, 2]) (fn := fn__law_numbers) (ld := [none]) F__law_numbers (hr.mono (by omega)) rfl g__law_numbers k__law_numbers b__law_numbers (sl_val (se_call (ws := [1, 2]) (fn := fn__law_hooks) (ld := [some 2]) F__law_hooks (hr.mono (by omega)) rfl g__law_hooks k__law_hooks b__law_hooks (sl_lend (i := 2) sl_nil)) sl_nil)) sl_nil))) (se_call (ws := [1, 2]) (fn := fn__law_numbers) (ld := [none]) F__law_numbers (hr.mono (by omega)) rfl g__law_numbers k__law_numbers b__law_numbers (sl_val (se_up (se_listRg2 rfl rfl g_list rfl g_range se_int (se_op op_addA o_add (se_name (i := 3)) se_int))) sl_nil))) (sss_one (ss_ret se_bl)) sss_nil)
    (sss_cons (ss_setLc (i := 4) rfl S.nd (own := [("word", 5)]) (L2.blkOk_by (by rfl)) (si_seq (se_call (ws := [1, 2, 3, 4, 5, 6]) (fn := fn__law_standards) (ld := [some 2]) F__law_standards (hr.mono (by omega)) rfl g__law_standards k__law_standards b__law_standards (sl_lend (i := 2) sl_nil))) (fun s0 H0 C0 cl0 fp0 => (sg_name (i := 5) S.nd)) (fun s0 H0 C0 cl0 fp0 => sts_nil) (fun s0 H0 C0 cl0 fp0 => (se_call (ws := [2, 3]) (fn := fn__law_tableau) (ld := [some 5, none]) F__law_tableau (hr.mono (by omega)) rfl g__law_tableau k__law_tableau b__law_tableau (sl_lend (i := 5) (sl_val (se_up (se_callB (call_len) o_len rfl g_len rfl (sa_cons (se_name (i := 2)) sa_nil))) sl_nil)))) (hsw := by rfl))
    (sss_cons (ss_if (st_not (st_val (se_call (ws := [4, 5, 6, 7, 8, 9, 10]) (fn := fn__law_told) (ld := [none, none, some 3]) F__law_told (hr.mono (by omega)) rfl g__law_told k__law_told b__law_told (sl_val (se_call (ws := []) (fn := fn_standard_polynomial) (ld := [some 2]) F_standard_polynomial (hr.mono (by omega)) rfl g_standard_polynomial k_standard_polynomial b_standard_polynomial (sl_lend (i := 2) sl_nil)) (sl_val (se_call (ws := [3, 4, 5, 6]) (fn := fn__law_lengths) (ld := [some 4, none, some 3]) F__law_lengths (hr.mono (by omega)) rfl g__law_lengths k__law_lengths b__law_lengths (sl_lend (i := 4) (sl_val se_str (sl_lend (i := 3) sl_nil)))) (sl_lend (i := 3) sl_nil)))))) (sss_one (ss_ret se_bl)) sss_nil)
    (sss_cons (ss_set (i := 6) S.nd (se_op op_addA o_add se_int (se_call (ws := [2, 3]) (fn := fn__law_pick) (ld := [some 1, none]) F__law_pick (hr.mono (by omega)) rfl g__law_pick k__law_pick b__law_pick (sl_lend (i := 1) (sl_val se_int sl_nil)))))
    (sss_cons (ss_set (i := 7) S.nd (se_ix ix_seq o_ix (se_lst (sa_cons (se_up (se_tup (sa_cons se_int sa_nil))) (sa_cons (se_up (se_tup (sa_cons se_int sa_nil))) (sa_cons (se_up (se_tup (sa_cons se_int (sa_cons se_int sa_nil)))) (sa_cons (se_up (se_tup (sa_cons se_int (sa_cons se_int sa_nil)))) (sa_cons (se_up (se_tup (sa_cons se_int (sa_cons se_int (sa_cons se_int sa_nil))))) (sa_cons (se_up (se_tup (sa_cons se_int (sa_cons se_int (sa_cons se_int sa_nil))))) (sa_cons (se_up (se_tup (sa_cons se_int (sa_cons se_int sa_nil)))) sa_nil)))))))) (se_call (ws := [2, 3]) (fn := fn__law_pick) (ld := [some 1, none]) F__law_pick (hr.mono (by omega)) rfl g__law_pick k__law_pick b__law_pick (sl_lend (i := 1) (sl_val se_int sl_nil)))))
    (sss_cons (ss_set (i := 8) S.nd (se_up (se_lst sa_nil)))
    (sss_cons (ss_for PassesOwn.never rfl (si_range1 rfl g_range (se_up (se_callB (call_len) o_len rfl g_len rfl (sa_cons (se_name (i := 7)) sa_nil)))) (sg_name (i := 9) S.nd) (sss_one (ss_set (i := 8) S.nd (se_op op_addA o_add (se_frz (i := 8)) (se_lc rfl S.nd (own := [("j", 10)]) (L2.blkOk_by (by rfl)) (si_range1 rfl g_range (se_up (se_ix ix_seq o_ix (se_name (i := 7)) (se_name (i := 9))))) (fun s0 H0 C0 cl0 fp0 => (sg_name (i := 10) S.nd)) (fun s0 H0 C0 cl0 fp0 => sts_nil) (fun s0 H0 C0 cl0 fp0 => (se_up (se_callB ((call_max2 rfl)) o_max2 rfl g_max rfl (sa_cons se_int (sa_cons (se_op op_sub o_sub (se_op op_addA o_add (se_name (i := 6)) (se_name (i := 10))) (se_name (i := 9))) sa_nil))))))))))
    (sss_cons (ss_if (st_cmp (op_neD hr.units) o_ne (se_call (ws := [2, 3, 4]) (fn := fn__law_times) (ld := [none, none]) F__law_times (hr.mono (by omega)) rfl g__law_times k__law_times b__law_times (sl_val (se_call (ws := [2, 3, 4]) (fn := fn_letters_polynomial) (ld := [some 7, some 6]) F_letters_polynomial (hr.mono (by omega)) rfl g_letters_polynomial k_letters_polynomial b_letters_polynomial (sl_lend (i := 7) (sl_lend (i := 6) sl_nil))) (sl_val (se_call (ws := [1, 2]) (fn := fn__law_numbers) (ld := [none]) F__law_numbers (hr.mono (by omega)) rfl g__law_numbers k__law_numbers b__law_numbers (sl_val (se_call (ws := [1, 2]) (fn := fn__law_hooks) (ld := [some 7]) F__law_hooks (hr.mono (by omega)) rfl g__law_hooks k__law_hooks b__law_hooks (sl_lend (i := 7) sl_nil)) sl_nil)) sl_nil))) (se_call (ws := [1, 2]) (fn := fn__law_numbers) (ld := [some 8]) F__law_numbers (hr.mono (by omega)) rfl g__law_numbers k__law_numbers b__law_numbers (sl_lend (i := 8) sl_nil))) (sss_one (ss_ret se_bl)) sss_nil)
    (sss_cons (ss_set (i := 11) S.nd (se_call (ws := [2, 3, 4, 5, 6, 7, 8, 9]) (fn := fn__law_all) (ld := [some 7, some 6]) F__law_all (hr.mono (by omega)) rfl g__law_all k__law_all b__law_all (sl_lend (i := 7) (sl_lend (i := 6) sl_nil))))
    (sss_cons (ss_if (st_not (st_val (se_call (ws := [4, 5, 6, 7, 8, 9, 10]) (fn := fn__law_told) (ld := [none, none, some 6]) F__law_told (hr.mono (by omega)) rfl g__law_told k__law_told b__law_told (sl_val (se_call (ws := [2, 3, 4]) (fn := fn_letters_polynomial) (ld := [some 7, some 6]) F_letters_polynomial (hr.mono (by omega)) rfl g_letters_polynomial k_letters_polynomial b_letters_polynomial (sl_lend (i := 7) (sl_lend (i := 6) sl_nil))) (sl_val (se_call (ws := [3, 4, 5, 6]) (fn := fn__law_lengths) (ld := [some 11, none, some 6]) F__law_lengths (hr.mono (by omega)) rfl g__law_lengths k__law_lengths b__law_lengths (sl_lend (i := 11) (sl_val se_str (sl_lend (i := 6) sl_nil)))) (sl_lend (i := 6) sl_nil)))))) (sss_one (ss_ret se_bl)) sss_nil)
    (sss_cons (ss_set (i := 12) S.nd (se_callTy (call_tuple_of) o_tuple rfl g_tuple rfl (sa_cons (se_lc rfl S.nd (own := [("k", 13)]) (L2.blkOk_by (by rfl)) (si_range1 rfl g_range se_int) (fun s0 H0 C0 cl0 fp0 => (sg_name (i := 13) S.nd)) (fun s0 H0 C0 cl0 fp0 => sts_nil) (fun s0 H0 C0 cl0 fp0 => (se_call (ws := [2, 3]) (fn := fn__law_pick) (ld := [some 1, none]) F__law_pick (hr.mono (by omega)) rfl g__law_pick k__law_pick b__law_pick (sl_lend (i := 1) (sl_val se_int sl_nil))))) sa_nil)))
    (sss_cons (ss_if (st_up (st_cmp (op_eqD hr.units) o_eq (se_callB ((cr_sumA rfl)) o_sumA rfl g_sum rfl (sa_cons (se_name (i := 12)) sa_nil)) se_int)) (sss_one (ss_ret (se_and (se_cmp (op_eqD hr.units) o_eq (se_call (ws := [1, 2]) (fn := fn_words_polynomial) (ld := [none]) F_words_polynomial (hr.mono (by omega)) rfl g_words_polynomial k_words_polynomial b_words_polynomial (sl_val (se_up (se_tup (sa_cons se_int (sa_cons se_int sa_nil)))) sl_nil)) (se_up (se_tup (sa_cons se_int sa_nil)))) (se_and (se_cmp (op_eqD hr.units) o_eq (se_call (ws := []) (fn := fn_standard_polynomial) (ld := [none]) F_standard_polynomial (hr.mono (by omega)) rfl g_standard_polynomial k_standard_polynomial b_standard_polynomial (sl_val (se_up (se_tup sa_nil)) sl_nil)) (se_up (se_tup (sa_cons se_int sa_nil)))) (se_one (se_call (ws := [1, 2, 3, 5, 6, 7, 8, 9, 10, 11]) (fn := fn__law_roots) (ld := [some 1]) F__law_roots (hr.mono (by omega)) rfl g__law_roots k__law_roots b__law_roots (sl_lend (i := 1) sl_nil))))))) sss_nil)
    (sss_cons (ss_set (i := 14) S.nd (se_lst (sa_cons (se_up (se_tup sa_nil)) sa_nil)))
    (sss_cons (ss_for PassesOwn.never rfl (si_range1 rfl g_range (se_up (se_callB ((cr_sumA rfl)) o_sumA rfl g_sum rfl (sa_cons (se_name (i := 12)) sa_nil)))) (sg_name (i := 15) S.nd) (sss_cons (ss_set (i := 16) S.nd (se_up (se_lst sa_nil)))
    (sss_cons (ss_for PassesOwn.never rfl (si_take (i := 14)) (sg_name (i := 5) S.nd) (sss_one (ss_for PassesOwn.never rfl (si_range1 rfl g_range (se_up (se_callB (call_len) o_len rfl g_len rfl (sa_cons (se_name (i := 12)) sa_nil)))) (sg_name (i := 13) S.nd) (sss_one (ss_if (st_up (st_cmp op_lt o_lt (se_lenLc (own := [("one", 17)]) rfl S.nd rfl g_len (L2.blkOk_by (by rfl)) (se_name (i := 5)) (fun s0 H0 C0 cl0 fp0 => pg_name (i := 17) S.nd rfl (by first | exact Or.inl rfl | exact Or.inr rfl)) (fun s0 H0 C0 cl0 fp0 => (stf_one (st_cmp (op_eqD hr.units) o_eq (se_name (i := 17)) (se_name (i := 13))))) (fun s0 H0 C0 cl0 fp0 => se_int)) (se_ix ix_seq o_ix (se_name (i := 12)) (se_name (i := 13))))) (sss_one (ss_app (r := 16) (se_up (se_op op_addA o_add (se_name (i := 5)) (se_tup (sa_cons (se_name (i := 13)) sa_nil)))))) sss_nil)))) (hw := fun i e => by cases e; decide))
    (sss_one (ss_set (i := 14) S.nd (se_frz (i := 16)))))))
    (sss_cons (ss_if (st_w (sw_and (st_up (st_cmp op_lt o_lt (se_callB (call_len) o_len rfl g_len rfl (sa_cons (se_name (i := 14)) sa_nil)) se_int)) (sw_and1 (st_not (st_val (se_call (ws := [4, 5, 6, 7, 8, 9, 10]) (fn := fn__law_told) (ld := [none, none, none]) F__law_told (hr.mono (by omega)) rfl g__law_told k__law_told b__law_told (sl_val (se_call (ws := [1, 2]) (fn := fn_words_polynomial) (ld := [some 12]) F_words_polynomial (hr.mono (by omega)) rfl g_words_polynomial k_words_polynomial b_words_polynomial (sl_lend (i := 12) sl_nil)) (sl_val (se_call (ws := [3, 4, 5, 6]) (fn := fn__law_lengths) (ld := [some 14, none, none]) F__law_lengths (hr.mono (by omega)) rfl g__law_lengths k__law_lengths b__law_lengths (sl_lend (i := 14) (sl_val se_str (sl_val (se_up (se_callB ((cr_sumA rfl)) o_sumA rfl g_sum rfl (sa_cons (se_name (i := 12)) sa_nil))) sl_nil)))) (sl_val (se_up (se_callB ((cr_sumA rfl)) o_sumA rfl g_sum rfl (sa_cons (se_name (i := 12)) sa_nil))) sl_nil))))))))) (sss_one (ss_ret se_bl)) sss_nil)
    (sss_cons (ss_set (i := 18) S.nd (se_callTy (call_tuple_of) o_tuple rfl g_tuple rfl (sa_cons (se_lc rfl S.nd (own := [("k", 13)]) (L2.blkOk_by (by rfl)) (si_range1 rfl g_range se_int) (fun s0 H0 C0 cl0 fp0 => (sg_name (i := 13) S.nd)) (fun s0 H0 C0 cl0 fp0 => sts_nil) (fun s0 H0 C0 cl0 fp0 => (se_op op_addA o_add se_int (se_call (ws := [2, 3]) (fn := fn__law_pick) (ld := [some 1, none]) F__law_pick (hr.mono (by omega)) rfl g__law_pick k__law_pick b__law_pick (sl_lend (i := 1) (sl_val se_int sl_nil)))))) sa_nil)))
    (sss_cons (ss_set (i := 19) S.nd (se_up (se_tup (sa_cons se_int sa_nil))))
    (sss_cons (ss_for PassesOwn.never rfl (si_take (i := 18)) (sg_name (i := 17) S.nd) (sss_one (ss_set (i := 19) S.nd (se_call (ws := [2, 3, 4]) (fn := fn__law_times) (ld := [some 19, none]) F__law_times (hr.mono (by omega)) rfl g__law_times k__law_times b__law_times (sl_lend (i := 19) (sl_val (se_call (ws := [1, 2]) (fn := fn__law_numbers) (ld := [none]) F__law_numbers (hr.mono (by omega)) rfl g__law_numbers k__law_numbers b__law_numbers (sl_val (se_up (se_listRg2 rfl rfl g_list rfl g_range se_int (se_op op_addA o_add (se_name (i := 17)) se_int))) sl_nil)) sl_nil))))) (hw := fun i e => by cases e; decide))
    (sss_cons (ss_if (st_cmp (op_neD hr.units) o_ne (se_call (ws := [2, 3, 4]) (fn := fn__law_times) (ld := [none, some 19]) F__law_times (hr.mono (by omega)) rfl g__law_times k__law_times b__law_times (sl_val (se_call (ws := [1, 2]) (fn := fn_words_polynomial) (ld := [some 18]) F_words_polynomial (hr.mono (by omega)) rfl g_words_polynomial k_words_polynomial b_words_polynomial (sl_lend (i := 18) sl_nil)) (sl_lend (i := 19) sl_nil))) (se_call (ws := [1, 2]) (fn := fn__law_numbers) (ld := [none]) F__law_numbers (hr.mono (by omega)) rfl g__law_numbers k__law_numbers b__law_numbers (sl_val (se_up (se_listRg2 rfl rfl g_list rfl g_range se_int (se_op op_addA o_add (se_callB ((cr_sumA rfl)) o_sumA rfl g_sum rfl (sa_cons (se_name (i := 18)) sa_nil)) se_int))) sl_nil))) (sss_one (ss_ret se_bl)) sss_nil)
    (sss_one (ss_ret (se_call (ws := [1, 2, 3, 5, 6, 7, 8, 9, 10, 11]) (fn := fn__law_roots) (ld := [some 1]) F__law_roots (hr.mono (by omega)) rfl g__law_roots k__law_roots b__law_roots (sl_lend (i := 1) sl_nil))))))))))))))))))))))))))
  exact d.mono (by decide)
theorem ok_law (Y : Says K mg) : UF P w K mg base "law" 13 ["script"] [1, 2, 3, 4, 5, 6, 7, 8, 9, 11, 12, 13, 14, 15, 16, 17, 18, 19] fn_law := by
  obtain ⟨f, fd, gf, F⟩ := Y.def_ 36 (x := "law") (st := top 41) rfl rfl
  exact ⟨f, fd, gf, F.kp, F.bindsN fun _ _ _ _ _ _ us hl => match us, hl with | [_], _ => rfl, fk_law Y F⟩
end
def loose0 : List PySem.Str := ["trimmed", "product_of", "quotient_of", "q_number", "q_factorial", "divisor", "conjugate", "hooks", "contents", "over_hooks", "standard_polynomial", "letters_polynomial", "words_polynomial", "cyclotomic", "remainder", "at_root", "fixed", "divisors", "orbits", "folded", "_law_start", "_law_pick", "_law_same", "_law_times", "_law_trimmed", "_law_numbers", "_law_hooks", "_law_standards", "_law_tableau", "_law_all"]
def loose1 : List PySem.Str := ["_law_promoted", "_law_turned_word", "_law_lengths", "_law_told", "_law_roots", "_law_rest"]
def loose : List PySem.Str := loose0 ++ loose1
abbrev R : PySem.W.OpenRow := PySem.W.OpenLaw.row PySem.Challenge.rw_hivewright_k89_whole_orbits_counted_by_r
abbrev hk : PySem.W.Hook := He.hookD 4 fas dds
def ob (s : PySem.W.SharedT) : He.AlD := He.obsDG 4 fas dds (HandSHeadRun.getT s)
theorem ob_eq (s : PySem.W.SharedT) : ob s = hk.obs s.abs := He.obsDG_eq (HandSHeadRun.getT_eq s)
theorem run (w : PySem.World) : HandSHeadRun.RunEq R (PySem.W.view R.prog [41]) hk ob 2000 loose w := by
  intro os
  kernel_rfl
theorem facts {P : Program} {w : PySem.World} {K : PySem.W.Frag} {h : Heap} {mg : Str → Option Value} {f : Addr} (X : K.In h) (G : h.Ns mainGlobals mg) (hfa : mg ("law" : Str) = some (.ref f)) (c : He.SaysD fas dds K) :
    ∃ fd : FuncData, (∀ (s : Shared) (v : Value), BindsTo s fd ⟨[v], []⟩ [("script", v)]) ∧ ∀ base : Heap, FnOk P w K mg base CX0 13 f fd ["script"] (spOf K 1 ws_law fn_law) := by
  have Y : Says K mg := ⟨h, X, G, c⟩
  obtain ⟨fd, F⟩ := c.def_ 36 (d := ⟨("law", none), "law", "law", defArgs (top 41), defBody (top 41), defScope (top 41), [], []⟩) rfl
  have e := hfa.symm.trans (He.glo_ok X G (c.fact 36 (f := .glo "law") rfl))
  cases e
  have b := FunD.bindsA (ps := ["script"]) F fun _ _ _ _ _ _ us hl => match us, hl with | [_], _ => rfl
  exact ⟨fd, fun s v => b s [v] rfl, fun base => fk_law Y F⟩
end K89
open PySem PySem.W PySem.Calls PyProof.Rows
theorem PySem.Challenge.cw_hivewright_k89_whole_orbits_counted_by_r_holds : PySem.Challenge.rw_hivewright_k89_whole_orbits_counted_by_r.Holds := by
  w_on; o_law
  refine HandSHeadRun.head_any (r := OpenLaw.row PySem.Challenge.rw_hivewright_k89_whole_orbits_counted_by_r) (q := view (OpenLaw.row PySem.Challenge.rw_hivewright_k89_whole_orbits_counted_by_r).prog [41]) (H := K89.hk) (ob := K89.ob) (M := 2000) (loose := K89.loose) (d := HandSHeadRun.topDef (OpenLaw.row PySem.Challenge.rw_hivewright_k89_whole_orbits_counted_by_r).prog 41) (kwd := []) K89.ob_eq
    (by kernel_rfl) (fun s => by kernel_rfl) K89.run (by kernel_rfl) (by kernel_rfl) (by kernel_rfl) (by rfl) (by first | assumption | decide +kernel) (by decide +kernel) ⟨rfl, rfl, rfl, rfl, rfl, by decide +kernel⟩ ?hw ?hc
  case hw => w_witness2
  case hc =>
    refine L2.walk_ofE (l := PySem.Challenge.rw_hivewright_k89_whole_orbits_counted_by_r) (n := 63) (k := 13) (x := "script") (CX := L2.CX0) rfl (by decide) (by kernel_rfl) ⟨rfl, by decide, by decide⟩ ?F (fun _ _ _ _ z => z)
    intro w mg fa h Y G hmg0
    obtain ⟨K, KX, c⟩ := Y
    have hmg : mg ("law" : PySem.Str) = some (.ref fa) := by
      have e : (HandSHeadRun.topDef (OpenLaw.row PySem.Challenge.rw_hivewright_k89_whole_orbits_counted_by_r).prog 41).name = ("law" : PySem.Str) := by kernel_rfl
      rw [← e]
      exact hmg0
    obtain ⟨fd, hb, hF⟩ := K89.facts (P := (PySem.Challenge.rw_hivewright_k89_whole_orbits_counted_by_r).prog) (w := w) KX G hmg c
    exact ⟨K, fd, _, KX, hb, fun H a ns hl _ hS => Py.sp_law hS (K89.law_true ns hl), fun base _ _ => hF base⟩
