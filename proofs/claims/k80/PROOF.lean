import PyProof.Rows.All
import Wide.All
import OpenK.AllK
import Wide.FinOn
import PySem.Challenge.RW_hivewright_k80_tableaux_and_their_words
import HandS.ForMost
import HandS.TupAny
import HandS.TupMul
import HandS.IsInst
import HandS.Flow
import HandS.Flt
import HandS.Rev
import HandS.Iter
import HandS.Defaults
import HandS.HeadHook1
import HandS.HeadHook2
import HandS.Head2
import HandS.HeadEnd
import HandS.Ends
import HandS.More
import KE.SortData
import HandS.SortKw
import HandS.Conv
set_option Elab.async false
set_option linter.all false
set_option maxRecDepth 100000
set_option maxHeartbeats 0
/-! Layer «Py», part A: data (D), what represents it (Rep), worlds of represented values. -/
namespace Py
open PySem PySem.Spec PyProof.Rows L2

inductive Fl where
  | own | frz | vw | scr
  deriving DecidableEq
/-- data: what a value means, lists by value; the flag tells who holds the list -/
inductive D where
  | non | bl (b : Bool) | int (i : Int) | str (x : Str) | tup (xs : List D) | lst (f : Fl) (xs : List D)

mutual
def D.noVw : D → Bool
  | .tup xs => noVws xs
  | .lst .vw _ => false
  | .lst _ xs => noVws xs
  | _ => true
def noVws : List D → Bool
  | [] => true
  | x :: xs => x.noVw && noVws xs
end
mutual
def D.noOwn : D → Bool
  | .tup xs => noOwns xs
  | .lst .own _ => false
  | .lst _ xs => noOwns xs
  | _ => true
def noOwns : List D → Bool
  | [] => true
  | x :: xs => x.noOwn && noOwns xs
end
mutual
def D.frz : D → D
  | .lst .own xs => .lst .frz (frzs xs)
  | d => d
def frzs : List D → List D
  | [] => []
  | x :: xs => x.frz :: frzs xs
end
mutual
def D.view : D → D
  | .lst .own xs => .lst .vw (views xs)
  | d => d
def views : List D → List D
  | [] => []
  | x :: xs => x.view :: views xs
end
theorem frzs_map : ∀ xs, frzs xs = xs.map D.frz
  | [] => rfl
  | x :: xs => by simp [frzs, frzs_map xs]
theorem views_map : ∀ xs, views xs = xs.map D.view
  | [] => rfl
  | x :: xs => by simp [views, views_map xs]
theorem noOwns_all : ∀ xs, noOwns xs = xs.all D.noOwn
  | [] => rfl
  | x :: xs => by simp [noOwns, noOwns_all xs]
theorem noVws_all : ∀ xs, noVws xs = xs.all D.noVw
  | [] => rfl
  | x :: xs => by simp [noVws, noVws_all xs]
theorem noOwns_mem {xs : List D} (h : noOwns xs = true) {x : D} (hx : x ∈ xs) : x.noOwn = true := by
  rw [noOwns_all] at h
  exact List.all_eq_true.mp h x hx
theorem noVws_mem {xs : List D} (h : noVws xs = true) {x : D} (hx : x ∈ xs) : x.noVw = true := by
  rw [noVws_all] at h
  exact List.all_eq_true.mp h x hx

/-- a list of the written part -/
def KL (K : PySem.W.Frag) (a : Addr) (xs : List V) : Prop :=
  ∃ (o : Obj) (its : Array Value) (n : Nat), K.lookup a = some o ∧ o.cls = .type "list" ∧ o.dict = none ∧ o.data = .seq its n ∧ its.size ≤ sizeLine ∧ Vals xs its.toList

mutual
inductive Rep (K : PySem.W.Frag) (Z : Addr → Prop) (H : Hp) : V → D → List Addr → Prop
  | non : Rep K Z H .non .non []
  | bl (b : Bool) : Rep K Z H (.bl b) (.bl b) []
  | int (i : Int) : Rep K Z H (.int i) (.int i) []
  | str (x : Str) : Rep K Z H (.str x) (.str x) []
  | tup {a : Addr} {vs : List V} {xs : List D} (h : H a = some (.tup vs)) (r : Reps K Z H vs xs []) : Rep K Z H (.ref a) (.tup xs) []
  | own {a : Addr} {vs : List V} {xs : List D} {fp : List Addr} (h : H a = some (.lst vs)) (r : Reps K Z H vs xs fp) : Rep K Z H (.ref a) (.lst .own xs) (a :: fp)
  | frz {a : Addr} {vs : List V} {xs : List D} (z : Z a) (h : H a = some (.lst vs)) (r : Reps K Z H vs xs []) : Rep K Z H (.ref a) (.lst .frz xs) []
  | vw {a : Addr} {vs : List V} {xs : List D} (h : H a = some (.lst vs)) (r : Reps K Z H vs xs []) : Rep K Z H (.ref a) (.lst .vw xs) []
  | scr {a : Addr} {ns : List Int} (h : (Z a ∧ Rd H a (.lst (ns.map V.int))) ∨ KL K a (ns.map V.int)) : Rep K Z H (.ref a) (.lst .scr (ns.map D.int)) []
inductive Reps (K : PySem.W.Frag) (Z : Addr → Prop) (H : Hp) : List V → List D → List Addr → Prop
  | nil : Reps K Z H [] [] []
  | cons {v : V} {d : D} {f1 f2 : List Addr} {vs : List V} {ds : List D} (r : Rep K Z H v d f1) (t : Reps K Z H vs ds f2) : Reps K Z H (v :: vs) (d :: ds) (f1 ++ f2)
end
section
variable {K : PySem.W.Frag} {Z Z' : Addr → Prop} {H H' : Hp}
theorem Reps.length : ∀ {vs : List V} {ds : List D} {fp : List Addr}, Reps K Z H vs ds fp → vs.length = ds.length
  | _, _, _, .nil => rfl
  | _, _, _, .cons _ t => congrArg (· + 1) t.length
mutual
theorem Rep.same (hs : Same H H') : ∀ {v : V} {d : D} {fp : List Addr}, Rep K Z H v d fp → Rep K Z H' v d fp
  | _, _, _, .non => .non
  | _, _, _, .bl b => .bl b
  | _, _, _, .int i => .int i
  | _, _, _, .str x => .str x
  | _, _, _, .tup h r => .tup (hs _ _ h) (r.same hs)
  | _, _, _, .own h r => .own (hs _ _ h) (r.same hs)
  | _, _, _, .frz z h r => .frz z (hs _ _ h) (r.same hs)
  | _, _, _, .vw h r => .vw (hs _ _ h) (r.same hs)
  | _, _, _, .scr h => .scr (h.imp (fun q => ⟨q.1, q.2.imp (fun e => hs _ _ e) fun ⟨o, e⟩ => ⟨o, hs _ _ e⟩⟩) id)
theorem Reps.same (hs : Same H H') : ∀ {vs : List V} {ds : List D} {fp : List Addr}, Reps K Z H vs ds fp → Reps K Z H' vs ds fp
  | _, _, _, .nil => .nil
  | _, _, _, .cons r t => .cons (r.same hs) (t.same hs)
end
mutual
theorem Rep.wide (hz : ∀ a, Z a → Z' a) : ∀ {v : V} {d : D} {fp : List Addr}, Rep K Z H v d fp → Rep K Z' H v d fp
  | _, _, _, .non => .non
  | _, _, _, .bl b => .bl b
  | _, _, _, .int i => .int i
  | _, _, _, .str x => .str x
  | _, _, _, .tup h r => .tup h (r.wide hz)
  | _, _, _, .own h r => .own h (r.wide hz)
  | _, _, _, .frz z h r => .frz (hz _ z) h (r.wide hz)
  | _, _, _, .vw h r => .vw h (r.wide hz)
  | _, _, _, .scr h => .scr (h.imp (fun q => ⟨hz _ q.1, q.2⟩) id)
theorem Reps.wide (hz : ∀ a, Z a → Z' a) : ∀ {vs : List V} {ds : List D} {fp : List Addr}, Reps K Z H vs ds fp → Reps K Z' H vs ds fp
  | _, _, _, .nil => .nil
  | _, _, _, .cons r t => .cons (r.wide hz) (t.wide hz)
end
-- the list at a is written: who does not hold it, and does not only look at it, stays
mutual
theorem Rep.write {a : Addr} {xs : List V} {o : HO} (ha : H a = some (.lst xs)) (nz : ¬ Z a) : ∀ {v : V} {d : D} {fp : List Addr}, Rep K Z H v d fp → a ∉ fp → d.noVw = true → Rep K Z (upd H a o) v d fp
  | _, _, _, .non, _, _ => .non
  | _, _, _, .bl b, _, _ => .bl b
  | _, _, _, .int i, _, _ => .int i
  | _, _, _, .str x, _, _ => .str x
  | _, _, _, .tup (a := b) h r, _, n => .tup (by rw [upd_ne (ne_of h ha (by intro e; cases e))]; exact h) (r.write ha nz (by simp) n)
  | _, _, _, .own (a := b) h r, m, n => .own (by
      rw [upd_ne (fun e => m (by rw [e]; exact List.mem_cons_self))]; exact h) (r.write ha nz (fun e => m (List.mem_cons_of_mem _ e)) n)
  | _, _, _, .frz (a := b) z h r, _, n => .frz z (by rw [upd_ne (fun e => nz (by rw [← e]; exact z))]; exact h) (r.write ha nz (by simp) n)
  | _, _, _, .vw h r, _, n => by simp [D.noVw] at n
  | _, _, _, .scr (a := b) h, _, _ => .scr (h.imp (fun q => ⟨q.1, by
      have e : b ≠ a := fun e => nz (by rw [← e]; exact q.1)
      exact q.2.imp (fun z => by rw [upd_ne e]; exact z) fun ⟨o, z⟩ => ⟨o, by rw [upd_ne e]; exact z⟩⟩) id)
theorem Reps.write {a : Addr} {xs : List V} {o : HO} (ha : H a = some (.lst xs)) (nz : ¬ Z a) : ∀ {vs : List V} {ds : List D} {fp : List Addr}, Reps K Z H vs ds fp → a ∉ fp → noVws ds = true → Reps K Z (upd H a o) vs ds fp
  | _, _, _, .nil, _, _ => .nil
  | _, _, _, .cons r t, m, n => by
    simp only [noVws, Bool.and_eq_true] at n
    exact .cons (r.write ha nz (fun e => m (List.mem_append_left _ e)) n.1) (t.write ha nz (fun e => m (List.mem_append_right _ e)) n.2)
end
-- nothing is held
mutual
theorem Rep.none_held : ∀ {v : V} {d : D} {fp : List Addr}, Rep K Z H v d fp → d.noOwn = true → fp = []
  | _, _, _, .non, _ => rfl
  | _, _, _, .bl b, _ => rfl
  | _, _, _, .int i, _ => rfl
  | _, _, _, .str x, _ => rfl
  | _, _, _, .tup h r, _ => rfl
  | _, _, _, .own h r, n => by simp [D.noOwn] at n
  | _, _, _, .frz z h r, _ => rfl
  | _, _, _, .vw h r, _ => rfl
  | _, _, _, .scr h, _ => rfl
theorem Reps.none_held : ∀ {vs : List V} {ds : List D} {fp : List Addr}, Reps K Z H vs ds fp → noOwns ds = true → fp = []
  | _, _, _, .nil, _ => rfl
  | _, _, _, .cons r t, n => by
    simp only [noOwns, Bool.and_eq_true] at n
    rw [r.none_held n.1, t.none_held n.2]; rfl
end
mutual
theorem Rep.noOwn_of : ∀ {v : V} {d : D} {fp : List Addr}, Rep K Z H v d fp → fp = [] → d.noOwn = true
  | _, _, _, .non, _ => rfl
  | _, _, _, .bl b, _ => rfl
  | _, _, _, .int i, _ => rfl
  | _, _, _, .str x, _ => rfl
  | _, _, _, .tup h r, _ => r.noOwn_of rfl
  | _, _, _, .own h r, n => by cases n
  | _, _, _, .frz z h r, _ => r.noOwn_of rfl
  | _, _, _, .vw h r, _ => r.noOwn_of rfl
  | _, _, _, .scr (ns := ns) h, _ => by
    show noOwns (ns.map D.int) = true
    rw [noOwns_all]
    simp [D.noOwn]
theorem Reps.noOwn_of : ∀ {vs : List V} {ds : List D} {fp : List Addr}, Reps K Z H vs ds fp → fp = [] → noOwns ds = true
  | _, _, _, .nil, _ => rfl
  | _, _, _, .cons r t, e => by
    obtain ⟨e1, e2⟩ := List.append_eq_nil_iff.mp e
    simp only [noOwns, Bool.and_eq_true]
    exact ⟨r.noOwn_of e1, t.noOwn_of e2⟩
end
mutual
theorem Rep.frzd : ∀ {v : V} {d : D} {fp : List Addr}, Rep K Z H v d fp → (∀ a ∈ fp, Z a) → Rep K Z H v d.frz []
  | _, _, _, .non, _ => .non
  | _, _, _, .bl b, _ => .bl b
  | _, _, _, .int i, _ => .int i
  | _, _, _, .str x, _ => .str x
  | _, _, _, .tup h r, _ => .tup h r
  | _, _, _, .own h r, z => .frz (z _ List.mem_cons_self) h (r.frzd fun a m => z a (List.mem_cons_of_mem _ m))
  | _, _, _, .frz z h r, _ => .frz z h r
  | _, _, _, .vw h r, _ => .vw h r
  | _, _, _, .scr h, _ => .scr h
theorem Reps.frzd : ∀ {vs : List V} {ds : List D} {fp : List Addr}, Reps K Z H vs ds fp → (∀ a ∈ fp, Z a) → Reps K Z H vs (frzs ds) []
  | _, _, _, .nil, _ => .nil
  | _, _, _, .cons r t, z => .cons (f1 := []) (f2 := []) (r.frzd fun a m => z a (List.mem_append_left _ m)) (t.frzd fun a m => z a (List.mem_append_right _ m))
end
mutual
theorem Rep.viewd : ∀ {v : V} {d : D} {fp : List Addr}, Rep K Z H v d fp → Rep K Z H v d.view []
  | _, _, _, .non => .non
  | _, _, _, .bl b => .bl b
  | _, _, _, .int i => .int i
  | _, _, _, .str x => .str x
  | _, _, _, .tup h r => .tup h r
  | _, _, _, .own h r => .vw h r.viewd
  | _, _, _, .frz z h r => .frz z h r
  | _, _, _, .vw h r => .vw h r
  | _, _, _, .scr h => .scr h
theorem Reps.viewd : ∀ {vs : List V} {ds : List D} {fp : List Addr}, Reps K Z H vs ds fp → Reps K Z H vs (views ds) []
  | _, _, _, .nil => .nil
  | _, _, _, .cons r t => .cons (f1 := []) (f2 := []) r.viewd t.viewd
end
mutual
theorem Rep.tracked : ∀ {v : V} {d : D} {fp : List Addr}, Rep K Z H v d fp → ∀ a ∈ fp, ∃ vs, H a = some (.lst vs)
  | _, _, _, .own (vs := vs) h r, a, m => (List.mem_cons.mp m).elim (fun e => ⟨vs, by rw [e]; exact h⟩) fun m => r.tracked a m
  | _, _, _, .non, _, m => nomatch m
  | _, _, _, .bl b, _, m => nomatch m
  | _, _, _, .int i, _, m => nomatch m
  | _, _, _, .str x, _, m => nomatch m
  | _, _, _, .tup h r, _, m => nomatch m
  | _, _, _, .frz z h r, _, m => nomatch m
  | _, _, _, .vw h r, _, m => nomatch m
  | _, _, _, .scr h, _, m => nomatch m
theorem Reps.tracked : ∀ {vs : List V} {ds : List D} {fp : List Addr}, Reps K Z H vs ds fp → ∀ a ∈ fp, ∃ vs, H a = some (.lst vs)
  | _, _, _, .nil, _, m => nomatch m
  | _, _, _, .cons r t, a, m => (List.mem_append.mp m).elim (fun m => r.tracked a m) fun m => t.tracked a m
end
theorem Reps.get : ∀ {vs : List V} {ds : List D} {fp : List Addr} {i : Nat} {d : D}, Reps K Z H vs ds fp → ds[i]? = some d → ∃ v f, vs[i]? = some v ∧ Rep K Z H v d f ∧ ∀ a ∈ f, a ∈ fp
  | _, _, _, _, _, .nil, h => by simp at h
  | _, _, _, 0, _, .cons r t, h => by
    have e := Option.some.inj h
    subst e
    exact ⟨_, _, rfl, r, fun a m => List.mem_append_left _ m⟩
  | _, _, _, i + 1, _, .cons r t, h => by
    obtain ⟨v, f, h1, h2, h3⟩ := t.get (i := i) h
    exact ⟨v, f, h1, h2, fun a m => List.mem_append_right _ (h3 a m)⟩
theorem Reps.append : ∀ {vs ws : List V} {ds es : List D} {f g : List Addr}, Reps K Z H vs ds f → Reps K Z H ws es g → Reps K Z H (vs ++ ws) (ds ++ es) (f ++ g)
  | _, _, _, _, _, _, .nil, q => q
  | _, _, _, _, _, _, .cons (f1 := f1) (f2 := f2) r t, q => by rw [List.append_assoc]; exact .cons r (t.append q)
theorem Reps.inv_cons {vs : List V} {d : D} {ds : List D} {fp : List Addr} (r : Reps K Z H vs (d :: ds) fp) : ∃ v vr f1 f2, vs = v :: vr ∧ fp = f1 ++ f2 ∧ Rep K Z H v d f1 ∧ Reps K Z H vr ds f2 := by
  cases r with
  | cons r t => exact ⟨_, _, _, _, rfl, rfl, r, t⟩
theorem Reps.inv_nil {vs : List V} {fp : List Addr} (r : Reps K Z H vs [] fp) : vs = [] ∧ fp = [] := by
  cases r
  exact ⟨rfl, rfl⟩
theorem Reps.drop : ∀ {ds : List D} {vs : List V} (n : Nat), Reps K Z H vs ds [] → Reps K Z H (vs.drop n) (ds.drop n) []
  | _, _, 0, r => by simpa using r
  | [], _, n + 1, r => by
    obtain ⟨rfl, _⟩ := r.inv_nil
    exact .nil
  | d :: ds, _, n + 1, r => by
    obtain ⟨v, vr, f1, f2, rfl, e, _, t⟩ := r.inv_cons
    obtain ⟨e1, e2⟩ := List.append_eq_nil_iff.mp e.symm
    subst e2
    exact t.drop n
theorem Reps.take : ∀ {ds : List D} {vs : List V} (n : Nat), Reps K Z H vs ds [] → Reps K Z H (vs.take n) (ds.take n) []
  | _, _, 0, r => by simpa using Reps.nil
  | [], _, n + 1, r => by
    obtain ⟨rfl, _⟩ := r.inv_nil
    exact .nil
  | d :: ds, _, n + 1, r => by
    obtain ⟨v, vr, f1, f2, rfl, e, q, t⟩ := r.inv_cons
    obtain ⟨e1, e2⟩ := List.append_eq_nil_iff.mp e.symm
    subst e1 e2
    exact .cons (f1 := []) (f2 := []) q (t.take n)
/-- one item replaced -/
theorem Reps.setAt : ∀ {ds : List D} {vs : List V} {fp : List Addr} {i : Nat} {v' : V} {d' : D} {f' : List Addr}, Reps K Z H vs ds fp → i < ds.length → Rep K Z H v' d' f' →
    ∃ pre old post, fp = pre ++ old ++ post ∧ Reps K Z H (vs.set i v') (ds.set i d') (pre ++ f' ++ post)
  | [], _, _, i, _, _, _, _, h, _ => absurd h (by simp)
  | d :: ds, _, _, 0, v', d', f', r, _, q => by
    obtain ⟨v, vr, f1, f2, rfl, rfl, r1, t⟩ := r.inv_cons
    exact ⟨[], f1, f2, rfl, by simpa using Reps.cons q t⟩
  | d :: ds, _, _, i + 1, v', d', f', r, h, q => by
    obtain ⟨v, vr, f1, f2, rfl, rfl, r1, t⟩ := r.inv_cons
    obtain ⟨pre, old, post, rfl, t'⟩ := t.setAt (i := i) (by simpa using h) q
    exact ⟨f1 ++ pre, old, post, by simp [List.append_assoc], by
      have z := Reps.cons r1 t'
      simpa [List.append_assoc] using z⟩
theorem Reps.splitAt : ∀ {ds : List D} {vs : List V} {fp : List Addr} {i : Nat} {d : D}, Reps K Z H vs ds fp → ds[i]? = some d →
    ∃ v pre f post, vs[i]? = some v ∧ Rep K Z H v d f ∧ fp = pre ++ f ++ post ∧
      ∀ {v' : V} {d' : D} {f' : List Addr}, Rep K Z H v' d' f' → Reps K Z H (vs.set i v') (ds.set i d') (pre ++ f' ++ post)
  | [], _, _, i, _, _, h => by simp at h
  | d :: ds, _, _, 0, d0, r, h => by
    obtain ⟨v, vr, f1, f2, rfl, rfl, r1, t⟩ := r.inv_cons
    have e := Option.some.inj h
    subst e
    exact ⟨v, [], f1, f2, rfl, r1, rfl, fun q => by simpa using Reps.cons q t⟩
  | d :: ds, _, _, i + 1, d0, r, h => by
    obtain ⟨v, vr, f1, f2, rfl, rfl, r1, t⟩ := r.inv_cons
    obtain ⟨v, pre, f, post, h1, h2, rfl, h4⟩ := t.splitAt (i := i) h
    exact ⟨v, f1 ++ pre, f, post, h1, h2, by simp [List.append_assoc], fun q => by
      have z := Reps.cons r1 (h4 q)
      simpa [List.append_assoc] using z⟩
end
end Py
/-! Layer «Py», part B: worlds. -/
namespace Py
open PySem PySem.Spec PyProof.Rows L2

inductive Wd (K : PySem.W.Frag) (Z : Addr → Prop) (H : Hp) : List (V × D) → List Addr → Prop
  | nil : Wd K Z H [] []
  | cons {v : V} {d : D} {L : List (V × D)} {f1 f2 : List Addr} (r : Rep K Z H v d f1) (t : Wd K Z H L f2) : Wd K Z H ((v, d) :: L) (f1 ++ f2)
def World (K : PySem.W.Frag) (H : Hp) (L : List (V × D)) : Prop :=
  ∃ (Z : Addr → Prop) (fp : List Addr), Wd K Z H L fp ∧ fp.Nodup ∧ (∀ a ∈ fp, ¬ Z a) ∧ ∀ a, Z a → ∃ o, H a = some o
section
variable {K : PySem.W.Frag} {Z Z' : Addr → Prop} {H H' : Hp} {L L' : List (V × D)} {fp : List Addr}
theorem Wd.inv {v : V} {d : D} (w : Wd K Z H ((v, d) :: L) fp) : ∃ f1 f2, fp = f1 ++ f2 ∧ Rep K Z H v d f1 ∧ Wd K Z H L f2 := by
  cases w with
  | cons r t => exact ⟨_, _, rfl, r, t⟩
theorem Wd.same (hs : Same H H') : ∀ {L : List (V × D)} {fp : List Addr}, Wd K Z H L fp → Wd K Z H' L fp
  | _, _, .nil => .nil
  | _, _, .cons r t => .cons (r.same hs) (Wd.same hs t)
theorem Wd.wide (hz : ∀ a, Z a → Z' a) : ∀ {L : List (V × D)} {fp : List Addr}, Wd K Z H L fp → Wd K Z' H L fp
  | _, _, .nil => .nil
  | _, _, .cons r t => .cons (r.wide hz) (Wd.wide hz t)
theorem Wd.tracked : ∀ {L : List (V × D)} {fp : List Addr}, Wd K Z H L fp → ∀ a ∈ fp, ∃ vs, H a = some (.lst vs)
  | _, _, .nil, _, m => nomatch m
  | _, _, .cons r t, a, m => (List.mem_append.mp m).elim (fun m => r.tracked a m) fun m => Wd.tracked t a m
theorem Wd.write {a : Addr} {xs : List V} {o : HO} (ha : H a = some (.lst xs)) (nz : ¬ Z a) : ∀ {L : List (V × D)} {fp : List Addr}, Wd K Z H L fp → a ∉ fp → (∀ p ∈ L, p.2.noVw = true) → Wd K Z (upd H a o) L fp
  | _, _, .nil, _, _ => .nil
  | _, _, .cons r t, m, n => .cons (r.write ha nz (fun e => m (List.mem_append_left _ e)) (n _ List.mem_cons_self))
      (Wd.write ha nz t (fun e => m (List.mem_append_right _ e)) fun p hp => n p (List.mem_cons_of_mem _ hp))
theorem Wd.perm {L L' : List (V × D)} (hp : L.Perm L') : ∀ {fp : List Addr}, Wd K Z H L fp → ∃ fp', Wd K Z H L' fp' ∧ fp.Perm fp' := by
  induction hp with
  | nil => exact fun w => ⟨_, w, .refl _⟩
  | cons x _ ih =>
    intro fp w
    obtain ⟨v, d⟩ := x
    obtain ⟨f1, f2, rfl, r, t⟩ := w.inv
    obtain ⟨f2', t', p⟩ := ih t
    exact ⟨_, .cons r t', p.append_left _⟩
  | swap x y l =>
    intro fp w
    obtain ⟨v, d⟩ := x
    obtain ⟨v', d'⟩ := y
    obtain ⟨f1, f2, rfl, r, t⟩ := w.inv
    obtain ⟨g1, g2, rfl, r', t'⟩ := t.inv
    refine ⟨_, .cons r' (.cons r t'), ?_⟩
    rw [← List.append_assoc, ← List.append_assoc]
    exact List.perm_append_comm.append_right _
  | trans _ _ ih1 ih2 =>
    intro fp w
    obtain ⟨f1, w1, p1⟩ := ih1 w
    obtain ⟨f2, w2, p2⟩ := ih2 w1
    exact ⟨f2, w2, p1.trans p2⟩
theorem Wd.sub {L L' : List (V × D)} (hp : L'.Sublist L) : ∀ {fp : List Addr}, Wd K Z H L fp → ∃ fp', Wd K Z H L' fp' ∧ fp'.Sublist fp := by
  induction hp with
  | slnil => exact fun w => ⟨_, w, .refl _⟩
  | cons x _ ih =>
    intro fp w
    obtain ⟨v, d⟩ := x
    obtain ⟨f1, f2, rfl, r, t⟩ := w.inv
    obtain ⟨f2', t', p⟩ := ih t
    exact ⟨_, t', p.trans (List.sublist_append_right _ _)⟩
  | cons_cons x _ ih =>
    intro fp w
    obtain ⟨v, d⟩ := x
    obtain ⟨f1, f2, rfl, r, t⟩ := w.inv
    obtain ⟨f2', t', p⟩ := ih t
    exact ⟨_, .cons r t', List.Sublist.append (List.Sublist.refl _) p⟩
theorem Wd.items : ∀ {xs : List D} {vs : List V} {fp : List Addr}, Wd K Z H (vs.zip xs ++ L) fp → vs.length = xs.length → ∃ f g, fp = f ++ g ∧ Reps K Z H vs xs f ∧ Wd K Z H L g
  | [], [], fp, w, _ => ⟨[], fp, rfl, .nil, w⟩
  | [], _ :: _, _, _, h => by simp at h
  | _ :: _, [], _, _, h => by simp at h
  | d :: ds, v :: vs, fp, w, h => by
    obtain ⟨f1, f2, rfl, r, t⟩ := Wd.inv (L := vs.zip ds ++ L) w
    obtain ⟨f, g, rfl, q, z⟩ := Wd.items t (by simpa using h)
    exact ⟨f1 ++ f, g, by rw [List.append_assoc], .cons r q, z⟩
theorem Wd.ofItems : ∀ {xs : List D} {vs : List V} {f g : List Addr}, Reps K Z H vs xs f → Wd K Z H L g → Wd K Z H (vs.zip xs ++ L) (f ++ g)
  | _, _, _, _, .nil, w => w
  | _, _, _, _, .cons r t, w => by
    rw [List.append_assoc]
    exact .cons r (Wd.ofItems t w)

/-! ### worlds -/
theorem World.perm (hp : L.Perm L') : World K H L → World K H L' := fun ⟨Z, fp, w, nd, nz, zt⟩ => by
  obtain ⟨fp', w', p⟩ := w.perm hp
  exact ⟨Z, fp', w', p.nodup_iff.mp nd, fun a m => nz a (p.mem_iff.mpr m), zt⟩
theorem World.sub (hp : L'.Sublist L) : World K H L → World K H L' := fun ⟨Z, fp, w, nd, nz, zt⟩ => by
  obtain ⟨fp', w', p⟩ := w.sub hp
  exact ⟨Z, fp', w', nd.sublist p, fun a m => nz a (p.subset m), zt⟩
theorem World.tail {x : V × D} (w : World K H (x :: L)) : World K H L := w.sub (List.sublist_cons_self _ _)
theorem World.swap {x y : V × D} (w : World K H (x :: y :: L)) : World K H (y :: x :: L) := w.perm (.swap _ _ _)
theorem World.same (hs : Same H H') : World K H L → World K H' L := fun ⟨Z, fp, w, nd, nz, zt⟩ =>
  ⟨Z, fp, w.same hs, nd, nz, fun a z => let ⟨o, e⟩ := zt a z; ⟨o, hs _ _ e⟩⟩
theorem same_upd {p : Addr} {o : HO} (h : H p = none) : Same H (upd H p o) := fun b x e => by
  rw [upd_ne (ne_of_none e h)]
  exact e
theorem World.non (w : World K H L) : World K H ((.non, .non) :: L) := let ⟨Z, fp, w, q⟩ := w; ⟨Z, fp, .cons (f1 := []) .non w, q⟩
theorem World.bl (b : Bool) (w : World K H L) : World K H ((.bl b, .bl b) :: L) := let ⟨Z, fp, w, q⟩ := w; ⟨Z, fp, .cons (f1 := []) (.bl b) w, q⟩
theorem World.int (i : Int) (w : World K H L) : World K H ((.int i, .int i) :: L) := let ⟨Z, fp, w, q⟩ := w; ⟨Z, fp, .cons (f1 := []) (.int i) w, q⟩
theorem World.str (x : Str) (w : World K H L) : World K H ((.str x, .str x) :: L) := let ⟨Z, fp, w, q⟩ := w; ⟨Z, fp, .cons (f1 := []) (.str x) w, q⟩
theorem World.frz {v : V} {d : D} : World K H ((v, d) :: L) → World K H ((v, d.frz) :: L) := fun ⟨Z, fp, w, nd, nz, zt⟩ => by
  obtain ⟨f1, f2, rfl, r, t⟩ := w.inv
  obtain ⟨n1, n2, n3⟩ := List.nodup_append.mp nd
  refine ⟨fun a => Z a ∨ a ∈ f1, f2, .cons (f1 := []) ((r.wide fun a z => .inl z).frzd fun a m => .inr m) (t.wide fun a z => .inl z), n2, fun a m z => ?_, fun a z => ?_⟩
  · rcases z with z | z
    · exact nz a (List.mem_append_right _ m) z
    · exact n3 a z a m rfl
  · rcases z with z | z
    · exact zt a z
    · obtain ⟨vs, e⟩ := r.tracked a z
      exact ⟨_, e⟩
theorem World.dup {v : V} {d : D} (h : d.noOwn = true) : World K H ((v, d) :: L) → World K H ((v, d) :: (v, d) :: L) := fun ⟨Z, fp, w, q⟩ => by
  obtain ⟨f1, f2, rfl, r, t⟩ := w.inv
  have e := r.none_held h
  subst e
  exact ⟨Z, f2, .cons (f1 := []) r (.cons (f1 := []) r t), q⟩
theorem World.view {v : V} {d : D} : World K H ((v, d) :: L) → World K H ((v, d.view) :: (v, d) :: L) := fun ⟨Z, fp, w, q⟩ => by
  obtain ⟨f1, f2, rfl, r, t⟩ := w.inv
  exact ⟨Z, f1 ++ f2, .cons (f1 := []) r.viewd (.cons r t), q⟩
theorem World.newLst {vs : List V} {xs : List D} {p : Addr} (hl : vs.length = xs.length) (hp : H p = none) : World K H (vs.zip xs ++ L) → World K (upd H p (.lst vs)) ((.ref p, .lst .own xs) :: L) := fun ⟨Z, fp, w, nd, nz, zt⟩ => by
  obtain ⟨f, g, rfl, r, t⟩ := w.items hl
  have np : ∀ a ∈ f ++ g, a ≠ p := fun a m e => by
    obtain ⟨ys, q⟩ := (Wd.ofItems r t).tracked a m
    rw [e, hp] at q; cases q
  refine ⟨Z, p :: (f ++ g), by
    have z := Wd.cons (L := L) (Rep.own (K := K) (Z := Z) (a := p) upd_same (r.same (same_upd hp))) (t.same (same_upd hp))
    simpa using z, List.nodup_cons.mpr ⟨fun m => np p m rfl, nd⟩, fun a m z => ?_, fun a z => ?_⟩
  · rcases List.mem_cons.mp m with e | m
    · obtain ⟨o, q⟩ := zt a z
      rw [e, hp] at q; cases q
    · exact nz a m z
  · obtain ⟨o, q⟩ := zt a z
    exact ⟨o, same_upd hp _ _ q⟩
theorem World.newTup {vs : List V} {xs : List D} {p : Addr} (hl : vs.length = xs.length) (hn : noOwns xs = true) (hp : H p = none) : World K H (vs.zip xs ++ L) → World K (upd H p (.tup vs)) ((.ref p, .tup xs) :: L) := fun ⟨Z, fp, w, nd, nz, zt⟩ => by
  obtain ⟨f, g, rfl, r, t⟩ := w.items hl
  have e := r.none_held hn
  subst e
  refine ⟨Z, g, .cons (f1 := []) (Rep.tup upd_same (r.same (same_upd hp))) (t.same (same_upd hp)), nd, nz, fun a z => ?_⟩
  obtain ⟨o, q⟩ := zt a z
  exact ⟨o, same_upd hp _ _ q⟩
/-- a list is opened into its items -/
theorem World.openL {v : V} {f : Fl} {xs : List D} : World K H ((v, .lst f xs) :: L) → ∃ a vs, v = .ref a ∧ SqL K H a vs ∧ vs.length = xs.length ∧ (f ≠ .scr → H a = some (.lst vs)) ∧ World K H (vs.zip xs ++ L) := fun ⟨Z, fp, w, nd, nz, zt⟩ => by
  obtain ⟨f1, f2, rfl, r, t⟩ := w.inv
  cases r with
  | own h r => exact ⟨_, _, rfl, .of h, r.length, fun _ => h, Z, _, .ofItems r t, (List.nodup_cons.mp nd).2, fun a m => nz a (List.mem_cons_of_mem _ m), zt⟩
  | frz z h r => exact ⟨_, _, rfl, .of h, r.length, fun _ => h, Z, _, .ofItems r t, nd, nz, zt⟩
  | vw h r => exact ⟨_, _, rfl, .of h, r.length, fun _ => h, Z, _, .ofItems r t, nd, nz, zt⟩
  | scr h =>
    rename_i ns _
    have rr : ∀ ns : List Int, Reps K Z H (ns.map V.int) (ns.map D.int) [] := fun ns => by
      induction ns with
      | nil => exact .nil
      | cons n r ih => exact .cons (f1 := []) (f2 := []) (.int n) ih
    exact ⟨_, _, rfl, h.imp (fun q => q.2) id, by simp, fun e => (e rfl).elim, Z, _, .ofItems (rr ns) t, nd, nz, zt⟩
theorem World.openT {v : V} {xs : List D} : World K H ((v, .tup xs) :: L) → ∃ a vs, v = .ref a ∧ H a = some (.tup vs) ∧ vs.length = xs.length ∧ noOwns xs = true ∧ World K H (vs.zip xs ++ L) := fun ⟨Z, fp, w, nd, nz, zt⟩ => by
  obtain ⟨f1, f2, rfl, r, t⟩ := w.inv
  cases r with
  | tup h r => exact ⟨_, _, rfl, h, r.length, r.noOwn_of rfl, Z, _, .ofItems r t, nd, nz, zt⟩
/-- the list at a is written anew out of its own items and those of ws -/
theorem World.put {a : Addr} {xs : List D} {ws : List V} {es : List D} (hl : ws.length = es.length) (nx : noVws xs = true) (ne : noVws es = true) (nL : ∀ p ∈ L, p.2.noVw = true) :
    World K H ((.ref a, .lst .own xs) :: (ws.zip es ++ L)) → ∃ vs, H a = some (.lst vs) ∧ vs.length = xs.length ∧
      ∀ (vs' : List V) (xs' : List D), noVws xs' = true → (∀ (Z : Addr → Prop) (f g : List Addr), Reps K Z H vs xs f → Reps K Z H ws es g → (f ++ g).Nodup → ∃ h, Reps K Z H vs' xs' h ∧ h.Nodup ∧ ∀ b ∈ h, b ∈ f ++ g) →
        World K (upd H a (.lst vs')) ((.ref a, .lst .own xs') :: L) := fun ⟨Z, fp, w, nd, nz, zt⟩ => by
  obtain ⟨f1, f2, rfl, r, t⟩ := w.inv
  obtain ⟨g1, g2, rfl, q, t⟩ := t.items hl
  cases r with
  | own h r =>
    rename_i vs fa
    refine ⟨vs, h, r.length, fun vs' xs' nv hr => ?_⟩
    obtain ⟨na, nd⟩ := List.nodup_cons.mp (show (a :: (fa ++ (g1 ++ g2))).Nodup from nd)
    rw [← List.append_assoc] at nd na
    obtain ⟨n1, n2, n3⟩ := List.nodup_append.mp nd
    obtain ⟨k, rk, ndk, sub⟩ := hr Z fa g1 r q n1
    have za : ¬ Z a := nz a List.mem_cons_self
    have nk : a ∉ k := fun m => na (List.mem_append_left _ (sub a m))
    refine ⟨Z, (a :: k) ++ g2, .cons (.own upd_same (rk.write h za nk nv)) (t.write h za (fun m => na (List.mem_append_right _ m)) nL), ?_, fun b m z => ?_, fun b z => ?_⟩
    · refine List.nodup_append.mpr ⟨List.nodup_cons.mpr ⟨nk, ndk⟩, n2, fun b hb c hc e => ?_⟩
      subst e
      rcases List.mem_cons.mp hb with e | m
      · subst e
        exact na (List.mem_append_right _ hc)
      · exact n3 b (sub b m) b hc rfl
    · rcases List.mem_append.mp m with m | m
      · rcases List.mem_cons.mp m with e | m
        · subst e
          exact za z
        · rcases List.mem_append.mp (sub b m) with m | m
          · exact nz b (List.mem_append_left _ (List.mem_cons_of_mem _ m)) z
          · exact nz b (List.mem_append_right _ (List.mem_append_left _ m)) z
      · exact nz b (List.mem_append_right _ (List.mem_append_right _ m)) z
    · by_cases e : b = a
      · subst e
        exact ⟨_, upd_same⟩
      · obtain ⟨o, q⟩ := zt b z
        exact ⟨o, by rw [upd_ne e]; exact q⟩
/-- two readings of one list of the world agree -/
theorem World.lst_at {a : Addr} {f : Fl} {xs : List D} (hf : f ≠ .scr) (w : World K H ((.ref a, .lst f xs) :: L)) : ∃ vs, H a = some (.lst vs) ∧ vs.length = xs.length := by
  obtain ⟨b, vs, e, _, hl, h, _⟩ := w.openL
  cases e
  exact ⟨vs, h hf, hl⟩
end

/-! ### slots -/
abbrev Sg := List (Option D)
def sl : L2.St → Sg → List (V × D)
  | some v :: ρ, some d :: σ => (v, d) :: sl ρ σ
  | _ :: ρ, _ :: σ => sl ρ σ
  | _, _ => []
theorem sl_split : ∀ {ρ : L2.St} {σ : Sg} {i : Nat} {v : V} {d : D}, ρ[i]? = some (some v) → σ[i]? = some (some d) → (sl ρ σ).Perm ((v, d) :: sl ρ (σ.set i none))
  | [], _, _, _, _, h, _ => by simp at h
  | _ :: _, [], _, _, _, _, h => by simp at h
  | x :: ρ, y :: σ, 0, v, d, h1, h2 => by
    have e1 : x = some v := Option.some.inj h1
    have e2 : y = some d := Option.some.inj h2
    subst e1 e2
    exact .refl _
  | x :: ρ, y :: σ, i + 1, v, d, h1, h2 => by
    have ih := sl_split (ρ := ρ) (σ := σ) (i := i) (v := v) (d := d) h1 h2
    cases x with
    | none => exact ih
    | some x =>
      cases y with
      | none => exact ih
      | some y => exact (ih.cons _).trans (.swap _ _ _)
theorem sl_set_none : ∀ {ρ : L2.St} {σ : Sg} (i : Nat) (x : Option V), sl (ρ.set i x) (σ.set i none) = sl ρ (σ.set i none)
  | [], _, _, _ => rfl
  | _ :: _, [], _, _ => by simp [sl]
  | a :: ρ, b :: σ, 0, x => by cases a <;> cases x <;> rfl
  | a :: ρ, b :: σ, i + 1, x => by
    have ih := sl_set_none (ρ := ρ) (σ := σ) i x
    cases a with
    | none => exact ih
    | some a =>
      cases b with
      | none => exact ih
      | some b => exact congrArg (_ :: ·) ih
theorem sl_sub_none : ∀ {ρ : L2.St} {σ : Sg} (i : Nat), (sl ρ (σ.set i none)).Sublist (sl ρ σ)
  | [], _, _ => by simp [sl]
  | _ :: _, [], _ => by simp [sl]
  | a :: ρ, b :: σ, 0 => by
    cases a with
    | none => exact .refl _
    | some a =>
      cases b with
      | none => exact .refl _
      | some b => exact List.sublist_cons_self _ _
  | a :: ρ, b :: σ, i + 1 => by
    have ih := sl_sub_none (ρ := ρ) (σ := σ) i
    cases a with
    | none => exact ih
    | some a =>
      cases b with
      | none => exact ih
      | some b => exact ih.cons_cons _
theorem sl_put {ρ : L2.St} {σ : Sg} {i : Nat} {v : V} {d : D} (h1 : i < ρ.length) (h2 : i < σ.length) : (sl (ρ.set i (some v)) (σ.set i (some d))).Perm ((v, d) :: sl ρ (σ.set i none)) := by
  have q := sl_split (ρ := ρ.set i (some v)) (σ := σ.set i (some d)) (i := i) (v := v) (d := d) (by rw [List.getElem?_set_self h1]) (by rw [List.getElem?_set_self h2])
  rw [List.set_set, sl_set_none] at q
  exact q

structure Ok (K : PySem.W.Frag) (H : Hp) (ρ : L2.St) (σ : Sg) (T : List (V × D)) : Prop where
  len : ρ.length = σ.length
  al : ∀ (i : Nat) (d : D), σ[i]? = some (some d) → ∃ v : V, ρ[i]? = some (some v)
  w : World K H (T ++ sl ρ σ)
section
variable {K : PySem.W.Frag} {H H' : Hp} {ρ : L2.St} {σ : Sg} {T T1 T2 : List (V × D)}
theorem Ok.lift (ok : Ok K H ρ σ (T1 ++ T)) (h : ∀ L, World K H (T1 ++ L) → World K H' (T2 ++ L)) : Ok K H' ρ σ (T2 ++ T) :=
  ⟨ok.len, ok.al, by
    have q := ok.w
    rw [List.append_assoc] at q ⊢
    exact h _ q⟩
theorem Ok.temps (ok : Ok K H ρ σ T) (h : ∀ L, World K H (T ++ L) → World K H' (T2 ++ L)) : Ok K H' ρ σ T2 := ⟨ok.len, ok.al, h _ ok.w⟩
theorem Ok.same (hs : Same H H') (ok : Ok K H ρ σ T) : Ok K H' ρ σ T := ⟨ok.len, ok.al, ok.w.same hs⟩
theorem Ok.tail {x : V × D} (ok : Ok K H ρ σ (x :: T)) : Ok K H ρ σ T := ⟨ok.len, ok.al, World.tail (L := T ++ sl ρ σ) ok.w⟩
theorem Ok.take {i : Nat} {d : D} (ok : Ok K H ρ σ T) (h : σ[i]? = some (some d)) : ∃ v, ρ[i]? = some (some v) ∧ Ok K H ρ (σ.set i none) ((v, d) :: T) := by
  obtain ⟨v, e⟩ := ok.al i d h
  refine ⟨v, e, by rw [List.length_set]; exact ok.len, fun j d' hj => ?_, ok.w.perm ?_⟩
  · by_cases q : i = j
    · subst q
      rw [List.getElem?_set_self (List.getElem?_eq_some_iff.mp h).1] at hj
      cases hj
    · rw [List.getElem?_set_ne q] at hj
      exact ok.al j d' hj
  · refine ((sl_split e h).append_left T).trans ?_
    exact List.perm_middle
theorem Ok.put {i : Nat} {v : V} {d : D} (ok : Ok K H ρ σ ((v, d) :: T)) (hi : i < σ.length) : Ok K H (ρ.set i (some v)) (σ.set i (some d)) T := by
  have hi' : i < ρ.length := by rw [ok.len]; exact hi
  refine ⟨by rw [List.length_set, List.length_set]; exact ok.len, fun j d' hj => ?_, ?_⟩
  · by_cases q : i = j
    · subst q
      exact ⟨v, by rw [List.getElem?_set_self hi']⟩
    · rw [List.getElem?_set_ne q] at hj ⊢
      exact ok.al j d' hj
  · have w : World K H ((v, d) :: (T ++ sl ρ σ)) := ok.w
    have w2 : World K H ((v, d) :: (T ++ sl ρ (σ.set i none))) := w.sub (((List.Sublist.refl T).append (sl_sub_none i)).cons_cons _)
    exact w2.perm ((List.perm_middle (l₁ := T)).symm.trans ((sl_put hi' hi).symm.append_left T))
theorem Ok.back {i : Nat} {v : V} {d : D} (ok : Ok K H ρ σ ((v, d) :: T)) (hv : ρ[i]? = some (some v)) : Ok K H ρ (σ.set i (some d)) T := by
  have hi : i < ρ.length := (List.getElem?_eq_some_iff.mp hv).1
  have q := ok.put (i := i) (by rw [← ok.len]; exact hi)
  have e : ρ.set i (some v) = ρ := by
    obtain ⟨h1, h2⟩ := List.getElem?_eq_some_iff.mp hv
    rw [← h2, List.set_getElem_self]
  rw [e] at q
  exact q
theorem Ok.drop {i : Nat} (ok : Ok K H ρ σ T) : Ok K H ρ (σ.set i none) T := by
  refine ⟨by rw [List.length_set]; exact ok.len, fun j d' hj => ?_, ok.w.sub ((List.Sublist.refl T).append (sl_sub_none i))⟩
  by_cases q : i = j
  · subst q
    by_cases hi : i < σ.length
    · rw [List.getElem?_set_self hi] at hj
      cases hj
    · rw [List.getElem?_eq_none (by simpa using hi)] at hj
      cases hj
  · rw [List.getElem?_set_ne q] at hj
    exact ok.al j d' hj
end
/-- nothing merely looks on -/
def NV (σ : Sg) : Prop := ∀ (i : Nat) (d : D), σ[i]? = some (some d) → d.noVw = true
def NT (T : List (V × D)) : Prop := ∀ p ∈ T, p.2.noVw = true
def Cd (b : Bool) (σ : Sg) (T : List (V × D)) : Prop := b = true → NV σ ∧ NT T
theorem NV.set {σ : Sg} {i : Nat} {o : Option D} (h : NV σ) (ho : ∀ d, o = some d → d.noVw = true) : NV (σ.set i o) := fun j d e => by
  by_cases q : i = j
  · subst q
    by_cases hi : i < σ.length
    · rw [List.getElem?_set_self hi] at e
      exact ho d (Option.some.inj e)
    · rw [List.getElem?_eq_none (by simpa using hi)] at e
      cases e
  · rw [List.getElem?_set_ne q] at e
    exact h j d e
theorem NT.cons {v : V} {d : D} {T : List (V × D)} (h : d.noVw = true) (t : NT T) : NT ((v, d) :: T) := fun p m => (List.mem_cons.mp m).elim (fun e => by rw [e]; exact h) fun m => t p m
theorem NT.head {v : V} {d : D} {T : List (V × D)} (t : NT ((v, d) :: T)) : d.noVw = true := t _ List.mem_cons_self
theorem NT.tail {x : V × D} {T : List (V × D)} (t : NT (x :: T)) : NT T := fun p m => t p (List.mem_cons_of_mem _ m)
theorem NV.sl {σ : Sg} (h : NV σ) : ∀ {ρ : L2.St}, ∀ p ∈ sl ρ σ, p.2.noVw = true := by
  induction σ with
  | nil => intro ρ p hp; cases ρ with
    | nil => simp [Py.sl] at hp
    | cons a ρ => cases a <;> simp [Py.sl] at hp
  | cons b σ ih =>
    have h' : NV σ := fun i d e => h (i + 1) d e
    intro ρ p hp
    cases ρ with
    | nil => simp [Py.sl] at hp
    | cons a ρ =>
      cases a with
      | none => exact ih h' p (by cases b <;> exact hp)
      | some a =>
        cases b with
        | none => exact ih h' p hp
        | some b =>
          rcases List.mem_cons.mp (show p ∈ (a, b) :: Py.sl ρ σ from hp) with e | m
          · rw [e]; exact h 0 b rfl
          · exact ih h' p m
theorem NT.all {σ : Sg} {T : List (V × D)} (h : NV σ) (t : NT T) {ρ : L2.St} : ∀ p ∈ T ++ sl ρ σ, p.2.noVw = true := fun p m => (List.mem_append.mp m).elim (t p) (h.sl p)
end Py
/-! Layer «Py», part C: what code means (M), that it does so (SE, ST, SA): expressions. -/
namespace Py
open PySem PySem.Spec PyProof.Rows L2

/-! ### meanings -/
abbrev M := Sg → Option (D × Sg)
abbrev MT := Sg → Option (Bool × Sg)
abbrev MA := Sg → Option (List D × Sg)
def mVar (i : Nat) : M := fun σ => match σ[i]? with
  | some (some d) => some (d.view, σ)
  | _ => none
def mFrz (i : Nat) : M := fun σ => match σ[i]? with
  | some (some d) => some (d.frz, σ.set i (some d.frz))
  | _ => none
def mMove (i : Nat) : M := fun σ => match σ[i]? with
  | some (some d) => some (d, σ.set i none)
  | _ => none
def mC (d : D) : M := fun σ => some (d, σ)
def m1 (f : D → Option D) (a : M) : M := fun σ => match a σ with
  | some (x, σ1) => (match f x with
    | some z => some (z, σ1)
    | none => none)
  | none => none
def m2 (f : D → D → Option D) (a b : M) : M := fun σ => match a σ with
  | some (x, σ1) => (match b σ1 with
    | some (y, σ2) => (match f x y with
      | some z => some (z, σ2)
      | none => none)
    | none => none)
  | none => none
def mUp (a : M) : M := fun σ => match a σ with
  | some (x, σ1) => if x.noVw = true then some (x, σ1) else none
  | none => none
def mIf (c : MT) (a b : M) : M := fun σ => match c σ with
  | some (true, σ1) => a σ1
  | some (false, σ1) => b σ1
  | none => none
def aNil : MA := fun σ => some ([], σ)
def aCons (a : M) (r : MA) : MA := fun σ => match a σ with
  | some (x, σ1) => (match r σ1 with
    | some (xs, σ2) => some (x :: xs, σ2)
    | none => none)
  | none => none
def mA (f : List D → Option D) (r : MA) : M := fun σ => match r σ with
  | some (xs, σ1) => (match f xs with
    | some z => some (z, σ1)
    | none => none)
  | none => none
def tAndM (a b : MT) : MT := fun σ => match a σ with
  | some (true, σ1) => b σ1
  | some (false, σ1) => some (false, σ1)
  | none => none
def tOrM (a b : MT) : MT := fun σ => match a σ with
  | some (true, σ1) => some (true, σ1)
  | some (false, σ1) => b σ1
  | none => none
def tNotM (a : MT) : MT := fun σ => match a σ with
  | some (k, σ1) => some (!k, σ1)
  | none => none
/-- truth -/
def dTru : D → Option Bool
  | .non => some false
  | .bl b => some b
  | .int i => some (i != 0)
  | .str x => if x.length ≤ 16777216 then some ((x.length : Int) != 0) else none
  | .tup xs => some (!xs.isEmpty)
  | .lst _ xs => some (!xs.isEmpty)
def tVal (a : M) : MT := fun σ => match a σ with
  | some (x, σ1) => (match dTru x with
    | some k => some (k, σ1)
    | none => none)
  | none => none
def tB (a : M) : MT := fun σ => match a σ with
  | some (.bl k, σ1) => some (k, σ1)
  | _ => none
def mT (a : MT) : M := fun σ => match a σ with
  | some (k, σ1) => some (.bl k, σ1)
  | none => none

/-! ### what is to be shown -/
section
variable {X : Cx}
def semE (X : Cx) (e : Expr) : TE := fun ρ H Q => ∀ (pins : List (Addr × Obj)) (s : Shared), Inv X pins ρ H s → wpAny (model X.prog X.w) X.A (eval e X.env) (EP X pins ρ Q) X.xe s
def semT (X : Cx) (e : Expr) : TT := fun ρ H Q => ∀ (pins : List (Addr × Obj)) (s : Shared), Inv X pins ρ H s → wpAny (model X.prog X.w) X.A (isTrue e X.env (eval e X.env)) (TP X pins ρ Q) X.xe s
def semW (X : Cx) (e : Expr) : TT := fun ρ H Q => ∀ (whole : Sem Value) (pins : List (Addr × Obj)) (s : Shared), Inv X pins ρ H s → wpAny (model X.prog X.w) X.A (isTrue e X.env whole) (TP X pins ρ Q) X.xe s
def semA (X : Cx) (es : List Expr) : TA := fun ρ H Q => ∀ (pos : Pos) (pins : List (Addr × Obj)) (s : Shared), Inv X pins ρ H s → wpAny (model X.prog X.w) X.A (spliced (backTo pos (starEach es X.env))) (AP X pins ρ Q) X.xe s
theorem peS {e : Expr} : PE X e (semE X e) := ⟨fun pins s _ _ _ I h => h pins s I⟩
theorem ptS {e : Expr} : PT X e (semT X e) := ⟨fun pins s _ _ _ I h => h pins s I⟩
theorem pwS {e : Expr} : PW X e (semW X e) := ⟨fun whole pins s _ _ _ I h => h whole pins s I⟩
theorem paS {es : List Expr} : PA X es (semA X es) := ⟨fun pos pins s _ _ _ I h => h pos pins s I⟩
theorem ep_mono {pins : List (Addr × Obj)} {ρ : L2.St} {Q Q' : VK} (h : ∀ v H', Q v H' → Q' v H') {u : Value} {s : Shared} : EP X pins ρ Q u s → EP X pins ρ Q' u s := fun ⟨v, H', I, r, q⟩ => ⟨v, H', I, r, h v H' q⟩
theorem tp_mono {pins : List (Addr × Obj)} {ρ : L2.St} {Q Q' : Bool → Hp → Prop} (h : ∀ v H', Q v H' → Q' v H') {u : Bool} {s : Shared} : TP X pins ρ Q u s → TP X pins ρ Q' u s := fun ⟨H', I, q⟩ => ⟨H', I, h _ H' q⟩
theorem ap_mono {pins : List (Addr × Obj)} {ρ : L2.St} {Q Q' : List V → Hp → Prop} (h : ∀ v H', Q v H' → Q' v H') {u : List Value} {s : Shared} : AP X pins ρ Q u s → AP X pins ρ Q' u s := fun ⟨v, H', I, r, q⟩ => ⟨v, H', I, r, h v H' q⟩
theorem semE_mono {e : Expr} {ρ : L2.St} {H : Hp} {Q Q' : VK} (q : semE X e ρ H Q) (h : ∀ v H', Q v H' → Q' v H') : semE X e ρ H Q' := fun pins s I => thn (q pins s I) fun _ _ z => ep_mono h z
theorem semT_mono {e : Expr} {ρ : L2.St} {H : Hp} {Q Q' : Bool → Hp → Prop} (q : semT X e ρ H Q) (h : ∀ v H', Q v H' → Q' v H') : semT X e ρ H Q' := fun pins s I => thn (q pins s I) fun _ _ z => tp_mono h z
theorem semW_mono {e : Expr} {ρ : L2.St} {H : Hp} {Q Q' : Bool → Hp → Prop} (q : semW X e ρ H Q) (h : ∀ v H', Q v H' → Q' v H') : semW X e ρ H Q' := fun wh pins s I => thn (q wh pins s I) fun _ _ z => tp_mono h z
theorem semA_mono {es : List Expr} {ρ : L2.St} {H : Hp} {Q Q' : List V → Hp → Prop} (q : semA X es ρ H Q) (h : ∀ v H', Q v H' → Q' v H') : semA X es ρ H Q' := fun pos pins s I => thn (q pos pins s I) fun _ _ z => ap_mono h z
theorem pe_sem {e : Expr} {t : TE} (p : PE X e t) {ρ : L2.St} {H : Hp} {Q : VK} (h : t ρ H Q) : semE X e ρ H Q := fun pins s I => p.run pins s ρ H Q I h
theorem pt_sem {e : Expr} {t : TT} (p : PT X e t) {ρ : L2.St} {H : Hp} {Q : Bool → Hp → Prop} (h : t ρ H Q) : semT X e ρ H Q := fun pins s I => p.run pins s ρ H Q I h
theorem pw_sem {e : Expr} {t : TT} (p : PW X e t) {ρ : L2.St} {H : Hp} {Q : Bool → Hp → Prop} (h : t ρ H Q) : semW X e ρ H Q := fun wh pins s I => p.run wh pins s ρ H Q I h
theorem pa_sem {es : List Expr} {t : TA} (p : PA X es t) {ρ : L2.St} {H : Hp} {Q : List V → Hp → Prop} (h : t ρ H Q) : semA X es ρ H Q := fun pos pins s I => p.run pos pins s ρ H Q I h

structure Pst (K : PySem.W.Frag) (b : Bool) (H : Hp) (ρ : L2.St) (σ σ' : Sg) (T T' : List (V × D)) (H' : Hp) : Prop where
  ok : Ok K H' ρ σ' (T' ++ T)
  cd : Cd b σ' (T' ++ T)
  nv : NV σ → NV σ'
  sm : b = false → Same H H'
structure SE (b : Bool) (X : Cx) (e : Expr) (m : M) : Prop where
  run : ∀ {ρ : L2.St} {H : Hp} {σ : Sg} {T : List (V × D)} {d : D} {σ' : Sg}, Ok X.K H ρ σ T → Cd b σ T → m σ = some (d, σ') → semE X e ρ H fun v H' => Pst X.K b H ρ σ σ' T [(v, d)] H'
structure ST (b : Bool) (X : Cx) (e : Expr) (m : MT) : Prop where
  run : ∀ {ρ : L2.St} {H : Hp} {σ : Sg} {T : List (V × D)} {k : Bool} {σ' : Sg}, Ok X.K H ρ σ T → Cd b σ T → m σ = some (k, σ') → semT X e ρ H fun v H' => v = k ∧ Pst X.K b H ρ σ σ' T [] H'
structure SW (b : Bool) (X : Cx) (e : Expr) (m : MT) : Prop where
  run : ∀ {ρ : L2.St} {H : Hp} {σ : Sg} {T : List (V × D)} {k : Bool} {σ' : Sg}, Ok X.K H ρ σ T → Cd b σ T → m σ = some (k, σ') → semW X e ρ H fun v H' => v = k ∧ Pst X.K b H ρ σ σ' T [] H'
structure SA (b : Bool) (X : Cx) (es : List Expr) (m : MA) : Prop where
  run : ∀ {ρ : L2.St} {H : Hp} {σ : Sg} {T : List (V × D)} {ds : List D} {σ' : Sg}, Ok X.K H ρ σ T → Cd b σ T → m σ = some (ds, σ') → semA X es ρ H fun vs H' => vs.length = ds.length ∧ Pst X.K b H ρ σ σ' T (vs.zip ds) H'

theorem noOwn_frz {K : PySem.W.Frag} {Z : Addr → Prop} {H : Hp} {v : V} {d : D} (h : ∃ fp, Rep K Z H v d fp) : d.frz.noOwn = true := by
  obtain ⟨fp, h⟩ := h
  exact ((h.wide (Z' := fun _ => True) fun _ _ => trivial).frzd fun _ _ => trivial).noOwn_of rfl
theorem _root_.Py.World.repd {K : PySem.W.Frag} {H : Hp} {v : V} {d : D} {L : List (V × D)} (w : World K H ((v, d) :: L)) : ∃ fp, Rep K (Classical.choose w) H v d fp := by
  obtain ⟨fp, h, _⟩ := Classical.choose_spec w
  obtain ⟨f1, f2, _, r, _⟩ := h.inv
  exact ⟨f1, r⟩
mutual
theorem noVw_frz : ∀ {d : D}, d.noVw = true → d.frz.noVw = true
  | .non, _ => rfl
  | .bl _, _ => rfl
  | .int _, _ => rfl
  | .str _, _ => rfl
  | .tup _, h => h
  | .lst .own xs, h => noVws_frzs (ds := xs) h
  | .lst .frz xs, h => h
  | .lst .vw xs, h => h
  | .lst .scr xs, h => h
theorem noVws_frzs : ∀ {ds : List D}, noVws ds = true → noVws (frzs ds) = true
  | [], _ => rfl
  | d :: ds, h => by
    simp only [noVws, frzs, Bool.and_eq_true] at h ⊢
    exact ⟨noVw_frz h.1, noVws_frzs h.2⟩
end
theorem blK {K : PySem.W.Frag} {b : Bool} {H0 : Hp} {ρ : L2.St} {σ σ' : Sg} {T : List (V × D)} {H : Hp} {v : V} {k : Bool} (p : Pst K b H0 ρ σ σ' T [(v, .bl k)] H) : ∃ j, v = .bl j ∧ j = k ∧ Pst K b H0 ρ σ σ' T [] H := by
  obtain ⟨fp, r⟩ := World.repd (L := T ++ sl ρ σ') p.ok.w
  cases r
  exact ⟨k, rfl, rfl, p.ok.tail, fun e => ⟨(p.cd e).1, (p.cd e).2.tail⟩, p.nv, p.sm⟩
/-! ### names, constants -/
theorem Cd.val {b : Bool} {σ : Sg} {T : List (V × D)} {v : V} {d : D} (c : Cd b σ T) (h : b = true → d.noVw = true) : Cd b σ ((v, d) :: T) := fun e => ⟨(c e).1, (c e).2.cons (h e)⟩
theorem se_name {i : Nat} {x : Str} {pos : Pos} (hN : X.N[i]? = some x := by rfl) (hv : Vis X.env.scope x := by first | exact Or.inl rfl | exact Or.inr (Or.inl rfl) | exact Or.inr (Or.inr rfl)) (hd : (x == ("__debug__" : Str)) = false := by decide)
    (hcd : (x == ("__classdict__" : Str)) = false := by decide) : SE false X (.Name x pos) (mVar i) := ⟨fun {ρ H σ T d σ'} ok cd h => by
  unfold mVar at h
  split at h
  · rename_i d0 h0
    cases h
    obtain ⟨v, hv', ok1⟩ := ok.take h0
    refine pe_sem (pe_var hN hv hd hcd) ⟨v, hv', ⟨?_, (fun e => nomatch e), id, fun _ => Same.refl _⟩⟩
    have ok2 := (ok1.lift (T1 := [(v, d0)]) (T2 := [(v, d0), (v, d0.view)]) fun L w => (World.view w).swap)
    have ok3 := Ok.back (T := (v, d0.view) :: T) ok2 hv'
    have e : (σ.set i none).set i (some d0) = σ := by
      rw [List.set_set]
      obtain ⟨h1, h2⟩ := List.getElem?_eq_some_iff.mp h0
      rw [← h2, List.set_getElem_self]
    rw [e] at ok3
    exact ok3
  · cases h⟩
theorem se_frz {i : Nat} {x : Str} {pos : Pos} (hN : X.N[i]? = some x := by rfl) (hv : Vis X.env.scope x := by first | exact Or.inl rfl | exact Or.inr (Or.inl rfl) | exact Or.inr (Or.inr rfl)) (hd : (x == ("__debug__" : Str)) = false := by decide)
    (hcd : (x == ("__classdict__" : Str)) = false := by decide) : SE true X (.Name x pos) (mFrz i) := ⟨fun {ρ H σ T d σ'} ok cd h => by
  unfold mFrz at h
  split at h
  · rename_i d0 h0
    cases h
    obtain ⟨v, hv', ok1⟩ := ok.take h0
    have nd : d0.frz.noVw = true := noVw_frz ((cd rfl).1 i d0 h0)
    refine pe_sem (pe_var hN hv hd hcd) ⟨v, hv', ⟨?_, fun e => ⟨(cd e).1.set fun d e => by cases e; exact nd, (cd e).2.cons nd⟩, fun nv => nv.set (fun d e => by cases e; exact nd), fun e => nomatch e⟩⟩
    have ok2 := (ok1.lift (T1 := [(v, d0)]) (T2 := [(v, d0.frz), (v, d0.frz)]) fun L w => (World.frz w).dup (noOwn_frz ok1.w.repd))
    have ok3 := Ok.back (T := (v, d0.frz) :: T) ok2 hv'
    rw [List.set_set] at ok3
    exact ok3
  · cases h⟩
theorem se_move {i : Nat} {x : Str} {pos : Pos} (hN : X.N[i]? = some x := by rfl) (hv : Vis X.env.scope x := by first | exact Or.inl rfl | exact Or.inr (Or.inl rfl) | exact Or.inr (Or.inr rfl)) (hd : (x == ("__debug__" : Str)) = false := by decide)
    (hcd : (x == ("__classdict__" : Str)) = false := by decide) : SE true X (.Name x pos) (mMove i) := ⟨fun {ρ H σ T d σ'} ok cd h => by
  unfold mMove at h
  split at h
  · rename_i d0 h0
    cases h
    obtain ⟨v, hv', ok1⟩ := ok.take h0
    refine pe_sem (pe_var hN hv hd hcd) ⟨v, hv', ⟨ok1, fun e => ⟨(cd e).1.set fun d e => (nomatch e), (cd e).2.cons ((cd e).1 i d h0)⟩, fun nv => nv.set (fun d e => (nomatch e)), fun e => nomatch e⟩⟩
  · cases h⟩
theorem pst_val {b : Bool} {ρ : L2.St} {H H' : Hp} {σ : Sg} {T : List (V × D)} {v : V} {d : D} (ok : Ok X.K H ρ σ T) (cd : Cd b σ T) (h : ∀ L, World X.K H L → World X.K H' ((v, d) :: L)) (hd : d.noVw = true) (hs : Same H H') : Pst X.K b H ρ σ σ T [(v, d)] H' :=
  ⟨Ok.lift (T1 := []) (T2 := [(v, d)]) ok fun L w => h L w, cd.val fun _ => hd, id, fun _ => hs⟩
theorem se_int {b : Bool} {i : Int} {j pos} : SE b X (.Constant (.int i) j pos) (mC (.int i)) := ⟨fun ok cd h => by cases h; exact pe_sem pe_int (pst_val ok cd (fun L w => w.int i) rfl (Same.refl _))⟩
theorem se_bl {b : Bool} {k : Bool} {j pos} : SE b X (.Constant (.bool k) j pos) (mC (.bl k)) := ⟨fun ok cd h => by cases h; exact pe_sem pe_bl (pst_val ok cd (fun L w => w.bl k) rfl (Same.refl _))⟩
theorem se_non {b : Bool} {j pos} : SE b X (.Constant .none j pos) (mC .non) := ⟨fun ok cd h => by cases h; exact pe_sem pe_non (pst_val ok cd (fun L w => w.non) rfl (Same.refl _))⟩
theorem se_str {b : Bool} {x : Str} {j pos} : SE b X (.Constant (.str x) j pos) (mC (.str x)) := ⟨fun ok cd h => by cases h; exact pe_sem pe_str (pst_val ok cd (fun L w => w.str x) rfl (Same.refl _))⟩
theorem se_up {e : Expr} {m : M} (h : SE false X e m) : SE true X e (mUp m) := ⟨fun {ρ H σ T d σ'} ok cd e => by
  unfold mUp at e
  split at e
  · rename_i x σ1 h1
    split at e
    · rename_i hn
      cases e
      refine semE_mono (h.run ok (fun z => nomatch z) h1) fun v H' p => ⟨p.ok, fun _ => ⟨p.nv (cd rfl).1, (cd rfl).2.cons hn⟩, p.nv, fun e => nomatch e⟩
    · cases e
  · cases e⟩
/-! ### operators -/
structure Op2 (K : PySem.W.Frag) (r : R2) (f : D → D → Option D) : Prop where
  run : ∀ {H : Hp} {L : List (V × D)} {x y : V} {dx dy z : D} {Q : VK}, World K H ((y, dy) :: (x, dx) :: L) → f dx dy = some z → (∀ v H', World K H' ((v, z) :: L) → Same H H' → Q v H') → r x y H Q
  nv : ∀ {dx dy z : D}, f dx dy = some z → dx.noVw = true → dy.noVw = true → z.noVw = true
structure Op1 (K : PySem.W.Frag) (r : V → Hp → VK → Prop) (f : D → Option D) : Prop where
  run : ∀ {H : Hp} {L : List (V × D)} {x : V} {dx z : D} {Q : VK}, World K H ((x, dx) :: L) → f dx = some z → (∀ v H', World K H' ((v, z) :: L) → Same H H' → Q v H') → r x H Q
  nv : ∀ {dx z : D}, f dx = some z → dx.noVw = true → z.noVw = true
structure OpA (K : PySem.W.Frag) (r : List V → Hp → VK → Prop) (f : List D → Option D) : Prop where
  run : ∀ {H : Hp} {L : List (V × D)} {xs : List V} {ds : List D} {z : D} {Q : VK}, xs.length = ds.length → World K H (xs.zip ds ++ L) → f ds = some z → (∀ v H', World K H' ((v, z) :: L) → Same H H' → Q v H') → r xs H Q
  nv : ∀ {ds : List D} {z : D}, f ds = some z → noVws ds = true → z.noVw = true
theorem Op2.or {K : PySem.W.Frag} {r r' : R2} {f g : D → D → Option D} (h : Op2 K r f) (h' : Op2 K r' g) : Op2 K (fun x y H Q => r x y H Q ∨ r' x y H Q) (fun x y => (f x y).or (g x y)) := ⟨fun {H L x y dx dy z Q} w e q => by
  cases q1 : f dx dy with
  | some z' =>
    rw [q1] at e
    have e' : z' = z := by simpa using e
    subst e'
    exact .inl (h.run w q1 q)
  | none =>
    rw [q1] at e
    exact .inr (h'.run w (by simpa using e) q), fun {dx dy z} e a b => by
  cases q1 : f dx dy with
  | some z' =>
    rw [q1] at e
    have e' : z' = z := by simpa using e
    subst e'
    exact h.nv q1 a b
  | none =>
    rw [q1] at e
    exact h'.nv (by simpa using e) a b⟩
theorem nt_zip {vs : List V} {ds : List D} {T : List (V × D)} (h : noVws ds = true) (t : NT T) : NT (vs.zip ds ++ T) := fun p m => (List.mem_append.mp m).elim (fun m => noVws_mem h (List.of_mem_zip (a := p.1) (b := p.2) m).2) (t p)
theorem nv_zip {vs : List V} {ds : List D} {T : List (V × D)} (hl : vs.length = ds.length) (t : NT (vs.zip ds ++ T)) : noVws ds = true := by
  rw [noVws_all, List.all_eq_true]
  intro d hd
  obtain ⟨i, hi, e⟩ := List.mem_iff_getElem.mp hd
  have hv : i < vs.length := by rw [hl]; exact hi
  refine t (vs[i], d) (List.mem_append_left _ ?_)
  rw [← e]
  refine List.mem_iff_getElem.mpr ⟨i, by rw [List.length_zip]; omega, by simp⟩
variable {b : Bool} {e1 e2 e3 : Expr} {a c m3 : M} {pos : Pos}
theorem bin_run {r : R2} {f : D → D → Option D} (hr : Op2 X.K r f) (ha : SE b X e1 a) (hc : SE b X e2 c) {ρ : L2.St} {H : Hp} {σ : Sg} {T : List (V × D)} {d : D} {σ' : Sg} (ok : Ok X.K H ρ σ T) (cd : Cd b σ T) (h : m2 f a c σ = some (d, σ')) {Q : VK} (hQ : ∀ v H', Pst X.K b H ρ σ σ' T [(v, d)] H' → Q v H') :
    tOp r (semE X e1) (semE X e2) ρ H Q := by
  unfold m2 at h
  split at h
  · rename_i dx σ1 h1
    split at h
    · rename_i dy σ2 h2
      split at h
      · rename_i z hz
        cases h
        refine semE_mono (ha.run ok cd h1) fun x H1 p1 => ?_
        refine semE_mono (hc.run p1.ok p1.cd h2) fun y H2 p2 => ?_
        refine hr.run p2.ok.w hz fun v H' w hs => hQ v H' ⟨?_, fun e => ⟨(p2.cd e).1, (p2.cd e).2.tail.tail.cons (hr.nv hz (p2.cd e).2.tail.head (p2.cd e).2.head)⟩, fun n => p2.nv (p1.nv n), fun e => ((p1.sm e).trans (p2.sm e)).trans hs⟩
        exact ⟨p2.ok.len, p2.ok.al, w⟩
      · cases h
    · cases h
  · cases h
theorem se_op {op : Operator} {r : R2} {f : D → D → Option D} (ho : OpR X (binaryOp op) r) (hr : Op2 X.K r f) (ha : SE b X e1 a) (hc : SE b X e2 c) : SE b X (.BinOp e1 op e2 pos) (m2 f a c) :=
  ⟨fun ok cd h => pe_sem (pe_op ho peS peS) (bin_run hr ha hc ok cd h fun _ _ p => p)⟩
theorem se_cmp {op : CmpOp} {r : R2} {f : D → D → Option D} (ho : OpR X (compareOp op) r) (hr : Op2 X.K r f) (ha : SE b X e1 a) (hc : SE b X e2 c) (hm : behindInMarks op e2 = false := by first | exact nomark _ | rfl) : SE b X (.Compare e1 [op] [e2] pos) (m2 f a c) :=
  ⟨fun ok cd h => pe_sem (pe_cmpR ho peS peS hm) (bin_run hr ha hc ok cd h fun _ _ p => p)⟩
theorem st_cmp {op : CmpOp} {r : R2} {f : D → D → Option D} (ho : OpR X (compareOp op) r) (hr : Op2 X.K r f) (ha : SE b X e1 a) (hc : SE b X e2 c) (hm : behindInMarks op e2 = false := by first | exact nomark _ | rfl) : ST b X (.Compare e1 [op] [e2] pos) (tB (m2 f a c)) := ⟨fun {ρ H σ T k σ'} ok cd h => by
  unfold tB at h
  split at h
  · rename_i k' σ1 h1
    cases h
    refine pt_sem (pt_cmpR ho peS peS hm) (Q := fun v H' => v = k ∧ Pst X.K b H ρ σ σ' T [] H') ?_
    exact bin_run hr ha hc ok cd h1 fun v H' p => blK p
  · cases h⟩
theorem un_run {r : V → Hp → VK → Prop} {f : D → Option D} (hr : Op1 X.K r f) (ha : SE b X e1 a) {ρ : L2.St} {H : Hp} {σ : Sg} {T : List (V × D)} {d : D} {σ' : Sg} (ok : Ok X.K H ρ σ T) (cd : Cd b σ T) (h : m1 f a σ = some (d, σ')) {Q : VK} (hQ : ∀ v H', Pst X.K b H ρ σ σ' T [(v, d)] H' → Q v H') :
    semE X e1 ρ H fun x H1 => r x H1 Q := by
  unfold m1 at h
  split at h
  · rename_i dx σ1 h1
    split at h
    · rename_i z hz
      cases h
      refine semE_mono (ha.run ok cd h1) fun x H1 p1 => ?_
      refine hr.run p1.ok.w hz fun v H' w hs => hQ v H' ⟨?_, fun e => ⟨(p1.cd e).1, (p1.cd e).2.tail.cons (hr.nv hz (p1.cd e).2.head)⟩, p1.nv, fun e => (p1.sm e).trans hs⟩
      exact ⟨p1.ok.len, p1.ok.al, w⟩
    · cases h
  · cases h
theorem se_un {op : UnaryOp} {r : V → Hp → VK → Prop} {f : D → Option D} (ho : UnR X (unaryOp op) r) (hr : Op1 X.K r f) (ha : SE b X e1 a) : SE b X (.UnaryOp op e1 pos) (m1 f a) :=
  ⟨fun ok cd h => pe_sem (pe_un ho peS) (un_run hr ha ok cd h fun _ _ p => p)⟩
theorem se_ix {r : R2} {f : D → D → Option D} (ho : IxR X r) (hr : Op2 X.K r f) (ha : SE b X e1 a) (hc : SE b X e2 c) (hs : PlainIx e2 := by exact fun _ _ => rfl) : SE b X (.Subscript e1 e2 pos) (m2 f a c) :=
  ⟨fun ok cd h => pe_sem (pe_ix ho peS peS hs) (bin_run hr ha hc ok cd h fun _ _ p => p)⟩
/-! ### arguments -/
variable {es : List Expr} {ma : MA}
theorem sa_nil : SA b X [] aNil := ⟨fun ok cd h => by cases h; exact pa_sem pa_nil ⟨rfl, ok, cd, id, fun _ => Same.refl _⟩⟩
theorem sa_cons (ha : SE b X e1 a) (hr : SA b X es ma) (hs : starEach (e1 :: es) X.env = (false, eval e1 X.env) :: starEach es X.env := by rfl) : SA b X (e1 :: es) (aCons a ma) := ⟨fun {ρ H σ T d σ'} ok cd h => by
  unfold aCons at h
  split at h
  · rename_i x σ1 h1
    split at h
    · rename_i xs σ2 h2
      cases h
      refine pa_sem (pa_cons peS paS hs) ?_
      refine semE_mono (ha.run ok cd h1) fun v H1 p1 => ?_
      refine semA_mono (hr.run p1.ok p1.cd h2) fun vs H2 ⟨hl, p2⟩ => ?_
      have pp : List.Perm (vs.zip xs ++ ([(v, x)] ++ T)) ((v :: vs).zip (x :: xs) ++ T) := by
        show List.Perm (vs.zip xs ++ (v, x) :: T) ((v, x) :: (vs.zip xs ++ T))
        exact List.perm_middle
      refine ⟨by simp [hl], Ok.temps p2.ok fun L w => w.perm (pp.append_right L), fun e => ⟨(p2.cd e).1, fun q m => (p2.cd e).2 q (pp.mem_iff.mpr m)⟩, fun n => p2.nv (p1.nv n), fun e => (p1.sm e).trans (p2.sm e)⟩
    · cases h
  · cases h⟩
theorem args_run {r : List V → Hp → VK → Prop} {f : List D → Option D} (hr : OpA X.K r f) (ha : SA b X es ma) {ρ : L2.St} {H : Hp} {σ : Sg} {T : List (V × D)} {d : D} {σ' : Sg} (ok : Ok X.K H ρ σ T) (cd : Cd b σ T) (h : mA f ma σ = some (d, σ')) {Q : VK} (hQ : ∀ v H', Pst X.K b H ρ σ σ' T [(v, d)] H' → Q v H') :
    semA X es ρ H fun xs H1 => r xs H1 Q := by
  unfold mA at h
  split at h
  · rename_i ds σ1 h1
    split at h
    · rename_i z hz
      cases h
      refine semA_mono (ha.run ok cd h1) fun xs H1 ⟨hl, p1⟩ => ?_
      refine hr.run hl (L := T ++ sl ρ σ') (by have q := p1.ok.w; rw [List.append_assoc] at q; exact q) hz fun v H' w hs => hQ v H' ⟨?_, fun e => ⟨(p1.cd e).1, ?_⟩, p1.nv, fun e => (p1.sm e).trans hs⟩
      · exact ⟨p1.ok.len, p1.ok.al, w⟩
      · refine NT.cons (hr.nv hz (nv_zip hl (p1.cd e).2)) fun q m => (p1.cd e).2 q (List.mem_append_right _ m)
    · cases h
  · cases h
def kLst (xs : List D) : Option D := if xs.length ≤ 16777216 then some (.lst .own xs) else none
def kTup (xs : List D) : Option D := if xs.length ≤ 16777216 ∧ noOwns xs = true then some (.tup xs) else none
theorem op_lst {K : PySem.W.Frag} : OpA K (fun xs H1 Q => xs.length ≤ sizeLine ∧ ∀ p, H1 p = none → Q (.ref p) (upd H1 p (.lst xs))) kLst where
  run := fun {H L xs ds z Q} hl w e q => by
    unfold kLst at e
    split at e
    · rename_i hz
      cases e
      exact ⟨by rw [sizeLine_eq, hl]; exact hz, fun p hp => q _ _ (w.newLst hl hp) (same_upd hp)⟩
    · cases e
  nv := fun {ds z} e n => by
    unfold kLst at e
    split at e
    · cases e
      exact n
    · cases e
theorem op_tup {K : PySem.W.Frag} : OpA K (fun xs H1 Q => xs.length ≤ sizeLine ∧ ∀ p, H1 p = none → Q (.ref p) (upd H1 p (.tup xs))) kTup where
  run := fun {H L xs ds z Q} hl w e q => by
    unfold kTup at e
    split at e
    · rename_i hz
      cases e
      exact ⟨by rw [sizeLine_eq, hl]; exact hz.1, fun p hp => q _ _ (w.newTup hl hz.2 hp) (same_upd hp)⟩
    · cases e
  nv := fun {ds z} e n => by
    unfold kTup at e
    split at e
    · cases e
      exact n
    · cases e
theorem se_lst (ha : SA b X es ma) : SE b X (.List es pos) (mA kLst ma) := ⟨fun ok cd h => pe_sem (pe_lst paS) (args_run op_lst ha ok cd h fun _ _ p => p)⟩
theorem se_tup {x1 : Nat} (ha : SA b X es ma) : SE b X (.Tuple es x1 pos) (mA kTup ma) := ⟨fun ok cd h => pe_sem (pe_tup paS) (args_run op_tup ha ok cd h fun _ _ p => p)⟩
/-! ### built-ins -/
theorem se_callB {x : Str} {id : String} {r : List V → Hp → VK → Prop} {f : List D → Option D} {p : Pos} (hc : CallR X (.builtin id) r) (hr : OpA X.K r f) (hg : Gl X x) (hm : X.mg x = none) (hv : bootBuiltins x = some (.builtin id)) (ha : SA b X (e1 :: es) ma)
    (hn : x ≠ "__name__" := by decide) (hdb : (x == ("__debug__" : Str)) = false := by decide)
    (he : starEach (e1 :: es) X.env = (false, eval e1 X.env) :: starEach es X.env := by rfl) (hpl : (backTo pos (starEach es X.env)).any (·.1) = false := by rfl) : SE b X (.Call (.Name x p) (e1 :: es) [] pos) (mA f ma) :=
  ⟨fun ok cd h => pe_sem (pe_callB hc hg hm hv paS hn hdb he hpl) (args_run hr ha ok cd h fun _ _ p => p)⟩
theorem se_callTy {x : Str} {t : String} {r : List V → Hp → VK → Prop} {f : List D → Option D} {p : Pos} (hc : CallR X (.type t) r) (hr : OpA X.K r f) (hg : Gl X x) (hm : X.mg x = none) (hv : bootBuiltins x = some (.type t)) (ha : SA b X (e1 :: es) ma)
    (hn : x ≠ "__name__" := by decide) (hdb : (x == ("__debug__" : Str)) = false := by decide)
    (he : starEach (e1 :: es) X.env = (false, eval e1 X.env) :: starEach es X.env := by rfl) (hpl : (backTo pos (starEach es X.env)).any (·.1) = false := by rfl) : SE b X (.Call (.Name x p) (e1 :: es) [] pos) (mA f ma) :=
  ⟨fun ok cd h => pe_sem (pe_callTy hc hg hm hv paS hn hdb he hpl) (args_run hr ha ok cd h fun _ _ p => p)⟩
/-! ### tests -/
variable {ta tb : MT} {rest : List Expr}
theorem st_b (ha : SE b X e1 a) (he : ∀ whole, isTrue e1 X.env whole = (do let v ← whole; standAt e1.pos; holding [v] (truthy v)) := by intro _; rfl) : ST b X e1 (Py.tB a) := ⟨fun {ρ H σ T k σ'} ok cd h => by
  unfold Py.tB at h
  split at h
  · rename_i k' σ1 h1
    cases h
    refine pt_sem (pt_val peS he) (Q := fun v H' => v = k ∧ Pst X.K b H ρ σ σ' T [] H') ?_
    exact semE_mono (ha.run ok cd h1) fun v H' p => blK p
  · cases h⟩
theorem tru_of {K : PySem.W.Frag} {H : Hp} {L : List (V × D)} {v : V} {d : D} {k : Bool} (w : World K H ((v, d) :: L)) (h : dTru d = some k) : TruV K v H k := by
  cases d with
  | non => obtain ⟨_, r⟩ := w.repd; cases r; cases h; rfl
  | bl _ => obtain ⟨_, r⟩ := w.repd; cases r; cases h; rfl
  | int _ => obtain ⟨_, r⟩ := w.repd; cases r; cases h; rfl
  | str x =>
    obtain ⟨_, r⟩ := w.repd
    cases r
    simp only [dTru] at h
    split at h
    · rename_i hz
      cases h
      exact ⟨by rw [sizeLine_eq]; exact hz, rfl⟩
    · cases h
  | tup xs =>
    obtain ⟨a, vs, rfl, h1, h2, _⟩ := w.openT
    cases h
    refine .inr (.inl ⟨vs, .of h1, ?_⟩)
    cases xs <;> cases vs <;> simp_all
  | lst f xs =>
    obtain ⟨a, vs, rfl, h1, h2, _⟩ := w.openL
    cases h
    refine .inl ⟨vs, h1, ?_⟩
    cases xs <;> cases vs <;> simp_all
theorem st_val (ha : SE b X e1 a) (he : ∀ whole, isTrue e1 X.env whole = (do let v ← whole; standAt e1.pos; holding [v] (truthy v)) := by intro _; rfl) : ST b X e1 (tVal a) := ⟨fun {ρ H σ T k σ'} ok cd h => by
  unfold tVal at h
  split at h
  · rename_i x σ1 h1
    split at h
    · rename_i k' hk
      cases h
      refine pt_sem (pt_truth peS he) (Q := fun v H' => v = k ∧ Pst X.K b H ρ σ σ' T [] H') ?_
      refine semE_mono (ha.run ok cd h1) fun v H' p => ⟨k, tru_of (L := T ++ sl ρ σ') p.ok.w hk, rfl, p.ok.tail, fun e => ⟨(p.cd e).1, (p.cd e).2.tail⟩, p.nv, p.sm⟩
    · cases h
  · cases h⟩
theorem st_not (ha : ST b X e1 ta) : ST b X (.UnaryOp .Not e1 pos) (tNotM ta) := ⟨fun {ρ H σ T k σ'} ok cd h => by
  unfold tNotM at h
  split at h
  · rename_i k' σ1 h1
    cases h
    refine pt_sem (pt_not ptS) (Q := fun v H' => v = (!k') ∧ Pst X.K b H ρ σ σ' T [] H') ?_
    exact semT_mono (ha.run ok cd h1) fun v H' p => ⟨by rw [p.1], p.2⟩
  · cases h⟩
theorem sw_and1 (ha : ST b X e1 ta) : SW b X (.BoolOp .And [e1] pos) ta := ⟨fun ok cd h => pw_sem (pw_and1 ptS) (ha.run ok cd h)⟩
theorem sw_or1 (ha : ST b X e1 ta) : SW b X (.BoolOp .Or [e1] pos) ta := ⟨fun ok cd h => pw_sem (pw_or1 ptS) (ha.run ok cd h)⟩
theorem Pst.trans {K : PySem.W.Frag} {b : Bool} {ρ : L2.St} {σ σ1 σ2 : Sg} {T T' : List (V × D)} {H0 H1 H2 : Hp} (p : Pst K b H0 ρ σ σ1 T [] H1) (q : Pst K b H1 ρ σ1 σ2 T T' H2) : Pst K b H0 ρ σ σ2 T T' H2 := ⟨q.ok, q.cd, fun n => q.nv (p.nv n), fun e => (p.sm e).trans (q.sm e)⟩
theorem sw_and (ha : ST b X e1 ta) (hb : SW b X (.BoolOp .And (e2 :: rest) pos) tb) : SW b X (.BoolOp .And (e1 :: e2 :: rest) pos) (tAndM ta tb) := ⟨fun {ρ H σ T k σ'} ok cd h => by
  refine pw_sem (pw_and ptS pwS) (Q := fun v H' => v = k ∧ Pst X.K b H ρ σ σ' T [] H') ?_
  unfold tAndM at h
  split at h
  · rename_i σ1 h1
    refine semT_mono (ha.run ok cd h1) fun v H1 p => ?_
    rw [p.1]
    exact semW_mono (hb.run p.2.ok p.2.cd h) fun v H' q => ⟨q.1, p.2.trans q.2⟩
  · rename_i σ1 h1
    cases h
    refine semT_mono (ha.run ok cd h1) fun v H1 p => ?_
    rw [p.1]
    exact ⟨rfl, p.2⟩
  · cases h⟩
theorem sw_or (ha : ST b X e1 ta) (hb : SW b X (.BoolOp .Or (e2 :: rest) pos) tb) : SW b X (.BoolOp .Or (e1 :: e2 :: rest) pos) (tOrM ta tb) := ⟨fun {ρ H σ T k σ'} ok cd h => by
  refine pw_sem (pw_or ptS pwS) (Q := fun v H' => v = k ∧ Pst X.K b H ρ σ σ' T [] H') ?_
  unfold tOrM at h
  split at h
  · rename_i σ1 h1
    cases h
    refine semT_mono (ha.run ok cd h1) fun v H1 p => ?_
    rw [p.1]
    exact ⟨rfl, p.2⟩
  · rename_i σ1 h1
    refine semT_mono (ha.run ok cd h1) fun v H1 p => ?_
    rw [p.1]
    exact semW_mono (hb.run p.2.ok p.2.cd h) fun v H' q => ⟨q.1, p.2.trans q.2⟩
  · cases h⟩
theorem st_w (h : SW b X e1 ta) : ST b X e1 ta := ⟨fun ok cd e pins s I => h.run ok cd e _ pins s I⟩
/-- .. as values -/
theorem se_if {c : Expr} {tc : MT} {m1 m2 : M} (hc : ST b X c tc) (ha : SE b X e1 m1) (hb : SE b X e2 m2) : SE b X (.IfExp c e1 e2 pos) (mIf tc m1 m2) := ⟨fun {ρ H σ T k σ'} ok cd h => by
  refine pe_sem (pe_ifExp ptS peS peS) ?_
  unfold mIf at h
  split at h
  · rename_i σ1 h1
    refine semT_mono (hc.run ok cd h1) fun v H1 p => ?_
    rw [p.1]
    exact semE_mono (ha.run p.2.ok p.2.cd h) fun v H' q => p.2.trans q
  · rename_i σ1 h1
    refine semT_mono (hc.run ok cd h1) fun v H1 p => ?_
    rw [p.1]
    exact semE_mono (hb.run p.2.ok p.2.cd h) fun v H' q => p.2.trans q
  · cases h⟩
/-- and, or of bools as values: all but the last must be bools -/
def mAndV (a b : M) : M := fun σ => match a σ with
  | some (.bl true, σ1) => b σ1
  | some (.bl false, σ1) => some (.bl false, σ1)
  | _ => none
def mOrV (a b : M) : M := fun σ => match a σ with
  | some (.bl true, σ1) => some (.bl true, σ1)
  | some (.bl false, σ1) => b σ1
  | _ => none
def mNotV (a : M) : M := fun σ => match a σ with
  | some (.bl k, σ1) => some (.bl (!k), σ1)
  | _ => none
theorem se_one {op : BoolOp} (ha : SE b X e1 a) : SE b X (.BoolOp op [e1] pos) a := ⟨fun ok cd h => pe_sem (pe_one peS) (ha.run ok cd h)⟩
theorem bl_of {K : PySem.W.Frag} {b : Bool} {H0 : Hp} {ρ : L2.St} {σ σ' : Sg} {T : List (V × D)} {H : Hp} {v : V} {k : Bool} (p : Pst K b H0 ρ σ σ' T [(v, .bl k)] H) : v = .bl k ∧ Pst K b H0 ρ σ σ' T [] H := by
  obtain ⟨j, rfl, rfl, q⟩ := blK p
  exact ⟨rfl, q⟩
theorem se_and {m2 : M} (ha : SE b X e1 a) (hb : SE b X (.BoolOp .And (e2 :: rest) pos) m2) : SE b X (.BoolOp .And (e1 :: e2 :: rest) pos) (mAndV a m2) := ⟨fun {ρ H σ T k σ'} ok cd h => by
  refine pe_sem (pe_and peS peS) ?_
  unfold mAndV at h
  split at h
  · rename_i σ1 h1
    refine semE_mono (ha.run ok cd h1) fun v H1 p => ?_
    obtain ⟨rfl, q⟩ := bl_of p
    exact ⟨true, rfl, iteT (semE_mono (hb.run q.ok q.cd h) fun v H' z => q.trans z)⟩
  · rename_i σ1 h1
    cases h
    refine semE_mono (ha.run ok cd h1) fun v H1 p => ?_
    obtain ⟨rfl, q⟩ := bl_of p
    exact ⟨false, rfl, iteF p⟩
  · cases h⟩
theorem se_or {m2 : M} (ha : SE b X e1 a) (hb : SE b X (.BoolOp .Or (e2 :: rest) pos) m2) : SE b X (.BoolOp .Or (e1 :: e2 :: rest) pos) (mOrV a m2) := ⟨fun {ρ H σ T k σ'} ok cd h => by
  refine pe_sem (pe_or peS peS) ?_
  unfold mOrV at h
  split at h
  · rename_i σ1 h1
    cases h
    refine semE_mono (ha.run ok cd h1) fun v H1 p => ?_
    obtain ⟨rfl, q⟩ := bl_of p
    exact ⟨true, rfl, iteT p⟩
  · rename_i σ1 h1
    refine semE_mono (ha.run ok cd h1) fun v H1 p => ?_
    obtain ⟨rfl, q⟩ := bl_of p
    exact ⟨false, rfl, iteF (semE_mono (hb.run q.ok q.cd h) fun v H' z => q.trans z)⟩
  · cases h⟩
theorem se_not (ha : SE b X e1 a) : SE b X (.UnaryOp .Not e1 pos) (mNotV a) := ⟨fun {ρ H σ T k σ'} ok cd h => by
  refine pe_sem (pe_not peS) ?_
  unfold mNotV at h
  split at h
  · rename_i k' σ1 h1
    cases h
    refine semE_mono (ha.run ok cd h1) fun v H1 p => ?_
    obtain ⟨rfl, q⟩ := bl_of p
    refine ⟨k', rfl, ?_⟩
    exact ⟨Ok.lift (T1 := []) (T2 := [(.bl (!k'), .bl (!k'))]) q.ok fun L w => World.bl (!k') w, fun e => ⟨(q.cd e).1, (q.cd e).2.cons rfl⟩, q.nv, q.sm⟩
  · cases h⟩
end
end Py
/-! Layer «Py», part D: operators and built-ins on data. -/
namespace Py
open PySem PySem.Spec PyProof.Rows L2

/-! ### equality -/
mutual
def D.py : D → PyData
  | .non => .none
  | .bl b => .bool b
  | .int i => .int i
  | .str x => .str x
  | .tup xs => .tuple (pys xs)
  | .lst _ xs => .list (pys xs)
def pys : List D → List PyData
  | [] => []
  | x :: xs => x.py :: pys xs
end
mutual
def D.deq : D → D → Bool
  | .non, .non => true
  | .bl a, .bl b => a == b
  | .bl a, .int j => (if a then 1 else 0) == j
  | .int i, .bl b => i == (if b then 1 else 0)
  | .int i, .int j => i == j
  | .str x, .str y => x == y
  | .lst _ xs, .lst _ ys => deqs xs ys
  | .tup xs, .tup ys => deqs xs ys
  | _, _ => false
def deqs : List D → List D → Bool
  | [], [] => true
  | x :: xs, y :: ys => x.deq y && deqs xs ys
  | _, _ => false
end
mutual
/-- of depth at most n, its texts well-formed -/
def D.fit : Nat → D → Bool
  | _, .non => true
  | _, .bl _ => true
  | _, .int _ => true
  | _, .str x => PyData.strOk x
  | 0, .tup _ => false
  | 0, .lst _ _ => false
  | n + 1, .tup xs => fits n xs
  | n + 1, .lst _ xs => fits n xs
def fits : Nat → List D → Bool
  | _, [] => true
  | n, x :: xs => x.fit n && fits n xs
end
theorem deq_py : ∀ (x y : D), x.deq y = PyData.eqv x.py y.py := by
  intro x
  induction x using D.rec (motive_2 := fun xs => ∀ ys, deqs xs ys = PyData.eqvAll (pys xs) (pys ys)) with
  | non => intro y; cases y <;> simp [D.deq, D.py, PyData.eqv]
  | bl b => intro y; cases y <;> simp [D.deq, D.py, PyData.eqv]
  | int i => intro y; cases y <;> simp [D.deq, D.py, PyData.eqv]
  | str x => intro y; cases y <;> simp [D.deq, D.py, PyData.eqv]
  | tup xs ih => intro y; cases y <;> simp [D.deq, D.py, PyData.eqv, ih]
  | lst f xs ih => intro y; cases y <;> simp [D.deq, D.py, PyData.eqv, ih]
  | nil => rename_i y; cases y <;> simp [deqs, pys, PyData.eqvAll]
  | cons x xs ih1 ih2 => rename_i y; cases y <;> simp [deqs, pys, PyData.eqvAll, ih1, ih2]
theorem fit_lay : ∀ (x : D) (n : Nat), x.fit n = true → x.py.canLay0 = true ∧ x.py.depth ≤ n := by
  intro x
  induction x using D.rec (motive_2 := fun xs => ∀ n, fits n xs = true → PyData.canLayAll0 (pys xs) = true ∧ PyData.depthAll (pys xs) ≤ n) with
  | non => intro n h; simp [D.py, PyData.canLay0, PyData.depth]
  | bl b => intro n h; simp [D.py, PyData.canLay0, PyData.depth]
  | int i => intro n h; simp [D.py, PyData.canLay0, PyData.depth]
  | str x => intro n h; cases n <;> simpa [D.py, PyData.canLay0, PyData.depth, D.fit] using h
  | tup xs ih =>
    intro n h
    cases n with
    | zero => simp [D.fit] at h
    | succ n =>
      obtain ⟨h1, h2⟩ := ih n (by simpa [D.fit] using h)
      simp [D.py, PyData.canLay0, PyData.depth, h1]
      omega
  | lst f xs ih =>
    intro n h
    cases n with
    | zero => simp [D.fit] at h
    | succ n =>
      obtain ⟨h1, h2⟩ := ih n (by simpa [D.fit] using h)
      simp [D.py, PyData.canLay0, PyData.depth, h1]
      omega
  | nil => rename_i n h; simp [pys, PyData.canLayAll0, PyData.depthAll]
  | cons x xs ih1 ih2 =>
    rename_i n h
    simp only [fits, Bool.and_eq_true] at h
    obtain ⟨a1, a2⟩ := ih1 n h.1
    obtain ⟨b1, b2⟩ := ih2 n h.2
    simp [pys, PyData.canLayAll0, PyData.depthAll, a1, b1]
    omega
section
variable {K : PySem.W.Frag} {Z : Addr → Prop} {H : Hp} {L : List (V × D)}
mutual
theorem Rep.dp : ∀ {v : V} {d : D} {fp : List Addr}, Rep K Z H v d fp → Dp K H v d.py
  | _, _, _, .non => .non
  | _, _, _, .bl b => .bl b
  | _, _, _, .int i => .int i
  | _, _, _, .str x => .str x
  | _, _, _, .tup h r => .tup (.of h) r.dp
  | _, _, _, .own h r => .lst (.of h) r.dp
  | _, _, _, .frz z h r => .lst (.of h) r.dp
  | _, _, _, .vw h r => .lst (.of h) r.dp
  | _, _, _, .scr (ns := ns) h => .lst (h.imp (fun q => q.2) id) (by
      have z : ∀ ns : List Int, DpAll K H (ns.map V.int) (pys (ns.map D.int)) := fun ns => by
        induction ns with
        | nil => exact .nil
        | cons n r ih => exact .cons (.int n) ih
      exact z ns)
theorem Reps.dp : ∀ {vs : List V} {ds : List D} {fp : List Addr}, Reps K Z H vs ds fp → DpAll K H vs (pys ds)
  | _, _, _, .nil => .nil
  | _, _, _, .cons r t => .cons r.dp t.dp
end
theorem World.dp {v : V} {d : D} (w : World K H ((v, d) :: L)) : Dp K H v d.py := by
  obtain ⟨_, r⟩ := w.repd
  exact r.dp
def kEq (x y : D) : Option D := if x.fit 60 = true ∧ y.fit 60 = true then some (.bl (x.deq y)) else none
def kNe (x y : D) : Option D := if x.fit 60 = true ∧ y.fit 60 = true then some (.bl (!x.deq y)) else none
theorem shaped_of {d : D} (h : d.fit 60 = true) : SeqAt.shaped d.py = true := by
  obtain ⟨h1, h2⟩ := fit_lay d 60 h
  unfold SeqAt.shaped
  simp [h1]
  omega
theorem w2 {x y v : V} {dx dy z : D} {H' : Hp} (w : World K H ((y, dy) :: (x, dx) :: L)) (h : ∀ L, World K H L → World K H' ((v, z) :: L)) : World K H' ((v, z) :: L) := h L w.tail.tail
theorem o_eq : Op2 K (rEqD K) kEq where
  run := fun {H L x y dx dy z Q} w e q => by
    unfold kEq at e
    split at e
    · rename_i h
      cases e
      exact ⟨_, _, World.dp w.swap, World.dp w, shaped_of h.1, shaped_of h.2, by rw [← deq_py]; exact q _ _ (w2 w fun L w => w.bl _) (Same.refl _)⟩
    · cases e
  nv := fun e _ _ => by
    unfold kEq at e
    split at e <;> cases e
    rfl
theorem o_ne : Op2 K (rNeD K) kNe where
  run := fun {H L x y dx dy z Q} w e q => by
    unfold kNe at e
    split at e
    · rename_i h
      cases e
      exact ⟨_, _, World.dp w.swap, World.dp w, shaped_of h.1, shaped_of h.2, by rw [← deq_py]; exact q _ _ (w2 w fun L w => w.bl _) (Same.refl _)⟩
    · cases e
  nv := fun e _ _ => by
    unfold kNe at e
    split at e <;> cases e
    rfl
/-! ### numbers -/
theorem World.int_of {v : V} {i : Int} (w : World K H ((v, .int i) :: L)) : v = .int i := by
  obtain ⟨_, r⟩ := w.repd
  cases r
  rfl
theorem World.bl_of' {v : V} {i : Bool} (w : World K H ((v, .bl i) :: L)) : v = .bl i := by
  obtain ⟨_, r⟩ := w.repd
  cases r
  rfl
theorem World.str_of {v : V} {i : Str} (w : World K H ((v, .str i) :: L)) : v = .str i := by
  obtain ⟨_, r⟩ := w.repd
  cases r
  rfl
theorem World.non_of {v : V} (w : World K H ((v, .non) :: L)) : v = .non := by
  obtain ⟨_, r⟩ := w.repd
  cases r
  rfl
/-- two ints -/
def kI (f : Int → Int → Option D) (x y : D) : Option D := match x, y with
  | .int i, .int j => f i j
  | _, _ => none
theorem o_int0 {g : Int → Int → Int} : Op2 K (rI0 fun i j => .int (g i j)) (kI fun i j => some (.int (g i j))) where
  run := fun {H L x y dx dy z Q} w e q => by
    cases dx <;> cases dy <;> simp only [kI] at e <;> cases e
    exact ⟨_, _, World.int_of w.swap, World.int_of w, q _ _ (w2 w fun L w => w.int _) (Same.refl _)⟩
  nv := fun {dx dy z} e _ _ => by
    cases dx <;> cases dy <;> simp only [kI] at e <;> cases e
    rfl
theorem o_bl0 {g : Int → Int → Bool} : Op2 K (rI0 fun i j => .bl (g i j)) (kI fun i j => some (.bl (g i j))) where
  run := fun {H L x y dx dy z Q} w e q => by
    cases dx <;> cases dy <;> simp only [kI] at e <;> cases e
    exact ⟨_, _, World.int_of w.swap, World.int_of w, q _ _ (w2 w fun L w => w.bl _) (Same.refl _)⟩
  nv := fun {dx dy z} e _ _ => by
    cases dx <;> cases dy <;> simp only [kI] at e <;> cases e
    rfl
theorem o_int {C : Int → Int → Prop} {c : Int → Int → Bool} {g : Int → Int → Int} (hc : ∀ i j, c i j = true → C i j) : Op2 K (rI C fun i j => .int (g i j)) (kI fun i j => if c i j = true then some (.int (g i j)) else none) where
  run := fun {H L x y dx dy z Q} w e q => by
    cases dx <;> cases dy <;> simp only [kI] at e <;> try cases e
    split at e
    · rename_i h
      cases e
      exact ⟨_, _, World.int_of w.swap, World.int_of w, hc _ _ h, q _ _ (w2 w fun L w => w.int _) (Same.refl _)⟩
    · cases e
  nv := fun {dx dy z} e _ _ => by
    cases dx <;> cases dy <;> simp only [kI] at e <;> try cases e
    split at e <;> cases e
    rfl
def kSub : D → D → Option D := kI fun i j => some (.int (i - j))
def kLt : D → D → Option D := kI fun i j => some (.bl (decide (i < j)))
def kLe : D → D → Option D := kI fun i j => some (.bl (decide (i ≤ j)))
def kGt : D → D → Option D := kI fun i j => some (.bl (decide (j < i)))
def kGe : D → D → Option D := kI fun i j => some (.bl (decide (j ≤ i)))
def kMod : D → D → Option D := kI fun i j => if decide (0 < j) = true then some (.int (i % j)) else none
def kDiv : D → D → Option D := kI fun i j => if decide (0 < j ∧ j < 1073741824) = true then some (.int (i / j)) else none
def cMul (i j : Int) : Bool := decide (i.natAbs < 18446744073709551616 ∨ j.natAbs < 18446744073709551616)
def kMulI : D → D → Option D := kI fun i j => if cMul i j = true then some (.int (i * j)) else none
def kPow : D → D → Option D := kI fun i j => if decide (0 ≤ j ∧ j ≤ 1000000 ∧ i.natAbs < 18446744073709551616) = true then some (.int (i ^ j.toNat)) else none
theorem o_sub : Op2 K (rI0 fun i j => .int (i - j)) kSub := o_int0
theorem o_lt : Op2 K (rI0 fun i j => .bl (decide (i < j))) kLt := o_bl0
theorem o_le : Op2 K (rI0 fun i j => .bl (decide (i ≤ j))) kLe := o_bl0
theorem o_gt : Op2 K (rI0 fun i j => .bl (decide (j < i))) kGt := o_bl0
theorem o_ge : Op2 K (rI0 fun i j => .bl (decide (j ≤ i))) kGe := o_bl0
theorem o_mod : Op2 K (rI (fun _ j => 0 < j) fun i j => .int (i % j)) kMod := o_int (c := fun _ j => decide (0 < j)) fun _ _ h => of_decide_eq_true h
theorem o_div : Op2 K (rI CDiv fun i j => .int (i / j)) kDiv := o_int (C := CDiv) (c := fun _ j => decide (0 < j ∧ j < 1073741824)) fun i j h => of_decide_eq_true (p := 0 < j ∧ j < 1073741824) h
theorem o_pow : Op2 K (rI CPow fun i j => .int (i ^ j.toNat)) kPow := o_int (c := fun i j => decide (0 ≤ j ∧ j ≤ 1000000 ∧ i.natAbs < 18446744073709551616)) fun _ _ h => by
  have h := of_decide_eq_true h
  exact ⟨h.1, h.2.1, h.2.2⟩
theorem o_mulI : Op2 K (rI CMul fun i j => .int (i * j)) kMulI := o_int fun i j h => by
  have h := of_decide_eq_true h
  unfold CMul
  omega
/-! ### None -/
def D.isN : D → Bool
  | .non => true
  | _ => false
def kIsN (x y : D) : Option D := match y with
  | .non => some (.bl x.isN)
  | _ => none
def kNotN (x y : D) : Option D := match y with
  | .non => some (.bl (!x.isN))
  | _ => none
theorem non_iff {v : V} {d : D} (w : World K H ((v, d) :: L)) : decide (v = .non) = d.isN := by
  obtain ⟨_, r⟩ := w.repd
  cases r <;> simp [D.isN]
theorem o_isN : Op2 K (fun x y H Q => y = .non ∧ Q (.bl (decide (x = .non))) H) kIsN where
  run := fun {H L x y dx dy z Q} w e q => by
    cases dy <;> simp only [kIsN] at e <;> cases e
    exact ⟨World.non_of w, by rw [non_iff w.swap]; exact q _ _ (w2 w fun L w => w.bl _) (Same.refl _)⟩
  nv := fun {dx dy z} e _ _ => by
    cases dy <;> simp only [kIsN] at e <;> cases e
    rfl
theorem o_notN : Op2 K (fun x y H Q => y = .non ∧ Q (.bl (!decide (x = .non))) H) kNotN where
  run := fun {H L x y dx dy z Q} w e q => by
    cases dy <;> simp only [kNotN] at e <;> cases e
    exact ⟨World.non_of w, by rw [non_iff w.swap]; exact q _ _ (w2 w fun L w => w.bl _) (Same.refl _)⟩
  nv := fun {dx dy z} e _ _ => by
    cases dy <;> simp only [kNotN] at e <;> cases e
    rfl
end
end Py
/-! Layer «Py», part E: lists, tuples, texts: operators, items, slices, built-ins. -/
namespace Py
open PySem PySem.Spec PyProof.Rows L2
section
variable {K : PySem.W.Frag} {Z : Addr → Prop} {H : Hp} {L : List (V × D)}
theorem zip_app {vs ws : List V} {xs ys : List D} (h : vs.length = xs.length) : (vs ++ ws).zip (xs ++ ys) = vs.zip xs ++ ws.zip ys := List.zip_append h
theorem World.open2L {x y : V} {f g : Fl} {xs ys : List D} (w : World K H ((y, .lst g ys) :: (x, .lst f xs) :: L)) (hf : f ≠ .scr) (hg : g ≠ .scr) : ∃ a b vs ws, x = .ref a ∧ y = .ref b ∧ H a = some (.lst vs) ∧ H b = some (.lst ws) ∧ vs.length = xs.length ∧ ws.length = ys.length ∧ World K H ((vs ++ ws).zip (xs ++ ys) ++ L) := by
  obtain ⟨b, ws, rfl, _, l2, h2, w⟩ := w.openL
  have w' : World K H ((x, .lst f xs) :: (ws.zip ys ++ L)) := w.perm List.perm_middle
  obtain ⟨a, vs, rfl, _, l1, h1, w⟩ := w'.openL
  exact ⟨a, b, vs, ws, rfl, rfl, h1 hf, h2 hg, l1, l2, by rw [zip_app l1, List.append_assoc]; exact w⟩
theorem noOwns_append (xs ys : List D) : noOwns (xs ++ ys) = (noOwns xs && noOwns ys) := by rw [noOwns_all, noOwns_all, noOwns_all, List.all_append]
theorem noVws_append (xs ys : List D) : noVws (xs ++ ys) = (noVws xs && noVws ys) := by rw [noVws_all, noVws_all, noVws_all, List.all_append]
theorem World.open2T {x y : V} {xs ys : List D} (w : World K H ((y, .tup ys) :: (x, .tup xs) :: L)) : ∃ a b vs ws, x = .ref a ∧ y = .ref b ∧ H a = some (.tup vs) ∧ H b = some (.tup ws) ∧ vs.length = xs.length ∧ ws.length = ys.length ∧ noOwns (xs ++ ys) = true ∧ World K H ((vs ++ ws).zip (xs ++ ys) ++ L) := by
  obtain ⟨b, ws, rfl, h2, l2, n2, w⟩ := w.openT
  have w' : World K H ((x, .tup xs) :: (ws.zip ys ++ L)) := w.perm List.perm_middle
  obtain ⟨a, vs, rfl, h1, l1, n1, w⟩ := w'.openT
  exact ⟨a, b, vs, ws, rfl, rfl, h1, h2, l1, l2, by rw [noOwns_append, n1, n2]; rfl, by rw [zip_app l1, List.append_assoc]; exact w⟩
/-- items that nobody holds may be taken in any way -/
theorem World.items0 {vs : List V} {xs : List D} (w : World K H (vs.zip xs ++ L)) (hl : vs.length = xs.length) (hn : noOwns xs = true) {vs' : List V} {xs' : List D} (h : ∀ Z, Reps K Z H vs xs [] → Reps K Z H vs' xs' []) : World K H (vs'.zip xs' ++ L) := by
  obtain ⟨Z, fp, w, q⟩ := w
  obtain ⟨f, g, rfl, r, t⟩ := w.items hl
  have e := r.none_held hn
  subst e
  exact ⟨Z, _, .ofItems (h Z r) t, q⟩
theorem Reps.rep {vs : List V} {xs : List D} (r : Reps K Z H vs xs []) : ∀ n : Nat, Reps K Z H (List.replicate n vs).flatten (List.replicate n xs).flatten []
  | 0 => .nil
  | n + 1 => by
    simp only [List.replicate_succ, List.flatten_cons]
    exact Reps.append (f := []) (g := []) r (Reps.rep r n)
/-! ### + -/
def kAdd : D → D → Option D
  | .int i, .int j => some (.int (i + j))
  | .tup xs, .tup ys => if xs.length + ys.length ≤ 16777216 then some (.tup (xs ++ ys)) else none
  | .lst f xs, .lst g ys => if f ≠ .scr ∧ g ≠ .scr ∧ xs.length + ys.length ≤ 16777216 then some (.lst .own (xs ++ ys)) else none
  | .str x, .str y => if x.length + y.length ≤ 16777216 then some (.str (x ++ y)) else none
  | _, _ => none
def rAddA (K : PySem.W.Frag) : R2 := fun x y H Q => rI0 (fun i j => .int (i + j)) x y H Q ∨ (rCatA K x y H Q ∨ (rCat x y H Q ∨ (fun x y H Q => ∃ i j, x = .str i ∧ y = .str j ∧ i.length + j.length ≤ sizeLine ∧ Q (.str (i ++ j)) H) x y H Q))
theorem op_addA {X : Cx} : OpR X (binaryOp .Add) (rAddA X.K) := op_add.or (op_catA.or (op_cat.or op_add_str))
theorem o_add : Op2 K (rAddA K) kAdd where
  run := fun {H L x y dx dy z Q} w e q => by
    cases dx <;> cases dy <;> simp only [kAdd] at e <;> try cases e
    · exact .inl ⟨_, _, World.int_of w.swap, World.int_of w, q _ _ (w2 w fun L w => w.int _) (Same.refl _)⟩
    · split at e
      · rename_i hz
        cases e
        exact .inr (.inr (.inr ⟨_, _, World.str_of w.swap, World.str_of w, by rw [sizeLine_eq]; exact hz, q _ _ (w2 w fun L w => w.str _) (Same.refl _)⟩))
      · cases e
    · split at e
      · rename_i hz
        cases e
        refine .inr (.inl ?_)
        have w0 := w
        obtain ⟨a, b, vs, ws, rfl, rfl, h1, h2, l1, l2, n, w⟩ := w.open2T
        refine ⟨a, b, vs, ws, rfl, rfl, .of h1, .of h2, by rw [l1, l2, sizeLine_eq]; exact hz, fun e => ?_, fun _ e => ?_, fun _ _ p hp => q _ _ (w.newTup (by simp [l1, l2]) n hp) (same_upd hp)⟩
        · subst e
          have e1 : _ = [] := List.eq_nil_of_length_eq_zero (l1.symm.trans rfl)
          rw [e1] at q
          exact q _ _ (w0.sub (List.Sublist.cons_cons _ (List.sublist_cons_self _ _))) (Same.refl _)
        · subst e
          have e1 : _ = [] := List.eq_nil_of_length_eq_zero (l2.symm.trans rfl)
          rw [e1, List.append_nil] at q
          exact q _ _ w0.tail (Same.refl _)
      · cases e
    · split at e
      · rename_i hz
        cases e
        refine .inr (.inr (.inl ?_))
        obtain ⟨a, b, vs, ws, rfl, rfl, h1, h2, l1, l2, w⟩ := w.open2L hz.1 hz.2.1
        exact ⟨a, b, vs, ws, rfl, rfl, h1, h2, by rw [l1, l2, sizeLine_eq]; exact hz.2.2, fun p hp => q _ _ (w.newLst (by simp [l1, l2]) hp) (same_upd hp)⟩
      · cases e
  nv := fun {dx dy z} e a b => by
    cases dx <;> cases dy <;> simp only [kAdd] at e <;> try cases e
    · rfl
    · split at e <;> cases e
      rfl
    · split at e <;> cases e
      simp only [D.noVw, noVws_append, Bool.and_eq_true] at a b ⊢
      exact ⟨a, b⟩
    · rename_i f xs g ys
      split at e <;> cases e
      simp only [D.noVw, noVws_append, Bool.and_eq_true]
      cases f <;> cases g <;> simp_all [D.noVw]
/-! ### * -/
def kMul : D → D → Option D
  | .int i, .int j => if cMul i j = true then some (.int (i * j)) else none
  | .lst f xs, .int k => if f ≠ .scr ∧ noOwns xs = true ∧ -9223372036854775808 ≤ k ∧ k < 9223372036854775808 ∧ xs.length * k.toNat ≤ 16777216 then some (.lst .own (List.replicate k.toNat xs).flatten) else none
  | _, _ => none
def rMulA : R2 := fun x y H Q => rI CMul (fun i j => .int (i * j)) x y H Q ∨ rRep x y H Q
theorem op_mulA {X : Cx} : OpR X (binaryOp .Mult) rMulA := op_mul.or op_rep
theorem noVws_rep {xs : List D} (h : noVws xs = true) (n : Nat) : noVws (List.replicate n xs).flatten = true := by
  rw [noVws_all, List.all_eq_true] at h ⊢
  intro x hx
  obtain ⟨l, hl, hm⟩ := List.mem_flatten.mp hx
  exact h x ((List.mem_replicate.mp hl).2 ▸ hm)
theorem o_mul : Op2 K rMulA kMul where
  run := fun {H L x y dx dy z Q} w e q => by
    cases dx <;> cases dy <;> simp only [kMul] at e <;> try cases e
    · split at e
      · rename_i h
        cases e
        have h := of_decide_eq_true h
        exact .inl ⟨_, _, World.int_of w.swap, World.int_of w, by unfold CMul; omega, q _ _ (w2 w fun L w => w.int _) (Same.refl _)⟩
      · cases e
    · split at e
      · rename_i h
        cases e
        obtain ⟨h1, h2, h3, h4, h5⟩ := h
        have ey := World.int_of w
        subst ey
        obtain ⟨a, vs, rfl, _, l1, hl, w⟩ := w.tail.openL
        exact .inr ⟨a, _, vs, rfl, rfl, hl h1, by omega, by omega, by rw [l1, sizeLine_eq]; exact h5, fun p hp => q _ _ (World.newLst (by simp [l1]) hp (w.items0 l1 h2 fun Z r => r.rep _)) (same_upd hp)⟩
      · cases e
  nv := fun {dx dy z} e a b => by
    cases dx <;> cases dy <;> simp only [kMul] at e <;> try cases e
    · split at e <;> cases e
      rfl
    · rename_i f xs j
      split at e <;> cases e
      have : noVws xs = true := by cases f <;> simp_all [D.noVw]
      exact noVws_rep this _
/-! ### items -/
def kIx : D → D → Option D
  | .tup xs, .int i => atI xs i
  | .lst _ xs, .int i => atI xs i
  | .str x, .int i => if x.length ≤ 16777216 then (atI x.cps.toList i).map fun c => .str ⟨#[c]⟩ else none
  | _, _ => none
theorem atI_some {α : Type} {xs : List α} {i : Int} {x : α} (h : atI xs i = some x) : ∃ j, ixN xs.length i = some j ∧ xs[j]? = some x := by
  unfold atI at h
  cases q : ixN xs.length i with
  | none => rw [q] at h; cases h
  | some j => rw [q] at h; exact ⟨j, rfl, h⟩
theorem World.pick {vs : List V} {xs : List D} {j : Nat} {d : D} (w : World K H (vs.zip xs ++ L)) (hl : vs.length = xs.length) (h : xs[j]? = some d) : ∃ v, vs[j]? = some v ∧ World K H ((v, d) :: L) := by
  obtain ⟨hj, e⟩ := List.getElem?_eq_some_iff.mp h
  have hv : j < vs.length := by rw [hl]; exact hj
  refine ⟨vs[j], List.getElem?_eq_getElem hv, w.sub ?_⟩
  have m : (vs[j], d) ∈ vs.zip xs := by
    rw [← e]
    exact List.mem_iff_getElem.mpr ⟨j, by rw [List.length_zip]; omega, by simp⟩
  exact (List.singleton_sublist.mpr m).append (List.Sublist.refl L)
theorem o_ix : Op2 K (rIx K) kIx where
  run := fun {H L x y dx dy z Q} w e q => by
    cases dx <;> cases dy <;> simp only [kIx] at e <;> try cases e
    · have ey := World.int_of w
      subst ey
      have ex := World.str_of w.tail
      subst ex
      split at e
      · rename_i hz
        cases h : atI (‹PySem.Str›).cps.toList _ with
        | none => rw [h] at e; cases e
        | some c =>
          rw [h] at e
          cases e
          exact .inr (.inr ⟨_, _, c, rfl, rfl, by rw [sizeLine_eq]; exact hz, h, q _ _ (World.str _ w.tail.tail) (Same.refl _)⟩)
      · cases e
    · have ey := World.int_of w
      subst ey
      obtain ⟨j, h1, h2⟩ := atI_some e
      obtain ⟨a, vs, rfl, ht, l1, n, w⟩ := w.tail.openT
      obtain ⟨v, hv, w⟩ := w.pick l1 h2
      exact .inr (.inl ⟨a, vs, _, v, rfl, rfl, .of ht, by unfold atI; rw [l1, h1]; exact hv, q _ _ w (Same.refl _)⟩)
    · have ey := World.int_of w
      subst ey
      obtain ⟨j, h1, h2⟩ := atI_some e
      obtain ⟨a, vs, rfl, ht, l1, n, w⟩ := w.tail.openL
      obtain ⟨v, hv, w⟩ := w.pick l1 h2
      exact .inl ⟨a, vs, _, v, rfl, rfl, ht, by unfold atI; rw [l1, h1]; exact hv, q _ _ w (Same.refl _)⟩
  nv := fun {dx dy z} e a b => by
    cases dx <;> cases dy <;> simp only [kIx] at e <;> try cases e
    · split at e
      · cases h : atI (‹PySem.Str›).cps.toList _ with
        | none => rw [h] at e; cases e
        | some c =>
          rw [h] at e
          cases e
          rfl
      · cases e
    · obtain ⟨j, h1, h2⟩ := atI_some e
      exact noVws_mem a (List.mem_of_getElem? h2)
    · rename_i f xs i
      obtain ⟨j, h1, h2⟩ := atI_some e
      have : noVws xs = true := by cases f <;> simp_all [D.noVw]
      exact noVws_mem this (List.mem_of_getElem? h2)
/-! ### slices -/
abbrev MO := Sg → Option (Option Int × Sg)
def oNone : MO := fun σ => some (none, σ)
def oSome (a : M) : MO := fun σ => match a σ with
  | some (.int i, σ1) => some (some i, σ1)
  | _ => none
def mSl (f : D → Option Int → Option Int → Option D) (a : M) (lo hi : MO) : M := fun σ => match a σ with
  | some (x, σ1) => (match lo σ1 with
    | some (l, σ2) => (match hi σ2 with
      | some (h, σ3) => (match f x l h with
        | some z => some (z, σ3)
        | none => none)
      | none => none)
    | none => none)
  | none => none
def cutD {α : Type} (xs : List α) (lo hi : Option Int) : List α := (xs.drop (HT.sIx xs.length 0 lo)).take (HT.sIx xs.length xs.length hi - HT.sIx xs.length 0 lo)
def kSl : D → Option Int → Option Int → Option D
  | .tup xs, lo, hi => some (.tup (cutD xs lo hi))
  | .lst _ xs, lo, hi => some (.lst .own (cutD xs lo hi))
  | .str x, lo, hi => if x.length ≤ 16777216 then some (.str (cutS x lo hi)) else none
  | _, _, _ => none
def semO (X : Cx) (e : Option Expr) : TO := fun ρ H Q => ∃ t : TO, PO X e t ∧ t ρ H Q
structure SO (b : Bool) (X : Cx) (e : Option Expr) (t : TO) (m : MO) : Prop where
  po : PO X e t
  run : ∀ {ρ : L2.St} {H : Hp} {σ : Sg} {T : List (V × D)} {o : Option Int} {σ' : Sg} {Q : Option Int → Hp → Prop}, Ok X.K H ρ σ T → Cd b σ T → m σ = some (o, σ') → (∀ H', Pst X.K b H ρ σ σ' T [] H' → Q o H') → t ρ H Q
theorem so_none {b : Bool} {X : Cx} : SO b X none tNoPart oNone := ⟨po_none, fun ok cd h q => by cases h; exact q _ ⟨ok, cd, id, fun _ => Same.refl _⟩⟩
theorem so_some {b : Bool} {X : Cx} {e : Expr} {m : M} (h : SE b X e m) : SO b X (some e) (tPart (semE X e)) (oSome m) := ⟨po_some peS, fun {ρ H σ T o σ' Q} ok cd e q => by
  unfold oSome at e
  split at e
  · rename_i i σ1 h1
    cases e
    refine semE_mono (h.run ok cd h1) fun v H' p => ?_
    exact ⟨i, World.int_of (L := T ++ sl ρ σ') p.ok.w, q H' ⟨p.ok.tail, fun e => ⟨(p.cd e).1, (p.cd e).2.tail⟩, p.nv, p.sm⟩⟩
  · cases e⟩
structure OpS (K : PySem.W.Frag) (r : V → Option Int → Option Int → Hp → VK → Prop) (f : D → Option Int → Option Int → Option D) : Prop where
  run : ∀ {H : Hp} {L : List (V × D)} {x : V} {dx z : D} {lo hi : Option Int} {Q : VK}, World K H ((x, dx) :: L) → f dx lo hi = some z → (∀ v H', World K H' ((v, z) :: L) → Same H H' → Q v H') → r x lo hi H Q
  nv : ∀ {dx z : D} {lo hi : Option Int}, f dx lo hi = some z → dx.noVw = true → z.noVw = true
def rSlAll (K : PySem.W.Frag) : V → Option Int → Option Int → Hp → VK → Prop := fun x lo hi H Q => rSlL K x lo hi H Q ∨ (rSlA K x lo hi H Q ∨ rSlS x lo hi H Q)
theorem sl_all {X : Cx} : SlR X (rSlAll X.K) := sl_list.or (sl_tupA.or sl_str)
theorem cut_same {α : Type} {xs : List α} {lo hi : Option Int} (h : HT.sIx xs.length 0 lo = 0 ∧ HT.sIx xs.length xs.length hi = xs.length) : cutD xs lo hi = xs := by
  unfold cutD
  rw [h.1, h.2]
  simp
theorem cut_zip {vs : List V} {xs : List D} (hl : vs.length = xs.length) (lo hi : Option Int) : (cutD vs lo hi).zip (cutD xs lo hi) = cutD (vs.zip xs) lo hi := by
  unfold cutD
  have e : (vs.zip xs).length = xs.length := by rw [List.length_zip]; omega
  rw [e, hl]
  simp only [List.zip, List.drop_zipWith, List.take_zipWith]
theorem cut_sub {α : Type} (xs : List α) (lo hi : Option Int) : (cutD xs lo hi).Sublist xs := (List.take_sublist _ _).trans (List.drop_sublist _ _)
theorem cut_len {vs : List V} {xs : List D} (hl : vs.length = xs.length) (lo hi : Option Int) : (cutD vs lo hi).length = (cutD xs lo hi).length := by
  unfold cutD
  rw [hl]
  simp [hl]
theorem noOwns_sub {xs ys : List D} (h : ys.Sublist xs) (n : noOwns xs = true) : noOwns ys = true := by
  rw [noOwns_all, List.all_eq_true] at n ⊢
  exact fun x hx => n x (h.subset hx)
theorem noVws_sub {xs ys : List D} (h : ys.Sublist xs) (n : noVws xs = true) : noVws ys = true := by
  rw [noVws_all, List.all_eq_true] at n ⊢
  exact fun x hx => n x (h.subset hx)
theorem o_sl : OpS K (rSlAll K) kSl where
  run := fun {H L x dx z lo hi Q} w e q => by
    cases dx <;> simp only [kSl] at e <;> try cases e
    · have ex := World.str_of w
      subst ex
      split at e <;> cases e
      rename_i hz
      exact .inr (.inr ⟨_, rfl, by rw [sizeLine_eq]; exact hz, q _ _ (World.str _ w.tail) (Same.refl _)⟩)
    · rename_i xs
      have w0 := w
      obtain ⟨a, vs, rfl, ht, l1, n, w⟩ := w.openT
      refine .inr (.inl ⟨a, vs, rfl, .of ht, fun h => ?_, fun h p hp => q _ _ (World.newTup (vs := cutD vs lo hi) (cut_len l1 lo hi) (noOwns_sub (cut_sub _ _ _) n) hp (w.sub ?_)) (same_upd hp)⟩)
      · have e : cutD xs lo hi = xs := cut_same (by rw [← l1]; exact h)
        rw [e] at q
        exact q _ _ w0 (Same.refl _)
      · rw [cut_zip l1]
        exact (cut_sub _ _ _).append (List.Sublist.refl L)
    · rename_i f xs
      obtain ⟨a, vs, rfl, ht, l1, _, w⟩ := w.openL
      refine .inl ⟨a, vs, rfl, ht, fun p hp => q _ _ (World.newLst (vs := cutD vs lo hi) (cut_len l1 lo hi) hp (w.sub ?_)) (same_upd hp)⟩
      rw [cut_zip l1]
      exact (cut_sub _ _ _).append (List.Sublist.refl L)
  nv := fun {dx z lo hi} e a => by
    cases dx <;> simp only [kSl] at e <;> try cases e
    · split at e <;> cases e
      rfl
    · exact noVws_sub (cut_sub _ _ _) a
    · rename_i f xs
      have : noVws xs = true := by cases f <;> simp_all [D.noVw]
      exact noVws_sub (cut_sub _ _ _) this
variable {X : Cx} {b : Bool}
theorem se_slice {r : V → Option Int → Option Int → Hp → VK → Prop} {f : D → Option Int → Option Int → Option D} {e1 : Expr} {lo hi : Option Expr} {tl th : TO} {a : M} {ml mh : MO} {p2 pos : Pos} (hr : SlR X r) (ho : OpS X.K r f) (ha : SE b X e1 a) (hl : SO b X lo tl ml) (hh : SO b X hi th mh) :
    SE b X (.Subscript e1 (.Slice lo hi none p2) pos) (mSl f a ml mh) := ⟨fun {ρ H σ T d σ'} ok cd h => by
  unfold mSl at h
  split at h
  · rename_i x σ1 h1
    split at h
    · rename_i l σ2 h2
      split at h
      · rename_i u σ3 h3
        split at h
        · rename_i z hz
          cases h
          refine pe_sem (pe_slice hr peS hl.po hh.po) ?_
          refine semE_mono (ha.run ok cd h1) fun v H1 p1 => ?_
          refine hl.run p1.ok p1.cd h2 fun H2 p2 => ?_
          refine hh.run p2.ok p2.cd h3 fun H3 p3 => ?_
          exact ho.run (L := T ++ sl ρ σ') p3.ok.w hz fun v' H' w hs => ⟨⟨p3.ok.len, p3.ok.al, w⟩, fun e => ⟨(p3.cd e).1, (p3.cd e).2.tail.cons (ho.nv hz (p3.cd e).2.head)⟩, fun n => p3.nv (p2.nv (p1.nv n)), fun e => (((p1.sm e).trans (p2.sm e)).trans (p3.sm e)).trans hs⟩
        · cases h
      · cases h
    · cases h
  · cases h⟩
end
end Py
/-! Layer «Py», part F: built-in functions on data. -/
namespace Py
open PySem PySem.Spec PyProof.Rows L2
section
variable {K : PySem.W.Frag} {Z : Addr → Prop} {H : Hp} {L : List (V × D)}
/-- one argument -/
def k1 (f : D → Option D) (ds : List D) : Option D := match ds with
  | [d] => f d
  | _ => none
theorem a1 {r : List V → Hp → VK → Prop} {f : D → Option D} (h : ∀ {H : Hp} {L : List (V × D)} {x : V} {d z : D} {Q : VK}, World K H ((x, d) :: L) → f d = some z → (∀ v H', World K H' ((v, z) :: L) → Same H H' → Q v H') → r [x] H Q)
    (hv : ∀ {d z : D}, f d = some z → d.noVw = true → z.noVw = true) : OpA K r (k1 f) where
  run := fun {H L xs ds z Q} hl w e q => by
    match ds, xs, hl, w, e with
    | [d], [x], _, w, e => exact h (L := L) w e q
  nv := fun {ds z} e n => by
    match ds, e with
    | [d], e => exact hv e (by simpa [noVws] using n)
def k2 (f : D → D → Option D) (ds : List D) : Option D := match ds with
  | [d, e] => f d e
  | _ => none
theorem a2 {r : List V → Hp → VK → Prop} {f : D → D → Option D} (h : ∀ {H : Hp} {L : List (V × D)} {x y : V} {d e z : D} {Q : VK}, World K H ((x, d) :: (y, e) :: L) → f d e = some z → (∀ v H', World K H' ((v, z) :: L) → Same H H' → Q v H') → r [x, y] H Q)
    (hv : ∀ {d e z : D}, f d e = some z → d.noVw = true → e.noVw = true → z.noVw = true) : OpA K r (k2 f) where
  run := fun {H L xs ds z Q} hl w e q => by
    match ds, xs, hl, w, e with
    | [d, d2], [x, y], _, w, e => exact h (L := L) w e q
  nv := fun {ds z} e n => by
    match ds, e with
    | [d, d2], e =>
      simp only [noVws, Bool.and_true, Bool.and_eq_true] at n
      exact hv e n.1 n.2
theorem OpA.or {r r' : List V → Hp → VK → Prop} {f g : List D → Option D} (h : OpA K r f) (h' : OpA K r' g) : OpA K (fun x H Q => r x H Q ∨ r' x H Q) (fun x => (f x).or (g x)) where
  run := fun {H L xs ds z Q} hl w e q => by
    cases q1 : f ds with
    | some z' =>
      rw [q1] at e
      have e' : z' = z := by simpa using e
      subst e'
      exact .inl (h.run hl w q1 q)
    | none =>
      rw [q1] at e
      exact .inr (h'.run hl w (by simpa using e) q)
  nv := fun {ds z} e n => by
    cases q1 : f ds with
    | some z' =>
      rw [q1] at e
      have e' : z' = z := by simpa using e
      subst e'
      exact h.nv q1 n
    | none =>
      rw [q1] at e
      exact h'.nv (by simpa using e) n
/-! ### len -/
def fLen : D → Option D
  | .tup xs => some (.int xs.length)
  | .lst _ xs => some (.int xs.length)
  | .str x => if x.length ≤ 16777216 then some (.int x.length) else none
  | _ => none
theorem o_len : OpA K (fun xs H Q => ∃ x n, xs = [x] ∧ LenV K x H n ∧ Q (.int n) H) (k1 fLen) := a1
  (fun {H L x d z Q} w e q => by
    cases d <;> simp only [fLen] at e <;> try cases e
    · have ex := World.str_of w
      subst ex
      split at e <;> cases e
      rename_i hz
      exact ⟨_, _, rfl, ⟨by rw [sizeLine_eq]; exact hz, rfl⟩, q _ _ (World.int _ w.tail) (Same.refl _)⟩
    · have w0 := w.tail
      obtain ⟨a, vs, rfl, ht, l1, n, w⟩ := w.openT
      exact ⟨_, _, rfl, .inr ⟨vs, .of ht, rfl⟩, by rw [l1]; exact q _ _ (World.int _ w0) (Same.refl _)⟩
    · have w0 := w.tail
      obtain ⟨a, vs, rfl, ht, l1, _, w⟩ := w.openL
      exact ⟨_, _, rfl, .inl ⟨vs, ht, rfl⟩, by rw [l1]; exact q _ _ (World.int _ w0) (Same.refl _)⟩)
  (fun {d z} e n => by
    cases d <;> simp only [fLen] at e <;> try cases e
    · split at e <;> cases e
      rfl
    · rfl
    · rfl)
/-! ### abs, int -/
def fAbs : D → Option D
  | .int i => some (.int (if i < 0 then -i else i))
  | _ => none
theorem o_abs : OpA K (fun xs H Q => ∃ i, xs = [.int i] ∧ Q (.int (if i < 0 then -i else i)) H) (k1 fAbs) := a1
  (fun {H L x d z Q} w e q => by
    cases d <;> simp only [fAbs] at e <;> cases e
    have ex := World.int_of w
    subst ex
    exact ⟨_, rfl, q _ _ (World.int _ w.tail) (Same.refl _)⟩)
  (fun {d z} e n => by cases d <;> simp only [fAbs] at e <;> cases e; rfl)
def fInt : D → Option D
  | .int i => some (.int i)
  | .bl k => some (.int (if k = true then 1 else 0))
  | _ => none
theorem o_int1 : OpA K (fun xs H Q => (∃ i, xs = [.int i] ∧ Q (.int i) H) ∨ ∃ k, xs = [.bl k] ∧ Q (.int (if k then 1 else 0)) H) (k1 fInt) := a1
  (fun {H L x d z Q} w e q => by
    cases d <;> simp only [fInt] at e <;> cases e
    · have ex := World.bl_of' w
      subst ex
      exact .inr ⟨_, rfl, q _ _ (World.int _ w.tail) (Same.refl _)⟩
    · have ex := World.int_of w
      subst ex
      exact .inl ⟨_, rfl, q _ _ (World.int _ w.tail) (Same.refl _)⟩)
  (fun {d z} e n => by cases d <;> simp only [fInt] at e <;> cases e <;> rfl)
/-! ### list, tuple -/
def fList : D → Option D
  | .tup xs => some (.lst .own xs)
  | .lst _ xs => some (.lst .own xs)
  | _ => none
theorem o_list : OpA K (fun xs H Q => ∃ p ys, xs = [.ref p] ∧ (SqL K H p ys ∨ SqT K H p ys) ∧ ∀ l, H l = none → Q (.ref l) (upd H l (.lst ys))) (k1 fList) := a1
  (fun {H L x d z Q} w e q => by
    cases d <;> simp only [fList] at e <;> cases e
    · obtain ⟨a, vs, rfl, ht, l1, n, w⟩ := w.openT
      exact ⟨_, _, rfl, .inr (.of ht), fun l hl => q _ _ (w.newLst l1 hl) (same_upd hl)⟩
    · obtain ⟨a, vs, rfl, ht, l1, _, w⟩ := w.openL
      exact ⟨_, _, rfl, .inl ht, fun l hl => q _ _ (w.newLst l1 hl) (same_upd hl)⟩)
  (fun {d z} e n => by
    cases d <;> simp only [fList] at e <;> cases e
    · exact n
    · rename_i f xs
      show noVws xs = true
      cases f <;> simp_all [D.noVw])
def fTuple : D → Option D
  | .tup xs => some (.tup xs)
  | .lst _ xs => if noOwns xs = true then some (.tup xs) else none
  | _ => none
theorem o_tuple : OpA K (fun xs H Q => ∃ p ys, xs = [.ref p] ∧ ((SqL K H p ys ∧ ∀ l, H l = none → Q (.ref l) (upd H l (.tup ys))) ∨ (SqT K H p ys ∧ Q (.ref p) H))) (k1 fTuple) := a1
  (fun {H L x d z Q} w e q => by
    cases d <;> simp only [fTuple] at e <;> try cases e
    · have w0 := w
      obtain ⟨a, vs, rfl, ht, l1, n, w⟩ := w.openT
      exact ⟨_, _, rfl, .inr ⟨.of ht, q _ _ w0 (Same.refl _)⟩⟩
    · split at e <;> cases e
      rename_i hn
      obtain ⟨a, vs, rfl, ht, l1, _, w⟩ := w.openL
      exact ⟨_, _, rfl, .inl ⟨ht, fun l hl => q _ _ (w.newTup l1 hn hl) (same_upd hl)⟩⟩)
  (fun {d z} e n => by
    cases d <;> simp only [fTuple] at e <;> try cases e
    · exact n
    · split at e <;> cases e
      rename_i f xs _
      show noVws xs = true
      cases f <;> simp_all [D.noVw])
/-! ### sums, greatest ones -/
def unInts : List D → Option (List Int)
  | [] => some []
  | .int i :: r => (unInts r).map (i :: ·)
  | _ => none
theorem ints_eq : ∀ {xs : List D} {ns : List Int}, unInts xs = some ns → xs = ns.map D.int
  | [], ns, h => by cases h; rfl
  | .int i :: r, ns, h => by
    simp only [unInts] at h
    cases q : unInts r with
    | none => rw [q] at h; cases h
    | some m => rw [q] at h; cases h; rw [ints_eq q]; rfl
  | .non :: _, _, h => by cases h
  | .bl _ :: _, _, h => by cases h
  | .str _ :: _, _, h => by cases h
  | .tup _ :: _, _, h => by cases h
  | .lst _ _ :: _, _, h => by cases h
theorem ints_map (ns : List Int) : unInts (ns.map D.int) = some ns := by
  induction ns with
  | nil => rfl
  | cons n r ih => simp [unInts, ih]
theorem Wd.vints : ∀ {ns : List Int} {vs : List V} {fp : List Addr}, Reps K Z H vs (ns.map D.int) fp → vs = ns.map V.int
  | [], _, _, r => r.inv_nil.1
  | n :: ns, _, _, r => by
    obtain ⟨v, vr, f1, f2, rfl, _, r1, t⟩ := Reps.inv_cons (ds := ns.map D.int) r
    cases r1
    rw [Wd.vints t]
    rfl
theorem World.vints {ns : List Int} {vs : List V} (w : World K H (vs.zip (ns.map D.int) ++ L)) (hl : vs.length = (ns.map D.int).length) : vs = ns.map V.int := by
  obtain ⟨Z, fp, w, _⟩ := w
  obtain ⟨f, g, _, r, _⟩ := w.items hl
  exact Wd.vints r
theorem World.listInts {v : V} {f : Fl} {xs : List D} {ns : List Int} (w : World K H ((v, .lst f xs) :: L)) (h : unInts xs = some ns) : ∃ a, v = .ref a ∧ SqL K H a (ns.map V.int) := by
  obtain ⟨a, vs, rfl, ht, l1, _, w⟩ := w.openL
  have e := ints_eq h
  subst e
  have e2 := w.vints l1
  subst e2
  exact ⟨a, rfl, ht⟩
def fSum : D → Option D
  | .lst _ xs => (match unInts xs with
    | some ns => some (.int ns.sum)
    | none => none)
  | _ => none
theorem o_sum : OpA K (rSum K) (k1 fSum) := a1
  (fun {H L x d z Q} w e q => by
    cases d <;> simp only [fSum] at e <;> try cases e
    split at e <;> cases e
    rename_i ns h
    obtain ⟨a, rfl, ht⟩ := w.listInts h
    exact ⟨a, ns, rfl, ht, q _ _ (World.int _ w.tail) (Same.refl _)⟩)
  (fun {d z} e n => by
    cases d <;> simp only [fSum] at e <;> try cases e
    split at e <;> cases e
    rfl)
def maxL : List Int → Option Int
  | [] => none
  | [x] => some x
  | x :: r => (maxL r).map fun m => if x < m then m else x
def minL : List Int → Option Int
  | [] => none
  | [x] => some x
  | x :: r => (minL r).map fun m => if m < x then m else x
theorem maxL_spec : ∀ {ns : List Int} {m : Int}, maxL ns = some m → m ∈ ns ∧ ∀ y ∈ ns, y ≤ m
  | [x], m, h => by cases h; simp
  | x :: y :: r, m, h => by
    simp only [maxL] at h
    cases q : maxL (y :: r) with
    | none => rw [q] at h; cases h
    | some k =>
      rw [q] at h
      obtain ⟨h1, h2⟩ := maxL_spec q
      simp only [Option.map_some, Option.some.injEq] at h
      split at h
      · subst h
        refine ⟨List.mem_cons_of_mem _ h1, fun z hz => ?_⟩
        rcases List.mem_cons.mp hz with e | hz
        · omega
        · exact h2 z hz
      · subst h
        refine ⟨List.mem_cons_self, fun z hz => ?_⟩
        rcases List.mem_cons.mp hz with e | hz
        · omega
        · have := h2 z hz
          omega
theorem minL_spec : ∀ {ns : List Int} {m : Int}, minL ns = some m → m ∈ ns ∧ ∀ y ∈ ns, m ≤ y
  | [x], m, h => by cases h; simp
  | x :: y :: r, m, h => by
    simp only [minL] at h
    cases q : minL (y :: r) with
    | none => rw [q] at h; cases h
    | some k =>
      rw [q] at h
      obtain ⟨h1, h2⟩ := minL_spec q
      simp only [Option.map_some, Option.some.injEq] at h
      split at h
      · subst h
        refine ⟨List.mem_cons_of_mem _ h1, fun z hz => ?_⟩
        rcases List.mem_cons.mp hz with e | hz
        · omega
        · exact h2 z hz
      · subst h
        refine ⟨List.mem_cons_self, fun z hz => ?_⟩
        rcases List.mem_cons.mp hz with e | hz
        · omega
        · have := h2 z hz
          omega
def fMaxL : D → Option D
  | .lst _ xs => (match unInts xs with
    | some ns => (maxL ns).map D.int
    | none => none)
  | _ => none
def fMinL : D → Option D
  | .lst _ xs => (match unInts xs with
    | some ns => (minL ns).map D.int
    | none => none)
  | _ => none
theorem map_int {o : Option Int} {z : D} (h : o.map D.int = some z) : ∃ m, o = some m ∧ z = .int m := by
  cases o with
  | none => cases h
  | some m => cases h; exact ⟨m, rfl, rfl⟩
theorem o_maxL : OpA K (rMax K) (k1 fMaxL) := a1
  (fun {H L x d z Q} w e q => by
    cases d <;> simp only [fMaxL] at e <;> try cases e
    split at e <;> try cases e
    rename_i ns h
    obtain ⟨m, h1, rfl⟩ := map_int e
    obtain ⟨a, rfl, ht⟩ := w.listInts h
    obtain ⟨s1, s2⟩ := maxL_spec h1
    refine ⟨a, ns, rfl, ht, List.length_pos_of_mem s1, fun k hk hm => ?_⟩
    have e : k = m := Int.le_antisymm (s2 k hk) (hm m s1)
    subst e
    exact q _ _ (World.int _ w.tail) (Same.refl _))
  (fun {d z} e n => by
    cases d <;> simp only [fMaxL] at e <;> try cases e
    split at e <;> try cases e
    obtain ⟨m, h1, rfl⟩ := map_int e
    rfl)
theorem o_minL : OpA K (rMin K) (k1 fMinL) := a1
  (fun {H L x d z Q} w e q => by
    cases d <;> simp only [fMinL] at e <;> try cases e
    split at e <;> try cases e
    rename_i ns h
    obtain ⟨m, h1, rfl⟩ := map_int e
    obtain ⟨a, rfl, ht⟩ := w.listInts h
    obtain ⟨s1, s2⟩ := minL_spec h1
    refine ⟨a, ns, rfl, ht, List.length_pos_of_mem s1, fun k hk hm => ?_⟩
    have e : k = m := Int.le_antisymm (hm m s1) (s2 k hk)
    subst e
    exact q _ _ (World.int _ w.tail) (Same.refl _))
  (fun {d z} e n => by
    cases d <;> simp only [fMinL] at e <;> try cases e
    split at e <;> try cases e
    obtain ⟨m, h1, rfl⟩ := map_int e
    rfl)
def fMax2 : D → D → Option D := kI fun i j => some (.int (if j > i then j else i))
def fMin2 : D → D → Option D := kI fun i j => some (.int (if j < i then j else i))
theorem o_max2 : OpA K (fun xs H Q => ∃ i j, xs = [.int i, .int j] ∧ Q (.int (if j > i then j else i)) H) (k2 fMax2) := a2
  (fun {H L x y d e z Q} w h q => by
    cases d <;> cases e <;> simp only [fMax2, kI] at h <;> cases h
    have ex := World.int_of w
    subst ex
    have ey := World.int_of w.tail
    subst ey
    exact ⟨_, _, rfl, q _ _ (World.int _ w.tail.tail) (Same.refl _)⟩)
  (fun {d e z} h _ _ => by cases d <;> cases e <;> simp only [fMax2, kI] at h <;> cases h; rfl)
theorem o_min2 : OpA K (fun xs H Q => ∃ i j, xs = [.int i, .int j] ∧ Q (.int (if j < i then j else i)) H) (k2 fMin2) := a2
  (fun {H L x y d e z Q} w h q => by
    cases d <;> cases e <;> simp only [fMin2, kI] at h <;> cases h
    have ex := World.int_of w
    subst ex
    have ey := World.int_of w.tail
    subst ey
    exact ⟨_, _, rfl, q _ _ (World.int _ w.tail.tail) (Same.refl _)⟩)
  (fun {d e z} h _ _ => by cases d <;> cases e <;> simp only [fMin2, kI] at h <;> cases h; rfl)
def fMin3 (ds : List D) : Option D := match ds with
  | [.int i, .int j, .int k] => some (.int (if k < (if j < i then j else i) then k else (if j < i then j else i)))
  | _ => none
def fMax3 (ds : List D) : Option D := match ds with
  | [.int i, .int j, .int k] => some (.int (if k > (if j > i then j else i) then k else (if j > i then j else i)))
  | _ => none
theorem nu_min2 (i j : Int) : nuMin2 (.int i) (.int j) = some (.int (if j < i then j else i)) := by
  show (some (decide (j < i))).map (fun c => if c = true then V.int j else V.int i) = _
  by_cases h : j < i <;> simp [h]
theorem nu_max2 (i j : Int) : nuMax2 (.int i) (.int j) = some (.int (if j > i then j else i)) := by
  show (some (decide (i < j))).map (fun c => if c = true then V.int j else V.int i) = _
  by_cases h : i < j <;> simp [h]
theorem o_min3 : OpA K (rNuC3 nuMin3) fMin3 where
  run := fun {H L xs ds z Q} hl w e q => by
    unfold fMin3 at e
    split at e <;> cases e
    match xs, hl, w with
    | [x, y, u], _, w =>
      have ex := World.int_of (L := [(y, _), (u, _)] ++ L) w
      subst ex
      have ey := World.int_of (L := [(u, _)] ++ L) w.tail
      subst ey
      have ez := World.int_of (L := L) w.tail.tail
      subst ez
      refine ⟨_, _, _, _, rfl, ?_, q _ _ (World.int _ w.tail.tail.tail) (Same.refl _)⟩
      unfold nuMin3
      rw [nu_min2]
      exact nu_min2 _ _
  nv := fun {ds z} e n => by
    unfold fMin3 at e
    split at e <;> cases e
    rfl
theorem o_max3 : OpA K (rNuC3 nuMax3) fMax3 where
  run := fun {H L xs ds z Q} hl w e q => by
    unfold fMax3 at e
    split at e <;> cases e
    match xs, hl, w with
    | [x, y, u], _, w =>
      have ex := World.int_of (L := [(y, _), (u, _)] ++ L) w
      subst ex
      have ey := World.int_of (L := [(u, _)] ++ L) w.tail
      subst ey
      have ez := World.int_of (L := L) w.tail.tail
      subst ez
      refine ⟨_, _, _, _, rfl, ?_, q _ _ (World.int _ w.tail.tail.tail) (Same.refl _)⟩
      unfold nuMax3
      rw [nu_max2]
      exact nu_max2 _ _
  nv := fun {ds z} e n => by
    unfold fMax3 at e
    split at e <;> cases e
    rfl
/-! ### all, any -/
def unBls : List D → Option (List Bool)
  | [] => some []
  | .bl i :: r => (unBls r).map (i :: ·)
  | _ => none
theorem bls_eq : ∀ {xs : List D} {ns : List Bool}, unBls xs = some ns → xs = ns.map D.bl
  | [], ns, h => by cases h; rfl
  | .bl i :: r, ns, h => by
    simp only [unBls] at h
    cases q : unBls r with
    | none => rw [q] at h; cases h
    | some m => rw [q] at h; cases h; rw [bls_eq q]; rfl
  | .non :: _, _, h => by cases h
  | .int _ :: _, _, h => by cases h
  | .str _ :: _, _, h => by cases h
  | .tup _ :: _, _, h => by cases h
  | .lst _ _ :: _, _, h => by cases h
theorem bls_map (ns : List Bool) : unBls (ns.map D.bl) = some ns := by
  induction ns with
  | nil => rfl
  | cons n r ih => simp [unBls, ih]
theorem Wd.vbls : ∀ {ns : List Bool} {vs : List V} {fp : List Addr}, Reps K Z H vs (ns.map D.bl) fp → vs = ns.map V.bl
  | [], _, _, r => r.inv_nil.1
  | n :: ns, _, _, r => by
    obtain ⟨v, vr, f1, f2, rfl, _, r1, t⟩ := Reps.inv_cons (ds := ns.map D.bl) r
    cases r1
    rw [Wd.vbls t]
    rfl
theorem World.listBls {v : V} {f : Fl} {xs : List D} {ns : List Bool} (w : World K H ((v, .lst f xs) :: L)) (h : unBls xs = some ns) : ∃ a, v = .ref a ∧ SqL K H a (ns.map V.bl) := by
  obtain ⟨a, vs, rfl, ht, l1, _, w⟩ := w.openL
  have e := bls_eq h
  subst e
  obtain ⟨Z, fp, w, _⟩ := w
  obtain ⟨f, g, _, r, _⟩ := w.items l1
  have e2 := Wd.vbls r
  subst e2
  exact ⟨a, rfl, ht⟩
def fAll : D → Option D
  | .lst _ xs => (match unBls xs with
    | some ns => some (.bl (ns.all id))
    | none => none)
  | _ => none
def fAny : D → Option D
  | .lst _ xs => (match unBls xs with
    | some ns => some (.bl (ns.any id))
    | none => none)
  | _ => none
theorem o_all : OpA K (rAll K) (k1 fAll) := a1
  (fun {H L x d z Q} w e q => by
    cases d <;> simp only [fAll] at e <;> try cases e
    split at e <;> cases e
    rename_i ns h
    obtain ⟨a, rfl, ht⟩ := w.listBls h
    exact ⟨a, ns, rfl, ht, q _ _ (World.bl _ w.tail) (Same.refl _)⟩)
  (fun {d z} e n => by
    cases d <;> simp only [fAll] at e <;> try cases e
    split at e <;> cases e
    rfl)
theorem o_any : OpA K (rAny K) (k1 fAny) := a1
  (fun {H L x d z Q} w e q => by
    cases d <;> simp only [fAny] at e <;> try cases e
    split at e <;> cases e
    rename_i ns h
    obtain ⟨a, rfl, ht⟩ := w.listBls h
    exact ⟨a, ns, rfl, ht, q _ _ (World.bl _ w.tail) (Same.refl _)⟩)
  (fun {d z} e n => by
    cases d <;> simp only [fAny] at e <;> try cases e
    split at e <;> cases e
    rfl)
/-! ### -x -/
def fNeg : D → Option D
  | .int i => some (.int (-i))
  | _ => none
theorem o_neg : Op1 K (rU fun i => .int (-i)) fNeg where
  run := fun {H L x dx z Q} w e q => by
    cases dx <;> simp only [fNeg] at e <;> cases e
    exact ⟨_, World.int_of w, q _ _ (World.int _ w.tail) (Same.refl _)⟩
  nv := fun {dx z} e _ => by cases dx <;> simp only [fNeg] at e <;> cases e; rfl
/-! ### isinstance -/
inductive Ty where
  | int | bool | str | tuple | list
  deriving DecidableEq
def Ty.name : Ty → String
  | .int => "int"
  | .bool => "bool"
  | .str => "str"
  | .tuple => "tuple"
  | .list => "list"
def D.isa (T : Ty) : D → Bool
  | .non => false
  | .bl _ => (match T with
    | .bool => true
    | .int => true
    | _ => false)
  | .int _ => (match T with
    | .int => true
    | _ => false)
  | .str _ => (match T with
    | .str => true
    | _ => false)
  | .tup _ => (match T with
    | .tuple => true
    | _ => false)
  | .lst _ _ => (match T with
    | .list => true
    | _ => false)
def D.tyName : D → String
  | .non => "NoneType"
  | .bl _ => "bool"
  | .int _ => "int"
  | .str _ => "str"
  | .tup _ => "tuple"
  | .lst _ _ => "list"
theorem isa_kit (T : Ty) (d : D) : kitB d.tyName T.name = some (d.isa T) := by
  cases d <;> cases T <;> (simp only [D.tyName, Ty.name, D.isa]; decide +kernel)
theorem World.tyx {v : V} {d : D} (w : World K H ((v, d) :: L)) : TyX K H v (.type d.tyName) := by
  obtain ⟨_, r⟩ := w.repd
  cases r with
  | non => exact .base .non
  | bl b => exact .base (.bl b)
  | int i => exact .base (.int i)
  | str x => exact .base (.str x)
  | tup h r => exact .base (.tup h)
  | own h r => exact .base (.lst h)
  | frz z h r => exact .base (.lst h)
  | vw h r => exact .base (.lst h)
  | scr h =>
    rcases h with ⟨_, h | ⟨o, h⟩⟩ | ⟨o, its, n, h, hc, _⟩
    · exact .base (.lst h)
    · exact .base (.frz h)
    · exact .kList h hc
variable {X : Cx} {b : Bool} {e1 : Expr} {a : M}
def mIsa (T : Ty) (a : M) : M := fun σ => match a σ with
  | some (x, σ1) => some (.bl (x.isa T), σ1)
  | none => none
theorem se_isa {T : Ty} {p p2 pos : Pos} {N x : Str} (hx : x = ("isinstance" : Str) := by rfl) (hg : Gl X x) (hm : X.mg x = none) (hv : bootBuiltins x = some (.builtin "isinstance")) (hg2 : Gl X N) (hm2 : X.mg N = none) (hv2 : bootBuiltins N = some (.type T.name)) (ha : SE b X e1 a)
    (hn : x ≠ "__name__" := by decide) (hdb : (x == ("__debug__" : Str)) = false := by decide) (hn2 : N ≠ "__name__" := by decide) (hdb2 : (N == ("__debug__" : Str)) = false := by decide)
    (he : starEach [e1, .Name N p2] X.env = (false, eval e1 X.env) :: starEach [.Name N p2] X.env := by rfl) (hpl : (backTo pos (starEach [.Name N p2] X.env)).any (·.1) = false := by rfl) :
    SE b X (.Call (.Name x p) [e1, .Name N p2] [] pos) (mIsa T a) := ⟨fun {ρ H σ T' d σ'} ok cd h => by
  unfold mIsa at h
  split at h
  · rename_i dx σ1 h1
    cases h
    refine pe_sem (pe_callB call_isi hg hm hv (pa_cons peS (pa_cons (pe_bltn (v := .ty T.name) hg2 hm2 hv2 rfl hn2 hdb2) pa_nil) he) hn hdb he hpl) ?_
    refine semE_mono (ha.run ok cd h1) fun v H1 p => ?_
    refine ⟨v, .ty T.name, .type dx.tyName, .type T.name, dx.isa T, rfl, .ty _, World.tyx (L := T' ++ sl ρ σ') p.ok.w, kit_ty (isa_kit T dx), ?_⟩
    exact ⟨Ok.lift (T1 := [(v, dx)]) (T2 := [(.bl (dx.isa T), .bl (dx.isa T))]) p.ok fun L w => World.bl _ w.tail, fun e => ⟨(p.cd e).1, (p.cd e).2.tail.cons rfl⟩, p.nv, p.sm⟩
  · cases h⟩
end
end Py
/-! Layer «Py», part G: what is walked; statements; loops. -/
namespace Py
open PySem PySem.Spec PyProof.Rows L2 RT

/-! ### what is walked -/
abbrev MI := Sg → Option (List D × Option D × Sg)
structure Yl (K : PySem.W.Frag) (J : It) (hold : List (V × D)) (ds : List D) : Prop where
  go : ∀ {H : Hp} {L : List (V × D)} {i : Nat} {d : D}, World K H (hold ++ L) → ds[i]? = some d → J.go i H
  yld : ∀ {H H' : Hp} {L : List (V × D)} {i : Nat} {d : D} {x : V}, World K H (hold ++ L) → ds[i]? = some d → J.yld i H x H' → World K H' ((x, d) :: (hold ++ L))
  stop : ∀ {H : Hp} {L : List (V × D)} {i : Nat}, World K H (hold ++ L) → ds.length ≤ i → J.stop i H
def semI (X : Cx) (tg e : Expr) : TI := fun ρ H R => ∀ (pins : List (Addr × Obj)) (s : Shared), Inv X pins ρ H s → wpAny (model X.prog X.w) X.A (eval e X.env) (fun v s1 => wpAny (model X.prog X.w) X.A (pyIter v) (PIE X pins ρ tg R) X.xe s1) X.xe s
theorem piS {X : Cx} {tg e : Expr} : PI X tg e (semI X tg e) := ⟨fun pins s _ _ _ I h => h pins s I⟩
theorem pi_sem {X : Cx} {tg e : Expr} {t : TI} (p : PI X tg e t) {ρ : L2.St} {H : Hp} {R : It → Hp → Prop} (h : t ρ H R) : semI X tg e ρ H R := fun pins s I => p.run pins s ρ H R I h
/-- what is held while it is walked, and comes back to its slot behind it -/
def Back (ρ : L2.St) (hold : List (V × D)) : Option Nat → Option D → Prop
  | some i, some d => ∃ v, hold = [(v, d)] ∧ ρ[i]? = some (some v)
  | _, _ => True
def gB : Option Nat → Option D → Sg → Sg
  | some i, some d, σ => σ.set i (some d)
  | _, _, σ => σ
structure SI (b : Bool) (X : Cx) (tg e : Expr) (bk : Option Nat) (m : MI) : Prop where
  run : ∀ {ρ : L2.St} {H : Hp} {σ : Sg} {T : List (V × D)} {ds : List D} {o : Option D} {σ' : Sg} {R : It → Hp → Prop}, Ok X.K H ρ σ T → Cd b σ T → m σ = some (ds, o, σ') →
    (∀ J hold H', Yl X.K J hold ds → (b = true → noVws ds = true) → Back ρ hold bk o → Pst X.K b H ρ σ σ' T hold H' → R J H') → semI X tg e ρ H R
section
variable {X : Cx} {b : Bool} {tg e1 e2 e3 : Expr} {a c : M} {K : PySem.W.Frag}
def iSeq (K : PySem.W.Frag) (tl : TE) : TI := fun σ H R => tl σ H fun x H1 => ∃ a, x = .ref a ∧ (((∃ xs, SqL K H1 a xs) ∧ R (Itl K a) H1) ∨ ((∃ xs, SqT K H1 a xs) ∧ R (Itt K a) H1))
theorem pi_seq {l : Expr} {tl : TE} (hl : PE X l tl) : PI X tg l (iSeq X.K tl) := by
  refine ⟨fun pins s σ H R I h => ?_⟩
  refine thn (hl.run pins s σ H _ I h) fun v s1 ⟨x, H1, I1, r1, q1⟩ => ?_
  obtain ⟨a, e, ⟨⟨xs, hq⟩, q⟩ | ⟨⟨xs, hq⟩, q⟩⟩ := q1
  · subst e
    cases r1
    obtain ⟨its, rv, p, hz⟩ := I1.list hq
    refine wpAny_pyIter_list p.isList ?_
    refine ⟨s1.heap.objs.size, [s1.heap.objs.size], _, _, H1, rfl, I1.kept (t' := s1.toks) fun b o e => Heap.get?_push_of_some _ e, turn_list a _, ⟨_, Heap.get?_push_size _ rfl, rfl, rfl⟩, fun b hb => ?_, q⟩
    have e : b = s1.heap.objs.size := by simpa using hb
    subst e
    exact I1.fpOk (Nat.le_refl _) (I1.hok.fresh (Nat.le_refl _))
  · subst e
    cases r1
    obtain ⟨its, rv, p, hz⟩ := I1.tuple hq
    refine wpAny_pyIter_tuple (show s1.heap.IsTuple a its.toArray from p) ?_
    refine ⟨s1.heap.objs.size, [s1.heap.objs.size], _, _, H1, rfl, I1.kept (t' := s1.toks) fun b o e => Heap.get?_push_of_some _ e, turn_tuple a _, ⟨_, Heap.get?_push_size _ rfl, rfl, rfl⟩, fun b hb => ?_, q⟩
    have e : b = s1.heap.objs.size := by simpa using hb
    subst e
    exact I1.fpOk (Nat.le_refl _) (I1.hok.fresh (Nat.le_refl _))
theorem frz_ne_own {d : D} {f : Fl} {xs : List D} (h : d.frz = .lst f xs) : f ≠ .own := by
  intro e
  subst e
  cases d with
  | lst g ys => cases g <;> simp [D.frz] at h
  | _ => simp [D.frz] at h
theorem noOwn_lst {K : PySem.W.Frag} {H : Hp} {v : V} {f : Fl} {xs : List D} {L : List (V × D)} (w : World K H ((v, .lst f xs) :: L)) (hf : f ≠ .own) : (D.lst f xs).noOwn = true := by
  obtain ⟨_, r⟩ := w.repd
  refine r.noOwn_of ?_
  cases r <;> first | rfl | exact absurd rfl hf
theorem yl_list {a : Addr} {f : Fl} {ds : List D} (hf : f ≠ .own) : Yl K (Itl K a) [(.ref a, .lst f ds)] ds where
  go := fun {H L i d} w h => by
    obtain ⟨_, vs, e, ht, l1, _, w⟩ := World.openL w
    cases e
    obtain ⟨v, hv, _⟩ := w.pick l1 h
    exact ⟨vs, v, ht, hv⟩
  yld := fun {H H' L i d x} w h y => by
    obtain ⟨e, y⟩ := y
    subst e
    have w' := World.dup (noOwn_lst w hf) w
    obtain ⟨_, vs, e, ht, l1, _, w⟩ := World.openL w'
    cases e
    obtain ⟨v, hv, w⟩ := w.pick l1 h
    have e := y vs ht
    rw [hv] at e
    cases e
    exact w
  stop := fun {H L i} w h => by
    obtain ⟨_, vs, e, ht, l1, _, w⟩ := World.openL w
    cases e
    exact ⟨vs, ht, by omega⟩
theorem World.tup_noOwn {H : Hp} {v : V} {ds : List D} {L : List (V × D)} (w : World K H ((v, .tup ds) :: L)) : (D.tup ds).noOwn = true := by
  obtain ⟨_, _, _, _, _, n, _⟩ := w.openT
  exact n
theorem yl_tup {a : Addr} {ds : List D} : Yl K (Itt K a) [(.ref a, .tup ds)] ds where
  go := fun {H L i d} w h => by
    obtain ⟨_, vs, e, ht, l1, _, w⟩ := World.openT w
    cases e
    obtain ⟨v, hv, _⟩ := w.pick l1 h
    exact ⟨vs, v, .of ht, hv⟩
  yld := fun {H H' L i d x} w h y => by
    obtain ⟨e, y⟩ := y
    subst e
    have w' := World.dup (World.tup_noOwn w) w
    obtain ⟨_, vs, e, ht, l1, _, w⟩ := World.openT w'
    cases e
    obtain ⟨v, hv, w⟩ := w.pick l1 h
    have e := y vs (.of ht)
    rw [hv] at e
    cases e
    exact w
  stop := fun {H L i} w h => by
    obtain ⟨_, vs, e, ht, l1, _, w⟩ := World.openT w
    cases e
    exact ⟨vs, .of ht, by omega⟩
/-- the items of a list or a tuple -/
def D.items : D → Option (List D)
  | .tup xs => some xs
  | .lst .own xs => some (frzs xs)
  | .lst _ xs => some xs
  | _ => none
def iSeqM (a : M) : MI := fun σ => match a σ with
  | some (x, σ1) => (match x.items with
    | some ds => some (ds, none, σ1)
    | none => none)
  | none => none
theorem si_seq (ha : SE b X e1 a) : SI b X tg e1 none (iSeqM a) := ⟨fun {ρ H σ T ds o σ' R} ok cd h q => by
  unfold iSeqM at h
  split at h
  · rename_i x σ1 h1
    split at h
    · rename_i ds' hd
      cases h
      refine pi_sem (pi_seq peS) ?_
      refine semE_mono (ha.run ok cd h1) fun v H1 p => ?_
      cases x <;> simp only [D.items] at hd <;> try cases hd
      · obtain ⟨a, vs, rfl, ht, l1, n, w⟩ := World.openT (L := T ++ sl ρ σ') p.ok.w
        exact ⟨a, rfl, .inr ⟨⟨vs, .of ht⟩, q _ _ _ yl_tup (fun e => NT.head (p.cd e).2) trivial p⟩⟩
      · rename_i f xs
        have okf : Pst X.K b H ρ σ σ' T [(v, (D.lst f xs).frz)] H1 := ⟨Ok.lift (T1 := [(v, D.lst f xs)]) (T2 := [(v, (D.lst f xs).frz)]) p.ok fun L w => World.frz w, fun e => ⟨(p.cd e).1, (p.cd e).2.tail.cons (noVw_frz (p.cd e).2.head)⟩, p.nv, p.sm⟩
        have e : ∃ g, (D.lst f xs).frz = .lst g ds ∧ g ≠ .own := by
          cases f <;> simp only [D.items, Option.some.injEq] at hd <;> subst hd
          · exact ⟨.frz, rfl, by decide⟩
          · exact ⟨.frz, rfl, by decide⟩
          · exact ⟨.vw, rfl, by decide⟩
          · exact ⟨.scr, rfl, by decide⟩
        obtain ⟨g, e, hg⟩ := e
        rw [e] at okf
        obtain ⟨a, vs, rfl, ht, l1, _, w⟩ := World.openL (L := T ++ sl ρ σ') okf.ok.w
        refine ⟨a, rfl, .inl ⟨⟨vs, ht⟩, q _ _ _ (yl_list hg) (fun e => ?_) trivial okf⟩⟩
        have z := NT.head (okf.cd e).2
        cases g <;> simp_all [D.noVw]
    · cases h
  · cases h⟩
/-- numbers -/
def up (lo : Int) : Nat → List D
  | 0 => []
  | n + 1 => .int lo :: up (lo + 1) n
theorem up_len (n : Nat) : ∀ lo, (up lo n).length = n := by
  induction n with
  | zero => exact fun _ => rfl
  | succ n ih => intro lo; simp [up, ih]
theorem up_get : ∀ (n : Nat) (lo : Int) (i : Nat) (d : D), (up lo n)[i]? = some d → d = .int (lo + i) ∧ i < n
  | 0, lo, i, d, h => by simp [up] at h
  | n + 1, lo, 0, d, h => by simp [up] at h; subst h; simp
  | n + 1, lo, i + 1, d, h => by
    obtain ⟨h1, h2⟩ := up_get n (lo + 1) i d (by simpa [up] using h)
    refine ⟨?_, by omega⟩
    rw [h1]
    congr 1
    omega
theorem up_noVw (n : Nat) : ∀ lo, noVws (up lo n) = true := by
  induction n with
  | zero => exact fun _ => rfl
  | succ n ih => intro lo; simp [up, noVws, D.noVw, ih]
theorem yl_range {lo : Int} {n : Nat} : Yl K (Itr lo n) [] (up lo n) where
  go := fun {H L i d} w h => (up_get n lo i d h).2
  yld := fun {H H' L i d x} w h y => by
    obtain ⟨e, y⟩ := y
    subst e y
    rw [(up_get n lo i d h).1]
    exact World.int _ w
  stop := fun {H L i} w h => by rw [up_len] at h; exact h
def okR (i : Int) : Bool := decide (-4611686018427387904 ≤ i ∧ i < 4611686018427387904)
theorem okR_iff {i : Int} (h : okR i = true) : -(2 ^ 62) ≤ i ∧ i < 2 ^ 62 := by
  have h := of_decide_eq_true h
  omega
def iRngM1 (a : M) : MI := fun σ => match a σ with
  | some (.int j, σ1) => if okR j = true then some (up 0 j.toNat, none, σ1) else none
  | _ => none
def iRngM2 (a c : M) : MI := fun σ => match a σ with
  | some (.int i, σ1) => (match c σ1 with
    | some (.int j, σ2) => if okR i = true ∧ okR j = true then some (up i (j - i).toNat, none, σ2) else none
    | _ => none)
  | _ => none
theorem si_range1 {p pos : Pos} (hg : Gl X "range") (hm : X.mg "range" = none) (ha : SE b X e1 a) (hs : starEach [e1] X.env = [(false, eval e1 X.env)] := by rfl) : SI b X tg (.Call (.Name "range" p) [e1] [] pos) none (iRngM1 a) := ⟨fun {ρ H σ T ds o σ' R} ok cd h q => by
  unfold iRngM1 at h
  split at h
  · rename_i j σ1 h1
    split at h
    · rename_i hj
      cases h
      refine pi_sem (pi_range1 hg hm (pa_cons peS pa_nil hs) hs) ?_
      refine semE_mono (ha.run ok cd h1) fun v H1 p => ?_
      have e := World.int_of (L := T ++ sl ρ σ') p.ok.w
      subst e
      obtain ⟨z1, z2⟩ := okR_iff hj
      exact ⟨j, rfl, z1, z2, q _ _ _ yl_range (fun _ => up_noVw _ _) trivial ⟨p.ok.tail, fun e => ⟨(p.cd e).1, (p.cd e).2.tail⟩, p.nv, p.sm⟩⟩
    · cases h
  · cases h⟩
theorem si_range2 {p pos : Pos} (hg : Gl X "range") (hm : X.mg "range" = none) (ha : SE b X e1 a) (hc : SE b X e2 c) (hs : starEach [e1, e2] X.env = [(false, eval e1 X.env), (false, eval e2 X.env)] := by rfl) (hs2 : starEach [e2] X.env = [(false, eval e2 X.env)] := by rfl) :
    SI b X tg (.Call (.Name "range" p) [e1, e2] [] pos) none (iRngM2 a c) := ⟨fun {ρ H σ T ds o σ' R} ok cd h q => by
  unfold iRngM2 at h
  split at h
  · rename_i i σ1 h1
    split at h
    · rename_i j σ2 h2
      split at h
      · rename_i hj
        cases h
        refine pi_sem (pi_range2 hg hm (pa_cons peS (pa_cons peS pa_nil hs2) (by rw [hs, hs2])) hs hs2) ?_
        refine semE_mono (ha.run ok cd h1) fun v H1 p => ?_
        refine semE_mono (hc.run p.ok p.cd h2) fun v2 H2 p2 => ?_
        have e := World.int_of (L := (v, D.int i) :: (T ++ sl ρ σ')) p2.ok.w
        subst e
        have e := World.int_of (L := T ++ sl ρ σ') p2.ok.tail.w
        subst e
        obtain ⟨z1, z2⟩ := okR_iff hj.1
        obtain ⟨z3, z4⟩ := okR_iff hj.2
        exact ⟨i, j, rfl, ⟨z1, z2, z3, z4⟩, q _ _ _ yl_range (fun _ => up_noVw _ _) trivial ⟨p2.ok.tail.tail, fun e => ⟨(p2.cd e).1, (p2.cd e).2.tail.tail⟩, fun n => p2.nv (p.nv n), fun e => (p.sm e).trans (p2.sm e)⟩⟩
      · cases h
    · cases h
  · cases h⟩
/-- range(a, b, -1) -/
def down (hi : Int) : Nat → List D
  | 0 => []
  | n + 1 => .int hi :: down (hi - 1) n
theorem down_len (n : Nat) : ∀ hi, (down hi n).length = n := by
  induction n with
  | zero => exact fun _ => rfl
  | succ n ih => intro hi; simp [down, ih]
theorem down_get : ∀ (n : Nat) (hi : Int) (i : Nat) (d : D), (down hi n)[i]? = some d → d = .int (hi + (i : Nat) * (-1)) ∧ i < n
  | 0, hi, i, d, h => by simp [down] at h
  | n + 1, hi, 0, d, h => by simp [down] at h; subst h; simp
  | n + 1, hi, i + 1, d, h => by
    obtain ⟨h1, h2⟩ := down_get n (hi - 1) i d (by simpa [down] using h)
    refine ⟨?_, by omega⟩
    rw [h1]
    congr 1
    omega
theorem down_noVw (n : Nat) : ∀ hi, noVws (down hi n) = true := by
  induction n with
  | zero => exact fun _ => rfl
  | succ n ih => intro hi; simp [down, noVws, D.noVw, ih]
theorem yl_rangeD {hi : Int} {n : Nat} : Yl K (Itc hi (-1) n) [] (down hi n) where
  go := fun {H L i d} w h => (down_get n hi i d h).2
  yld := fun {H H' L i d x} w h y => by
    obtain ⟨e, y⟩ := y
    subst e y
    rw [(down_get n hi i d h).1]
    exact World.int _ w
  stop := fun {H L i} w h => by rw [down_len] at h; exact h
/-- reversed(x) -/
theorem yl_rev {a : Addr} {f : Fl} {ds : List D} (hf : f ≠ .own) : Yl K (Itv K a ds.length) [(.ref a, .lst f ds)] ds.reverse where
  go := fun {H L i d} w h => by
    obtain ⟨hi, _⟩ := List.getElem?_eq_some_iff.mp h
    rw [List.length_reverse] at hi
    rw [List.getElem?_reverse hi] at h
    obtain ⟨_, vs, e, ht, l1, _, w⟩ := World.openL w
    cases e
    obtain ⟨v, hv, _⟩ := w.pick l1 h
    exact ⟨hi, vs, v, ht, hv⟩
  yld := fun {H H' L i d x} w h y => by
    obtain ⟨hi, _⟩ := List.getElem?_eq_some_iff.mp h
    rw [List.length_reverse] at hi
    rw [List.getElem?_reverse hi] at h
    obtain ⟨e, y⟩ := y
    subst e
    have w' := World.dup (noOwn_lst w hf) w
    obtain ⟨_, vs, e, ht, l1, _, w⟩ := World.openL w'
    cases e
    obtain ⟨v, hv, w⟩ := w.pick l1 h
    have e := y vs ht
    rw [hv] at e
    cases e
    exact w
  stop := fun {H L i} w h => by rw [List.length_reverse] at h; exact h
theorem yl_revT {a : Addr} {ds : List D} : Yl K (ItvT K a ds.length) [(.ref a, .tup ds)] ds.reverse where
  go := fun {H L i d} w h => by
    obtain ⟨hi, _⟩ := List.getElem?_eq_some_iff.mp h
    rw [List.length_reverse] at hi
    rw [List.getElem?_reverse hi] at h
    obtain ⟨_, vs, e, ht, l1, _, w⟩ := World.openT w
    cases e
    obtain ⟨v, hv, _⟩ := w.pick l1 h
    exact ⟨hi, vs, v, .of ht, hv⟩
  yld := fun {H H' L i d x} w h y => by
    obtain ⟨hi, _⟩ := List.getElem?_eq_some_iff.mp h
    rw [List.length_reverse] at hi
    rw [List.getElem?_reverse hi] at h
    obtain ⟨e, y⟩ := y
    subst e
    have w' := World.dup (World.tup_noOwn w) w
    obtain ⟨_, vs, e, ht, l1, _, w⟩ := World.openT w'
    cases e
    obtain ⟨v, hv, w⟩ := w.pick l1 h
    have e := y vs (.of ht)
    rw [hv] at e
    cases e
    exact w
  stop := fun {H L i} w h => by rw [List.length_reverse] at h; exact h
def iRevM (a : M) : MI := fun σ => match a σ with
  | some (x, σ1) => (match x.items with
    | some ds => some (ds.reverse, none, σ1)
    | none => none)
  | none => none
theorem noVws_rev {ds : List D} (h : noVws ds = true) : noVws ds.reverse = true := by
  rw [noVws_all, List.all_eq_true] at h ⊢
  exact fun x hx => h x (List.mem_reverse.mp hx)
theorem si_rev {p pos : Pos} (hg : Gl X "reversed") (hm : X.mg "reversed" = none) (ha : SE b X e1 a) (hs : starEach [e1] X.env = (false, eval e1 X.env) :: starEach [] X.env := by rfl) : SI b X tg (.Call (.Name "reversed" p) [e1] [] pos) none (iRevM a) := ⟨fun {ρ H σ T ds o σ' R} ok cd h q => by
  unfold iRevM at h
  split at h
  · rename_i x σ1 h1
    split at h
    · rename_i ds' hd
      cases h
      refine pi_sem (pi_revA hg hm peS hs) ?_
      refine semE_mono (ha.run ok cd h1) fun v H1 p => ?_
      cases x <;> simp only [D.items] at hd <;> try cases hd
      · obtain ⟨a, vs, rfl, ht, l1, n, w⟩ := World.openT (L := T ++ sl ρ σ') p.ok.w
        exact ⟨a, vs, rfl, .inr ⟨.of ht, q _ _ _ (by rw [l1]; exact yl_revT) (fun e => noVws_rev (NT.head (p.cd e).2)) trivial p⟩⟩
      · rename_i f xs
        have okf : Pst X.K b H ρ σ σ' T [(v, (D.lst f xs).frz)] H1 := ⟨Ok.lift (T1 := [(v, D.lst f xs)]) (T2 := [(v, (D.lst f xs).frz)]) p.ok fun L w => World.frz w, fun e => ⟨(p.cd e).1, (p.cd e).2.tail.cons (noVw_frz (p.cd e).2.head)⟩, p.nv, p.sm⟩
        have e : ∃ g, (D.lst f xs).frz = .lst g ds' ∧ g ≠ .own := by
          cases f <;> simp only [D.items, Option.some.injEq] at hd <;> subst hd
          · exact ⟨.frz, rfl, by decide⟩
          · exact ⟨.frz, rfl, by decide⟩
          · exact ⟨.vw, rfl, by decide⟩
          · exact ⟨.scr, rfl, by decide⟩
        obtain ⟨g, e, hg⟩ := e
        rw [e] at okf
        obtain ⟨a, vs, rfl, ht, l1, _, w⟩ := World.openL (L := T ++ sl ρ σ') okf.ok.w
        refine ⟨a, vs, rfl, .inl ⟨ht, q _ _ _ (by rw [l1]; exact yl_rev hg) (fun e => noVws_rev ?_) trivial okf⟩⟩
        have z := NT.head (okf.cd e).2
        cases g <;> simp_all [D.noVw]
    · cases h
  · cases h⟩
theorem cdT' {σ : Sg} {T : List (V × D)} (nv : NV σ) (nt : NT T) : Cd true σ T := fun _ => ⟨nv, nt⟩
/-- a list of one's own that holds nothing: each item as often as one likes -/
theorem World.itemOwn {H : Hp} {a : Addr} {vs : List V} {ds : List D} {j : Nat} {d : D} {L : List (V × D)} (hn : noOwns ds = true) (h : ds[j]? = some d) (w : World K H ((.ref a, .lst .own ds) :: L)) : ∃ vs v, H a = some (.lst vs) ∧ vs.length = ds.length ∧ vs[j]? = some v ∧ World K H ((v, d) :: (.ref a, .lst .own ds) :: L) := by
  obtain ⟨Z, fp, w, q⟩ := w
  obtain ⟨f1, f2, rfl, r, t⟩ := w.inv
  cases r with
  | own h1 r1 =>
    obtain ⟨v, f, h2, r2, _⟩ := r1.get h
    have e := r2.none_held (noOwns_mem hn (List.mem_of_getElem? h))
    subst e
    exact ⟨_, v, h1, r1.length, h2, Z, _, .cons (f1 := []) r2 (.cons (.own h1 r1) t), q⟩
theorem yl_own {a : Addr} {ds : List D} (hn : noOwns ds = true) : Yl K (Itl K a) [(.ref a, .lst .own ds)] ds where
  go := fun {H L i d} w h => by
    obtain ⟨vs, v, h1, h2, h3, _⟩ := World.itemOwn (vs := []) hn h w
    exact ⟨vs, v, .of h1, h3⟩
  yld := fun {H H' L i d x} w h y => by
    obtain ⟨e, y⟩ := y
    subst e
    obtain ⟨vs, v, h1, h2, h3, w'⟩ := World.itemOwn (vs := []) hn h w
    have e := y vs (.of h1)
    rw [h3] at e
    cases e
    exact w'
  stop := fun {H L i} w h => by
    obtain ⟨_, vs, e, ht, l1, _, w⟩ := World.openL w
    cases e
    exact ⟨vs, ht, by omega⟩
/-- the value of a slot walked: its own list is held meanwhile -/
def iTake (i : Nat) : MI := fun σ => match σ[i]? with
  | some (some (.lst .own xs)) => if noOwns xs = true then some (xs, some (.lst .own xs), σ.set i none) else some (frzs xs, none, σ.set i (some (.lst .frz (frzs xs))))
  | some (some d) => (match d.items with
    | some ds => some (ds, none, σ)
    | none => none)
  | _ => none
theorem si_take {i : Nat} {x : Str} {pos : Pos} (hN : X.N[i]? = some x := by rfl) (hv : Vis X.env.scope x := by first | exact Or.inl rfl | exact Or.inr (Or.inl rfl) | exact Or.inr (Or.inr rfl)) (hd : (x == ("__debug__" : Str)) = false := by decide)
    (hcd : (x == ("__classdict__" : Str)) = false := by decide) : SI true X tg (.Name x pos) (some i) (iTake i) := ⟨fun {ρ H σ T ds o σ' R} ok cd h q => by
  have nv := (cd rfl).1
  have nt := (cd rfl).2
  refine pi_sem (pi_seq (pe_var hN hv hd hcd)) ?_
  unfold iTake at h
  split at h
  · rename_i xs hx
    obtain ⟨v, hv', ok1⟩ := ok.take hx
    have nx : (D.lst Fl.own xs).noVw = true := nv i _ hx
    obtain ⟨a, vs, rfl, ht, l1, _, w⟩ := World.openL (L := T ++ sl ρ (σ.set i none)) ok1.w
    split at h
    · rename_i hn
      cases h
      exact ⟨.ref a, hv', a, rfl, .inl ⟨⟨vs, ht⟩, q _ _ H (yl_own hn) (fun _ => nx) ⟨.ref a, rfl, hv'⟩ ⟨ok1, cdT' (nv.set (fun _ e => nomatch e)) (nt.cons nx), fun n => n.set (fun _ e => nomatch e), fun e => nomatch e⟩⟩⟩
    · cases h
      have nf : noVws (frzs xs) = true := noVws_frzs nx
      have ok2 := ok1.lift (T1 := [(.ref a, D.lst .own xs)]) (T2 := [(.ref a, (D.lst .own xs).frz), (.ref a, (D.lst .own xs).frz)]) fun L w => (World.frz w).dup (noOwn_frz ok1.w.repd)
      have ok3 := Ok.back (T := (.ref a, (D.lst .own xs).frz) :: T) ok2 hv'
      rw [List.set_set] at ok3
      exact ⟨.ref a, hv', a, rfl, .inl ⟨⟨vs, ht⟩, q _ _ H (yl_list (f := .frz) (by decide)) (fun _ => nf) trivial ⟨ok3, cdT' (nv.set (fun d e => by cases e; exact nf)) (nt.cons (d := .lst .frz (frzs xs)) nf), fun n => n.set (fun d e => by cases e; exact nf), fun e => nomatch e⟩⟩⟩
  · rename_i d hne hx
    split at h
    · rename_i ds' hds
      cases h
      obtain ⟨v, hv', ok1⟩ := ok.take hx
      have nd := nv i _ hx
      have no : d.noOwn = true := by
        obtain ⟨_, r⟩ := World.repd (L := T ++ sl ρ (σ.set i none)) ok1.w
        refine r.noOwn_of ?_
        cases r with
        | own h r => exact (hne _ rfl).elim
        | _ => rfl
      have ok2 := ok1.lift (T1 := [(v, d)]) (T2 := [(v, d), (v, d)]) fun L w => World.dup no w
      have ok3 := Ok.back (T := (v, d) :: T) ok2 hv'
      have e : (σ.set i none).set i (some d) = σ := by
        rw [List.set_set]
        obtain ⟨h1, h2⟩ := List.getElem?_eq_some_iff.mp hx
        rw [← h2, List.set_getElem_self]
      rw [e] at ok3
      have ps : Pst X.K true H ρ σ σ T [(v, d)] H := ⟨ok3, cdT' nv (nt.cons nd), id, fun e => nomatch e⟩
      cases d <;> simp only [D.items] at hds <;> try cases hds
      · obtain ⟨a, vs, rfl, ht, l1, n, w⟩ := World.openT (L := T ++ sl ρ σ) ok3.w
        exact ⟨.ref a, hv', a, rfl, .inr ⟨⟨vs, .of ht⟩, q _ _ H yl_tup (fun e => nd) trivial ps⟩⟩
      · rename_i f xs
        obtain ⟨a, vs, rfl, ht, l1, _, w⟩ := World.openL (L := T ++ sl ρ σ) ok3.w
        have hf : f ≠ .own := fun e => by subst e; simp [D.noOwn] at no
        have e2 : ds = xs := by cases f <;> simp_all
        subst e2
        refine ⟨.ref a, hv', a, rfl, .inl ⟨⟨vs, ht⟩, q _ _ H (yl_list hf) (fun e => ?_) trivial ps⟩⟩
        cases f <;> simp_all [D.noVw]
    · cases h
  · cases h⟩
end
end Py
/-! Layer «Py», part H: targets, statements, loops. -/
namespace Py
open PySem PySem.Spec PyProof.Rows L2

/-! ### slots that are kept -/
structure Kp (ws : List Nat) (ρ ρ' : L2.St) : Prop where
  len : ρ'.length = ρ.length
  keep : ∀ j, j ∉ ws → ρ'[j]? = ρ[j]?
theorem Kp.refl {ws : List Nat} {ρ : L2.St} : Kp ws ρ ρ := ⟨rfl, fun _ _ => rfl⟩
theorem Kp.trans {ws ws' : List Nat} {ρ ρ1 ρ2 : L2.St} (h : Kp ws ρ ρ1) (h' : Kp ws' ρ1 ρ2) : Kp (ws ++ ws') ρ ρ2 := ⟨h'.len.trans h.len, fun j n => (h'.keep j fun m => n (List.mem_append_right _ m)).trans (h.keep j fun m => n (List.mem_append_left _ m))⟩
theorem Kp.mono {ws ws' : List Nat} {ρ ρ' : L2.St} (h : Kp ws ρ ρ') (s : ∀ j ∈ ws, j ∈ ws') : Kp ws' ρ ρ' := ⟨h.len, fun j n => h.keep j fun m => n (s j m)⟩
theorem Kp.left {ws ws' : List Nat} {ρ ρ' : L2.St} (h : Kp ws ρ ρ') : Kp (ws ++ ws') ρ ρ' := h.mono fun _ m => List.mem_append_left _ m
theorem Kp.right {ws ws' : List Nat} {ρ ρ' : L2.St} (h : Kp ws' ρ ρ') : Kp (ws ++ ws') ρ ρ' := h.mono fun _ m => List.mem_append_right _ m
theorem Kp.same {ws : List Nat} {ρ ρ1 ρ2 : L2.St} (h : Kp ws ρ ρ1) (h' : Kp ws ρ1 ρ2) : Kp ws ρ ρ2 := (h.trans h').mono fun j m => (List.mem_append.mp m).elim id id
theorem Kp.set {i : Nat} {ρ : L2.St} {o : Option V} : Kp [i] ρ (ρ.set i o) := ⟨by rw [List.length_set], fun j n => by rw [List.getElem?_set_ne (fun e => n (by rw [← e]; exact List.mem_singleton_self _))]⟩

/-! ### targets -/
def semG (X : Cx) (tg : Expr) : TG := fun v ρ H Q => ∀ (pins : List (Addr × Obj)) (s : Shared) (u : Value), Inv X pins ρ H s → RelV v u → wpAny (model X.prog X.w) X.A (assign tg X.env u) (fun _ s' => ∃ ρ' H', Inv X pins ρ' H' s' ∧ Q ρ' H') X.xe s
def semGs (X : Cx) (ts : List Expr) : TGs := fun vs ρ H Q => ∀ (pins : List (Addr × Obj)) (s : Shared) (us : List Value), Inv X pins ρ H s → Vals vs us → wpAny (model X.prog X.w) X.A (assignInOrder ((assignEach ts X.env).map (·.2)) us) (fun _ s' => ∃ ρ' H', Inv X pins ρ' H' s' ∧ Q ρ' H') X.xe s
theorem pgS {X : Cx} {tg : Expr} : PG X tg (semG X tg) := ⟨fun pins s _ _ _ u _ I r h => h pins s u I r⟩
theorem pgsS {X : Cx} {ts : List Expr} : PGs X ts (semGs X ts) := ⟨fun pins s _ _ _ us _ I r h => h pins s us I r⟩
theorem pg_sem {X : Cx} {tg : Expr} {t : TG} (p : PG X tg t) {v : V} {ρ : L2.St} {H : Hp} {Q : L2.St → Hp → Prop} (h : t v ρ H Q) : semG X tg v ρ H Q := fun pins s u I r => p.run pins s ρ H v u Q I r h
theorem pgs_sem {X : Cx} {ts : List Expr} {t : TGs} (p : PGs X ts t) {vs : List V} {ρ : L2.St} {H : Hp} {Q : L2.St → Hp → Prop} (h : t vs ρ H Q) : semGs X ts vs ρ H Q := fun pins s us I r => p.run pins s ρ H vs us Q I r h
theorem semG_mono {X : Cx} {tg : Expr} {v : V} {ρ : L2.St} {H : Hp} {Q Q' : L2.St → Hp → Prop} (q : semG X tg v ρ H Q) (h : ∀ ρ' H', Q ρ' H' → Q' ρ' H') : semG X tg v ρ H Q' := fun pins s u I r => thn (q pins s u I r) fun _ _ ⟨ρ', H', I', z⟩ => ⟨ρ', H', I', h _ _ z⟩
abbrev MG := D → Sg → Option Sg
abbrev MGs := List D → Sg → Option Sg
structure SG (X : Cx) (tg : Expr) (ws : List Nat) (g : MG) : Prop where
  run : ∀ {ρ : L2.St} {H : Hp} {σ : Sg} {T : List (V × D)} {v : V} {d : D} {σ' : Sg} {Q : L2.St → Hp → Prop}, Ok X.K H ρ σ ((v, d) :: T) → NV σ → NT ((v, d) :: T) → g d σ = some σ' → (∀ ρ' H', Kp ws ρ ρ' → Ok X.K H' ρ' σ' T → NV σ' → Q ρ' H') → semG X tg v ρ H Q
structure SGs (X : Cx) (ts : List Expr) (ws : List Nat) (g : MGs) : Prop where
  run : ∀ {ρ : L2.St} {H : Hp} {σ : Sg} {T : List (V × D)} {vs : List V} {ds : List D} {σ' : Sg} {Q : L2.St → Hp → Prop}, vs.length = ds.length → Ok X.K H ρ σ (vs.zip ds ++ T) → NV σ → NT (vs.zip ds ++ T) → g ds σ = some σ' → (∀ ρ' H', Kp ws ρ ρ' → Ok X.K H' ρ' σ' T → NV σ' → Q ρ' H') → semGs X ts vs ρ H Q
section
variable {X : Cx} {b : Bool} {e1 e2 : Expr} {a c : M} {pos : Pos}
def gNameM (i : Nat) : MG := fun d σ => if i < σ.length then some (σ.set i (some d)) else none
theorem sg_name {i : Nat} {x : Str} (hN : X.N.Nodup) (hi : X.N[i]? = some x := by rfl) (hx : Loc X.env.scope x := by first | exact Or.inl rfl | exact Or.inr rfl) (hf : X.fn x = true ∨ X.env.scope.names.lookup x = some .local := by first | exact .inl rfl | exact .inr rfl | assumption) : SG X (.Name x pos) [i] (gNameM i) := ⟨fun {ρ H σ T v d σ' Q} ok nv nt h q => by
  unfold gNameM at h
  split at h
  · rename_i hl
    cases h
    exact pg_sem (pg_name hN hi hx hf) (q _ _ .set (ok.put hl) (nv.set fun d e => by cases e; exact nt.head))
  · cases h⟩
def gsNilM : MGs := fun ds σ => match ds with
  | [] => some σ
  | _ => none
def gsConsM (g : MG) (gs : MGs) : MGs := fun ds σ => match ds with
  | d :: r => (match g d σ with
    | some σ1 => gs r σ1
    | none => none)
  | [] => none
theorem sgs_nil : SGs X [] [] gsNilM := ⟨fun {ρ H σ T vs ds σ' Q} hl ok nv nt h q => by
  unfold gsNilM at h
  split at h
  · cases h
    have e := List.eq_nil_of_length_eq_zero hl
    subst e
    exact pgs_sem pgs_nil ⟨rfl, q _ _ .refl ok nv⟩
  · cases h⟩
theorem sgs_cons {ts : List Expr} {w1 w2 : List Nat} {g : MG} {gs : MGs} (h1 : SG X e1 w1 g) (h2 : SGs X ts w2 gs) (hs : (assignEach (e1 :: ts) X.env).map (·.2) = assign e1 X.env :: (assignEach ts X.env).map (·.2) := by rfl) : SGs X (e1 :: ts) (w1 ++ w2) (gsConsM g gs) := ⟨fun {ρ H σ T vs ds σ' Q} hl ok nv nt h q => by
  unfold gsConsM at h
  split at h
  · rename_i d r
    split at h
    · rename_i σ1 hg
      match vs, hl with
      | v :: vr, hl =>
        refine pgs_sem (pgs_cons pgS pgsS hs) ⟨v, vr, rfl, ?_⟩
        refine h1.run (T := vr.zip r ++ T) ok nv nt hg fun ρ1 H1 k1 ok1 nv1 => ?_
        exact h2.run (by simpa using hl) ok1 nv1 nt.tail h fun ρ2 H2 k2 ok2 nv2 => q _ _ (k1.trans k2) ok2 nv2
    · cases h
  · cases h⟩
def gTupM (n : Nat) (g : MGs) : MG := fun d σ => match d with
  | .tup xs => if xs.length = n then g xs σ else none
  | _ => none
theorem sg_tup {es : List Expr} {k n : Nat} {ws : List Nat} {g : MGs} (hc : X.calm = true) (h : SGs X es ws g) (hn : (assignEach es X.env).length = n := by rfl) (hst : (assignEach es X.env).findIdx? (·.1) = none := by rfl) : SG X (.Tuple es k pos) ws (gTupM n g) := ⟨fun {ρ H σ T v d σ' Q} ok nv nt e q => by
  unfold gTupM at e
  split at e
  · rename_i xs
    split at e
    · rename_i hl
      obtain ⟨a, vs, rfl, ht, l1, no, w⟩ := World.openT (L := T ++ sl ρ σ) ok.w
      refine pg_sem (pg_tup hc pgsS hn hst) ⟨a, vs, rfl, .of ht, l1.trans hl, ?_⟩
      refine h.run l1 ⟨ok.len, ok.al, by rw [List.append_assoc]; exact w⟩ nv (nt_zip (NT.head nt) nt.tail) e q
    · cases e
  · cases e⟩

/-! ### statements -/
inductive Fo where
  | nx | bk | ct | rt (d : D)
abbrev MS := Sg → Option (Fo × Sg)
def semS (X : Cx) (st : Stmt) : TS := fun D ρ H => ∀ (pins : List (Addr × Obj)) (s : Shared), Inv X pins ρ H s → wpAny (model X.prog X.w) X.A (exec st X.env) (SP X pins D) X.xe s
def semSs (X : Cx) (st : List Stmt) : TS := fun D ρ H => ∀ (pins : List (Addr × Obj)) (s : Shared), Inv X pins ρ H s → wpAny (model X.prog X.w) X.A (execs st X.env) (SP X pins D) X.xe s
theorem psS {st : Stmt} : PS X st (semS X st) := ⟨fun pins s _ _ _ I h => h pins s I⟩
theorem pssS {st : List Stmt} : PSs X st (semSs X st) := ⟨fun pins s _ _ _ I h => h pins s I⟩
theorem ps_sem {st : Stmt} {t : TS} (p : PS X st t) {ρ : L2.St} {H : Hp} {D : Ends} (h : t D ρ H) : semS X st D ρ H := fun pins s I => p.run pins s ρ H D I h
theorem pss_sem {st : List Stmt} {t : TS} (p : PSs X st t) {ρ : L2.St} {H : Hp} {D : Ends} (h : t D ρ H) : semSs X st D ρ H := fun pins s I => p.run pins s ρ H D I h
def Fin (K : PySem.W.Frag) (E : Ends) (ρ : L2.St) (ws : List Nat) (T : List (V × D)) (f : Fo) (σ' : Sg) : Prop := match f with
  | .nx => ∀ ρ' H', Kp ws ρ ρ' → Ok K H' ρ' σ' T → NV σ' → E.nx ρ' H'
  | .bk => ∀ ρ' H', Kp ws ρ ρ' → Ok K H' ρ' σ' T → NV σ' → E.bk ρ' H'
  | .ct => ∀ ρ' H', Kp ws ρ ρ' → Ok K H' ρ' σ' T → NV σ' → E.ct ρ' H'
  | .rt d => ∀ v ρ' H', Kp ws ρ ρ' → Ok K H' ρ' σ' ((v, d) :: T) → NV σ' → d.noVw = true → E.rt v H'
theorem Fin.kp {K : PySem.W.Frag} {E : Ends} {ρ ρ1 : L2.St} {ws w1 w2 : List Nat} {T : List (V × D)} {f : Fo} {σ' : Sg} (k : Kp w1 ρ ρ1) (hs : ∀ j ∈ w1 ++ w2, j ∈ ws) (F : Fin K E ρ ws T f σ') : Fin K E ρ1 w2 T f σ' := by
  cases f with
  | nx => exact fun ρ' H' k' => F ρ' H' ((k.trans k').mono hs)
  | bk => exact fun ρ' H' k' => F ρ' H' ((k.trans k').mono hs)
  | ct => exact fun ρ' H' k' => F ρ' H' ((k.trans k').mono hs)
  | rt d => exact fun v ρ' H' k' => F v ρ' H' ((k.trans k').mono hs)
structure SS (X : Cx) (st : Stmt) (ws : List Nat) (m : MS) : Prop where
  run : ∀ {ρ : L2.St} {H : Hp} {σ : Sg} {T : List (V × D)} {f : Fo} {σ' : Sg} {E : Ends}, Ok X.K H ρ σ T → NV σ → NT T → m σ = some (f, σ') → Fin X.K E ρ ws T f σ' → semS X st E ρ H
structure SSs (X : Cx) (st : List Stmt) (ws : List Nat) (m : MS) : Prop where
  run : ∀ {ρ : L2.St} {H : Hp} {σ : Sg} {T : List (V × D)} {f : Fo} {σ' : Sg} {E : Ends}, Ok X.K H ρ σ T → NV σ → NT T → m σ = some (f, σ') → Fin X.K E ρ ws T f σ' → semSs X st E ρ H
def sNil : MS := fun σ => some (.nx, σ)
def sSeq (m1 m2 : MS) : MS := fun σ => match m1 σ with
  | some (.nx, σ1) => m2 σ1
  | r => r
variable {st : Stmt} {sts : List Stmt} {w1 w2 ws : List Nat} {s1 s2 : MS}
theorem sss_nil : SSs X [] [] sNil := ⟨fun {ρ H σ T f σ' E} ok nv nt h F => by
  cases h
  exact pss_sem pss_nil (F ρ H .refl ok nv)⟩
theorem sss_one (h1 : SS X st ws s1) : SSs X [st] ws s1 := ⟨fun ok nv nt h F => pss_sem (pss_one psS) (h1.run ok nv nt h F)⟩
theorem sss_cons (h1 : SS X st w1 s1) (h2 : SSs X sts w2 s2) : SSs X (st :: sts) (w1 ++ w2) (sSeq s1 s2) := ⟨fun {ρ H σ T f σ' E} ok nv nt h F => by
  refine pss_sem (pss_cons psS pssS) ?_
  unfold sSeq at h
  split at h
  · rename_i σ1 hm
    refine h1.run (f := .nx) ok nv nt hm fun ρ1 H1 k1 ok1 nv1 => ?_
    exact h2.run ok1 nv1 nt h (F.kp k1 fun j m => m)
  · rename_i hne
    have e : ∀ f0 σ0, s1 σ = some (f0, σ0) → f0 ≠ .nx := fun f0 σ0 e1 e2 => hne σ0 (by rw [e1, e2])
    cases f with
    | nx => exact absurd rfl (e _ _ h)
    | bk => exact h1.run (f := .bk) ok nv nt h fun ρ' H' k' => F ρ' H' k'.left
    | ct => exact h1.run (f := .ct) ok nv nt h fun ρ' H' k' => F ρ' H' k'.left
    | rt d => exact h1.run (f := .rt d) ok nv nt h fun v ρ' H' k' => F v ρ' H' k'.left⟩
def sExpr (m : M) : MS := fun σ => match m σ with
  | some (_, σ1) => some (.nx, σ1)
  | none => none
theorem Pst.nvt {K : PySem.W.Frag} {ρ : L2.St} {σ σ' : Sg} {T T' : List (V × D)} {H0 H : Hp} (p : Pst K true H0 ρ σ σ' T T' H) : NV σ' ∧ NT (T' ++ T) := p.cd rfl
theorem cdT {σ : Sg} {T : List (V × D)} (nv : NV σ) (nt : NT T) : Cd true σ T := fun _ => ⟨nv, nt⟩
theorem ss_expr (he : SE true X e1 a) (hs : swapsWith e1 none pos.line X.env = pure false := by rfl) : SS X (.Expr e1 pos) [] (sExpr a) := ⟨fun {ρ H σ T f σ' E} ok nv nt h F => by
  unfold sExpr at h
  split at h
  · rename_i d σ1 h1
    cases h
    exact ps_sem (ps_expr peS hs) (semE_mono (he.run ok (cdT nv nt) h1) fun v H' p => F ρ H' .refl p.ok.tail p.nvt.1)
  · cases h⟩
def sSet (i : Nat) (m : M) : MS := fun σ => match m σ with
  | some (d, σ1) => if i < σ1.length then some (.nx, σ1.set i (some d)) else none
  | none => none
theorem ss_set {i : Nat} {x : Str} {pos' : Pos} (hN : X.N.Nodup) (he : SE true X e1 a) (hi : X.N[i]? = some x := by rfl) (hx : Loc X.env.scope x := by first | exact Or.inl rfl | exact Or.inr rfl) (hs : swapsWith e1 (some (.Name x pos')) pos.line X.env = pure false := by rfl) (hf : X.fn x = true ∨ X.env.scope.names.lookup x = some .local := by first | exact .inl rfl | exact .inr rfl | assumption) :
    SS X (.Assign [.Name x pos'] e1 pos) [i] (sSet i a) := ⟨fun {ρ H σ T f σ' E} ok nv nt h F => by
  unfold sSet at h
  split at h
  · rename_i d σ1 h1
    split at h
    · rename_i hl
      cases h
      refine ps_sem (ps_set hN hi hx peS hs hf) (semE_mono (he.run ok (cdT nv nt) h1) fun v H' p => ?_)
      exact F _ H' .set (p.ok.put hl) (p.nvt.1.set fun d e => by cases e; exact p.nvt.2.head)
    · cases h
  · cases h⟩
def sAsg (m : M) (g : MG) : MS := fun σ => match m σ with
  | some (d, σ1) => (match g d σ1 with
    | some σ2 => some (.nx, σ2)
    | none => none)
  | none => none
theorem ss_asg {tg : Expr} {g : MG} (he : SE true X e1 a) (hg : SG X tg ws g) (hs : swapsWithSole [tg] e1 pos.line X.env = pure false := by rfl) (hw : swappedStores [tg] e1 X.env = pure none := by rfl) (h1 : (assignEach [tg] X.env).map (·.2) = [assign tg X.env] := by rfl) :
    SS X (.Assign [tg] e1 pos) ws (sAsg a g) := ⟨fun {ρ H σ T f σ' E} ok nv nt h F => by
  unfold sAsg at h
  split at h
  · rename_i d σ1 hm
    split at h
    · rename_i σ2 hgs
      cases h
      refine ps_sem (ps_asg peS pgS hs hw h1) (semE_mono (he.run ok (cdT nv nt) hm) fun v H' p => ?_)
      exact hg.run p.ok p.nvt.1 p.nvt.2 hgs fun ρ' H'' k ok' nv' => F ρ' H'' k ok' nv'
    · cases h
  · cases h⟩
def sPar (i j : Nat) (m : MA) : MS := fun σ => match m σ with
  | some ([x, y], σ1) => if i < σ1.length ∧ j < σ1.length then some (.nx, (σ1.set i (some x)).set j (some y)) else none
  | _ => none
theorem ss_par {i j : Nat} {x y : Str} {ma : MA} {px py pt : Pos} {kt k2 pt2} (hc : X.calm = true) (hN : X.N.Nodup) (ha : SA true X [e1, e2] ma) (hi : X.N[i]? = some x := by rfl) (hj : X.N[j]? = some y := by rfl) (hij : i ≠ j := by decide)
    (hx : X.env.scope.names.lookup x = some .local := by rfl) (hy : X.env.scope.names.lookup y = some .local := by rfl)
    (hw : swappedStores [.Tuple [.Name x px, .Name y py] kt pt] (.Tuple [e1, e2] k2 pt2) X.env = pure (some [x, y]) := by rfl)
    (hs : swapsWithSole [.Tuple [.Name x px, .Name y py] kt pt] (.Tuple [e1, e2] k2 pt2) pos.line X.env = pure false := by rfl) :
    SS X (.Assign [.Tuple [.Name x px, .Name y py] kt pt] (.Tuple [e1, e2] k2 pt2) pos) [i, j] (sPar i j ma) := ⟨fun {ρ H σ T f σ' E} ok nv nt h F => by
  unfold sPar at h
  split at h
  · rename_i d1 d2 σ1 hm
    split at h
    · rename_i hl
      cases h
      refine ps_sem (ps_par hc hN hi hj hij hx hy paS hw hs) (semA_mono (ha.run ok (cdT nv nt) hm) fun vs H' ⟨hl2, p⟩ => ?_)
      match vs, hl2 with
      | [v, w], _ =>
        refine ⟨v, w, rfl, ?_⟩
        have ok1 := Ok.put (T := (w, d2) :: T) p.ok hl.1
        have ok2 := Ok.put (T := T) ok1 (i := j) (by rw [List.length_set]; exact hl.2)
        refine F _ H' ?_ ok2 ((p.nvt.1.set fun d e => by cases e; exact p.nvt.2 (v, d1) List.mem_cons_self).set fun d e => by cases e; exact p.nvt.2 (w, d2) (List.mem_cons_of_mem _ List.mem_cons_self))
        exact Kp.trans (ws := [i]) (ws' := [j]) .set .set
    · cases h
  · cases h⟩
def sIf (c : MT) (m1 m2 : MS) : MS := fun σ => match c σ with
  | some (true, σ1) => m1 σ1
  | some (false, σ1) => m2 σ1
  | none => none
theorem ss_if {ec : Expr} {sa sb : List Stmt} {tc : MT} (hc : ST true X ec tc) (ha : SSs X sa w1 s1) (hb : SSs X sb w2 s2) : SS X (.If ec sa sb pos) (w1 ++ w2) (sIf tc s1 s2) := ⟨fun {ρ H σ T f σ' E} ok nv nt h F => by
  refine ps_sem (ps_if ptS pssS pssS) ?_
  unfold sIf at h
  split at h
  · rename_i σ1 h1
    refine semT_mono (hc.run ok (cdT nv nt) h1) fun v H1 ⟨e, p⟩ => ?_
    subst e
    exact iteT (ha.run p.ok p.nvt.1 p.nvt.2 h (F.kp (w1 := []) .refl fun j m => List.mem_append_left _ (by simpa using m)))
  · rename_i σ1 h1
    refine semT_mono (hc.run ok (cdT nv nt) h1) fun v H1 ⟨e, p⟩ => ?_
    subst e
    exact iteF (hb.run p.ok p.nvt.1 p.nvt.2 h (F.kp (w1 := []) .refl fun j m => List.mem_append_right _ (by simpa using m)))
  · cases h⟩
def sRet (m : M) : MS := fun σ => match m σ with
  | some (d, σ1) => some (.rt d, σ1)
  | none => none
theorem ss_ret (he : SE true X e1 a) : SS X (.Return (some e1) pos) [] (sRet a) := ⟨fun {ρ H σ T f σ' E} ok nv nt h F => by
  unfold sRet at h
  split at h
  · rename_i d σ1 h1
    cases h
    exact ps_sem (ps_ret peS) (semE_mono (he.run ok (cdT nv nt) h1) fun v H' p => F v ρ H' .refl p.ok p.nvt.1 p.nvt.2.head)
  · cases h⟩
def sRetN : MS := fun σ => some (.rt .non, σ)
theorem ss_retN : SS X (.Return none pos) [] sRetN := ⟨fun {ρ H σ T f σ' E} ok nv nt h F => by
  cases h
  exact ps_sem ps_retN (F .non ρ H .refl ⟨ok.len, ok.al, World.non ok.w⟩ nv rfl)⟩
def sBreak : MS := fun σ => some (.bk, σ)
def sCont : MS := fun σ => some (.ct, σ)
theorem ss_break : SS X (.Break pos) [] sBreak := ⟨fun {ρ H σ T f σ' E} ok nv nt h F => by
  cases h
  exact ps_sem ps_break (F ρ H .refl ok nv)⟩
theorem ss_cont : SS X (.Continue pos) [] sCont := ⟨fun {ρ H σ T f σ' E} ok nv nt h F => by
  cases h
  exact ps_sem ps_continue (F ρ H .refl ok nv)⟩
theorem ss_pass : SS X (.Pass pos) [] sNil := ⟨fun {ρ H σ T f σ' E} ok nv nt h F => by
  cases h
  exact ps_sem ps_pass (F ρ H .refl ok nv)⟩
theorem ss_doc {x : Str} {j : Nat} {p p' : Pos} : SS X (.Expr (.Constant (.str x) j p) p') [] sNil := ⟨fun {ρ H σ T f σ' E} ok nv nt h F => by
  cases h
  exact ps_sem ps_doc (F ρ H .refl ok nv)⟩
/-- name op= e: ints -/
def sAug (i : Nat) (f : D → D → Option D) (m : M) : MS := fun σ => match σ[i]? with
  | some (some (.int x)) => (match m σ with
    | some (d, σ1) => (match f (.int x) d with
      | some z => if i < σ1.length then some (.nx, σ1.set i (some z)) else none
      | none => none)
    | none => none)
  | _ => none
theorem ss_aug {i : Nat} {x : Str} {op : Operator} {g : Int → Int → Int} {f : D → D → Option D} {pos' : Pos} (hN : X.N.Nodup) (he : SE true X e1 a) (ho : PIp X op (ipI g)) (hf' : f = kI fun i j => some (.int (g i j)) := by rfl) (hi : X.N[i]? = some x := by rfl) (hx : Loc X.env.scope x := by first | exact Or.inl rfl | exact Or.inr rfl) (hf : X.fn x = true ∨ X.env.scope.names.lookup x = some .local := by first | exact .inl rfl | exact .inr rfl | assumption) :
    SS X (.AugAssign (.Name x pos') op e1 pos) [i] (sAug i f a) := ⟨fun {ρ H σ T fo σ' E} ok nv nt h F => by
  subst hf'
  unfold sAug at h
  split at h
  · rename_i n hx0
    split at h
    · rename_i d σ1 h1
      split at h
      · rename_i z hz
        split at h
        · rename_i hl
          cases h
          obtain ⟨v, hv, ok1⟩ := ok.take hx0
          have ev := World.int_of (L := T ++ sl ρ (σ.set i none)) ok1.w
          subst ev
          refine ps_sem (ps_aug hN hi hx peS ho hf) ⟨.int n, hv, semE_mono (he.run ok (cdT nv nt) h1) fun v H' p => ?_⟩
          cases d <;> simp only [kI] at hz <;> cases hz
          rename_i m
          have ev := World.int_of (L := T ++ sl ρ σ1) p.ok.w
          subst ev
          refine ⟨n, m, rfl, rfl, F _ H' .set (Ok.put ⟨p.ok.len, p.ok.al, World.int _ p.ok.tail.w⟩ hl) (p.nvt.1.set fun d e => by cases e; rfl)⟩
        · cases h
      · cases h
    · cases h
  · cases h⟩
/-! ### while -/
def sWhile (c : MT) (m : MS) : Nat → MS
  | 0 => fun _ => none
  | n + 1 => fun σ => match c σ with
    | some (false, σ1) => some (.nx, σ1)
    | some (true, σ1) => (match m σ1 with
      | some (.nx, σ2) => sWhile c m n σ2
      | some (.ct, σ2) => sWhile c m n σ2
      | some (.bk, σ2) => some (.nx, σ2)
      | some (.rt d, σ2) => some (.rt d, σ2)
      | none => none)
    | none => none
theorem ss_while {ec : Expr} {body : List Stmt} {tc : MT} {n : Nat} (hp : PassesOwn (model X.prog X.w) X.A X.env X.xe) (hc : ST true X ec tc) (hb : SSs X body ws s1) : SS X (.While ec body [] pos) ws (sWhile tc s1 n) := ⟨fun {ρ H σ T f σ' E} ok nv nt h F => by
  refine ps_sem (ps_while hp ptS pssS) ?_
  refine ⟨fun m ρ' H' => ∃ σ1, Kp ws ρ ρ' ∧ Ok X.K H' ρ' σ1 T ∧ NV σ1 ∧ sWhile tc s1 m σ1 = some (f, σ'), ⟨n, σ, .refl, ok, nv, h⟩, ?_⟩
  rintro m ρ1 H1 ⟨σ1, k1, ok1, nv1, h1⟩
  cases m with
  | zero => cases h1
  | succ m =>
    simp only [sWhile] at h1
    split at h1
    · rename_i σ2 h2
      cases h1
      refine semT_mono (hc.run ok1 (cdT nv1 nt) h2) fun v H2 ⟨e, p⟩ => ?_
      subst e
      exact iteF (F ρ1 H2 k1 p.ok p.nvt.1)
    · rename_i σ2 h2
      refine semT_mono (hc.run ok1 (cdT nv1 nt) h2) fun v H2 ⟨e, p⟩ => ?_
      subst e
      refine iteT ⟨fun ρ' H' => ∃ σ1, Kp ws ρ ρ' ∧ Ok X.K H' ρ' σ1 T ∧ NV σ1 ∧ sWhile tc s1 m σ1 = some (f, σ'), fun ρ' H' q => ⟨m, Nat.lt_succ_self _, q⟩, ?_⟩
      split at h1
      · rename_i σ3 h3
        exact hb.run (f := .nx) p.ok p.nvt.1 nt h3 fun ρ' H' k' ok' nv' => ⟨σ3, k1.same k', ok', nv', h1⟩
      · rename_i σ3 h3
        exact hb.run (f := .ct) p.ok p.nvt.1 nt h3 fun ρ' H' k' ok' nv' => ⟨σ3, k1.same k', ok', nv', h1⟩
      · rename_i σ3 h3
        cases h1
        exact hb.run (f := .bk) p.ok p.nvt.1 nt h3 fun ρ' H' k' ok' nv' => F ρ' H' (k1.same k') ok' nv'
      · rename_i d σ3 h3
        cases h1
        exact hb.run (f := .rt d) p.ok p.nvt.1 nt h3 fun v ρ' H' k' ok' nv' => F v ρ' H' (k1.same k') ok' nv'
      · cases h1
    · cases h1⟩
/-! ### for -/
def sEach (g : MG) (m : MS) : List D → MS
  | [] => fun σ => some (.nx, σ)
  | d :: r => fun σ => match g d σ with
    | some σ1 => (match m σ1 with
      | some (.nx, σ2) => sEach g m r σ2
      | some (.ct, σ2) => sEach g m r σ2
      | some (.bk, σ2) => some (.nx, σ2)
      | some (.rt d, σ2) => some (.rt d, σ2)
      | none => none)
    | none => none
def sFor (bk : Option Nat) (mi : MI) (g : MG) (m : MS) : MS := fun σ => match mi σ with
  | some (ds, o, σ1) => (match sEach g m ds σ1 with
    | some (f, σ2) => some (f, gB bk o σ2)
    | none => none)
  | none => none
theorem Ok.drops {K : PySem.W.Frag} {H : Hp} {ρ : L2.St} {σ : Sg} {T : List (V × D)} : ∀ {hold : List (V × D)}, Ok K H ρ σ (hold ++ T) → Ok K H ρ σ T
  | [], ok => ok
  | _ :: _, ok => Ok.drops ok.tail
theorem NT.drops {T : List (V × D)} {hold : List (V × D)} (h : NT (hold ++ T)) : NT T := fun p m => h p (List.mem_append_right _ m)
/-- what was held comes back -/
theorem ok_gB {K : PySem.W.Frag} {H : Hp} {ρ ρ0 : L2.St} {σ : Sg} {hold T : List (V × D)} {bk : Option Nat} {o : Option D} {ws : List Nat} (ok : Ok K H ρ σ (hold ++ T)) (nv : NV σ) (nt : NT (hold ++ T)) (hb : Back ρ0 hold bk o) (k : Kp ws ρ0 ρ) (hw : ∀ i, bk = some i → i ∉ ws) : Ok K H ρ (gB bk o σ) T ∧ NV (gB bk o σ) := by
  match bk, o, hb with
  | some i, some d, hb =>
    obtain ⟨v, rfl, hv⟩ := hb
    have hv2 : ρ[i]? = some (some v) := by rw [k.keep i (hw i rfl)]; exact hv
    exact ⟨Ok.back ok hv2, nv.set fun d' e => by cases e; exact nt.head⟩
  | some i, none, _ => exact ⟨ok.drops, nv⟩
  | none, _, _ => exact ⟨ok.drops, nv⟩
theorem ss_for {tg iter : Expr} {body : List Stmt} {bk : Option Nat} {mi : MI} {g : MG} (hp : PassesOwn (model X.prog X.w) X.A X.env X.xe) (hc : X.calm = true) (hi : SI true X tg iter bk mi) (hg : SG X tg w1 g) (hb : SSs X body w2 s1) (hw : ∀ i, bk = some i → i ∉ w1 ++ w2 := by first | exact fun i e => nomatch e | decide) (hs : ∀ x, foldedSetIterable iter X.env x = pure x := by intro _; rfl) :
    SS X (.For tg iter body [] pos) (w1 ++ w2) (sFor bk mi g s1) := ⟨fun {ρ H σ T f σ' E} ok nv nt h F => by
  refine ps_sem (ps_for hp hc piS pgS pssS hs) ?_
  unfold sFor at h
  split at h
  · rename_i ds o σ1 h1
    split at h
    · rename_i fo σe he
      cases h
      refine hi.run ok (cdT nv nt) h1 fun J hold H1 y nd bck p => ?_
      refine ⟨fun i m ρ' H' => m = ds.length - i ∧ i ≤ ds.length ∧ ∃ σ2, Kp (w1 ++ w2) ρ ρ' ∧ Ok X.K H' ρ' σ2 (hold ++ T) ∧ NV σ2 ∧ sEach g s1 (ds.drop i) σ2 = some (f, σe), ⟨ds.length, rfl, Nat.zero_le _, σ1, .refl, p.ok, p.nvt.1, he⟩, ?_⟩
      rintro i m ρ2 H2 ⟨rfl, hil, σ2, k2, ok2, nv2, h2⟩
      have w : World X.K H2 (hold ++ (T ++ sl ρ2 σ2)) := by have q := ok2.w; rw [List.append_assoc] at q; exact q
      by_cases hlt : i < ds.length
      · have hd : ds[i]? = some ds[i] := List.getElem?_eq_getElem hlt
        rw [List.drop_eq_getElem_cons hlt] at h2
        simp only [sEach] at h2
        refine .inr ⟨y.go w hd, fun ρ' H' => i + 1 ≤ ds.length ∧ ∃ σ2, Kp (w1 ++ w2) ρ ρ' ∧ Ok X.K H' ρ' σ2 (hold ++ T) ∧ NV σ2 ∧ sEach g s1 (ds.drop (i + 1)) σ2 = some (f, σe), fun ρ' H' q => ⟨ds.length - (i + 1), by omega, rfl, q⟩, fun x H3 hy => ?_⟩
        have w3 := y.yld w hd hy
        have ok3 : Ok X.K H3 ρ2 σ2 ((x, ds[i]) :: (hold ++ T)) := ⟨ok2.len, ok2.al, by show World X.K H3 ((x, ds[i]) :: ((hold ++ T) ++ sl ρ2 σ2)); rw [List.append_assoc]; exact w3⟩
        have nd3 : (ds[i]).noVw = true := noVws_mem (nd rfl) (List.getElem_mem hlt)
        split at h2
        · rename_i σ4 h4
          refine hg.run ok3 nv2 (p.nvt.2.cons nd3) h4 fun ρ4 H4 k4 ok4 nv4 => ?_
          split at h2
          · rename_i σ5 h5
            exact hb.run (f := .nx) ok4 nv4 p.nvt.2 h5 fun ρ5 H5 k5 ok5 nv5 => ⟨hlt, σ5, k2.same (k4.trans k5), ok5, nv5, h2⟩
          · rename_i σ5 h5
            exact hb.run (f := .ct) ok4 nv4 p.nvt.2 h5 fun ρ5 H5 k5 ok5 nv5 => ⟨hlt, σ5, k2.same (k4.trans k5), ok5, nv5, h2⟩
          · rename_i σ5 h5
            cases h2
            refine hb.run (f := .bk) ok4 nv4 p.nvt.2 h5 fun ρ5 H5 k5 ok5 nv5 => ?_
            obtain ⟨okb, nvb⟩ := ok_gB ok5 nv5 p.nvt.2 bck (k2.same (k4.trans k5)) hw
            exact F ρ5 H5 (k2.same (k4.trans k5)) okb nvb
          · rename_i d σ5 h5
            cases h2
            refine hb.run (f := .rt d) ok4 nv4 p.nvt.2 h5 fun v ρ5 H5 k5 ok5 nv5 nd5 => ?_
            have ok6 : Ok X.K H5 ρ5 σe (hold ++ ((v, d) :: T)) := Ok.temps (T := (v, d) :: (hold ++ T)) ok5 fun L w => w.perm ((List.perm_middle (l₁ := hold) (l₂ := T) (a := (v, d))).symm.append_right L)
            have nt6 : NT (hold ++ ((v, d) :: T)) := fun q m => by
              rcases List.mem_append.mp m with m | m
              · exact p.nvt.2 q (List.mem_append_left _ m)
              · rcases List.mem_cons.mp m with e | m
                · rw [e]; exact nd5
                · exact p.nvt.2 q (List.mem_append_right _ m)
            obtain ⟨okb, nvb⟩ := ok_gB ok6 nv5 nt6 bck (k2.same (k4.trans k5)) hw
            exact F v ρ5 H5 (k2.same (k4.trans k5)) okb nvb nd5
          · cases h2
        · cases h2
      · have e : i = ds.length := by omega
        subst e
        rw [List.drop_length] at h2
        cases h2
        obtain ⟨okb, nvb⟩ := ok_gB ok2 nv2 p.nvt.2 bck k2 hw
        exact .inl ⟨y.stop w (Nat.le_refl _), F ρ2 H2 k2 okb nvb⟩
    · cases h
  · cases h⟩
end
end Py
/-! Layer «Py», part I: lists changed by place, along paths. -/
namespace Py
open PySem PySem.Spec PyProof.Rows L2

def dAt : D → List Nat → Option D
  | d, [] => some d
  | .lst .own xs, j :: js => (match xs[j]? with
    | some x => dAt x js
    | none => none)
  | _, _ :: _ => none
def dPut : D → List Nat → D → D
  | _, [], e => e
  | .lst .own xs, j :: js, e => (match xs[j]? with
    | some x => .lst .own (xs.set j (dPut x js e))
    | none => .lst .own xs)
  | d, _ :: _, _ => d
def Walk (H : Hp) : V → List Nat → V → Prop
  | v, [], w => w = v
  | v, j :: js, w => ∃ a vs v', v = .ref a ∧ H a = some (.lst vs) ∧ vs[j]? = some v' ∧ Walk H v' js w
theorem Walk.same {H H' : Hp} (hs : Same H H') : ∀ {js : List Nat} {v w : V}, Walk H v js w → Walk H' v js w
  | [], _, _, h => h
  | j :: js, _, _, h => by
    obtain ⟨a, vs, v', e, h1, h2, h3⟩ := h
    exact ⟨a, vs, v', e, hs _ _ h1, h2, Walk.same hs h3⟩
theorem Walk.snoc {H : Hp} {j : Nat} {a : Addr} {vs : List V} {w' : V} (ha : H a = some (.lst vs)) (hj : vs[j]? = some w') : ∀ {js : List Nat} {v : V}, Walk H v js (.ref a) → Walk H v (js ++ [j]) w'
  | [], v, h => ⟨a, vs, w', h.symm, ha, hj, rfl⟩
  | i :: js, v, h => by
    obtain ⟨b, ws, v', e, h1, h2, h3⟩ := h
    exact ⟨b, ws, v', e, h1, h2, Walk.snoc ha hj h3⟩
section
variable {K : PySem.W.Frag} {Z : Addr → Prop} {H : Hp} {L : List (V × D)}
theorem Rep.ownInv {v : V} {xs : List D} {fp : List Addr} (r : Rep K Z H v (.lst .own xs) fp) : ∃ a vs f, v = .ref a ∧ fp = a :: f ∧ H a = some (.lst vs) ∧ Reps K Z H vs xs f := by
  cases r with
  | own h r => exact ⟨_, _, _, rfl, rfl, h, r⟩
theorem Rep.walkAt : ∀ {js : List Nat} {v w : V} {d : D} {xs : List D} {fp : List Addr}, Rep K Z H v d fp → dAt d js = some (.lst .own xs) → Walk H v js w → ∃ p vs, w = .ref p ∧ H p = some (.lst vs) ∧ vs.length = xs.length
  | [], v, w, d, xs, fp, r, h, hw => by
    cases h
    obtain ⟨a, vs, f, rfl, _, h1, r1⟩ := r.ownInv
    exact ⟨a, vs, hw, h1, r1.length⟩
  | j :: js, v, w, d, xs, fp, r, h, hw => by
    match d, h, r with
    | .lst .own ds, h, r =>
      simp only [dAt] at h
      split at h
      · rename_i x hx
        obtain ⟨a, vs, f, rfl, _, h1, r1⟩ := r.ownInv
        obtain ⟨b, ws, v', e, h2, h3, h4⟩ := hw
        cases e
        rw [h1] at h2
        cases h2
        obtain ⟨v'', g, q1, q2, _⟩ := r1.get hx
        rw [h3] at q1
        cases q1
        exact Rep.walkAt q2 h h4
      · cases h
/-- one item's object is written; the others stay -/
theorem Reps.pathAt : ∀ {ds : List D} {vs : List V} {fp : List Addr} {j : Nat} {x : D}, Reps K Z H vs ds fp → noVws ds = true → fp.Nodup → ds[j]? = some x →
    ∃ v pre f post, vs[j]? = some v ∧ Rep K Z H v x f ∧ fp = pre ++ f ++ post ∧
      (∀ {p : Addr} {ys : List V} {o : HO} {d' : D} {f' : List Addr}, p ∈ f → H p = some (.lst ys) → ¬ Z p → Rep K Z (upd H p o) v d' f' → Reps K Z (upd H p o) vs (ds.set j d') (pre ++ f' ++ post))
  | [], _, _, _, _, _, _, _, h => by simp at h
  | d :: ds, _, _, 0, x, r, nv, nd, h => by
    obtain ⟨v, vr, f1, f2, rfl, rfl, r1, t⟩ := r.inv_cons
    have e := Option.some.inj h
    subst e
    simp only [noVws, Bool.and_eq_true] at nv
    refine ⟨v, [], f1, f2, rfl, r1, rfl, fun {p ys o d' f'} m hp nz r' => ?_⟩
    have np : p ∉ f2 := fun m2 => (List.nodup_append.mp nd).2.2 p m p m2 rfl
    exact .cons r' (t.write hp nz np nv.2)
  | d :: ds, _, _, j + 1, x, r, nv, nd, h => by
    obtain ⟨v, vr, f1, f2, rfl, rfl, r1, t⟩ := r.inv_cons
    simp only [noVws, Bool.and_eq_true] at nv
    obtain ⟨n1, n2, n3⟩ := List.nodup_append.mp nd
    obtain ⟨w, pre, f, post, h1, h2, rfl, h4⟩ := t.pathAt nv.2 n2 (j := j) h
    refine ⟨w, f1 ++ pre, f, post, h1, h2, by simp [List.append_assoc], fun {p ys o d' f'} m hp nz r' => ?_⟩
    have np : p ∉ f1 := fun m1 => n3 p m1 p (List.mem_append_left _ (List.mem_append_right _ m)) rfl
    have z := Reps.cons (r1.write hp nz np nv.1) (h4 m hp nz r')
    simpa [List.append_assoc] using z
theorem Rep.path : ∀ {js : List Nat} {v : V} {d : D} {xs : List D} {fp : List Addr} {p : Addr}, Rep K Z H v d fp → d.noVw = true → fp.Nodup → (∀ a ∈ fp, ¬ Z a) → dAt d js = some (.lst .own xs) → Walk H v js (.ref p) →
    ∃ vs pre f post, fp = pre ++ (p :: f) ++ post ∧ H p = some (.lst vs) ∧ Reps K Z H vs xs f ∧
      ∀ (vs' : List V) (xs' : List D) (h : List Addr), Reps K Z (upd H p (.lst vs')) vs' xs' h → Rep K Z (upd H p (.lst vs')) v (dPut d js (.lst .own xs')) (pre ++ (p :: h) ++ post)
  | [], v, d, xs, fp, p, r, nv, nd, nz, h, hw => by
    cases h
    obtain ⟨a, vs, f, rfl, rfl, h1, r1⟩ := r.ownInv
    have e : p = a := by cases hw; rfl
    subst e
    exact ⟨vs, [], f, [], by simp, h1, r1, fun vs' xs' h q => by simpa [dPut] using Rep.own upd_same q⟩
  | j :: js, v, d, xs, fp, p, r, nv, nd, nz, h, hw => by
    match d, h, r, nv with
    | .lst .own ds, h, r, nv =>
      simp only [dAt] at h
      split at h
      · rename_i x hx
        obtain ⟨a, vs, f, rfl, rfl, h1, r1⟩ := r.ownInv
        obtain ⟨b, ws, v', e, h2, h3, h4⟩ := hw
        cases e
        rw [h1] at h2
        cases h2
        obtain ⟨na, nd'⟩ := List.nodup_cons.mp nd
        have nvx : x.noVw = true := noVws_mem (xs := ds) nv (List.mem_of_getElem? hx)
        obtain ⟨v1, pre, f0, post, k1, k2, k3, k4⟩ := r1.pathAt nv nd' hx
        rw [h3] at k1
        cases k1
        have ndf : f0.Nodup := by
          rw [k3] at nd'
          exact (nd'.sublist (by simpa [List.append_assoc] using (List.sublist_append_left f0 post).trans (List.sublist_append_right pre _)))
        have nz0 : ∀ a ∈ f0, ¬ Z a := fun a m => nz a (List.mem_cons_of_mem _ (by rw [k3]; exact List.mem_append_left _ (List.mem_append_right _ m)))
        obtain ⟨vs1, pr, ff, po, e1, e2, e3, e4⟩ := k2.path nvx ndf nz0 h h4
        have pm : p ∈ f0 := by rw [e1]; simp
        have nap : a ≠ p := fun e => na (by rw [k3, e]; exact List.mem_append_left _ (List.mem_append_right _ pm))
        refine ⟨vs1, a :: (pre ++ pr), ff, po ++ post, by rw [k3, e1]; simp [List.append_assoc], e2, e3, fun vs' xs' h' q => ?_⟩
        have rx := k4 pm e2 (nz0 p pm) (e4 vs' xs' h' q)
        have z := Rep.own (a := a) (by rw [upd_ne nap]; exact h1) rx
        simp only [dPut, hx]
        simpa [List.append_assoc] using z
      · cases h
theorem World.putPath {v : V} {d : D} {js : List Nat} {xs : List D} {ws : List V} {es : List D} {p : Addr} (hl : ws.length = es.length) (nd : d.noVw = true) (ne : noVws es = true) (nL : ∀ q ∈ L, q.2.noVw = true) (hd : dAt d js = some (.lst .own xs)) (hw : Walk H v js (.ref p)) :
    World K H ((v, d) :: (ws.zip es ++ L)) → ∃ vs, H p = some (.lst vs) ∧ vs.length = xs.length ∧
      ∀ (vs' : List V) (xs' : List D), noVws xs' = true → (∀ (Z : Addr → Prop) (f g : List Addr), Reps K Z H vs xs f → Reps K Z H ws es g → (f ++ g).Nodup → ∃ h, Reps K Z H vs' xs' h ∧ h.Nodup ∧ ∀ b ∈ h, b ∈ f ++ g) →
        World K (upd H p (.lst vs')) ((v, dPut d js (.lst .own xs')) :: L) := fun ⟨Z, fp, w, ndp, nz, zt⟩ => by
  obtain ⟨f1, f2, rfl, r, t⟩ := w.inv
  obtain ⟨g1, g2, rfl, q, t⟩ := t.items hl
  obtain ⟨n1, n2, n3⟩ := List.nodup_append.mp ndp
  obtain ⟨vs, pre, f, post, rfl, hp, rv, hput⟩ := r.path nd n1 (fun a m => nz a (List.mem_append_left _ m)) hd hw
  refine ⟨vs, hp, rv.length, fun vs' xs' nv hr => ?_⟩
  have pin : p ∈ pre ++ (p :: f) ++ post := by simp
  have zp : ¬ Z p := nz p (List.mem_append_left _ pin)
  obtain ⟨m1, m2, m3⟩ := List.nodup_append.mp n2
  have ndpf : (p :: f).Nodup := n1.sublist (by simpa [List.append_assoc] using (List.sublist_append_left (p :: f) post).trans (List.sublist_append_right pre _))
  obtain ⟨npf, ndf⟩ := List.nodup_cons.mp ndpf
  have fin : ∀ a ∈ f, a ∈ pre ++ (p :: f) ++ post := fun a m => List.mem_append_left _ (List.mem_append_right _ (List.mem_cons_of_mem _ m))
  have ndfg : (f ++ g1).Nodup := List.nodup_append.mpr ⟨ndf, m1, fun a ha b hb => n3 a (fin a ha) b (List.mem_append_left _ hb)⟩
  obtain ⟨h, rh, ndh, sub⟩ := hr Z f g1 rv q ndfg
  have pg1 : p ∉ g1 := fun m => n3 p pin p (List.mem_append_left _ m) rfl
  have pg2 : p ∉ g2 := fun m => n3 p pin p (List.mem_append_right _ m) rfl
  have ph : p ∉ h := fun m => by
    rcases List.mem_append.mp (sub p m) with m | m
    · exact npf m
    · exact pg1 m
  have rput := hput vs' xs' h (rh.write hp zp ph nv)
  refine ⟨Z, (pre ++ (p :: h) ++ post) ++ g2, .cons rput (t.write hp zp pg2 nL), ?_, fun b m z => ?_, fun b z => ?_⟩
  · -- no address twice
    have a1 : (pre ++ (p :: f) ++ post).Nodup := n1
    obtain ⟨b1, b2, b3⟩ := List.nodup_append.mp a1
    obtain ⟨c1, c2, c3⟩ := List.nodup_append.mp b1
    have hin : ∀ b ∈ h, b ∈ f ∨ b ∈ g1 := fun b m => List.mem_append.mp (sub b m)
    have preh : ∀ a ∈ pre, ∀ b ∈ p :: h, a ≠ b := fun a ha b hb => by
      rcases List.mem_cons.mp hb with e | hb
      · subst e
        exact c3 a ha b List.mem_cons_self
      · rcases hin b hb with m | m
        · exact c3 a ha b (List.mem_cons_of_mem _ m)
        · exact n3 a (List.mem_append_left _ (List.mem_append_left _ ha)) b (List.mem_append_left _ m)
    have hpost : ∀ a ∈ p :: h, ∀ b ∈ post, a ≠ b := fun a ha b hb => by
      rcases List.mem_cons.mp ha with e | ha
      · subst e
        exact b3 a (List.mem_append_right _ List.mem_cons_self) b hb
      · rcases hin a ha with m | m
        · exact b3 a (List.mem_append_right _ (List.mem_cons_of_mem _ m)) b hb
        · exact fun e => n3 b (List.mem_append_right _ hb) a (List.mem_append_left _ m) e.symm
    refine List.nodup_append.mpr ⟨List.nodup_append.mpr ⟨List.nodup_append.mpr ⟨c1, List.nodup_cons.mpr ⟨ph, ndh⟩, preh⟩, b2, fun a ha b hb => ?_⟩, m2, fun a ha b hb => ?_⟩
    · rcases List.mem_append.mp ha with ha | ha
      · exact b3 a (List.mem_append_left _ ha) b hb
      · exact hpost a ha b hb
    · rcases List.mem_append.mp ha with ha | ha
      · rcases List.mem_append.mp ha with ha | ha
        · exact n3 a (List.mem_append_left _ (List.mem_append_left _ ha)) b (List.mem_append_right _ hb)
        · rcases List.mem_cons.mp ha with e | ha
          · subst e
            exact n3 a pin b (List.mem_append_right _ hb)
          · rcases hin a ha with m | m
            · exact n3 a (fin a m) b (List.mem_append_right _ hb)
            · exact m3 a m b hb
      · exact n3 a (List.mem_append_right _ ha) b (List.mem_append_right _ hb)
  · rcases List.mem_append.mp m with m | m
    · rcases List.mem_append.mp m with m | m
      · rcases List.mem_append.mp m with m | m
        · exact nz b (List.mem_append_left _ (List.mem_append_left _ (List.mem_append_left _ m))) z
        · rcases List.mem_cons.mp m with e | m
          · subst e
            exact zp z
          · rcases List.mem_append.mp (sub b m) with m | m
            · exact nz b (List.mem_append_left _ (fin b m)) z
            · exact nz b (List.mem_append_right _ (List.mem_append_left _ m)) z
      · exact nz b (List.mem_append_left _ (List.mem_append_right _ m)) z
    · exact nz b (List.mem_append_right _ (List.mem_append_right _ m)) z
  · by_cases e : b = p
    · subst e
      exact ⟨_, upd_same⟩
    · obtain ⟨o, q⟩ := zt b z
      exact ⟨o, by rw [upd_ne e]; exact q⟩
theorem World.walkAt {v w : V} {d : D} {js : List Nat} {xs : List D} (W : World K H ((v, d) :: L)) (hd : dAt d js = some (.lst .own xs)) (hw : Walk H v js w) : ∃ p vs, w = .ref p ∧ H p = some (.lst vs) ∧ vs.length = xs.length := by
  obtain ⟨_, r⟩ := W.repd
  exact r.walkAt hd hw
end
end Py
/-! Layer «Py», part J: stores to items, append, pop, op= upon items. -/
namespace Py
open PySem PySem.Spec PyProof.Rows L2
/-! ### meanings that leave the slots as they are -/
class KeepM (m : M) : Prop where
  keep : ∀ {σ : Sg} {d : D} {σ' : Sg}, m σ = some (d, σ') → σ' = σ
class KeepA (m : MA) : Prop where
  keep : ∀ {σ : Sg} {d : List D} {σ' : Sg}, m σ = some (d, σ') → σ' = σ
class KeepT (m : MT) : Prop where
  keep : ∀ {σ : Sg} {d : Bool} {σ' : Sg}, m σ = some (d, σ') → σ' = σ
instance {i : Nat} : KeepM (mVar i) := ⟨fun {σ d σ'} h => by unfold mVar at h; split at h <;> cases h; rfl⟩
instance {d : D} : KeepM (mC d) := ⟨fun h => by cases h; rfl⟩
instance {f : D → Option D} {a : M} [KeepM a] : KeepM (m1 f a) := ⟨fun {σ d σ'} h => by
  unfold m1 at h
  split at h
  · rename_i h1
    split at h
    · cases h
      exact KeepM.keep h1
    · cases h
  · cases h⟩
instance {f : D → D → Option D} {a b : M} [KeepM a] [KeepM b] : KeepM (m2 f a b) := ⟨fun {σ d σ'} h => by
  unfold m2 at h
  split at h
  · rename_i h1
    split at h
    · rename_i h2
      split at h
      · cases h
        exact (KeepM.keep h2).trans (KeepM.keep h1)
      · cases h
    · cases h
  · cases h⟩
instance : KeepA aNil := ⟨fun h => by cases h; rfl⟩
instance {a : M} {r : MA} [KeepM a] [KeepA r] : KeepA (aCons a r) := ⟨fun {σ d σ'} h => by
  unfold aCons at h
  split at h
  · rename_i h1
    split at h
    · rename_i h2
      cases h
      exact (KeepA.keep h2).trans (KeepM.keep h1)
    · cases h
  · cases h⟩
instance {f : List D → Option D} {r : MA} [KeepA r] : KeepM (mA f r) := ⟨fun {σ d σ'} h => by
  unfold mA at h
  split at h
  · rename_i h1
    split at h
    · cases h
      exact KeepA.keep h1
    · cases h
  · cases h⟩
instance {T : Ty} {a : M} [KeepM a] : KeepM (mIsa T a) := ⟨fun {σ d σ'} h => by
  unfold mIsa at h
  split at h
  · rename_i h1
    cases h
    exact KeepM.keep h1
  · cases h⟩
instance {a b : MT} [KeepT a] [KeepT b] : KeepT (tAndM a b) := ⟨fun {σ d σ'} h => by
  unfold tAndM at h
  split at h
  · rename_i h1
    exact (KeepT.keep h).trans (KeepT.keep h1)
  · rename_i h1
    cases h
    exact KeepT.keep h1
  · cases h⟩
instance {a b : MT} [KeepT a] [KeepT b] : KeepT (tOrM a b) := ⟨fun {σ d σ'} h => by
  unfold tOrM at h
  split at h
  · rename_i h1
    cases h
    exact KeepT.keep h1
  · rename_i h1
    exact (KeepT.keep h).trans (KeepT.keep h1)
  · cases h⟩
instance {a : MT} [KeepT a] : KeepT (tNotM a) := ⟨fun {σ d σ'} h => by
  unfold tNotM at h
  split at h
  · rename_i h1
    cases h
    exact KeepT.keep h1
  · cases h⟩
instance {a : M} [KeepM a] : KeepT (Py.tB a) := ⟨fun {σ d σ'} h => by
  unfold Py.tB at h
  split at h
  · rename_i h1
    cases h
    exact KeepM.keep h1
  · cases h⟩
instance {a : M} [KeepM a] : KeepT (tVal a) := ⟨fun {σ d σ'} h => by
  unfold tVal at h
  split at h
  · rename_i h1
    split at h
    · cases h
      exact KeepM.keep h1
    · cases h
  · cases h⟩
instance {c : MT} {a b : M} [KeepT c] [KeepM a] [KeepM b] : KeepM (mIf c a b) := ⟨fun {σ d σ'} h => by
  unfold mIf at h
  split at h
  · rename_i h1
    exact (KeepM.keep h).trans (KeepT.keep h1)
  · rename_i h1
    exact (KeepM.keep h).trans (KeepT.keep h1)
  · cases h⟩
/-- a pure int -/
def nInt (m : M) (σ : Sg) : Option Int := match m σ with
  | some (.int n, _) => some n
  | _ => none
/-- a path: the places from the slot's own list down -/
abbrev MP := Sg → Option (List Nat)
def pRoot (r : Nat) : MP := fun σ => match σ[r]? with
  | some (some _) => some []
  | _ => none
def pIx (r : Nat) (p : MP) (n : M) : MP := fun σ => match p σ with
  | some js => (match σ[r]? with
    | some (some d) => (match dAt d js with
      | some (.lst .own xs) => (match nInt n σ with
        | some i => (match ixN xs.length i with
          | some j => some (js ++ [j])
          | none => none)
        | none => none)
      | _ => none)
    | _ => none)
  | none => none
structure SPt (X : Cx) (e : Expr) (r : Nat) (mp : MP) : Prop where
  run : ∀ {ρ : L2.St} {H : Hp} {σ : Sg} {T : List (V × D)} {js : List Nat} {Q : VK}, Ok X.K H ρ σ T → mp σ = some js →
    (∀ w H', Same H H' → Ok X.K H' ρ σ T → (∀ v, ρ[r]? = some (some v) → Walk H' v js w) → Q w H') → semE X e ρ H Q
section
variable {X : Cx} {e1 e2 : Expr} {a c : M} {pos : Pos} {r : Nat} {mp : MP}
theorem int_run {m : M} [KeepM m] (h : SE false X e1 m) {ρ : L2.St} {H : Hp} {σ : Sg} {T : List (V × D)} {n : Int} {Q : VK} (ok : Ok X.K H ρ σ T) (e : nInt m σ = some n) (q : ∀ H', Same H H' → Ok X.K H' ρ σ T → Q (.int n) H') : semE X e1 ρ H Q := by
  unfold nInt at e
  split at e
  · rename_i h1
    cases e
    have k := KeepM.keep h1
    subst k
    refine semE_mono (h.run ok (fun z => nomatch z) h1) fun v H' p => ?_
    have ev := World.int_of (L := T ++ sl ρ _) p.ok.w
    subst ev
    exact q H' (p.sm rfl) p.ok.tail
  · cases e
theorem sp_name {x : Str} (hN : X.N[r]? = some x := by rfl) (hv : Vis X.env.scope x := by first | exact Or.inl rfl | exact Or.inr (Or.inl rfl) | exact Or.inr (Or.inr rfl)) (hd : (x == ("__debug__" : Str)) = false := by decide)
    (hcd : (x == ("__classdict__" : Str)) = false := by decide) : SPt X (.Name x pos) r (pRoot r) := ⟨fun {ρ H σ T js Q} ok h q => by
  unfold pRoot at h
  split at h
  · rename_i d hd0
    cases h
    obtain ⟨v, hv'⟩ := ok.al r d hd0
    exact pe_sem (pe_var hN hv hd hcd) ⟨v, hv', q v H (Same.refl _) ok fun v' e => by rw [hv'] at e; cases e; rfl⟩
  · cases h⟩
theorem Ok.walkAt {K : PySem.W.Frag} {H : Hp} {ρ : L2.St} {σ : Sg} {T : List (V × D)} {d : D} {v w : V} {js : List Nat} {xs : List D} (ok : Ok K H ρ σ T) (hσ : σ[r]? = some (some d)) (hρ : ρ[r]? = some (some v)) (hd : dAt d js = some (.lst .own xs)) (hw : Walk H v js w) : ∃ p vs, w = .ref p ∧ H p = some (.lst vs) ∧ vs.length = xs.length := by
  obtain ⟨v', e, ok'⟩ := ok.take hσ
  rw [hρ] at e
  cases e
  exact World.walkAt (L := T ++ sl ρ (σ.set r none)) ok'.w hd hw
theorem sp_ix [KeepM c] (hp : SPt X e1 r mp) (hc : SE false X e2 c) (hs : PlainIx e2 := by exact fun _ _ => rfl) : SPt X (.Subscript e1 e2 pos) r (pIx r mp c) := ⟨fun {ρ H σ T js Q} ok h q => by
  unfold pIx at h
  split at h
  · rename_i js0 h0
    split at h
    · rename_i d hd
      split at h
      · rename_i xs hx
        split at h
        · rename_i n hn
          split at h
          · rename_i j hj
            cases h
            refine pe_sem (pe_ix ix_list peS peS hs) ?_
            refine hp.run ok h0 fun w H1 s1 ok1 wk => ?_
            refine int_run hc ok1 hn fun H2 s2 ok2 => ?_
            obtain ⟨v, hv⟩ := ok.al r d hd
            obtain ⟨p, vs, rfl, hp2, hl⟩ := ok2.walkAt hd hv hx ((wk v hv).same s2)
            have hj2 : j < vs.length := by
              have := (ixN_seq hj).2.1
              omega
            refine ⟨p, vs, n, vs[j], rfl, rfl, .of hp2, ?_, q _ H2 (s1.trans s2) ok2 fun v' e => ?_⟩
            · unfold atI
              rw [hl, hj]
              exact List.getElem?_eq_getElem hj2
            · rw [hv] at e
              cases e
              exact Walk.snoc hp2 (List.getElem?_eq_getElem hj2) ((wk v hv).same s2)
          · cases h
        · cases h
      · cases h
    · cases h
  · cases h⟩
/-! ### what is put -/
mutual
theorem noVw_put : ∀ {d : D} {js : List Nat} {e : D}, d.noVw = true → e.noVw = true → (dPut d js e).noVw = true
  | d, [], e, _, he => he
  | .lst .own xs, j :: js, e, hd, he => by
    simp only [dPut]
    split
    · rename_i x hx
      exact noVws_set hd (noVw_put (noVws_mem (xs := xs) hd (List.mem_of_getElem? hx)) he) j
    · exact hd
  | .non, _ :: _, _, hd, _ => hd
  | .bl _, _ :: _, _, hd, _ => hd
  | .int _, _ :: _, _, hd, _ => hd
  | .str _, _ :: _, _, hd, _ => hd
  | .tup _, _ :: _, _, hd, _ => hd
  | .lst .frz _, _ :: _, _, hd, _ => hd
  | .lst .vw _, _ :: _, _, hd, _ => hd
  | .lst .scr _, _ :: _, _, hd, _ => hd
theorem noVws_set : ∀ {xs : List D} {d : D}, noVws xs = true → d.noVw = true → ∀ j : Nat, noVws (xs.set j d) = true
  | [], _, h, _, _ => h
  | x :: xs, d, h, hd, 0 => by
    simp only [noVws, List.set, Bool.and_eq_true] at h ⊢
    exact ⟨hd, h.2⟩
  | x :: xs, d, h, hd, j + 1 => by
    simp only [noVws, List.set, Bool.and_eq_true] at h ⊢
    exact ⟨h.1, noVws_set h.2 hd j⟩
end
theorem dAt_noVw : ∀ {js : List Nat} {d x : D}, d.noVw = true → dAt d js = some x → x.noVw = true
  | [], d, x, h, e => by cases e; exact h
  | j :: js, d, x, h, e => by
    match d, h, e with
    | .lst .own ds, h, e =>
      simp only [dAt] at e
      split at e
      · rename_i y hy
        exact dAt_noVw (noVws_mem (xs := ds) h (List.mem_of_getElem? hy)) e
      · cases e
/-- the list at a path of slot r, changed by f (which takes in the new items es) -/
def upAt (r : Nat) (js : List Nat) (f : List D → Option (List D)) (σ : Sg) : Option Sg := match σ[r]? with
  | some (some d) => (match dAt d js with
    | some (.lst .own xs) => (match f xs with
      | some xs' => some (σ.set r (some (dPut d js (.lst .own xs'))))
      | none => none)
    | _ => none)
  | _ => none
theorem upAt_run {K : PySem.W.Frag} {H : Hp} {ρ : L2.St} {σ σ' : Sg} {T : List (V × D)} {js : List Nat} {w : V} {ws : List V} {es : List D} {f : List D → Option (List D)} (hl : ws.length = es.length) (ok : Ok K H ρ σ (ws.zip es ++ T)) (nv : NV σ) (nt : NT (ws.zip es ++ T)) (wk : ∀ v, ρ[r]? = some (some v) → Walk H v js w) (h : upAt r js f σ = some σ')
    (hnv : ∀ xs xs', f xs = some xs' → noVws xs = true → noVws xs' = true) :
    ∃ p vs xs xs', w = .ref p ∧ H p = some (.lst vs) ∧ vs.length = xs.length ∧ f xs = some xs' ∧ NV σ' ∧
      ∀ vs', (∀ (Z : Addr → Prop) (g k : List Addr), Reps K Z H vs xs g → Reps K Z H ws es k → (g ++ k).Nodup → ∃ h, Reps K Z H vs' xs' h ∧ h.Nodup ∧ ∀ b ∈ h, b ∈ g ++ k) → Ok K (upd H p (.lst vs')) ρ σ' T := by
  unfold upAt at h
  split at h
  · rename_i d hd
    split at h
    · rename_i xs hx
      split at h
      · rename_i xs' hf
        cases h
        obtain ⟨v, hv⟩ := ok.al r d hd
        obtain ⟨p, vs, rfl, hp, hl2⟩ := ok.walkAt hd hv hx (wk v hv)
        obtain ⟨v', e, ok1⟩ := ok.take hd
        rw [hv] at e
        cases e
        have nd := nv r d hd
        have nx : noVws xs = true := dAt_noVw nd hx
        have nv1 : NV (σ.set r none) := nv.set fun _ e => nomatch e
        have nL : ∀ q ∈ T ++ sl ρ (σ.set r none), q.2.noVw = true := NT.all nv1 nt.drops
        have w1 : World K H ((v, d) :: (ws.zip es ++ (T ++ sl ρ (σ.set r none)))) := by
          have q := ok1.w
          rw [← List.append_assoc]
          exact q
        obtain ⟨vs2, hp2, hl3, hput⟩ := w1.putPath hl nd (nv_zip hl nt) nL hx (wk v hv)
        rw [hp] at hp2
        cases hp2
        have nx' := hnv xs xs' hf nx
        refine ⟨p, vs, xs, xs', rfl, hp, hl2, hf, nv.set fun d' e => by cases e; exact noVw_put nd nx', fun vs' hr => ?_⟩
        have w2 := hput vs' xs' nx' hr
        have ok2 : Ok K (upd H p (.lst vs')) ρ (σ.set r none) ((v, dPut d js (.lst .own xs')) :: T) := ⟨ok1.len, ok1.al, w2⟩
        have ok3 := Ok.back ok2 hv
        rw [List.set_set] at ok3
        exact ok3
      · cases h
    · cases h
  · cases h
/-! ### path[i] = .. -/
def gSubM (r : Nat) (mp : MP) (n : M) : MG := fun d σ => match mp σ with
  | some js => (match nInt n σ with
    | some i => upAt r js (fun xs => (ixN xs.length i).map fun j => xs.set j d) σ
    | none => none)
  | none => none
theorem nodup_sub {α : Type} {l m : List α} (h : l.Sublist m) (n : m.Nodup) : l.Nodup := n.sublist h
theorem rep_set {K : PySem.W.Frag} {Z : Addr → Prop} {H : Hp} {vs : List V} {xs : List D} {v : V} {d : D} {j : Nat} (hj : j < xs.length) {f g : List Addr} (rf : Reps K Z H vs xs f) (rg : Reps K Z H [v] [d] g) (nd : (f ++ g).Nodup) : ∃ h, Reps K Z H (vs.set j v) (xs.set j d) h ∧ h.Nodup ∧ ∀ b ∈ h, b ∈ f ++ g := by
  obtain ⟨v0, vr, g1, g2, e, rfl, rd, t⟩ := rg.inv_cons
  cases e
  obtain ⟨_, rfl⟩ := t.inv_nil
  obtain ⟨pre, old, post, rfl, r'⟩ := rf.setAt hj rd
  refine ⟨_, r', ?_, fun b m => ?_⟩
  · have p : List.Perm (pre ++ g1 ++ post) (pre ++ post ++ g1) := by
      rw [List.append_assoc, List.append_assoc]
      exact List.Perm.append_left _ List.perm_append_comm
    refine p.nodup_iff.mpr (nodup_sub ?_ nd)
    rw [List.append_nil]
    refine List.Sublist.append ?_ (List.Sublist.refl _)
    rw [List.append_assoc]
    exact List.Sublist.append (List.Sublist.refl _) (List.sublist_append_right _ _)
  · simp only [List.mem_append, List.append_nil] at m ⊢
    rcases m with (m | m) | m
    · exact .inl (.inl (.inl m))
    · exact .inr m
    · exact .inl (.inr m)
theorem sg_sub [KeepM c] (hp : SPt X e1 r mp) (hc : SE false X e2 c)
    (ha : ∀ v, assign (.Subscript e1 e2 pos) X.env v = (do
      let ov ← holding [v] (eval e1 X.env)
      let iv ← holding [v, ov] (eval e2 X.env)
      standAt pos
      holding [v, ov, iv] (setItem ov iv v)
      release [v, ov, iv] []) := by intro _; rfl) : SG X (.Subscript e1 e2 pos) [] (gSubM r mp c) := ⟨fun {ρ H σ T v d σ' Q} ok nv nt h q => by
  unfold gSubM at h
  split at h
  · rename_i js hjs
    split at h
    · rename_i i hi
      refine pg_sem (pg_sub peS peS set_list ha) ?_
      refine hp.run ok hjs fun w H1 s1 ok1 wk => ?_
      refine int_run hc ok1 hi fun H2 s2 ok2 => ?_
      have nd : d.noVw = true := nt.head
      obtain ⟨p, vs, xs, xs', rfl, hp2, hl, hf, nv', fin⟩ := upAt_run (T := T) (ws := [v]) (es := [d]) rfl ok2 nv nt (fun v' e => (wk v' e).same s2) h (fun xs xs' e n => by
        cases q : ixN xs.length i with
        | none => rw [q] at e; cases e
        | some j => rw [q] at e; cases e; exact noVws_set n nd j)
      cases q2 : ixN xs.length i with
      | none => rw [q2] at hf; cases hf
      | some j =>
        rw [q2] at hf
        cases hf
        refine ⟨p, vs, i, j, rfl, rfl, hp2, by rw [hl]; exact q2, q ρ _ .refl (fin (vs.set j v) fun Z f g rf rg nd => rep_set (ixN_seq q2).2.1 rf rg nd) nv'⟩
    · cases h
  · cases h⟩
/-! ### path.append(e) -/
def sApp (r : Nat) (m : M) : MS := fun σ => match m σ with
  | some (d, σ1) => (match upAt r [] (fun xs => if xs.length < 16777216 then some (xs ++ [d]) else none) σ1 with
    | some σ2 => some (.nx, σ2)
    | none => none)
  | none => none
def sAppN (r : Nat) (m : M) : MS := fun σ => match σ[r]? with
  | some (some (.lst .own _)) => sApp r m σ
  | _ => none
def sAppP (r : Nat) (mp : MP) (m : M) : MS := fun σ => match mp σ with
  | some js => (match m σ with
    | some (d, _) => if d.noVw = true then (match upAt r js (fun xs => if xs.length < 16777216 then some (xs ++ [d]) else none) σ with
        | some σ2 => some (.nx, σ2)
        | none => none) else none
    | none => none)
  | none => none
theorem app_nv {d : D} (nd : d.noVw = true) (xs xs' : List D) (e : (if xs.length < 16777216 then some (xs ++ [d]) else none) = some xs') (n : noVws xs = true) : noVws xs' = true := by
  split at e <;> cases e
  rw [noVws_append, n]
  simp [noVws, nd]
abbrev appE (e1 e2 : Expr) (apos cpos : Pos) : Expr := .Call (.Attribute e1 "append" apos) [e2] [] cpos
theorem pe_append {xs e : Expr} {tx te : TE} {apos cpos : Pos} (hx : PE X xs tx) (he : PE X e te) (hbase : attributeBase xs "append" X.env (eval xs X.env) = eval xs X.env := by rfl)
    (hfew : ((backTo cpos (starEach [e] X.env)).all (fun x => !x.1) && (backToKw cpos (keywordEach [] X.env)).all (fun x => x.1.isSome)
      && decide (([e] : List Expr).length + ([] : List Keyword).length + (if ([] : List Keyword).isEmpty then 0 else 1) < 30)) = true := by rfl)
    (hline : (apos.endLine == cpos.line) = true := by rfl) (hs : starEach [e] X.env = (false, eval e X.env) :: starEach [] X.env := by rfl) (hplain : (backTo cpos (starEach [] X.env)).any (·.1) = false := by rfl) :
    PE X (appE xs e apos cpos) (tBM X.K "list" rAppend tx (tCons te tNil)) :=
  pe_bm PySem.F.plainAttrs_list PySem.F.slot_list_append PySem.F.type_list_append mt_append hx (pa_cons he pa_nil hs) hbase hfew hline hs hplain
theorem ss_app {x : Str} {p0 apos cpos : Pos} (he : SE true X e2 a) (hN : X.N[r]? = some x := by rfl) (hv : Vis X.env.scope x := by first | exact Or.inl rfl | exact Or.inr (Or.inl rfl) | exact Or.inr (Or.inr rfl)) (hd : (x == ("__debug__" : Str)) = false := by decide)
    (hcd : (x == ("__classdict__" : Str)) = false := by decide) (hbase : attributeBase (.Name x p0) "append" X.env (eval (.Name x p0) X.env) = eval (.Name x p0) X.env := by rfl)
    (hfew : ((backTo cpos (starEach [e2] X.env)).all (fun x => !x.1) && (backToKw cpos (keywordEach [] X.env)).all (fun x => x.1.isSome)
      && decide (([e2] : List Expr).length + ([] : List Keyword).length + (if ([] : List Keyword).isEmpty then 0 else 1) < 30)) = true := by rfl)
    (hline : (apos.endLine == cpos.line) = true := by rfl) (hs : starEach [e2] X.env = (false, eval e2 X.env) :: starEach [] X.env := by rfl) (hplain : (backTo cpos (starEach [] X.env)).any (·.1) = false := by rfl)
    (hsw : swapsWith (appE (.Name x p0) e2 apos cpos) none pos.line X.env = pure false := by rfl) :
    SS X (.Expr (appE (.Name x p0) e2 apos cpos) pos) [] (sAppN r a) := ⟨fun {ρ H σ T f σ' E} ok nv nt h F => by
  unfold sAppN at h
  split at h
  · rename_i xs0 hr0
    unfold sApp at h
    split at h
    · rename_i d σ1 h1
      split at h
      · rename_i σ2 h2
        cases h
        refine ps_sem (ps_expr (pe_append (pe_var hN hv hd hcd) peS hbase hfew hline hs hplain) hsw) ?_
        obtain ⟨v, hv', ok0⟩ := ok.take hr0
        obtain ⟨p0, vs0, rfl, _, _, hp0, _⟩ := World.openL (L := T ++ sl ρ (σ.set r none)) ok0.w
        refine ⟨.ref p0, hv', .inl ⟨rfl, vs0, .of (hp0 (by decide))⟩, ?_⟩
        refine semE_mono (he.run ok (cdT nv nt) h1) fun w H1 p1 => ?_
        obtain ⟨p, vs, xs, xs', e, hp, hl, hf, nv', fin⟩ := upAt_run (T := T) (ws := [w]) (es := [d]) (w := .ref p0) rfl p1.ok p1.nvt.1 p1.nvt.2 (fun v' e => by rw [hv'] at e; cases e; rfl) h2 (app_nv p1.nvt.2.head)
        cases e
        split at hf <;> cases hf
        rename_i hz
        refine ⟨p0, vs, w, rfl, rfl, hp, by rw [hl, sizeLine_eq]; exact hz, ?_⟩
        exact F ρ _ .refl (fin (vs ++ [w]) fun Z f g rf rg nd => ⟨_, rf.append rg, nd, fun b m => m⟩) nv'
      · cases h
    · cases h
  · cases h⟩
theorem ss_appP {apos cpos : Pos} [KeepM c] (hp : SPt X e1 r mp) (he : SE false X e2 c) (hbase : attributeBase e1 "append" X.env (eval e1 X.env) = eval e1 X.env := by rfl)
    (hfew : ((backTo cpos (starEach [e2] X.env)).all (fun x => !x.1) && (backToKw cpos (keywordEach [] X.env)).all (fun x => x.1.isSome)
      && decide (([e2] : List Expr).length + ([] : List Keyword).length + (if ([] : List Keyword).isEmpty then 0 else 1) < 30)) = true := by rfl)
    (hline : (apos.endLine == cpos.line) = true := by rfl) (hs : starEach [e2] X.env = (false, eval e2 X.env) :: starEach [] X.env := by rfl) (hplain : (backTo cpos (starEach [] X.env)).any (·.1) = false := by rfl)
    (hsw : swapsWith (appE e1 e2 apos cpos) none pos.line X.env = pure false := by rfl) : SS X (.Expr (appE e1 e2 apos cpos) pos) [] (sAppP r mp c) := ⟨fun {ρ H σ T f σ' E} ok nv nt h F => by
  unfold sAppP at h
  split at h
  · rename_i js hjs
    split at h
    · rename_i d σ1 h1
      split at h
      · rename_i nd
        split at h
        · rename_i σ2 h2
          cases h
          refine ps_sem (ps_expr (pe_append peS peS hbase hfew hline hs hplain) hsw) ?_
          have k := KeepM.keep h1
          subst k
          refine hp.run ok hjs fun w H1 s1 ok1 wk => ?_
          -- what stands there
          have h2' := h2
          unfold upAt at h2'
          split at h2'
          · rename_i d0 hd0
            split at h2'
            · rename_i xs0 hx0
              obtain ⟨v0, hv0⟩ := ok.al r d0 hd0
              obtain ⟨p0, vs0, rfl, hp0, _⟩ := ok1.walkAt hd0 hv0 hx0 (wk v0 hv0)
              refine ⟨.inl ⟨rfl, vs0, .of hp0⟩, ?_⟩
              refine semE_mono (he.run ok1 (fun z => nomatch z) h1) fun u H2 p2 => ?_
              obtain ⟨p, vs, xs, xs', e, hp2, hl, hf, nv', fin⟩ := upAt_run (T := T) (ws := [u]) (es := [d]) (w := .ref p0) rfl p2.ok nv (nt.cons nd) (fun v' e => (wk v' e).same (p2.sm rfl)) h2 (app_nv nd)
              cases e
              split at hf <;> cases hf
              rename_i hz
              refine ⟨p0, vs, u, rfl, rfl, hp2, by rw [hl, sizeLine_eq]; exact hz, ?_⟩
              exact F ρ _ .refl (fin (vs ++ [u]) fun Z f g rf rg nd => ⟨_, rf.append rg, nd, fun b m => m⟩) nv'
            · cases h2'
          · cases h2'
        · cases h
      · cases h
    · cases h
  · cases h⟩
end
end Py
/-! Layer «Py», part K: defs and their calls. -/
namespace Py
open PySem PySem.Spec PyProof.Rows L2

abbrev Fn := List D → Option (D × Sg)
/-- what a def does: N names, the body's meaning -/
def fnD (N : Nat) (m : MS) : Fn := fun ds => match m (ds.map some ++ List.replicate (N - ds.length) none) with
  | some (.rt d, σ) => some (d, σ)
  | some (.nx, σ) => some (.non, σ)
  | _ => none
/-- the arguments' own places as the def leaves them (it does not store to their names) -/
def kept (ws : List Nat) : Nat → List V → Sg → List (V × D)
  | i, v :: vs, o :: σ => (if i ∈ ws then [] else match o with
    | some d => [(v, d)]
    | none => []) ++ kept ws (i + 1) vs σ
  | _, _, _ => []
def spOf (K : PySem.W.Frag) (n : Nat) (ws : List Nat) (fn : Fn) : Sp := fun vs H Q _ => vs.length = n ∧ ∃ ds T r σ', vs.length = ds.length ∧ World K H (vs.zip ds ++ T) ∧ NT (vs.zip ds ++ T) ∧ fn ds = some (r, σ') ∧
  ∀ v H', World K H' ((v, r) :: (kept ws 0 vs σ' ++ T)) → r.noVw = true → NV σ' → Q v H'
section
variable {K : PySem.W.Frag} {H : Hp}
theorem kept_sub {ws : List Nat} : ∀ {vs : List V} {σ : Sg} {ρ : L2.St} {i : Nat}, (∀ j, j < vs.length → i + j ∉ ws → ρ[j]? = (vs[j]?).map some) → (kept ws i vs σ).Sublist (sl ρ σ)
  | [], σ, ρ, i, _ => by simp [kept]
  | v :: vs, [], ρ, i, _ => by simp [kept]
  | v :: vs, o :: σ, ρ, i, h => by
    cases ρ with
    | nil =>
      -- every name is stored to
      have e : ∀ (vs : List V) (σ : Sg) (i : Nat), (∀ j, j < vs.length → i + j ∉ ws → ([] : L2.St)[j]? = (vs[j]?).map some) → kept ws i vs σ = [] := by
        intro vs
        induction vs with
        | nil => intro σ i _; simp [kept]
        | cons v vs ih =>
          intro σ i h
          cases σ with
          | nil => simp [kept]
          | cons o σ =>
            have hi : i ∈ ws := by
              by_cases q : i ∈ ws
              · exact q
              · have := h 0 (by simp) (by simpa using q)
                simp at this
            simp only [kept, if_pos hi, List.nil_append]
            refine ih σ (i + 1) fun j hj n => ?_
            have := h (j + 1) (by simpa using hj) (by rw [show i + (j + 1) = i + 1 + j by omega]; exact n)
            simpa using this
      rw [e _ _ _ h]
      simp
    | cons x ρ =>
      have ih := kept_sub (ws := ws) (vs := vs) (σ := σ) (ρ := ρ) (i := i + 1) fun j hj n => by
        have := h (j + 1) (by simpa using hj) (by rw [show i + (j + 1) = i + 1 + j by omega]; exact n)
        simpa using this
      by_cases hi : i ∈ ws
      · simp only [kept, if_pos hi, List.nil_append]
        cases x with
        | none => cases o <;> exact ih
        | some x => cases o with
          | none => exact ih
          | some d => exact ih.trans (List.sublist_cons_self _ _)
      · have e0 := h 0 (by simp) (by simpa using hi)
        have e : x = some v := by simpa using e0
        subst e
        simp only [kept, if_neg hi]
        cases o with
        | none => exact ih
        | some d => exact ih.cons_cons _
theorem start_get {N : List Str} {vs : List V} {j : Nat} (h : j < vs.length) : (L2.start N vs)[j]? = (vs[j]?).map some := by
  unfold L2.start
  rw [List.getElem?_append_left (by simpa using h), List.getElem?_map]
theorem sl_start : ∀ {vs : List V} {ds : List D} {k k' : Nat}, vs.length = ds.length → sl (vs.map some ++ List.replicate k none) (ds.map some ++ List.replicate k' none) = vs.zip ds
  | [], [], k, k', _ => by
    have e : ∀ (ρ : L2.St) (k' : Nat), sl ρ (List.replicate k' none) = [] := by
      intro ρ
      induction ρ with
      | nil => intro k'; cases k' <;> rfl
      | cons a ρ ih =>
        intro k'
        cases k' with
        | zero => cases a <;> rfl
        | succ k' => cases a <;> exact ih k'
    exact e _ _
  | [], _ :: _, _, _, h => by simp at h
  | _ :: _, [], _, _, h => by simp at h
  | v :: vs, d :: ds, k, k', h => congrArg ((v, d) :: ·) (sl_start (vs := vs) (ds := ds) (by simpa using h))
theorem ok_start {N : List Str} {vs : List V} {ds : List D} {T : List (V × D)} (hl : vs.length = ds.length) (w : World K H (vs.zip ds ++ T)) : Ok K H (L2.start N vs) (ds.map some ++ List.replicate (N.length - ds.length) none) T where
  len := by unfold L2.start; simp [hl]
  al := fun i d h => by
    have hi : i < ds.length := by
      by_cases q : i < ds.length
      · exact q
      · rw [List.getElem?_append_right (by simpa using q)] at h
        simp [List.getElem?_replicate] at h
    have hv : i < vs.length := by omega
    exact ⟨vs[i], by rw [start_get hv, List.getElem?_eq_getElem hv]; rfl⟩
  w := by
    unfold L2.start
    rw [sl_start hl]
    exact w.perm List.perm_append_comm
theorem nv_start {ds : List D} (h : noVws ds = true) (k : Nat) : NV (ds.map some ++ List.replicate k none) := fun i d e => by
  by_cases q : i < ds.length
  · rw [List.getElem?_append_left (by simpa using q), List.getElem?_map, List.getElem?_eq_getElem q] at e
    cases e
    exact noVws_mem h (List.getElem_mem q)
  · rw [List.getElem?_append_right (by simpa using q)] at e
    simp [List.getElem?_replicate] at e
theorem nv_zip0 {vs : List V} {ds : List D} {T : List (V × D)} (hl : vs.length = ds.length) (t : NT (vs.zip ds ++ T)) : noVws ds = true := nv_zip hl t
end
section
variable {P : Program} {w : PySem.World} {K : PySem.W.Frag} {mg : Str → Option Value} {base : Heap} {x qual : Str} {params : Arguments} {body : List Stmt} {scope : Scope} {f : Addr} {fd : FuncData}
/-- a def keeps the promise that it does what its body means -/
theorem fn_ok {N ps : List Str} {k : Nat} {ws : List Nat} {m : MS} (F : FunD K x qual params body scope [] [] f fd) (S : FnScope N ps scope)
    (hb : ∀ (cdv : Value) (A : Around) (outer : List Env) (s : Shared) (H : Hp) (E : XK), Room k (A.deeper (envOfC qual scope s.heap.objs.size f cdv)) → SSs (cxOf CX0 P w K mg base N qual scope f cdv A outer s H E).nox body ws m) :
    FnOk P w K mg base CX0 (k + 1) f fd ps (spOf K ps.length ws (fnD N.length m)) := by
  refine F.ok S (fun vs H Q E h => h.1) (fun cdv A outer s H vs Q E hr h => ⟨_, PSs.nox pssS, ?_⟩)
  obtain ⟨hn, ds, T, r, σ', hl, hw, nt, hf, q⟩ := h
  have SB := hb cdv A outer s H E hr
  have ok := ok_start (K := K) (N := N) hl hw
  have nd := nv_zip hl nt
  have nv := nv_start nd (N.length - ds.length)
  have fin : ∀ {d : D} {σ1 : Sg} {v : V} {ρ' : L2.St} {H' : Hp}, Kp ws (L2.start N vs) ρ' → Ok K H' ρ' σ1 ((v, d) :: T) → World K H' ((v, d) :: (kept ws 0 vs σ1 ++ T)) := fun {d σ1 v ρ' H'} kp ok' => by
    have sub := kept_sub (ws := ws) (vs := vs) (σ := σ1) (ρ := ρ') (i := 0) fun j hj n => by
      rw [kp.keep j (by simpa using n), start_get hj]
    have w1 : World K H' ((v, d) :: (T ++ sl ρ' σ1)) := ok'.w
    have w2 := w1.perm ((List.perm_append_comm (l₁ := T) (l₂ := sl ρ' σ1)).cons (v, d))
    exact w2.sub (((sub.append (List.Sublist.refl T))).cons_cons (v, d))
  unfold fnD at hf
  split at hf
  · rename_i d σ1 hm
    cases hf
    exact SB.run (f := .rt r) ok nv nt.drops hm fun v ρ' H' kp ok' nv' hr' => q v H' (fin kp ok') hr' nv'
  · rename_i σ1 hm
    cases hf
    exact SB.run (f := .nx) ok nv nt.drops hm fun ρ' H' kp ok' nv' => q .non H' (fin kp ⟨ok'.len, ok'.al, World.non ok'.w⟩) rfl nv'
  · cases hf
end
/-! ### arguments, some of them lent -/
/-- the value of a slot as an argument: taken out if it holds lists of its own -/
def mLend (i : Nat) : M := fun σ => match σ[i]? with
  | some (some d) => if d.noOwn = true then some (d, σ) else some (d, σ.set i none)
  | _ => none
structure SL (X : Cx) (es : List Expr) (ld : List (Option Nat)) (m : MA) : Prop where
  run : ∀ {ρ : L2.St} {H : Hp} {σ : Sg} {T : List (V × D)} {ds : List D} {σ' : Sg}, Ok X.K H ρ σ T → NV σ → NT T → m σ = some (ds, σ') → semA X es ρ H fun vs H' => vs.length = ds.length ∧ ld.length = ds.length ∧ (∀ (j i : Nat) (v : V), ld[j]? = some (some i) → vs[j]? = some v → ρ[i]? = some (some v)) ∧ Pst X.K true H ρ σ σ' T (vs.zip ds) H'
section
variable {X : Cx} {e1 : Expr} {es : List Expr} {a : M} {ma : MA} {ld : List (Option Nat)} {pos : Pos}
theorem sl_nil : SL X [] [] aNil := ⟨fun ok nv nt h => by cases h; exact pa_sem pa_nil ⟨rfl, rfl, (fun j i v h => by simp at h), ok, cdT nv nt, id, fun e => nomatch e⟩⟩
theorem sl_val (ha : SE true X e1 a) (hr : SL X es ld ma) (hs : starEach (e1 :: es) X.env = (false, eval e1 X.env) :: starEach es X.env := by rfl) : SL X (e1 :: es) (none :: ld) (aCons a ma) := ⟨fun {ρ H σ T d σ'} ok nv nt h => by
  unfold aCons at h
  split at h
  · rename_i x σ1 h1
    split at h
    · rename_i xs σ2 h2
      cases h
      refine pa_sem (pa_cons peS paS hs) ?_
      refine semE_mono (ha.run ok (cdT nv nt) h1) fun v H1 p1 => ?_
      refine semA_mono (hr.run p1.ok p1.nvt.1 p1.nvt.2 h2) fun vs H2 ⟨hl, hl2, hld, p2⟩ => ?_
      have pp : List.Perm (vs.zip xs ++ ([(v, x)] ++ T)) ((v :: vs).zip (x :: xs) ++ T) := by
        show List.Perm (vs.zip xs ++ (v, x) :: T) ((v, x) :: (vs.zip xs ++ T))
        exact List.perm_middle
      refine ⟨by simp [hl], by simp [hl2], fun j i v' h1' h2' => ?_, Ok.temps p2.ok fun L w => w.perm (pp.append_right L), fun e => ⟨p2.nvt.1, fun q m => p2.nvt.2 q (pp.mem_iff.mpr m)⟩, fun n => p2.nv (p1.nv n), fun e => nomatch e⟩
      cases j with
      | zero => simp at h1'
      | succ j => exact hld j i v' (by simpa using h1') (by simpa using h2')
    · cases h
  · cases h⟩
theorem sl_lend {i : Nat} {x : Str} {p : Pos} (hr : SL X es ld ma) (hN : X.N[i]? = some x := by rfl) (hv : Vis X.env.scope x := by first | exact Or.inl rfl | exact Or.inr (Or.inl rfl) | exact Or.inr (Or.inr rfl)) (hd : (x == ("__debug__" : Str)) = false := by decide)
    (hcd : (x == ("__classdict__" : Str)) = false := by decide) (hs : starEach (.Name x p :: es) X.env = (false, eval (.Name x p) X.env) :: starEach es X.env := by rfl) : SL X (.Name x p :: es) (some i :: ld) (aCons (mLend i) ma) := ⟨fun {ρ H σ T d σ'} ok nv nt h => by
  unfold aCons at h
  split at h
  · rename_i d0 σ1 h1
    split at h
    · rename_i xs σ2 h2
      cases h
      refine pa_sem (pa_cons (pe_var hN hv hd hcd) paS hs) ?_
      unfold mLend at h1
      split at h1
      · rename_i d1 hd1
        obtain ⟨v, hv', okt⟩ := ok.take hd1
        have nd1 := nv i d1 hd1
        have both : ∃ (ok1 : Ok X.K H ρ σ1 ((v, d0) :: T)), d0 = d1 ∧ NV σ1 := by
          split at h1
          · rename_i no
            cases h1
            have ok2 := (okt.lift (T1 := [(v, d0)]) (T2 := [(v, d0), (v, d0)]) fun L w => World.dup no w)
            have ok3 := Ok.back (T := (v, d0) :: T) ok2 hv'
            have e : (σ.set i none).set i (some d0) = σ := by
              rw [List.set_set]
              obtain ⟨h1, h2⟩ := List.getElem?_eq_some_iff.mp hd1
              rw [← h2, List.set_getElem_self]
            rw [e] at ok3
            exact ⟨ok3, rfl, nv⟩
          · cases h1
            exact ⟨okt, rfl, nv.set fun _ e => nomatch e⟩
        obtain ⟨ok1, e0, nv1⟩ := both
        subst e0
        refine ⟨v, hv', ?_⟩
        refine semA_mono (hr.run ok1 nv1 (nt.cons nd1) h2) fun vs H2 ⟨hl, hl2, hld, p2⟩ => ?_
        have pp : List.Perm (vs.zip xs ++ ([(v, d0)] ++ T)) ((v :: vs).zip (d0 :: xs) ++ T) := by
          show List.Perm (vs.zip xs ++ (v, d0) :: T) ((v, d0) :: (vs.zip xs ++ T))
          exact List.perm_middle
        refine ⟨by simp [hl], by simp [hl2], fun j i' v' h1' h2' => ?_, Ok.temps p2.ok fun L w => w.perm (pp.append_right L), fun e => ⟨p2.nvt.1, fun q m => p2.nvt.2 q (pp.mem_iff.mpr m)⟩, fun n => p2.nvt.1, fun e => nomatch e⟩
        cases j with
        | zero =>
          simp at h1' h2'
          subst h1' h2'
          exact hv'
        | succ j => exact hld j i' v' (by simpa using h1') (by simpa using h2')
      · cases h1
    · cases h
  · cases h⟩
/-- what was lent comes back -/
def putB (ws : List Nat) : Nat → List (Option Nat) → Sg → Sg → Sg
  | j, some i :: r, o :: σc, σ => putB ws (j + 1) r σc (if j ∈ ws then σ else match σ[i]?, o with
    | some none, some d => σ.set i (some d)
    | _, _ => σ)
  | j, none :: r, _ :: σc, σ => putB ws (j + 1) r σc σ
  | _, _, _, σ => σ
theorem putB_ok {K : PySem.W.Frag} {H : Hp} {ρ : L2.St} {ws : List Nat} : ∀ {vs : List V} {ld : List (Option Nat)} {σc σ : Sg} {T : List (V × D)} {j : Nat}, (∀ (k i : Nat) (v : V), ld[k]? = some (some i) → vs[k]? = some v → ρ[i]? = some (some v)) → vs.length = ld.length → NV σc → NV σ → Ok K H ρ σ (kept ws j vs σc ++ T) → Ok K H ρ (putB ws j ld σc σ) T ∧ NV (putB ws j ld σc σ)
  | [], [], σc, σ, T, j, _, _, nc, nv, ok => by
    have e : kept ws j [] σc = [] := by simp [kept]
    rw [e] at ok
    have e2 : putB ws j [] σc σ = σ := by simp [putB]
    rw [e2]
    exact ⟨ok, nv⟩
  | [], _ :: _, _, _, _, _, _, h, _, _, _ => by simp at h
  | _ :: _, [], _, _, _, _, _, h, _, _, _ => by simp at h
  | v :: vs, l :: ld, [], σ, T, j, hld, hl, nc, nv, ok => by
    have e : kept ws j (v :: vs) [] = [] := by simp [kept]
    rw [e] at ok
    have e2 : putB ws j (l :: ld) [] σ = σ := by cases l <;> simp [putB]
    rw [e2]
    exact ⟨ok, nv⟩
  | v :: vs, l :: ld, o :: σc, σ, T, j, hld, hl, nc, nv, ok => by
    have nc' : NV σc := fun i d e => nc (i + 1) d e
    have hld' : ∀ (k i : Nat) (v : V), ld[k]? = some (some i) → vs[k]? = some v → ρ[i]? = some (some v) := fun k i v' a b => hld (k + 1) i v' a b
    have hl' : vs.length = ld.length := by simpa using hl
    simp only [kept] at ok
    rw [List.append_assoc] at ok
    cases l with
    | none =>
      simp only [putB]
      exact putB_ok (vs := vs) hld' hl' nc' nv (Ok.drops ok)
    | some i =>
      simp only [putB]
      have hv : ρ[i]? = some (some v) := hld 0 i v rfl rfl
      by_cases hj : j ∈ ws
      · rw [if_pos hj]
        rw [if_pos hj] at ok
        exact putB_ok (vs := vs) hld' hl' nc' nv ok
      · rw [if_neg hj]
        rw [if_neg hj] at ok
        split
        · rename_i d hσ
          have ok2 : Ok K H ρ σ ((v, d) :: (kept ws (j + 1) vs σc ++ T)) := ok
          exact putB_ok (vs := vs) hld' hl' nc' (nv.set fun d' e => by cases e; exact nc 0 d rfl) (Ok.back ok2 hv)
        · exact putB_ok (vs := vs) hld' hl' nc' nv (Ok.drops ok)
def mCall (ws : List Nat) (ld : List (Option Nat)) (fn : Fn) (ma : MA) : M := fun σ => match ma σ with
  | some (ds, σ1) => (match fn ds with
    | some (r, σc) => some (r, putB ws 0 ld σc σ1)
    | none => none)
  | none => none
theorem call_run {n : Nat} {ws : List Nat} {fn : Fn} (ha : SL X es ld ma) (hn : ld.length = n) {ρ : L2.St} {H : Hp} {σ : Sg} {T : List (V × D)} {d : D} {σ' : Sg} (ok : Ok X.K H ρ σ T) (nv : NV σ) (nt : NT T) (h : mCall ws ld fn ma σ = some (d, σ')) :
    semA X es ρ H fun vs H1 => spOf X.K n ws fn (vs ++ []) H1 (fun v H' => Pst X.K true H ρ σ σ' T [(v, d)] H') E0 := by
  unfold mCall at h
  split at h
  · rename_i ds σ1 h1
    split at h
    · rename_i r σc hf
      cases h
      refine semA_mono (ha.run ok nv nt h1) fun vs H1 ⟨hl, hl2, hld, p⟩ => ?_
      rw [List.append_nil]
      refine ⟨by omega, ds, T ++ sl ρ σ1, d, σc, hl, ?_, ?_, hf, fun v H' w hr nvc => ?_⟩
      · have q := p.ok.w
        rw [List.append_assoc] at q
        exact q
      · exact nt_zip (nv_zip hl p.nvt.2) fun q m => NT.all p.nvt.1 nt q m
      · have ok2 : Ok X.K H' ρ σ1 (kept ws 0 vs σc ++ ((v, d) :: T)) := ⟨p.ok.len, p.ok.al, by
          refine w.perm ?_
          rw [List.append_assoc]
          exact (List.perm_middle (l₁ := kept ws 0 vs σc) (l₂ := T ++ sl ρ σ1) (a := (v, d))).symm⟩
        obtain ⟨ok3, nv3⟩ := putB_ok hld (by omega) nvc p.nvt.1 ok2
        exact ⟨ok3, cdT nv3 (nt.cons hr), fun _ => nv3, fun e => nomatch e⟩
    · cases h
  · cases h
theorem se_call {x : Str} {p : Pos} {k : Nat} {f : Addr} {fd : FuncData} {ps : List Str} {ws : List Nat} {fn : Fn} (F : FnOk X.prog X.w X.K X.mg X.base CX0 k f fd ps (spOf X.K ps.length ws fn)) (hr : Room k X.A) (hg : Gl X x) (hm : X.mg x = some (.ref f)) (hk : PySem.W.keepIn X.K (.ref f) = true) (hb : Binds X.K fd ps [])
    (ha : SL X (e1 :: es) ld ma) (hn : ld.length = ps.length := by rfl) (hdb : (x == ("__debug__" : Str)) = false := by decide) (he : starEach (e1 :: es) X.env = (false, eval e1 X.env) :: starEach es X.env := by rfl) (hpl : (backTo pos (starEach es X.env)).any (·.1) = false := by rfl) :
    SE true X (.Call (.Name x p) (e1 :: es) [] pos) (mCall ws ld fn ma) := ⟨fun {ρ H σ T d σ'} ok cd h =>
  pe_sem (pe_call F hr hg hm hk hb .nil pass0 paS hdb he hpl) (call_run (n := ps.length) ha hn ok (cd rfl).1 (cd rfl).2 h)⟩
theorem se_call0 {x : Str} {p : Pos} {k : Nat} {f : Addr} {fd : FuncData} {ws : List Nat} {fn : Fn} (F : FnOk X.prog X.w X.K X.mg X.base CX0 k f fd [] (spOf X.K 0 ws fn)) (hr : Room k X.A) (hg : Gl X x) (hm : X.mg x = some (.ref f)) (hk : PySem.W.keepIn X.K (.ref f) = true) (hb : Binds X.K fd [] [])
    (hdb : (x == ("__debug__" : Str)) = false := by decide) :
    SE true X (.Call (.Name x p) [] [] pos) (mCall ws [] fn aNil) := ⟨fun {ρ H σ T d σ'} ok cd h => by
  refine pe_sem (pe_call0 F hr hg hm hk hb .nil pass0 hdb) ?_
  unfold mCall aNil at h
  simp only at h
  split at h
  · rename_i r σc hf
    cases h
    refine ⟨rfl, [], T ++ sl ρ σ, d, σc, rfl, ok.w, fun q m => NT.all (cd rfl).1 (cd rfl).2 q m, hf, fun v H' w hr nvc => ?_⟩
    have e : putB ws 0 [] σc σ = σ := by simp [putB]
    rw [e]
    have e2 : kept ws 0 [] σc = [] := by simp [kept]
    rw [List.append_nil, e2] at w
    exact ⟨⟨ok.len, ok.al, w⟩, cdT (cd rfl).1 ((cd rfl).2.cons hr), id, fun e => nomatch e⟩
  · cases h⟩
end
end Py
/-! Layer «Py», part L: list comprehensions. -/
namespace Py
open PySem PySem.Spec PyProof.Rows L2

/-- the slots of a block's own names forgotten -/
def wipeD (σ : Sg) : List Nat → Sg
  | [] => σ
  | v :: vs => (wipeD σ vs).set v none
/-- a slot as it stood in σ -/
def put1 (σ : Sg) (i : Nat) (τ : Sg) : Sg := match σ[i]? with
  | some o => τ.set i o
  | none => τ
/-- .. and put back as they stood in σ -/
def unwipe (σ : Sg) : List Nat → Sg → Sg
  | [], τ => τ
  | v :: vs, τ => unwipe σ vs (put1 (wipeD σ vs) v τ)
/-- these slots are empty -/
def Wn (τ : Sg) (vs : List Nat) : Prop := ∀ v ∈ vs, ∀ d, τ[v]? ≠ some (some d)
section
variable {K : PySem.W.Frag} {H : Hp} {T : List (V × D)}
theorem wipeD_len (σ : Sg) : ∀ vs, (wipeD σ vs).length = σ.length
  | [] => rfl
  | v :: vs => by simp [wipeD, wipeD_len σ vs]
theorem NV.wipe {σ : Sg} (h : NV σ) : ∀ vs, NV (wipeD σ vs)
  | [] => h
  | v :: vs => (NV.wipe h vs).set fun _ e => nomatch e
theorem wipeD_none {σ : Sg} {v : Nat} : ∀ {vs : List Nat}, v ∈ vs → v < σ.length → (wipeD σ vs)[v]? = some none
  | w :: vs, h, hl => by
    by_cases e : w = v
    · subst e
      simp only [wipeD]
      rw [List.getElem?_set_self (by rw [wipeD_len]; exact hl)]
    · simp only [wipeD]
      rw [List.getElem?_set_ne e]
      rcases List.mem_cons.mp h with q | q
      · exact absurd q.symm e
      · exact wipeD_none q hl
theorem Wn.set_none {τ : Sg} {i : Nat} (h : Wn τ [i]) : τ.set i none = τ := by
  by_cases hi : i < τ.length
  · have e : τ[i] = none := by
      cases q : τ[i] with
      | none => rfl
      | some d => exact absurd (by rw [List.getElem?_eq_getElem hi, q]) (h i (List.mem_singleton_self _) d)
    rw [← e, List.set_getElem_self]
  · exact List.set_eq_of_length_le (by omega)
theorem wipeD_wn (σ : Sg) : ∀ vs : List Nat, Wn (wipeD σ vs) vs
  | [], _, h, _ => nomatch h
  | w :: vs, v, h, d => by
    intro e
    simp only [wipeD] at e
    by_cases q : w = v
    · subst q
      by_cases hi : w < (wipeD σ vs).length
      · rw [List.getElem?_set_self hi] at e; cases e
      · rw [List.getElem?_eq_none (by simpa using hi)] at e; cases e
    · rw [List.getElem?_set_ne q] at e
      rcases List.mem_cons.mp h with z | z
      · exact q z.symm
      · exact wipeD_wn σ vs v z d e
/-- one slot wiped: what stood there is held -/
theorem Ok.wipe1 {ρ : L2.St} {σ : Sg} {i : Nat} (ok : Ok K H ρ σ T) : ∃ held : List (V × D), (NV σ → NT held) ∧ Ok K H (ρ.set i none) (σ.set i none) (held ++ T) ∧
    ∀ {H' : Hp} {τ : Sg} {T' : List (V × D)}, τ.length = σ.length → Wn τ [i] → Ok K H' (ρ.set i none) τ (held ++ T') → Ok K H' ρ (put1 σ i τ) T' := by
  have weak : ∀ {H : Hp} {τ : Sg} {T : List (V × D)}, Ok K H (ρ.set i none) (τ.set i none) T → Ok K H ρ (τ.set i none) T := fun {H τ T} o => by
    refine ⟨by have := o.len; simpa using this, fun j d hj => ?_, ?_⟩
    · obtain ⟨v, e⟩ := o.al j d hj
      by_cases q : i = j
      · subst q
        by_cases hi : i < ρ.length
        · rw [List.getElem?_set_self hi] at e; cases e
        · rw [List.getElem?_eq_none (by simpa using hi)] at e; cases e
      · rw [List.getElem?_set_ne q] at e
        exact ⟨v, e⟩
    · have w := o.w
      rw [sl_set_none] at w
      exact w
  have strong : ∀ {H : Hp} {τ : Sg} {T : List (V × D)}, Ok K H ρ (τ.set i none) T → Ok K H (ρ.set i none) (τ.set i none) T := fun {H τ T} o => by
    refine ⟨by have := o.len; simpa using this, fun j d hj => ?_, ?_⟩
    · by_cases q : i = j
      · subst q
        by_cases hi : i < τ.length
        · rw [List.getElem?_set_self hi] at hj; cases hj
        · rw [List.getElem?_eq_none (by simpa using hi)] at hj; cases hj
      · rw [List.getElem?_set_ne q]
        exact o.al j d hj
    · rw [sl_set_none]
      exact o.w
  cases h : σ[i]? with
  | none =>
    have hi : ¬ i < σ.length := fun q => by rw [List.getElem?_eq_getElem q] at h; cases h
    refine ⟨[], (fun _ p m => nomatch m), strong ok.drop, fun {H' τ T'} hl wn o => ?_⟩
    rw [← wn.set_none] at o
    have := weak o
    rw [wn.set_none] at this
    unfold put1
    rw [h]
    exact this
  | some o =>
    cases o with
    | none =>
      refine ⟨[], (fun _ p m => nomatch m), strong ok.drop, fun {H' τ T'} hl wn o => ?_⟩
      rw [← wn.set_none] at o
      unfold put1
      rw [h]
      exact weak o
    | some d =>
      obtain ⟨v, hv, ok1⟩ := ok.take h
      refine ⟨[(v, d)], fun nv => NT.cons (nv i d h) (fun p m => nomatch m), strong ok1, fun {H' τ T'} hl wn o => ?_⟩
      rw [← wn.set_none] at o
      have q := Ok.back (T := T') (weak o) hv
      rw [List.set_set] at q
      unfold put1
      rw [h]
      exact q
theorem put1_len (σ : Sg) (i : Nat) (τ : Sg) : (put1 σ i τ).length = τ.length := by
  unfold put1
  split <;> simp
theorem Ok.wipes {ρ : L2.St} {σ : Sg} (ok : Ok K H ρ σ T) : ∀ (vs : List Nat), ∃ held : List (V × D), (NV σ → NT held) ∧ Ok K H (L2.wipe ρ vs) (wipeD σ vs) (held ++ T) ∧
    ∀ {H' : Hp} {τ : Sg} {T' : List (V × D)}, τ.length = σ.length → Wn τ vs → Ok K H' (L2.wipe ρ vs) τ (held ++ T') → Ok K H' ρ (unwipe σ vs τ) T'
  | [] => ⟨[], (fun _ p m => nomatch m), ok, fun _ _ o => o⟩
  | v :: vs => by
    obtain ⟨held, n1, ok1, back1⟩ := Ok.wipes ok vs
    obtain ⟨held2, n2, ok2, back2⟩ := Ok.wipe1 (i := v) ok1
    refine ⟨held2 ++ held, fun nv p m => (List.mem_append.mp m).elim (n2 (nv.wipe vs) p) (n1 nv p), by rw [List.append_assoc]; exact ok2, fun {H' τ T'} hl wn o => ?_⟩
    rw [List.append_assoc] at o
    have q := back2 (τ := τ) (by rw [wipeD_len]; exact hl) (fun u hu d => by
      have e : u = v := by simpa using hu
      subst e
      exact wn u List.mem_cons_self d) o
    refine back1 (by rw [put1_len]; exact hl) (fun u hu d e => ?_) q
    unfold put1 at e
    split at e
    · rename_i o' ho
      by_cases z : v = u
      · subst z
        by_cases hi : v < τ.length
        · rw [List.getElem?_set_self hi] at e
          have e := Option.some.inj e
          subst e
          exact wipeD_wn σ vs v hu d ho
        · rw [List.getElem?_eq_none (by simpa using hi)] at e; cases e
      · rw [List.getElem?_set_ne z] at e
        exact wn u (List.mem_cons_of_mem _ hu) d e
    · exact wn u (List.mem_cons_of_mem _ hu) d e
theorem NV.put1 {σ τ : Sg} (h : NV σ) (ht : NV τ) (i : Nat) : NV (put1 σ i τ) := by
  unfold Py.put1
  split
  · rename_i o ho
    exact ht.set fun d e => h i d (by rw [ho, e])
  · exact ht
theorem NV.unwipe {σ : Sg} (h : NV σ) : ∀ (vs : List Nat) {τ : Sg}, NV τ → NV (unwipe σ vs τ)
  | [], _, ht => ht
  | v :: vs, τ, ht => NV.unwipe h vs (NV.put1 (h.wipe vs) ht v)
end
/-! ### [e for .. in .. if ..] -/
def lcEach (g : MG) (tt : MT) (me : M) (vs : List Nat) : List D → Sg → Option (List D × Sg)
  | [], σ => some ([], σ)
  | d :: r, σ => match g d (wipeD σ vs) with
    | some σ1 => (match tt σ1 with
      | some (true, σ2) => (match me σ2 with
        | some (x, σ3) => (match lcEach g tt me vs r σ3 with
          | some (xs, σ4) => some (x :: xs, σ4)
          | none => none)
        | none => none)
      | some (false, σ2) => lcEach g tt me vs r σ2
      | none => none)
    | none => none
def mLc (bk : Option Nat) (mi : MI) (g : MG) (tt : MT) (me : M) (vs : List Nat) : M := fun σ => match mi σ with
  | some (ds, o, σ1) => (match lcEach g tt me vs ds σ1 with
    | some (xs, σ2) => if xs.length ≤ 16777216 then some (.lst .own xs, gB bk o (unwipe σ1 vs (wipeD σ2 vs))) else none
    | none => none)
  | none => none
/-- the tests of a comprehension -/
def semTs (X : Cx) (ifs : List Expr) : TT := fun ρ H Q => ∀ (pins : List (Addr × Obj)) (s : Shared), Inv X pins ρ H s →
  wpAny (model X.prog X.w) X.A (forIn ifs true fun c r => if r = true then do let ok ← isTrue c X.env (eval c X.env); pure (ForInStep.yield ok) else pure (ForInStep.yield r)) (TP X pins ρ Q) X.xe s
theorem ptsS {X : Cx} {ifs : List Expr} : PTs X ifs (semTs X ifs) := ⟨fun pins s _ _ _ I h => h pins s I⟩
structure STs (X : Cx) (ifs : List Expr) (m : MT) : Prop where
  run : ∀ {ρ : L2.St} {H : Hp} {σ : Sg} {T : List (V × D)} {k : Bool} {σ' : Sg}, Ok X.K H ρ σ T → NV σ → NT T → m σ = some (k, σ') → semTs X ifs ρ H fun v H' => v = k ∧ Pst X.K true H ρ σ σ' T [] H'
def tYesM : MT := fun σ => some (true, σ)
theorem sts_nil {X : Cx} : STs X [] tYesM := ⟨fun {ρ H σ T k σ'} ok nv nt h pins s I => by
  cases h
  exact pts_nil.run pins s ρ H _ I ⟨rfl, ok, cdT nv nt, id, fun e => nomatch e⟩⟩
theorem sts_one {X : Cx} {c : Expr} {m : MT} (h : ST true X c m) : STs X [c] m := ⟨fun {ρ H σ T k σ'} ok nv nt e pins s I => (pts_one ptS).run pins s ρ H _ I (h.run ok (cdT nv nt) e)⟩
section
variable {X : Cx} {elt tg iter : Expr} {ifs : List Expr} {scope : Scope} {own : List (Str × Nat)} {pos : Pos} {bk : Option Nat} {mi : MI} {g : MG} {tt : MT} {me : M} {ws : List Nat}
theorem wipe_len (ρ : L2.St) (vs : List Nat) : (L2.wipe ρ vs).length = ρ.length := L2.wipe_length ρ vs
theorem wipe_out' {ρ : L2.St} {i : Nat} : ∀ {vs : List Nat}, i ∉ vs → (L2.wipe ρ vs)[i]? = ρ[i]?
  | [], _ => rfl
  | v :: vs, h => by
    have h1 : v ≠ i := fun e => h (by rw [e]; exact List.mem_cons_self)
    unfold L2.wipe
    rw [List.getElem?_set_ne h1]
    exact wipe_out' fun m => h (List.mem_cons_of_mem _ m)
theorem wipe_in {ρ : L2.St} {i : Nat} : ∀ {vs : List Nat}, i ∈ vs → i < ρ.length → (L2.wipe ρ vs)[i]? = some none
  | v :: vs, h, hl => by
    unfold L2.wipe
    by_cases e : v = i
    · subst e
      rw [List.getElem?_set_self (by rw [L2.wipe_length]; exact hl)]
    · rw [List.getElem?_set_ne e]
      rcases List.mem_cons.mp h with z | z
      · exact absurd z.symm e
      · exact wipe_in z hl
theorem wipe_kp {ρ ρ2 : L2.St} {vs : List Nat} (k : Kp ws (L2.wipe ρ vs) ρ2) (hs : ∀ j ∈ ws, j ∈ vs) : L2.wipe ρ2 vs = L2.wipe ρ vs := by
  have hl : ρ2.length = ρ.length := k.len.trans (wipe_len ρ vs)
  apply List.ext_getElem?
  intro i
  by_cases h : i ∈ vs
  · by_cases q : i < ρ.length
    · rw [wipe_in h q, wipe_in h (by omega)]
    · rw [List.getElem?_eq_none (by rw [wipe_len]; omega), List.getElem?_eq_none (by rw [wipe_len]; omega)]
  · rw [wipe_out' h, wipe_out' h, k.keep i fun m => h (hs i m), wipe_out' h]
theorem Ok.wipeDrop {K : PySem.W.Frag} {H : Hp} {ρ : L2.St} {σ : Sg} {T : List (V × D)} (ok : Ok K H ρ σ T) (vs : List Nat) : Ok K H (L2.wipe ρ vs) (wipeD σ vs) T := by
  obtain ⟨held, _, ok1, _⟩ := ok.wipes vs
  exact ok1.drops
/-- the reading of a comprehension -/
theorem lc_run (hi : SI true X tg iter bk mi) (hws : ∀ j ∈ ws, j ∈ own.map (·.2))
    (hg : ∀ (s : Shared) (H : Hp) (C : Addr) (cl : List (Str × Addr)) (fp : List Addr), SG (X.blk s H scope (compEnvC scope cl C X.env) fp) tg ws g)
    (ht : ∀ (s : Shared) (H : Hp) (C : Addr) (cl : List (Str × Addr)) (fp : List Addr), STs (X.blk s H scope (compEnvC scope cl C X.env) fp) ifs tt)
    (he : ∀ (s : Shared) (H : Hp) (C : Addr) (cl : List (Str × Addr)) (fp : List Addr), SE true (X.blk s H scope (compEnvC scope cl C X.env) fp) elt me)
    {ρ : L2.St} {H : Hp} {σ : Sg} {T : List (V × D)} {d : D} {σ' : Sg} {Q : VK} (ok : Ok X.K H ρ σ T) (nv : NV σ) (nt : NT T) (h : mLc bk mi g tt me (own.map (·.2)) σ = some (d, σ')) (hQ : ∀ v H', Pst X.K true H ρ σ σ' T [(v, d)] H' → Q v H') :
    ∃ (gr : TG) (tr : TT) (er : TE), (∀ (s : Shared) (H : Hp) (C : Addr) (cl : List (Str × Addr)) (fp : List Addr), PG (X.blk s H scope (compEnvC scope cl C X.env) fp) tg gr) ∧ (∀ (s : Shared) (H : Hp) (C : Addr) (cl : List (Str × Addr)) (fp : List Addr), PTs (X.blk s H scope (compEnvC scope cl C X.env) fp) ifs tr) ∧
      (∀ (s : Shared) (H : Hp) (C : Addr) (cl : List (Str × Addr)) (fp : List Addr), PE (X.blk s H scope (compEnvC scope cl C X.env) fp) elt er) ∧ tLc (semI X tg iter) gr tr er (own.map (·.2)) ρ H Q := by
  refine ⟨fun v ρ H Q => ∀ (s : Shared) (H0 : Hp) (C : Addr) (cl : List (Str × Addr)) (fp : List Addr), semG (X.blk s H0 scope (compEnvC scope cl C X.env) fp) tg v ρ H Q,
    fun ρ H Q => ∀ (s : Shared) (H0 : Hp) (C : Addr) (cl : List (Str × Addr)) (fp : List Addr), semTs (X.blk s H0 scope (compEnvC scope cl C X.env) fp) ifs ρ H Q,
    fun ρ H Q => ∀ (s : Shared) (H0 : Hp) (C : Addr) (cl : List (Str × Addr)) (fp : List Addr), semE (X.blk s H0 scope (compEnvC scope cl C X.env) fp) elt ρ H Q,
    fun s0 H0 C cl fp => ⟨fun pins s ρ H v u Q I r h => h s0 H0 C cl fp pins s u I r⟩, fun s0 H0 C cl fp => ⟨fun pins s ρ H Q I h => h s0 H0 C cl fp pins s I⟩, fun s0 H0 C cl fp => ⟨fun pins s ρ H Q I h => h s0 H0 C cl fp pins s I⟩, ?_⟩
  unfold mLc at h
  split at h
  · rename_i ds o σ1 h1
    split at h
    · rename_i xs σe hE
      split at h
      · rename_i hz
        cases h
        refine hi.run ok (cdT nv nt) h1 fun J hold H1 y nd bck p D0 hD => ?_
        obtain ⟨held, nheld, okw, back⟩ := p.ok.wipes (own.map (·.2))
        have nT : NT (held ++ (hold ++ T)) := fun q m => (List.mem_append.mp m).elim (nheld p.nvt.1 q) (p.nvt.2 q)
        refine ⟨fun i m H' => m = ds.length - i ∧ i ≤ ds.length ∧ ∃ σ2 acc ys, Ok X.K H' (L2.wipe ρ (own.map (·.2))) (wipeD σ2 (own.map (·.2))) ((.ref D0, .lst .own acc) :: (held ++ (hold ++ T))) ∧ NV σ2 ∧ noVws acc = true ∧ lcEach g tt me (own.map (·.2)) (ds.drop i) σ2 = some (ys, σe) ∧ acc ++ ys = xs,
          ⟨ds.length, rfl, Nat.zero_le _, σ1, [], xs, ⟨okw.len, okw.al, World.newLst (vs := []) rfl hD okw.w⟩, p.nvt.1, rfl, hE, rfl⟩, ?_⟩
        rintro i m H2 ⟨rfl, hil, σ2, acc, ys, ok2, nv2, na, h2, hxs⟩
        have perm1 : ∀ (L : List (V × D)), List.Perm (((V.ref D0, D.lst .own acc) :: (held ++ (hold ++ T))) ++ L) (hold ++ ((V.ref D0, D.lst .own acc) :: (held ++ (T ++ L)))) := fun L => by
          refine List.Perm.trans ?_ (List.perm_middle (l₁ := hold)).symm
          refine List.Perm.cons _ ?_
          show List.Perm ((held ++ (hold ++ T)) ++ L) (hold ++ (held ++ (T ++ L)))
          rw [List.append_assoc, List.append_assoc, ← List.append_assoc held, ← List.append_assoc hold]
          exact (List.perm_append_comm (l₁ := held) (l₂ := hold)).append_right _
        have w : World X.K H2 (hold ++ ((.ref D0, .lst .own acc) :: (held ++ (T ++ sl (L2.wipe ρ (own.map (·.2))) (wipeD σ2 (own.map (·.2))))))) := ok2.w.perm (perm1 _)
        by_cases hlt : i < ds.length
        · have hd : ds[i]? = some ds[i] := List.getElem?_eq_getElem hlt
          rw [List.drop_eq_getElem_cons hlt] at h2
          simp only [lcEach] at h2
          refine .inr ⟨y.go w hd, fun H' => i + 1 ≤ ds.length ∧ ∃ σ2 acc ys, Ok X.K H' (L2.wipe ρ (own.map (·.2))) (wipeD σ2 (own.map (·.2))) ((.ref D0, .lst .own acc) :: (held ++ (hold ++ T))) ∧ NV σ2 ∧ noVws acc = true ∧ lcEach g tt me (own.map (·.2)) (ds.drop (i + 1)) σ2 = some (ys, σe) ∧ acc ++ ys = xs, fun H' q => ⟨ds.length - (i + 1), by omega, rfl, q⟩, fun x H3 hy s0 H0 C cl fp => ?_⟩
          have w3 := y.yld w hd hy
          have ok3 : Ok X.K H3 (L2.wipe ρ (own.map (·.2))) (wipeD σ2 (own.map (·.2))) ((x, ds[i]) :: ((.ref D0, .lst .own acc) :: (held ++ (hold ++ T)))) := ⟨ok2.len, ok2.al, w3.perm ((perm1 _).symm.cons _)⟩
          have nd3 : (ds[i]).noVw = true := noVws_mem (nd rfl) (List.getElem_mem hlt)
          have nt3 : NT ((V.ref D0, D.lst .own acc) :: (held ++ (hold ++ T))) := nT.cons (d := .lst .own acc) na
          split at h2
          · rename_i σ4 h4
            refine (hg s0 H0 C cl fp).run ok3 (nv2.wipe _) (nt3.cons nd3) h4 fun ρ4 H4 k4 ok4 nv4 => ?_
            refine ⟨wipe_kp k4 hws, fun s5 H5 C5 cl5 fp5 => ?_⟩
            have turn : ∀ {ρ5 : L2.St} {H5 : Hp} {σ5 : Sg} {L : List (V × D)}, L2.wipe ρ5 (own.map (·.2)) = L2.wipe ρ (own.map (·.2)) → Ok X.K H5 ρ5 σ5 L → Ok X.K H5 (L2.wipe ρ (own.map (·.2))) (wipeD σ5 (own.map (·.2))) L := fun e o => by
              have q := o.wipeDrop (own.map (·.2))
              rw [e] at q
              exact q
            split at h2
            · rename_i σ5 h5
              refine fun pins s I => thn ((ht s5 H5 C5 cl5 fp5).run ok4 nv4 nt3 h5 pins s I) fun _ _ z => tp_mono (fun b H6 ⟨eb, p6⟩ => ?_) z
              subst eb
              refine iteT fun s7 H7 C7 cl7 fp7 => ?_
              split at h2
              · rename_i x1 σ6 h6
                split at h2
                · rename_i xs1 σ7 h7
                  cases h2
                  refine semE_mono ((he s7 H7 C7 cl7 fp7).run p6.ok (cdT p6.nvt.1 nt3) h6) fun v8 H8 p8 => ?_
                  have w8 : World X.K H8 ((.ref D0, .lst .own acc) :: (([v8].zip [x1]) ++ ((held ++ (hold ++ T)) ++ sl ρ4 σ6))) := World.swap p8.ok.w
                  have nx1 : x1.noVw = true := p8.nvt.2.head
                  obtain ⟨vs, hv, hlv, hput⟩ := World.put (ws := [v8]) (es := [x1]) rfl na (by simp [noVws, nx1]) (fun q m => NT.all p8.nvt.1 nT q m) w8
                  have hlen : acc.length < 16777216 := by
                    have : xs.length = acc.length + (xs1.length + 1) := by rw [← hxs]; simp
                    omega
                  refine ⟨vs, hv, by rw [hlv, sizeLine_eq]; exact hlen, hlt, σ6, acc ++ [x1], xs1, ?_, p8.nvt.1, by rw [noVws_append, na]; simp [noVws, nx1], h7, by simpa using hxs⟩
                  have w9 := hput (vs ++ [v8]) (acc ++ [x1]) (by rw [noVws_append, na]; simp [noVws, nx1]) fun Z f g rf rg ndd => ⟨_, rf.append rg, ndd, fun b m => m⟩
                  exact turn (wipe_kp k4 hws) ⟨p8.ok.len, p8.ok.al, w9⟩
                · cases h2
              · cases h2
            · rename_i σ5 h5
              refine fun pins s I => thn ((ht s5 H5 C5 cl5 fp5).run ok4 nv4 nt3 h5 pins s I) fun _ _ z => tp_mono (fun b H6 ⟨eb, p6⟩ => ?_) z
              subst eb
              exact iteF ⟨hlt, σ5, acc, ys, turn (wipe_kp k4 hws) p6.ok, p6.nvt.1, na, h2, hxs⟩
            · cases h2
          · cases h2
        · have e : i = ds.length := by omega
          subst e
          rw [List.drop_length] at h2
          cases h2
          rw [List.append_nil] at hxs
          subst hxs
          refine .inl ⟨y.stop w (Nat.le_refl _), hQ _ _ ?_⟩
          have hl2 : (wipeD σe (own.map (·.2))).length = σ1.length := by
            have a := ok2.len
            have b := p.ok.len
            rw [wipe_len] at a
            omega
          have ok5 := back (T' := (.ref D0, .lst .own acc) :: (hold ++ T)) hl2 (wipeD_wn _ _) (Ok.temps ok2 fun L w => w.perm ((List.perm_middle (l₁ := held) (a := (V.ref D0, D.lst .own acc))).symm.append_right L))
          have ok6 : Ok X.K H2 ρ (unwipe σ1 (own.map (·.2)) (wipeD σe (own.map (·.2)))) (hold ++ ((.ref D0, .lst .own acc) :: T)) := Ok.temps ok5 fun L w => w.perm ((List.perm_middle (l₁ := hold) (a := (V.ref D0, D.lst .own acc))).symm.append_right L)
          have nt6 : NT (hold ++ ((V.ref D0, D.lst .own acc) :: T)) := fun q m => by
            rcases List.mem_append.mp m with m | m
            · exact p.nvt.2 q (List.mem_append_left _ m)
            · rcases List.mem_cons.mp m with e | m
              · rw [e]; exact na
              · exact nt q m
          obtain ⟨okb, nvb⟩ := ok_gB (ws := []) ok6 (p.nvt.1.unwipe _ (nv2.wipe _)) nt6 bck .refl (fun _ _ m => nomatch m)
          exact ⟨okb, cdT nvb (nt.cons (d := .lst .own acc) na), fun _ => nvb, fun e => nomatch e⟩
      · cases h
    · cases h
  · cases h
theorem se_lc (hc : X.calm = true) (hN : X.N.Nodup) (ok : BlkOk X.N X.env.scope scope own) (hi : SI true X tg iter bk mi)
    (hg : ∀ (s : Shared) (H : Hp) (C : Addr) (cl : List (Str × Addr)) (fp : List Addr), SG (X.blk s H scope (compEnvC scope cl C X.env) fp) tg ws g)
    (ht : ∀ (s : Shared) (H : Hp) (C : Addr) (cl : List (Str × Addr)) (fp : List Addr), STs (X.blk s H scope (compEnvC scope cl C X.env) fp) ifs tt)
    (he : ∀ (s : Shared) (H : Hp) (C : Addr) (cl : List (Str × Addr)) (fp : List Addr), SE true (X.blk s H scope (compEnvC scope cl C X.env) fp) elt me)
    (hws : ∀ j ∈ ws, j ∈ own.map (·.2) := by decide) (hs : ∀ x, foldedSetIterable iter X.env x = pure x := by intro _; rfl) :
    SE true X (.ListComp elt [⟨tg, iter, ifs, 0⟩] scope pos) (mLc bk mi g tt me (own.map (·.2))) := ⟨fun {ρ H σ T d σ'} o cd h => by
  obtain ⟨gr, tr, er, pg, pt, pe, q⟩ := lc_run hi hws hg ht he o (cd rfl).1 (cd rfl).2 h fun _ _ p => p
  exact pe_sem (pe_lc hc hN piS ok pg pt pe hs) q⟩
/-- y = [..] on one line, y a local -/
theorem ss_setLc {i : Nat} {y : Str} {py spos : Pos} (hc : X.calm = true) (hN : X.N.Nodup) (ok : BlkOk X.N X.env.scope scope own) (hi : SI true X tg iter bk mi)
    (hg : ∀ (s : Shared) (H : Hp) (C : Addr) (cl : List (Str × Addr)) (fp : List Addr), SG (X.blk s H scope (compEnvC scope cl C X.env) fp) tg ws g)
    (ht : ∀ (s : Shared) (H : Hp) (C : Addr) (cl : List (Str × Addr)) (fp : List Addr), STs (X.blk s H scope (compEnvC scope cl C X.env) fp) ifs tt)
    (he : ∀ (s : Shared) (H : Hp) (C : Addr) (cl : List (Str × Addr)) (fp : List Addr), SE true (X.blk s H scope (compEnvC scope cl C X.env) fp) elt me)
    (hsw : swapsWith (.ListComp elt [⟨tg, iter, ifs, 0⟩] scope pos) (some (.Name y py)) spos.line X.env = pure true) (hy : X.N[i]? = some y := by rfl) (hyl : X.env.scope.names.lookup y = some .local := by rfl)
    (hws : ∀ j ∈ ws, j ∈ own.map (·.2) := by decide) (hs : ∀ x, foldedSetIterable iter X.env x = pure x := by intro _; rfl) :
    SS X (.Assign [.Name y py] (.ListComp elt [⟨tg, iter, ifs, 0⟩] scope pos) spos) [i] (sSet i (mLc bk mi g tt me (own.map (·.2)))) := ⟨fun {ρ H σ T f σ' E} o nv nt h F => by
  unfold sSet at h
  split at h
  · rename_i d σ1 h1
    split at h
    · rename_i hl
      cases h
      obtain ⟨gr, tr, er, pg, pt, pe, q⟩ := lc_run (Q := fun v H' => E.nx (ρ.set i (some v)) H') hi hws hg ht he o nv nt h1 fun v H' p => F _ H' .set (p.ok.put hl) (p.nvt.1.set fun d e => by cases e; exact p.nvt.2.head)
      exact ps_sem (ps_setLc hc hN hy hyl hsw piS ok pg pt pe hs) q
    · cases h
  · cases h⟩
end
end Py
/-! Layer «Py», part M: small things that the printed proofs use. -/
namespace Py
open PySem PySem.Spec PyProof.Rows L2

def fu : Nat := 1000000
def kPlus : D → D → Option D := kI fun i j => some (.int (i + j))
section
variable {X : Cx} {e : Expr} {st : List Stmt}
theorem st_up {m : MT} (h : ST false X e m) : ST true X e m := ⟨fun {ρ H σ T k σ'} ok cd hm => semT_mono (h.run ok (fun z => nomatch z) hm) fun v H' ⟨q, p⟩ => ⟨q, p.ok, fun _ => ⟨p.nv (cd rfl).1, (cd rfl).2⟩, p.nv, fun e => nomatch e⟩⟩
theorem SSs.mono {ws ws' : List Nat} {m : MS} (h : SSs X st ws m) (hs : ∀ j ∈ ws, j ∈ ws') : SSs X st ws' m := ⟨fun ok nv nt hm F => h.run ok nv nt hm (F.kp (w1 := []) .refl fun j q => hs j (by simpa using q))⟩
end
/-- a def of the module, as its callers need it -/
structure UF (P : Program) (w : PySem.World) (K : PySem.W.Frag) (mg : Str → Option Value) (base : Heap) (x : Str) (k : Nat) (ps : List Str) (ws : List Nat) (fn : Fn) : Prop where
  ex : ∃ (f : Addr) (fd : FuncData), mg x = some (.ref f) ∧ PySem.W.keepIn K (.ref f) = true ∧ Binds K fd ps [] ∧ FnOk P w K mg base CX0 k f fd ps (spOf K ps.length ws fn)
/-- its text -/
abbrev FnP (K : PySem.W.Frag) (x : Str) (st : Stmt) (f : Addr) (fd : FuncData) : Prop := FunD K x x (defArgs st) (defBody st) (defScope st) [] [] f fd
structure SaysIn (fas : List He.Fa) (dds : List He.DefD) (K : PySem.W.Frag) (mg : Str → Option Value) : Prop where
  ex : ∃ h : Heap, K.In h ∧ h.Ns mainGlobals mg ∧ He.SaysD fas dds K
section
variable {fas : List He.Fa} {dds : List He.DefD} {K : PySem.W.Frag} {mg : Str → Option Value}
theorem SaysIn.free (Y : SaysIn fas dds K mg) (k : Nat) {x : Str} (h : fas[k]? = some (.free x)) : mg x = none := by
  obtain ⟨hp, X, G, c⟩ := Y.ex
  exact He.free_ok X G (c.fact k (f := .free x) h)
theorem SaysIn.def_ (Y : SaysIn fas dds K mg) (k : Nat) {x : Str} {st : Stmt} (h : dds[k]? = some ⟨(x, none), x, x, defArgs st, defBody st, defScope st, [], []⟩) (hg : fas[k]? = some (.glo x)) : ∃ (f : Addr) (fd : FuncData), mg x = some (.ref f) ∧ FnP K x st f fd := by
  obtain ⟨hp, X, G, c⟩ := Y.ex
  obtain ⟨fd, F⟩ := c.def_ k h
  exact ⟨_, fd, He.glo_ok X G (c.fact k (f := .glo x) hg), F⟩
end
end Py
/-! Layer «Py», part N: sorted. -/
namespace Py
open PySem PySem.Spec PyProof.Rows L2

def alikes (xs : List D) : Bool := xs.all fun x => xs.all fun y => PySem.W.alike x.py y.py
def sortable (xs : List D) : Bool := (xs.all fun x => match x with
    | .tup (_ :: _) => true
    | _ => false) || xs.all fun x => match x with
    | .non => false
    | .tup _ => false
    | _ => true
def fSortB (b : Bool) : D → Option D
  | .lst _ xs => if alikes xs = true ∧ sortable xs = true ∧ fits 60 xs = true ∧ xs.length ≤ 16777216 then some (.lst .own (xs.mergeSort (PySem.W.dataLe b D.py))) else none
  | _ => none
abbrev fSort : D → Option D := fSortB false
def rSortA (K : PySem.W.Frag) (b : Bool) : List V → Hp → VK → Prop := fun vs H Q => ∃ (a : Addr) (xs : List V) (ds : List D), vs = [V.ref a] ∧ SqL K H a xs ∧ xs.length = ds.length ∧ (∀ p ∈ xs.zip ds, Dp K H p.1 p.2.py) ∧ alikes ds = true ∧ sortable ds = true ∧ fits 60 ds = true ∧ ds.length ≤ 16777216 ∧
  ∀ (zs : List (V × D)) (p : Addr), zs.Perm (xs.zip ds) → zs.map (·.2) = ds.mergeSort (PySem.W.dataLe b D.py) → H p = none → Q (.ref p) (upd H p (.lst (zs.map (·.1))))
theorem fits_mem {n : Nat} : ∀ {xs : List D}, fits n xs = true → ∀ x ∈ xs, x.fit n = true
  | _ :: _, h, x, m => by
    simp only [fits, Bool.and_eq_true] at h
    rcases List.mem_cons.mp m with e | m
    · rw [e]; exact h.1
    · exact fits_mem h.2 x m
theorem each_vals {R : Value → V × D → Prop} (hr : ∀ u p, R u p ↔ RelV p.1 u) : ∀ {us : List Value} {zs : List (V × D)}, PySem.W.EachIs R us zs → Vals (zs.map (·.1)) us
  | _, _, .nil => .nil
  | _, _, .cons h t => .cons ((hr _ _).mp h) (each_vals hr t)
theorem vals_each : ∀ {us : List Value} {xs : List V} {ds : List D}, Vals xs us → xs.length = ds.length → PySem.W.EachIs (fun u (p : V × D) => RelV p.1 u) us (xs.zip ds)
  | _, _, [], .nil, _ => .nil
  | _, _, _ :: _, .nil, h => by simp at h
  | _, _, [], .cons _ _, h => by simp at h
  | _, _, d :: ds, .cons r t, h => .cons r (vals_each t (by simpa using h))
theorem zip_snd : ∀ {xs : List V} {ds : List D}, xs.length = ds.length → (xs.zip ds).map (·.2) = ds
  | [], [], _ => rfl
  | [], _ :: _, h => by simp at h
  | _ :: _, [], h => by simp at h
  | x :: xs, d :: ds, h => congrArg (d :: ·) (zip_snd (xs := xs) (ds := ds) (by simpa using h))
theorem sortable_of {ds : List D} (h : sortable ds = true) {α : Type} (bs : List α) (f : α → D) (hb : ∀ b ∈ bs, f b ∈ ds) : PySem.W.Sortable (bs.map fun b => (f b).py) := by
  unfold sortable at h
  rcases Bool.or_eq_true_iff.mp h with h | h
  · refine .inl fun d hd => ?_
    obtain ⟨b, m, rfl⟩ := List.mem_map.mp hd
    have := List.all_eq_true.mp h (f b) (hb b m)
    generalize f b = x at this ⊢
    cases x with
    | tup xs => cases xs with
      | nil => cases this
      | cons x r => exact ⟨x.py, pys r, rfl⟩
    | _ => cases this
  · refine .inr fun d hd => ?_
    obtain ⟨b, m, rfl⟩ := List.mem_map.mp hd
    have := List.all_eq_true.mp h (f b) (hb b m)
    generalize f b = x at this ⊢
    cases x with
    | non => cases this
    | tup xs => cases this
    | lst f xs => exact ⟨(by intro e; simp [D.py] at e), by intro xs e; simp [D.py] at e⟩
    | _ => exact ⟨(by intro e; simp [D.py] at e), by intro xs e; simp [D.py] at e⟩
theorem mem_zip {xs : List V} {ds : List D} {p : V × D} (h : p ∈ xs.zip ds) : p.1 ∈ xs ∧ p.2 ∈ ds := List.of_mem_zip h
section
variable {X : Cx}
theorem sort_run {b : Bool} {kw : List (Str × Value)} {pins : List (Addr × Obj)} {s : Shared} {ρ : L2.St} {H : Hp} {vs : List V} {us : List Value} {Q : VK} (I : Inv X pins ρ H s) (r : Vals vs us) (hu : X.A.units + 64 < cLine) (h : rSortA X.K b vs H Q)
    (hgo : ∀ {l : Addr} {its : List Value} {bs : List (V × D)} {Q : Value → Shared → Prop}, s.heap.IsList l its.toArray → PySem.W.EachIs (fun u (p : V × D) => RelV p.1 u) its bs → PySem.W.EachIs (fun v (p : V × D) => ∃ as, Reads s.heap v p.2.py as) its bs → PySem.W.AllAlike (bs.map fun p => p.2.py) → PySem.W.Sortable (bs.map fun p => p.2.py) → bs.length ≤ sizeLine →
      (∀ p, p ∈ bs → X.A.units + 2 + p.2.py.depth < cLine) → (∀ out, out.length = bs.length → PySem.W.EachIs (fun u (p : V × D) => RelV p.1 u) out (bs.mergeSort (PySem.W.dataLe b fun p => p.2.py)) → Q (.ref (s.heap.objs.size + 1)) { s with heap := sortedAll s.heap its (List.toArray out) }) →
      wpAny (model X.prog X.w) X.A (call (.builtin "sorted") [.ref l] kw) Q X.xe s) :
    wpAny (model X.prog X.w) X.A (call (.builtin "sorted") us kw) (EP X pins ρ Q) X.xe s := by
  obtain ⟨a, xs, ds, rfl, hs, hl, hd, ha, hk, hf, hz, q⟩ := h
  obtain ⟨its, rv, hlst, _⟩ := I.list hs
  obtain rfl := Vals.ref1 r
  have e := vals_each rv hl
  have hlz : (xs.zip ds).length = ds.length := by rw [List.length_zip, hl, Nat.min_self]
  have hmem : ∀ p ∈ xs.zip ds, p.2 ∈ ds := fun p m => (mem_zip m).2
  refine hgo (bs := xs.zip ds) hlst.isList e ?_ ?_ ?_ (by rw [hlz, sizeLine_eq]; exact hz) (fun p m => ?_) fun out h1 h2 => ?_
  · have go : ∀ {us : List Value} {zs : List (V × D)}, PySem.W.EachIs (fun u (p : V × D) => RelV p.1 u) us zs → (∀ p ∈ zs, Dp X.K H p.1 p.2.py) → PySem.W.EachIs (fun v (p : V × D) => ∃ as, Reads s.heap v p.2.py as) us zs := by
      intro us zs z
      induction z with
      | nil => exact fun _ => .nil
      | cons h t ih => exact fun hh => .cons (Dp.reads I _ _ _ (hh _ List.mem_cons_self) h) (ih fun p m => hh p (List.mem_cons_of_mem _ m))
    exact go e hd
  · intro d hd' d' hd''
    obtain ⟨p, m, rfl⟩ := List.mem_map.mp hd'
    obtain ⟨p', m', rfl⟩ := List.mem_map.mp hd''
    exact List.all_eq_true.mp (List.all_eq_true.mp ha p.2 (hmem p m)) p'.2 (hmem p' m')
  · exact sortable_of hk (xs.zip ds) (fun p => p.2) hmem
  · have := (fit_lay p.2 60 (fits_mem hf _ (hmem p m))).2
    omega
  · obtain ⟨ep, he'⟩ := PyProof.Rows.sortedAll_at s.heap its out.toArray
    have hp : ((xs.zip ds).mergeSort (PySem.W.dataLe b fun p => p.2.py)).Perm (xs.zip ds) := List.mergeSort_perm _ _
    have hv := each_vals (fun u p => Iff.rfl) h2
    have hm : ((xs.zip ds).mergeSort (PySem.W.dataLe b fun p => p.2.py)).map (·.2) = ds.mergeSort (PySem.W.dataLe b D.py) :=
      (PySem.W.sort_maps (r := PySem.W.dataLe b fun p : V × D => p.2.py) (s := PySem.W.dataLe b D.py) (fun p : V × D => p.2) (fun x _ y _ => rfl)).trans (congrArg (·.mergeSort (PySem.W.dataLe b D.py)) (zip_snd hl))
    have hlen : (((xs.zip ds).mergeSort (PySem.W.dataLe b fun p => p.2.py)).map (·.1)).length ≤ sizeLine := by
      rw [List.length_map, hp.length_eq, hlz, sizeLine_eq]
      exact hz
    exact ⟨.ref _, upd H (s.heap.objs.size + 1) (.lst _), I.laid (t' := s.toks) (fun _ _ => PyProof.Rows.sortedAll_old) (Nat.le_succ _) ⟨hlen, out, ep, hv, he'⟩, rfl, q _ _ hp hm (I.hok.fresh (Nat.le_succ _))⟩
theorem cr_sortA (hu : X.A.units + 64 < cLine) : CallR X (.builtin "sorted") (rSortA X.K false) := fun pins s ρ H vs us Q I r h => sort_run I r hu h fun h1 h2 h3 h4 h5 h6 h7 h8 => PySem.W.sorted_data h1 h2 h3 h4 h5 h6 h7 h8
theorem cr_sortRA {b : Bool} (hu : X.A.units + 64 < cLine) : CallRK X (.builtin "sorted") [Str.ofString "reverse"] (fun vs zs H Q => zs = [.bl b] ∧ rSortA X.K b vs H Q) := by
  intro pins s ρ H vs zs us ws Q I r rz ⟨e, h⟩
  subst e
  obtain ⟨w1, rfl, e1⟩ := vals1 rz
  obtain rfl : w1 = Value.bool b := e1
  exact sort_run I r hu h fun h1 h2 h3 h4 h5 h6 h7 h8 => PySem.W.sorted_rev_data h1 h2 h3 h4 h5 h6 h7 h8
end
section
variable {K : PySem.W.Frag}
theorem zip_split : ∀ (zs : List (V × D)), zs = (zs.map (·.1)).zip (zs.map (·.2))
  | [] => rfl
  | (v, d) :: zs => congrArg ((v, d) :: ·) (zip_split zs)
theorem World.dps {H : Hp} {xs : List V} {ds : List D} {L : List (V × D)} (w : World K H (xs.zip ds ++ L)) : ∀ p ∈ xs.zip ds, Dp K H p.1 p.2.py := fun p m => by
  obtain ⟨l1, l2, e⟩ := List.append_of_mem (List.mem_append_left L m)
  have w2 : World K H ((p.1, p.2) :: (l1 ++ l2)) := by
    rw [e] at w
    exact w.perm List.perm_middle
  exact w2.dp
theorem o_sortB {b : Bool} : OpA K (rSortA K b) (k1 (fSortB b)) := a1
    (fun {H L x dx z Q} w e q => by
      cases dx with
      | lst f xs =>
        simp only [fSortB] at e
        split at e
        · rename_i hz
          cases e
          obtain ⟨a, vs, rfl, hs, hl, _, w1⟩ := w.openL
          refine ⟨a, vs, xs, rfl, hs, hl, w1.dps, hz.1, hz.2.1, hz.2.2.1, hz.2.2.2, fun zs p hp hm hn => q _ _ ?_ (same_upd hn)⟩
          rw [← hm]
          refine World.newLst (by simp) hn ?_
          rw [← zip_split]
          exact w1.perm (hp.symm.append_right _)
        · cases e
      | _ => cases e)
    (fun {dx z} e n => by
      cases dx with
      | lst f xs =>
        simp only [fSortB] at e
        split at e
        · cases e
          have n' : noVws xs = true := by cases f <;> simp_all [D.noVw]
          show noVws _ = true
          rw [noVws_all]
          exact List.all_eq_true.mpr fun x m => noVws_mem n' ((List.mergeSort_perm _ _).mem_iff.mp m)
        · cases e
      | _ => cases e)
abbrev o_sort : OpA K (rSortA K false) (k1 fSort) := o_sortB
end
section
variable {X : Cx} {e1 : Expr} {a : M} {b : Bool}
/-- sorted(e, reverse=k) -/
theorem se_sortR {k : Bool} {x : Str} {p pos kpos cpos : Pos} {j : Nat} {es : List Expr} {ma : MA} (hu : X.A.units + 64 < cLine) (hx : x = ("sorted" : Str) := by rfl) (hg : Gl X x) (hm : X.mg x = none) (hv : bootBuiltins x = some (.builtin "sorted")) (ha : SA b X (e1 :: es) ma)
    (hn : x ≠ "__name__" := by decide) (hdb : (x == ("__debug__" : Str)) = false := by decide)
    (he : backTo pos (starEach (e1 :: es) X.env) = (false, eval e1 X.env) :: backTo pos (starEach es X.env) := by rfl) (hpl : (backTo pos (starEach (e1 :: es) X.env)).any (·.1) = false := by rfl)
    (hall : (backToKw pos (keywordEach [⟨some "reverse", .Constant (.bool k) j cpos, kpos⟩] X.env)).all (·.1.isSome) = true := by rfl) (hnone : (backToKw pos (keywordEach [⟨some "reverse", .Constant (.bool k) j cpos, kpos⟩] X.env)).any (·.1.isNone) = false := by rfl) (hks : (backToKw pos (keywordEach [⟨some "reverse", .Constant (.bool k) j cpos, kpos⟩] X.env)).filterMap (·.1) = [Str.ofString "reverse"] := by rfl) :
    SE b X (.Call (.Name x p) (e1 :: es) [⟨some "reverse", .Constant (.bool k) j cpos, kpos⟩] pos) (mA (k1 (fSortB k)) ma) :=
  ⟨fun ok cd h => pe_sem (pe_callBK (cr_sortRA (b := k) hu) hg hm hv paS (pk_cons pe_bl pk_nil) hn hdb he hpl hall hnone hks)
    (semA_mono (args_run o_sortB ha ok cd h fun _ _ p => p) fun vs H1 q => ⟨rfl, q⟩)⟩
end
end Py
/-! Layer «Py», part O: list(range), pop, path[i] op= e, defs that call themselves, the script. -/
namespace Py
open PySem PySem.Spec PyProof.Rows L2

/-! ### list(range(..)) -/
theorem rgV_up (lo : Int) (n : Nat) : ((List.range n).map fun i => V.int (lo + (i : Nat))).zip (up lo n) = (up lo n).map fun d => match d with
    | .int i => (V.int i, d)
    | _ => (V.non, d) := by
  induction n generalizing lo with
  | zero => rfl
  | succ n ih =>
    rw [List.range_succ_eq_map, List.map_cons, List.map_map]
    simp only [up, List.zip_cons_cons, List.map_cons]
    refine List.cons_eq_cons.mpr ⟨by simp, ?_⟩
    rw [← ih (lo + 1)]
    congr 1
    apply List.map_congr_left
    intro i _
    simp only [Function.comp]
    congr 1
    omega
theorem World.ups {K : PySem.W.Frag} {H : Hp} {L : List (V × D)} (w : World K H L) : ∀ (n : Nat) (lo : Int), World K H (((List.range n).map fun i => V.int (lo + (i : Nat))).zip (up lo n) ++ L) := by
  intro n
  induction n with
  | zero => exact fun lo => w
  | succ n ih =>
    intro lo
    have q := ih (lo + 1)
    rw [rgV_up] at q ⊢
    simp only [up, List.map_cons]
    exact World.int lo q
def rgOk (a b : Int) : Bool := okR a && okR b && decide ((b - a).toNat ≤ 16777216)
theorem rgOk_iff {a b : Int} (h : rgOk a b = true) : RgOk a b := by
  unfold rgOk at h
  simp only [Bool.and_eq_true, decide_eq_true_eq] at h
  obtain ⟨⟨h1, h2⟩, h3⟩ := h
  exact ⟨(okR_iff h1).1, (okR_iff h1).2, (okR_iff h2).1, (okR_iff h2).2, h3⟩
def mLRg (a b : M) : M := fun σ => match a σ with
  | some (.int i, σ1) => (match b σ1 with
    | some (.int j, σ2) => if rgOk i j = true then some (.lst .own (up i (j - i).toNat), σ2) else none
    | _ => none)
  | _ => none
def mLRg1 (b : M) : M := fun σ => match b σ with
  | some (.int j, σ2) => if rgOk 0 j = true then some (.lst .own (up 0 (j - 0).toNat), σ2) else none
  | _ => none
section
variable {X : Cx} {b : Bool} {e1 e2 : Expr} {a c : M}
theorem lrg_end {ρ : L2.St} {H0 H : Hp} {σ σ' : Sg} {T : List (V × D)} {i j : Int} {Q : VK} (p : Pst X.K b H0 ρ σ σ' T [] H) (h : rgOk i j = true) (hQ : ∀ v H', Pst X.K b H0 ρ σ σ' T [(v, .lst .own (up i (j - i).toNat))] H' → Q v H') : RgOk i j ∧ ∀ q, H q = none → Q (.ref q) (upd H q (.lst (rgV i j))) :=
  ⟨rgOk_iff h, fun q hq => hQ _ _ ⟨⟨p.ok.len, p.ok.al, World.newLst (by rw [rgV_length, up_len]) hq (World.ups p.ok.w _ _)⟩, fun e => ⟨(p.cd e).1, NT.cons (d := .lst .own _) (up_noVw _ _) (p.cd e).2⟩, p.nv, fun e => (p.sm e).trans (same_upd hq)⟩⟩
theorem se_listRg2 {p p2 pos pos2 : Pos} (hc : X.calm = true) (hg : Gl X "list") (hm : X.mg "list" = none) (hg2 : Gl X "range") (hm2 : X.mg "range" = none) (ha : SE b X e1 a) (hb : SE b X e2 c) (na : starEach [e1, e2] X.env = (false, eval e1 X.env) :: starEach [e2] X.env := by rfl) (nb : starEach [e2] X.env = (false, eval e2 X.env) :: starEach [] X.env := by rfl)
    (hp : (backTo pos2 (starEach [e2] X.env)).any (·.1) = false := by rfl) (nc : starEach [.Call (.Name "range" p2) [e1, e2] [] pos2] X.env = (false, eval (.Call (.Name "range" p2) [e1, e2] [] pos2) X.env) :: starEach [] X.env := by rfl) :
    SE b X (.Call (.Name "list" p) [.Call (.Name "range" p2) [e1, e2] [] pos2] [] pos) (mLRg a c) := ⟨fun {ρ H σ T d σ'} ok cd h => by
  unfold mLRg at h
  split at h
  · rename_i i σ1 h1
    split at h
    · rename_i j σ2 h2
      split at h
      · rename_i hr
        cases h
        refine pe_sem (pe_listRg hc hg hm (prg_2 hg2 hm2 peS peS na nb hp) nc) ?_
        refine semE_mono (ha.run ok cd h1) fun v1 H1 p1 => ?_
        refine semE_mono (hb.run p1.ok p1.cd h2) fun v2 H2 p2 => ?_
        have ev2 := World.int_of (L := ([(v1, D.int i)] ++ T) ++ sl ρ σ') p2.ok.w
        have okt := p2.ok.tail
        have ev1 := World.int_of (L := T ++ sl ρ σ') okt.w
        subst ev1 ev2
        exact ⟨i, j, rfl, rfl, lrg_end ⟨okt.tail, fun e => ⟨(p2.cd e).1, (p2.cd e).2.tail.tail⟩, fun n => p2.nv (p1.nv n), fun e => (p1.sm e).trans (p2.sm e)⟩ hr fun v H' p => p⟩
      · cases h
    · cases h
  · cases h⟩
theorem se_listRg1 {p p2 pos pos2 : Pos} (hc : X.calm = true) (hg : Gl X "list") (hm : X.mg "list" = none) (hg2 : Gl X "range") (hm2 : X.mg "range" = none) (hb : SE b X e2 c) (nb : starEach [e2] X.env = (false, eval e2 X.env) :: starEach [] X.env := by rfl)
    (nc : starEach [.Call (.Name "range" p2) [e2] [] pos2] X.env = (false, eval (.Call (.Name "range" p2) [e2] [] pos2) X.env) :: starEach [] X.env := by rfl) :
    SE b X (.Call (.Name "list" p) [.Call (.Name "range" p2) [e2] [] pos2] [] pos) (mLRg1 c) := ⟨fun {ρ H σ T d σ'} ok cd h => by
  unfold mLRg1 at h
  split at h
  · rename_i j σ2 h2
    split at h
    · rename_i hr
      cases h
      refine pe_sem (pe_listRg hc hg hm (prg_1 hg2 hm2 peS nb) nc) ?_
      refine semE_mono (hb.run ok cd h2) fun v2 H2 p2 => ?_
      have ev2 := World.int_of (L := T ++ sl ρ σ') p2.ok.w
      subst ev2
      exact ⟨j, rfl, lrg_end ⟨p2.ok.tail, fun e => ⟨(p2.cd e).1, (p2.cd e).2.tail⟩, p2.nv, p2.sm⟩ hr fun v H' p => p⟩
    · cases h
  · cases h⟩
end
/-! ### path.pop() -/
/-- the last item of the list at a path, taken off -/
def popAt (r : Nat) (js : List Nat) (σ : Sg) : Option (D × Sg) := match σ[r]? with
  | some (some d) => (match dAt d js with
    | some (.lst .own xs) => (match xs.getLast? with
      | some x => if x.noOwn = true then some (x, σ.set r (some (dPut d js (.lst .own xs.dropLast)))) else none
      | none => none)
    | _ => none)
  | _ => none
def sPopP (r : Nat) (mp : MP) : MS := fun σ => match mp σ with
  | some js => (match upAt r js (fun xs => if xs.isEmpty = true then none else some xs.dropLast) σ with
    | some σ1 => some (.nx, σ1)
    | none => none)
  | none => none
theorem noVws_dropLast {xs : List D} (h : noVws xs = true) : noVws xs.dropLast = true := by
  rw [noVws_all]
  exact List.all_eq_true.mpr fun x m => noVws_mem h (List.dropLast_subset xs m)
theorem reps_dropLast {K : PySem.W.Frag} {Z : Addr → Prop} {H : Hp} : ∀ {vs : List V} {xs : List D} {f : List Addr}, Reps K Z H vs xs f → f.Nodup → ∃ h, Reps K Z H vs.dropLast xs.dropLast h ∧ h.Nodup ∧ ∀ b ∈ h, b ∈ f
  | _, _, _, .nil, nd => ⟨[], .nil, nd, fun b m => m⟩
  | _, _, _, .cons (vs := []) (ds := []) (f1 := f1) (f2 := f2) r t, nd => by
    exact ⟨[], .nil, List.nodup_nil, fun b m => nomatch m⟩
  | _, _, _, .cons (vs := v :: vs) (ds := []) r t, nd => by have := t.length; simp at this
  | _, _, _, .cons (vs := []) (ds := d :: ds) r t, nd => by have := t.length; simp at this
  | _, _, _, .cons (vs := v :: vs) (ds := d :: ds) (f1 := f1) (f2 := f2) r t, nd => by
    obtain ⟨n1, n2, n3⟩ := List.nodup_append.mp nd
    obtain ⟨h, rh, nh, sub⟩ := reps_dropLast t n2
    exact ⟨f1 ++ h, .cons r rh, List.nodup_append.mpr ⟨n1, nh, fun a ha b hb e => n3 a ha b (sub b hb) e⟩, fun b m => (List.mem_append.mp m).elim (List.mem_append_left _) fun m => List.mem_append_right _ (sub b m)⟩
abbrev popE (e1 : Expr) (apos cpos : Pos) : Expr := .Call (.Attribute e1 "pop" apos) [] [] cpos
section
variable {X : Cx} {e1 e2 e3 : Expr} {r : Nat} {mp : MP} {a c : M} {pos : Pos}
theorem pop_nv (xs xs' : List D) (e : (if xs.isEmpty = true then none else some xs.dropLast) = some xs') (n : noVws xs = true) : noVws xs' = true := by
  split at e <;> cases e
  exact noVws_dropLast n
theorem ss_popP {apos cpos : Pos} (hp : SPt X e1 r mp) (hbase : attributeBase e1 "pop" X.env (eval e1 X.env) = eval e1 X.env := by rfl) (hline : (apos.endLine == cpos.line) = true := by rfl)
    (hsw : swapsWith (popE e1 apos cpos) none pos.line X.env = pure false := by rfl) : SS X (.Expr (popE e1 apos cpos) pos) [] (sPopP r mp) := ⟨fun {ρ H σ T f σ' E} ok nv nt h F => by
  unfold sPopP at h
  split at h
  · rename_i js hjs
    split at h
    · rename_i σ1 h1
      cases h
      refine ps_sem (ps_expr (pe_bm0 PySem.F.plainAttrs_list PySem.F.slot_list_pop PySem.F.type_list_pop mt_pop peS hbase hline) hsw) ?_
      refine hp.run ok hjs fun w H1 s1 ok1 wk => ?_
      obtain ⟨p, vs, xs, xs', rfl, hp2, hl, hf, nv', fin⟩ := upAt_run (T := T) (ws := []) (es := []) rfl ok1 nv nt wk h1 pop_nv
      split at hf <;> cases hf
      rename_i hz
      have hlen : 0 < xs.length := by
        cases xs with
        | nil => exact absurd rfl hz
        | cons x r => exact Nat.succ_pos _
      have hlt : vs.length - 1 < vs.length := by omega
      refine ⟨.inl ⟨rfl, vs, .of hp2⟩, p, vs, vs[vs.length - 1], rfl, rfl, hp2, List.getElem?_eq_getElem hlt, ?_⟩
      refine F ρ _ .refl (fin vs.dropLast fun Z f g rf rg nd => ?_) nv'
      obtain ⟨_, rfl⟩ := rg.inv_nil
      rw [List.append_nil] at nd ⊢
      exact reps_dropLast rf nd
    · cases h
  · cases h⟩
/-! ### path[i] op= e : ints -/
theorem pget_list {X : Cx} : PGet X (rIxL X.K) := by
  intro pins s σ H x y v u Q I rx ry h
  obtain ⟨p, xs, i, z, rfl, rfl, hq, he, q⟩ := h
  cases rx
  obtain ⟨t, rfl⟩ := ry
  obtain ⟨its, r, pl, hz⟩ := I.list hq
  obtain ⟨j, h1, h2, h3, h4, h5⟩ := atI_get he
  obtain ⟨w, ew, rw'⟩ := r.get h2
  have hl := r.length
  have hn := line63
  have fin : EP X pins σ Q w s := ⟨z, H, I, rw', q⟩
  by_cases h0 : 0 ≤ i
  · have hj : i.toNat = j := by
      rw [seqIndex_of h0 h5] at h1
      exact Option.some.inj h1
    exact wpAny_getItem_list pl.isList h0 (by omega) (by rw [hj]; simpa using ew) fin
  · have hj : (i + (its.toArray.size : Int)).toNat = j := by
      rw [seqIndex_neg (by omega) h4] at h1
      rw [List.size_toArray, ← hl]
      exact Option.some.inj h1
    exact wpAny_getItem_list_neg pl.isList (by omega) (by rw [List.size_toArray] <;> omega) (by omega) (by rw [hj]; simpa using ew) fin
theorem Rep.walkReps {K : PySem.W.Frag} {Z : Addr → Prop} {H : Hp} : ∀ {js : List Nat} {v w : V} {d : D} {xs : List D} {fp : List Addr}, Rep K Z H v d fp → dAt d js = some (.lst .own xs) → Walk H v js w → ∃ p vs f, w = .ref p ∧ H p = some (.lst vs) ∧ Reps K Z H vs xs f
  | [], v, w, d, xs, fp, r, h, hw => by
    cases h
    obtain ⟨a, vs, f, rfl, _, h1, r1⟩ := r.ownInv
    exact ⟨a, vs, f, hw, h1, r1⟩
  | j :: js, v, w, d, xs, fp, r, h, hw => by
    match d, h, r with
    | .lst .own ds, h, r =>
      simp only [dAt] at h
      split at h
      · rename_i x hx
        obtain ⟨a, vs, f, rfl, _, h1, r1⟩ := r.ownInv
        obtain ⟨b, ws, v', e, h2, h3, h4⟩ := hw
        cases e
        rw [h1] at h2
        cases h2
        obtain ⟨v'', g, q1, q2, _⟩ := r1.get hx
        rw [h3] at q1
        cases q1
        exact Rep.walkReps q2 h h4
      · cases h
theorem Ok.walkInt {K : PySem.W.Frag} {H : Hp} {ρ : L2.St} {σ : Sg} {T : List (V × D)} {d : D} {v w : V} {js : List Nat} {xs : List D} {j : Nat} {x : Int} (ok : Ok K H ρ σ T) (hσ : σ[r]? = some (some d)) (hρ : ρ[r]? = some (some v)) (hd : dAt d js = some (.lst .own xs)) (hw : Walk H v js w) (hx : xs[j]? = some (.int x)) : ∃ p vs, w = .ref p ∧ H p = some (.lst vs) ∧ vs.length = xs.length ∧ vs[j]? = some (.int x) := by
  obtain ⟨v', e, ok'⟩ := ok.take hσ
  rw [hρ] at e
  cases e
  obtain ⟨_, rp⟩ := World.repd (L := T ++ sl ρ (σ.set r none)) ok'.w
  obtain ⟨p, vs, f, rfl, hp, rr⟩ := rp.walkReps hd hw
  obtain ⟨u, g, hu, ru, _⟩ := rr.get hx
  cases ru
  exact ⟨p, vs, rfl, hp, rr.length, hu⟩
/-- what stands at path[i] : its path, place, number -/
def intAt (r : Nat) (mp : MP) (n : M) (σ : Sg) : Option (List Nat × Int × Int) := match mp σ with
  | some js => (match nInt n σ with
    | some i => (match σ[r]? with
      | some (some d) => (match dAt d js with
        | some (.lst .own xs) => (match ixN xs.length i with
          | some j => (match xs[j]? with
            | some (.int x) => some (js, i, x)
            | _ => none)
          | none => none)
        | _ => none)
      | _ => none)
    | none => none)
  | none => none
def sAugP (r : Nat) (mp : MP) (n : M) (f : D → D → Option D) (m : M) : MS := fun σ => match intAt r mp n σ with
  | some (js, i, x) => (match nInt m σ with
    | some k => (match f (.int x) (.int k) with
      | some z => (match upAt r js (fun xs => (ixN xs.length i).map fun j => xs.set j z) σ with
        | some σ1 => some (.nx, σ1)
        | none => none)
      | none => none)
    | none => none)
  | none => none
theorem intAt_inv {n : M} {σ : Sg} {js : List Nat} {i x : Int} (h : intAt r mp n σ = some (js, i, x)) : ∃ d xs j, mp σ = some js ∧ nInt n σ = some i ∧ σ[r]? = some (some d) ∧ dAt d js = some (.lst .own xs) ∧ ixN xs.length i = some j ∧ xs[j]? = some (.int x) := by
  unfold intAt at h
  split at h
  · rename_i js0 h1
    split at h
    · rename_i i0 h2
      split at h
      · rename_i d h3
        split at h
        · rename_i xs h4
          split at h
          · rename_i j h5
            split at h
            · rename_i x0 h6
              cases h
              exact ⟨d, xs, j, h1, h2, h3, h4, h5, h6⟩
            · cases h
          · cases h
        · cases h
      · cases h
    · cases h
  · cases h
theorem ss_augP {op : Operator} {g : Int → Int → Int} {f : D → D → Option D} {tpos : Pos} [KeepM c] [KeepM a] (hp : SPt X e1 r mp) (hc : SE false X e2 c) (he : SE false X e3 a) (ho : PIp X op (ipI g)) (hf' : f = kI fun i j => some (.int (g i j)) := by rfl)
    (ha : ∀ ov iv new, augStore e2 ov iv new = (do holding [new, ov, iv] (setItem ov iv new); release [new, ov, iv] []; pure .next) := by intros; rfl) :
    SS X (.AugAssign (.Subscript e1 e2 tpos) op e3 pos) [] (sAugP r mp c f a) := ⟨fun {ρ H σ T fo σ' E} ok nv nt h F => by
  subst hf'
  unfold sAugP at h
  split at h
  · rename_i js i x hx
    obtain ⟨d, xs0, j, hjs, hi, hd0, hx0, hj, hxj⟩ := intAt_inv hx
    split at h
    · rename_i k hk
      split at h
      · rename_i z hz
        have ez : z = .int (g x k) := by simpa [kI] using hz.symm
        subst ez
        split at h
        · rename_i σ1 h1
          cases h
          refine ps_sem (ps_augS peS peS pget_list peS ho set_list ha) ?_
          refine hp.run ok hjs fun w H1 s1 ok1 wk => ?_
          refine int_run hc ok1 hi fun H2 s2 ok2 => ?_
          obtain ⟨v0, hv0⟩ := ok.al r d hd0
          obtain ⟨p0, vs0, rfl, hp0, hl0, hvj⟩ := ok2.walkInt hd0 hv0 hx0 ((wk v0 hv0).same s2) hxj
          refine ⟨p0, vs0, i, .int x, rfl, rfl, .of hp0, ?_, ?_⟩
          · unfold atI
            rw [hl0, hj]
            exact hvj
          refine int_run he ok2 hk fun H3 s3 ok3 => ?_
          obtain ⟨p, vs, xs, xs', e, hp2, hl, hf, nv', fin⟩ := upAt_run (T := T) (ws := [.int (g x k)]) (es := [.int (g x k)]) (w := .ref p0) rfl (Ok.lift (T1 := []) (T2 := [(.int (g x k), .int (g x k))]) ok3 fun L w => World.int (g x k) w) nv (nt.cons rfl) (fun v' e => ((wk v' e).same s2).same s3) h1 (fun xs xs' e n => by
            cases q : ixN xs.length i with
            | none => rw [q] at e; cases e
            | some j => rw [q] at e; cases e; exact noVws_set n rfl j)
          cases e
          have hd3 : H3 p0 = some (.lst vs0) := s3 _ _ hp0
          rw [hd3] at hp2
          cases hp2
          have hj2 : ixN xs.length i = some j := by rw [← hl, hl0]; exact hj
          rw [hj2] at hf
          cases hf
          refine ⟨x, k, rfl, rfl, p0, vs0, i, j, rfl, rfl, hd3, by rw [hl0]; exact hj, ?_⟩
          exact F ρ _ .refl (fin (vs0.set j (.int (g x k))) fun Z f g rf rg nd => rep_set (ixN_seq hj2).2.1 rf rg nd) nv'
        · cases h
      · cases h
    · cases h
  · cases h⟩
end
/-! ### defs that call themselves: by the depth of their calls -/
def fnR (N : Nat) (m : Fn → MS) : Nat → Fn
  | 0 => fun _ => none
  | n + 1 => fnD N (m (fnR N m n))
theorem fn_none {P : Program} {w : PySem.World} {K : PySem.W.Frag} {mg : Str → Option Value} {base : Heap} {k : Nat} {f : Addr} {fd : FuncData} {ps : List Str} {n : Nat} {ws : List Nat} (hn : n = ps.length) : FnOk P w K mg base CX0 k f fd ps (spOf K n ws fun _ => none) :=
  ⟨fun vs H Q E h => hn ▸ h.1, fun A outer s H args us vs Q E hr he hb hv h => by
    obtain ⟨_, ds, T, r, σ, _, _, _, z, _⟩ := h
    cases z⟩
/-! ### the script -/
theorem world_scr {K : PySem.W.Frag} {H : Hp} {a : Addr} {ns : List Int} (h : SqL K H a (ns.map V.int)) : World K H [(.ref a, .lst .scr (ns.map D.int))] := by
  refine ⟨fun b => b = a ∧ ∃ o, H b = some o, [], .cons (f1 := []) (.scr ?_) .nil, List.nodup_nil, fun _ m => (List.not_mem_nil m).elim, fun b z => z.2⟩
  rcases h with h | h
  · refine .inl ⟨⟨rfl, ?_⟩, h⟩
    rcases h with h | ⟨o, h⟩
    · exact ⟨_, h⟩
    · exact ⟨_, h⟩
  · exact .inr h
theorem sp_law {K : PySem.W.Frag} {H : Hp} {a : Addr} {ns : List Int} {ws : List Nat} {fn : Fn} {E : XK} (hS : SqL K H a (ns.map V.int)) (h : ∃ σ, fn [.lst .scr (ns.map D.int)] = some (.bl true, σ)) : spOf K 1 ws fn [.ref a] H (fun v _ => v = .bl true) E := by
  obtain ⟨σ, h⟩ := h
  have nvs : ∀ ns : List Int, noVws (ns.map D.int) = true := fun ns => by
    induction ns with
    | nil => rfl
    | cons n r ih => exact ih
  refine ⟨rfl, [.lst .scr (ns.map D.int)], [], .bl true, σ, rfl, world_scr hS, NT.cons (d := .lst .scr _) (nvs ns) (fun _ m => nomatch m), h, fun v H' w _ _ => ?_⟩
  obtain ⟨_, r⟩ := w.repd
  cases r
  rfl
end Py
/-! Layer «Py», part P: x[i], x[j] = x[j], x[i]. -/
namespace Py
open PySem PySem.Spec PyProof.Rows L2

def swapL (xs : List D) (i j : Int) : Option (List D) := match ixN xs.length i with
  | some p => (match ixN xs.length j with
    | some q => (match xs[p]? with
      | some dp => (match xs[q]? with
        | some dq => some ((xs.set p dq).set q dp)
        | none => none)
      | none => none)
    | none => none)
  | none => none
def sSwap (r a b : Nat) : MS := fun σ => match σ[r]? with
  | some (some (.lst .own xs)) => (match σ[a]? with
    | some (some (.int i)) => (match σ[b]? with
      | some (some (.int j)) => (match swapL xs i j with
        | some xs' => some (.nx, σ.set r (some (.lst .own xs')))
        | none => none)
      | _ => none)
    | _ => none)
  | _ => none
theorem swapL_inv {xs xs' : List D} {i j : Int} (h : swapL xs i j = some xs') : ∃ p q dp dq, ixN xs.length i = some p ∧ ixN xs.length j = some q ∧ xs[p]? = some dp ∧ xs[q]? = some dq ∧ xs' = (xs.set p dq).set q dp := by
  unfold swapL at h
  split at h
  · rename_i p hp
    split at h
    · rename_i q hq
      split at h
      · rename_i dp hdp
        split at h
        · rename_i dq hdq
          cases h
          exact ⟨p, q, dp, dq, hp, hq, hdp, hdq, rfl⟩
        · cases h
      · cases h
    · cases h
  · cases h
section
variable {K : PySem.W.Frag} {Z : Addr → Prop} {H : Hp}
theorem pm3 {α : Type} (a b c : List α) : (a ++ (b ++ c)).Perm (b ++ (a ++ c)) := by
  rw [← List.append_assoc, ← List.append_assoc]
  exact List.perm_append_comm.append_right _
theorem Reps.trade : ∀ {xs : List D} {vs : List V} {f g : List Addr} {q : Nat} {v vq : V} {d dq : D}, Rep K Z H v d g → Reps K Z H vs xs f → xs[q]? = some dq → vs[q]? = some vq → ∃ g' h, Rep K Z H vq dq g' ∧ Reps K Z H (vs.set q v) (xs.set q d) h ∧ (g' ++ h).Perm (g ++ f)
  | [], _, _, _, _, _, _, _, _, _, _, h, _ => by simp at h
  | x :: xs, vs, f, g, 0, v, vq, d, dq, rv, r, h1, h2 => by
    obtain ⟨u, vr, f1, f2, rfl, rfl, r1, t⟩ := r.inv_cons
    have e1 : x = dq := by simpa using h1
    have e2 : u = vq := by simpa using h2
    subst e1 e2
    exact ⟨f1, g ++ f2, r1, .cons rv t, pm3 _ _ _⟩
  | x :: xs, vs, f, g, q + 1, v, vq, d, dq, rv, r, h1, h2 => by
    obtain ⟨u, vr, f1, f2, rfl, rfl, r1, t⟩ := r.inv_cons
    obtain ⟨g', h, ra, rb, pm⟩ := Reps.trade (xs := xs) rv t (by simpa using h1) (by simpa using h2)
    exact ⟨g', f1 ++ h, ra, .cons r1 rb, (pm3 _ _ _).trans ((pm.append_left f1).trans (pm3 _ _ _))⟩
theorem Reps.swap2 : ∀ {xs : List D} {vs : List V} {f : List Addr} {p q : Nat} {vp vq : V} {dp dq : D}, Reps K Z H vs xs f → xs[p]? = some dp → vs[p]? = some vp → xs[q]? = some dq → vs[q]? = some vq → ∃ h, Reps K Z H ((vs.set p vq).set q vp) ((xs.set p dq).set q dp) h ∧ h.Perm f
  | [], _, _, _, _, _, _, _, _, _, h, _, _, _ => by simp at h
  | x :: xs, vs, f, 0, 0, vp, vq, dp, dq, r, h1, h2, h3, h4 => by
    obtain ⟨u, vr, f1, f2, rfl, rfl, r1, t⟩ := r.inv_cons
    have e1 : x = dp := by simpa using h1
    have e2 : u = vp := by simpa using h2
    subst e1 e2
    exact ⟨f1 ++ f2, .cons r1 t, .refl _⟩
  | x :: xs, vs, f, 0, q + 1, vp, vq, dp, dq, r, h1, h2, h3, h4 => by
    obtain ⟨u, vr, f1, f2, rfl, rfl, r1, t⟩ := r.inv_cons
    have e1 : x = dp := by simpa using h1
    have e2 : u = vp := by simpa using h2
    subst e1 e2
    obtain ⟨g', h, ra, rb, pm⟩ := Reps.trade r1 t (by simpa using h3) (by simpa using h4)
    exact ⟨g' ++ h, .cons ra rb, pm⟩
  | x :: xs, vs, f, p + 1, 0, vp, vq, dp, dq, r, h1, h2, h3, h4 => by
    obtain ⟨u, vr, f1, f2, rfl, rfl, r1, t⟩ := r.inv_cons
    have e1 : x = dq := by simpa using h3
    have e2 : u = vq := by simpa using h4
    subst e1 e2
    obtain ⟨g', h, ra, rb, pm⟩ := Reps.trade r1 t (by simpa using h1) (by simpa using h2)
    exact ⟨g' ++ h, .cons ra rb, pm⟩
  | x :: xs, vs, f, p + 1, q + 1, vp, vq, dp, dq, r, h1, h2, h3, h4 => by
    obtain ⟨u, vr, f1, f2, rfl, rfl, r1, t⟩ := r.inv_cons
    obtain ⟨h, ra, pm⟩ := Reps.swap2 t (by simpa using h1) (by simpa using h2) (by simpa using h3) (by simpa using h4)
    exact ⟨f1 ++ h, .cons r1 ra, pm.append_left f1⟩
end
section
variable {X : Cx} {r a b : Nat}
abbrev sub2 (x i : Str) (p1 p2 p3 : Pos) : Expr := .Subscript (.Name x p1) (.Name i p2) p3
theorem ss_swap {x i j : Str} {p1 p2 p3 q1 q2 q3 r1 r2 r3 s1 s2 s3 pt1 pt2 pos : Pos} {k1 k2 : Nat} (hc : X.calm = true) (hx : X.N[r]? = some x := by rfl) (hi : X.N[a]? = some i := by rfl) (hj : X.N[b]? = some j := by rfl)
    (vx : Vis X.env.scope x := by first | exact Or.inl rfl | exact Or.inr (Or.inl rfl)) (vi : Vis X.env.scope i := by first | exact Or.inl rfl | exact Or.inr (Or.inl rfl)) (vj : Vis X.env.scope j := by first | exact Or.inl rfl | exact Or.inr (Or.inl rfl))
    (dx : (x == ("__debug__" : Str)) = false := by decide) (di : (i == ("__debug__" : Str)) = false := by decide) (dj : (j == ("__debug__" : Str)) = false := by decide)
    (cx : (x == ("__classdict__" : Str)) = false := by decide) (ci : (i == ("__classdict__" : Str)) = false := by decide) (cj : (j == ("__classdict__" : Str)) = false := by decide)
    (hs : swapsWithSole [.Tuple [sub2 x i p1 p2 p3, sub2 x j q1 q2 q3] k1 pt1] (.Tuple [sub2 x j r1 r2 r3, sub2 x i s1 s2 s3] k2 pt2) pos.line X.env = pure false := by rfl) (hw : swappedStores [.Tuple [sub2 x i p1 p2 p3, sub2 x j q1 q2 q3] k1 pt1] (.Tuple [sub2 x j r1 r2 r3, sub2 x i s1 s2 s3] k2 pt2) X.env = pure none := by rfl) :
    SS X (.Assign [.Tuple [sub2 x i p1 p2 p3, sub2 x j q1 q2 q3] k1 pt1] (.Tuple [sub2 x j r1 r2 r3, sub2 x i s1 s2 s3] k2 pt2) pos) [] (sSwap r a b) := ⟨fun {ρ H σ T f σ' E} ok nv nt h F => by
  unfold sSwap at h
  split at h
  · rename_i xs hr
    split at h
    · rename_i i0 ha
      split at h
      · rename_i j0 hb
        split at h
        · rename_i xs' hsw
          cases h
          obtain ⟨p, q, dp, dq, hp, hq, hdp, hdq, rfl⟩ := swapL_inv hsw
          have int_at : ∀ {c : Nat} {n : Int}, σ[c]? = some (some (.int n)) → ρ[c]? = some (some (.int n)) := fun {c n} hc => by
            obtain ⟨v, hv, okc⟩ := ok.take hc
            have e := World.int_of (L := T ++ sl ρ (σ.set c none)) okc.w
            subst e
            exact hv
          have vi0 := int_at ha
          have vj0 := int_at hb
          obtain ⟨v, hv, ok1⟩ := ok.take hr
          have nv1 : NV (σ.set r none) := nv.set fun _ e => nomatch e
          have nL : ∀ z ∈ T ++ sl ρ (σ.set r none), z.2.noVw = true := NT.all nv1 nt
          have nx : noVws xs = true := nv r _ hr
          obtain ⟨p0, vs0, rfl, _, hl0, hh, _⟩ := World.openL (L := T ++ sl ρ (σ.set r none)) ok1.w
          have hH := hh (by decide)
          have hp1 := (ixN_seq hp).2.1
          have hq1 := (ixN_seq hq).2.1
          have ep : vs0[p]? = some vs0[p] := List.getElem?_eq_getElem (by omega)
          have eq : vs0[q]? = some vs0[q] := List.getElem?_eq_getElem (by omega)
          have W := World.put (ws := []) (es := []) (L := T ++ sl ρ (σ.set r none)) rfl nx rfl nL ok1.w
          obtain ⟨vs1, hH1, hl1, fin⟩ := W
          rw [hH] at hH1
          cases hH1
          refine ps_sem (ps_asg (pe_tup (pa_cons (pe_ix ix_list (pe_var hx vx dx cx) (pe_var hj vj dj cj) (fun _ _ => rfl)) (pa_cons (pe_ix ix_list (pe_var hx vx dx cx) (pe_var hi vi di ci) (fun _ _ => rfl)) pa_nil rfl) rfl))
            (pg_tup hc (pgs_cons (pg_sub (pe_var hx vx dx cx) (pe_var hi vi di ci) set_list (by intro _; rfl)) (pgs_cons (pg_sub (pe_var hx vx dx cx) (pe_var hj vj dj cj) set_list (by intro _; rfl)) pgs_nil rfl) rfl) rfl rfl) hs hw rfl) ?_
          have at_ : ∀ {n : Int} {k : Nat}, ixN xs.length n = some k → k < xs.length → ∀ {w : V}, vs0[k]? = some w → atI vs0 n = some w := fun {n k} e _ {w} ew => by
            unfold atI
            rw [hl0, e]
            exact ew
          refine ⟨_, hv, _, vj0, p0, vs0, j0, vs0[q], rfl, rfl, .of hH, at_ hq hq1 eq, ?_⟩
          refine ⟨_, hv, _, vi0, p0, vs0, i0, vs0[p], rfl, rfl, .of hH, at_ hp hp1 ep, ?_⟩
          refine ⟨by rw [sizeLine_eq]; exact Nat.le_of_ble_eq_true rfl, fun t ht => ?_⟩
          have hpt : p0 ≠ t := fun e => by rw [e] at hH; rw [hH] at ht; cases ht
          refine ⟨t, [vs0[q], vs0[p]], rfl, .of upd_same, rfl, ?_⟩
          have h1 : upd H t (.tup [vs0[q], vs0[p]]) p0 = some (.lst vs0) := by rw [upd_ne hpt]; exact hH
          refine ⟨_, _, rfl, _, hv, _, vi0, p0, vs0, i0, p, rfl, rfl, h1, by rw [hl0]; exact hp, ?_⟩
          refine ⟨_, _, rfl, _, hv, _, vj0, p0, vs0.set p vs0[q], j0, q, rfl, rfl, upd_same, by rw [List.length_set, hl0]; exact hq, ?_⟩
          refine ⟨rfl, ?_⟩
          rw [upd_upd]
          have nx2 : noVws ((xs.set p dq).set q dp) = true := noVws_set (noVws_set nx (noVws_mem nx (List.mem_of_getElem? hdq)) p) (noVws_mem nx (List.mem_of_getElem? hdp)) q
          have w2 := fin ((vs0.set p vs0[q]).set q vs0[p]) ((xs.set p dq).set q dp) nx2 fun Z f g rf rg nd => by
            obtain ⟨h, rh, pm⟩ := rf.swap2 hdp ep hdq eq
            obtain ⟨_, rfl⟩ := rg.inv_nil
            rw [List.append_nil] at nd ⊢
            exact ⟨h, rh, pm.nodup_iff.mpr nd, fun b m => pm.mem_iff.mp m⟩
          have w3 : World X.K (upd (upd H t (.tup [vs0[q], vs0[p]])) p0 (.lst ((vs0.set p vs0[q]).set q vs0[p]))) ((.ref p0, .lst .own ((xs.set p dq).set q dp)) :: (T ++ sl ρ (σ.set r none))) := by
            refine w2.same fun z o e => ?_
            by_cases hz : z = p0
            · subst hz
              rw [upd_same] at e ⊢
              exact e
            · rw [upd_ne hz] at e ⊢
              by_cases hzt : z = t
              · subst hzt
                rw [ht] at e
                cases e
              · rw [upd_ne hzt]
                exact e
          have ok3 : Ok X.K (upd (upd H t (.tup [vs0[q], vs0[p]])) p0 (.lst ((vs0.set p vs0[q]).set q vs0[p]))) ρ (σ.set r none) ((.ref p0, .lst .own ((xs.set p dq).set q dp)) :: T) := ⟨ok1.len, ok1.al, w3⟩
          have ok4 := Ok.back ok3 hv
          rw [List.set_set] at ok4
          exact F ρ _ .refl ok4 (nv.set fun d e => by cases e; exact nx2)
        · cases h
      · cases h
    · cases h
  · cases h⟩
end
end Py
/-! Layer «Py», part Q: an argument that is lent after the later ones are reckoned. -/
namespace Py
open PySem PySem.Spec PyProof.Rows L2
def aLate (i : Nat) (r : MA) : MA := fun σ => match σ[i]? with
  | some (some _) => (match r σ with
    | some (xs, σ1) => (match mLend i σ1 with
      | some (x, σ2) => some (x :: xs, σ2)
      | none => none)
    | none => none)
  | _ => none
section
variable {X : Cx} {es : List Expr} {ma : MA} {ld : List (Option Nat)}
theorem sl_late {i : Nat} {x : Str} {p : Pos} (hr : SL X es ld ma) (hN : X.N[i]? = some x := by rfl) (hv : Vis X.env.scope x := by first | exact Or.inl rfl | exact Or.inr (Or.inl rfl) | exact Or.inr (Or.inr rfl)) (hd : (x == ("__debug__" : Str)) = false := by decide)
    (hcd : (x == ("__classdict__" : Str)) = false := by decide) (hs : starEach (.Name x p :: es) X.env = (false, eval (.Name x p) X.env) :: starEach es X.env := by rfl) : SL X (.Name x p :: es) (some i :: ld) (aLate i ma) := ⟨fun {ρ H σ T d σ'} ok nv nt h => by
  unfold aLate at h
  split at h
  · rename_i dd hdd
    split at h
    · rename_i xs σ1 h1
      split at h
      · rename_i d0 σ2 h2
        cases h
        refine pa_sem (pa_cons (pe_var hN hv hd hcd) paS hs) ?_
        obtain ⟨v, hv', _⟩ := ok.take hdd
        refine ⟨v, hv', ?_⟩
        refine semA_mono (hr.run ok nv nt h1) fun vs H2 ⟨hl, hl2, hld, p2⟩ => ?_
        unfold mLend at h2
        split at h2
        · rename_i d1 hd1
          obtain ⟨v2, hv2, okt⟩ := p2.ok.take hd1
          have ev : v2 = v := by
            rw [hv'] at hv2
            cases hv2
            rfl
          subst ev
          have nd1 := p2.nvt.1 i d1 hd1
          have both : ∃ (ok1 : Ok X.K H2 ρ σ' ((v2, d0) :: (vs.zip xs ++ T))), d0 = d1 ∧ NV σ' := by
            split at h2
            · rename_i no
              cases h2
              have ok2 := (okt.lift (T1 := [(v2, d0)]) (T2 := [(v2, d0), (v2, d0)]) fun L w => World.dup no w)
              have ok3 := Ok.back (T := (v2, d0) :: (vs.zip xs ++ T)) ok2 hv'
              have e : (σ'.set i none).set i (some d0) = σ' := by
                rw [List.set_set]
                obtain ⟨h1, h2⟩ := List.getElem?_eq_some_iff.mp hd1
                rw [← h2, List.set_getElem_self]
              rw [e] at ok3
              exact ⟨ok3, rfl, p2.nvt.1⟩
            · cases h2
              exact ⟨okt, rfl, p2.nvt.1.set fun _ e => nomatch e⟩
          obtain ⟨ok1, e0, nv1⟩ := both
          subst e0
          refine ⟨by simp [hl], by simp [hl2], fun j i' v' h1' h2' => ?_, ok1, cdT nv1 (p2.nvt.2.cons nd1), fun n => nv1, fun e => nomatch e⟩
          cases j with
          | zero =>
            simp at h1' h2'
            subst h1' h2'
            exact hv'
          | succ j => exact hld j i' v' (by simpa using h1') (by simpa using h2')
        · cases h2
      · cases h
    · cases h
  · cases h⟩
end
end Py
/-! Layer «Py», part W: meanings reckoned forwards, for the plain part of a proof. -/
namespace Py
open PySem PySem.Spec PyProof.Rows L2

def wE (m : M) (σ : Sg) (Q : D → Sg → Prop) : Prop := ∃ p, m σ = some p ∧ Q p.1 p.2
def wT (m : MT) (σ : Sg) (Q : Bool → Sg → Prop) : Prop := ∃ p, m σ = some p ∧ Q p.1 p.2
def wA (m : MA) (σ : Sg) (Q : List D → Sg → Prop) : Prop := ∃ p, m σ = some p ∧ Q p.1 p.2
def wO (m : MO) (σ : Sg) (Q : Option Int → Sg → Prop) : Prop := ∃ p, m σ = some p ∧ Q p.1 p.2
def wS (m : MS) (σ : Sg) (Q : Fo → Sg → Prop) : Prop := ∃ p, m σ = some p ∧ Q p.1 p.2
def wG (g : MG) (d : D) (σ : Sg) (Q : Sg → Prop) : Prop := ∃ p, g d σ = some p ∧ Q p
def wGs (g : MGs) (ds : List D) (σ : Sg) (Q : Sg → Prop) : Prop := ∃ p, g ds σ = some p ∧ Q p
def wI (m : MI) (σ : Sg) (Q : List D → Option D → Sg → Prop) : Prop := ∃ p, m σ = some p ∧ Q p.1 p.2.1 p.2.2
def wP (m : MP) (σ : Sg) (Q : List Nat → Prop) : Prop := ∃ p, m σ = some p ∧ Q p
def wN (m : M) (σ : Sg) (Q : Int → Prop) : Prop := ∃ p, nInt m σ = some p ∧ Q p
def wF (fn : Fn) (ds : List D) (Q : D → Sg → Prop) : Prop := ∃ p, fn ds = some p ∧ Q p.1 p.2
def wL (g : MG) (m : MS) (ds : List D) (σ : Sg) (Q : Fo → Sg → Prop) : Prop := ∃ p, sEach g m ds σ = some p ∧ Q p.1 p.2
def wC (g : MG) (tt : MT) (me : M) (vs : List Nat) (ds : List D) (σ : Sg) (Q : List D → Sg → Prop) : Prop := ∃ p, lcEach g tt me vs ds σ = some p ∧ Q p.1 p.2
/-- what stands behind a statement -/
def kS (b : MS) (Q : Fo → Sg → Prop) : Fo → Sg → Prop
  | .nx, σ => wS b σ Q
  | f, σ => Q f σ
def kF (Q : D → Sg → Prop) : Fo → Sg → Prop
  | .rt d, σ => Q d σ
  | .nx, σ => Q .non σ
  | _, _ => False
section
variable {m a b c : M} {t u v : MT} {r ma : MA} {σ : Sg} {Q : D → Sg → Prop} {QT : Bool → Sg → Prop} {QA : List D → Sg → Prop} {QS : Fo → Sg → Prop} {QG : Sg → Prop} {QI : List D → Option D → Sg → Prop} {QP : List Nat → Prop} {s1 s2 : MS} {g : MG} {gs : MGs} {i j n : Nat} {mp : MP} {d : D} {ds : List D}
@[simp] theorem wE_var : wE (mVar i) σ Q ↔ ∃ d, σ[i]? = some (some d) ∧ Q d.view σ := by unfold wE mVar; (repeat' split) <;> simp_all [and_assoc] <;> try grind
@[simp] theorem wE_frz : wE (mFrz i) σ Q ↔ ∃ d, σ[i]? = some (some d) ∧ Q d.frz (σ.set i (some d.frz)) := by unfold wE mFrz; (repeat' split) <;> simp_all [and_assoc] <;> try grind
@[simp] theorem wE_move : wE (mMove i) σ Q ↔ ∃ d, σ[i]? = some (some d) ∧ Q d (σ.set i none) := by unfold wE mMove; (repeat' split) <;> simp_all [and_assoc] <;> try grind
@[simp] theorem wE_lend : wE (mLend i) σ Q ↔ ∃ d, σ[i]? = some (some d) ∧ if d.noOwn = true then Q d σ else Q d (σ.set i none) := by unfold wE mLend; (repeat' split) <;> simp_all [and_assoc] <;> try grind
@[simp] theorem wE_C : wE (mC d) σ Q ↔ Q d σ := by unfold wE mC; simp
@[simp] theorem wE_m1 {f : D → Option D} : wE (m1 f a) σ Q ↔ wE a σ fun x σ1 => ∃ z, f x = some z ∧ Q z σ1 := by unfold wE m1; (repeat' split) <;> simp_all [and_assoc] <;> try grind
@[simp] theorem wE_m2 {f : D → D → Option D} : wE (m2 f a b) σ Q ↔ wE a σ fun x σ1 => wE b σ1 fun y σ2 => ∃ z, f x y = some z ∧ Q z σ2 := by unfold wE m2; (repeat' split) <;> simp_all [and_assoc] <;> try grind
@[simp] theorem wE_Up : wE (mUp a) σ Q ↔ wE a σ fun x σ1 => x.noVw = true ∧ Q x σ1 := by unfold wE mUp; (repeat' split) <;> simp_all [and_assoc] <;> try grind
@[simp] theorem wE_If : wE (mIf t a b) σ Q ↔ wT t σ fun k σ1 => if k = true then wE a σ1 Q else wE b σ1 Q := by unfold wE wT mIf; (repeat' split) <;> simp_all [and_assoc] <;> try grind
@[simp] theorem wA_nil : wA aNil σ QA ↔ QA [] σ := by unfold wA aNil; simp
@[simp] theorem wA_cons : wA (aCons a r) σ QA ↔ wE a σ fun x σ1 => wA r σ1 fun xs σ2 => QA (x :: xs) σ2 := by unfold wA wE aCons; (repeat' split) <;> simp_all [and_assoc] <;> try grind
@[simp] theorem wE_A {f : List D → Option D} : wE (mA f r) σ Q ↔ wA r σ fun xs σ1 => ∃ z, f xs = some z ∧ Q z σ1 := by unfold wE wA mA; (repeat' split) <;> simp_all [and_assoc] <;> try grind
@[simp] theorem wT_and : wT (tAndM t u) σ QT ↔ wT t σ fun k σ1 => if k = true then wT u σ1 QT else QT false σ1 := by unfold wT tAndM; (repeat' split) <;> simp_all [and_assoc] <;> try grind
@[simp] theorem wT_or : wT (tOrM t u) σ QT ↔ wT t σ fun k σ1 => if k = true then QT true σ1 else wT u σ1 QT := by unfold wT tOrM; (repeat' split) <;> simp_all [and_assoc] <;> try grind
@[simp] theorem wT_not : wT (tNotM t) σ QT ↔ wT t σ fun k σ1 => QT (!k) σ1 := by unfold wT tNotM; (repeat' split) <;> simp_all [and_assoc] <;> try grind
@[simp] theorem wT_val : wT (tVal a) σ QT ↔ wE a σ fun x σ1 => ∃ k, dTru x = some k ∧ QT k σ1 := by 
  unfold wT wE tVal
  (repeat' split) <;> simp_all [and_assoc] <;> try grind
  rename_i k hk
  cases k <;> simp
@[simp] theorem wT_B : wT (Py.tB a) σ QT ↔ wE a σ fun x σ1 => ∃ k, x = .bl k ∧ QT k σ1 := by
  unfold wT wE Py.tB
  (repeat' split) <;> simp_all [and_assoc] <;> try grind
  rename_i k _ hk
  cases k <;> simp
@[simp] theorem wT_yes : wT tYesM σ QT ↔ QT true σ := by unfold wT tYesM; simp
@[simp] theorem wE_T : wE (mT t) σ Q ↔ wT t σ fun k σ1 => Q (.bl k) σ1 := by unfold wT wE mT; (repeat' split) <;> simp_all [and_assoc] <;> try grind
@[simp] theorem wE_AndV : wE (mAndV a b) σ Q ↔ wE a σ fun x σ1 => ∃ k, x = .bl k ∧ if k = true then wE b σ1 Q else Q (.bl false) σ1 := by unfold wE mAndV; (repeat' split) <;> simp_all [and_assoc] <;> try grind
@[simp] theorem wE_OrV : wE (mOrV a b) σ Q ↔ wE a σ fun x σ1 => ∃ k, x = .bl k ∧ if k = true then Q (.bl true) σ1 else wE b σ1 Q := by unfold wE mOrV; (repeat' split) <;> simp_all [and_assoc] <;> try grind
@[simp] theorem wE_NotV : wE (mNotV a) σ Q ↔ wE a σ fun x σ1 => ∃ k, x = .bl k ∧ Q (.bl (!k)) σ1 := by
  unfold wE mNotV
  (repeat' split) <;> simp_all [and_assoc] <;> try grind
  rename_i k _ hk
  cases k <;> simp
@[simp] theorem wE_isa {T : Ty} : wE (mIsa T a) σ Q ↔ wE a σ fun x σ1 => Q (.bl (x.isa T)) σ1 := by unfold wE mIsa; (repeat' split) <;> simp_all [and_assoc] <;> try grind
@[simp] theorem wO_none {Q : Option Int → Sg → Prop} : wO oNone σ Q ↔ Q none σ := by unfold wO oNone; simp
@[simp] theorem wO_some {Q : Option Int → Sg → Prop} : wO (oSome a) σ Q ↔ wE a σ fun x σ1 => ∃ i, x = .int i ∧ Q (some i) σ1 := by unfold wO wE oSome; (repeat' split) <;> simp_all [and_assoc] <;> try grind
@[simp] theorem wE_Sl {f : D → Option Int → Option Int → Option D} {lo hi : MO} : wE (mSl f a lo hi) σ Q ↔ wE a σ fun x σ1 => wO lo σ1 fun l σ2 => wO hi σ2 fun h σ3 => ∃ z, f x l h = some z ∧ Q z σ3 := by unfold wE wO mSl; (repeat' split) <;> simp_all [and_assoc] <;> try grind
@[simp] theorem wE_Call {ws : List Nat} {ld : List (Option Nat)} {fn : Fn} : wE (mCall ws ld fn ma) σ Q ↔ wA ma σ fun ds σ1 => wF fn ds fun r σc => Q r (putB ws 0 ld σc σ1) := by unfold wE wA wF mCall; (repeat' split) <;> simp_all [and_assoc] <;> try grind
@[simp] theorem wE_LRg : wE (mLRg a b) σ Q ↔ wE a σ fun x σ1 => wE b σ1 fun y σ2 => ∃ i j, x = .int i ∧ y = .int j ∧ rgOk i j = true ∧ Q (.lst .own (up i (j - i).toNat)) σ2 := by unfold wE mLRg; (repeat' split) <;> simp_all [and_assoc] <;> try grind
@[simp] theorem wE_LRg1 : wE (mLRg1 b) σ Q ↔ wE b σ fun y σ2 => ∃ j, y = .int j ∧ rgOk 0 j = true ∧ Q (.lst .own (up 0 (j - 0).toNat)) σ2 := by unfold wE mLRg1; (repeat' split) <;> simp_all [and_assoc] <;> try grind
@[simp] theorem wN_iff {QN : Int → Prop} : wN a σ QN ↔ wE a σ fun x _ => ∃ n, x = .int n ∧ QN n := by unfold wN wE nInt; (repeat' split) <;> simp_all [and_assoc] <;> try grind
@[simp] theorem wP_root {r : Nat} : wP (pRoot r) σ QP ↔ ∃ d, σ[r]? = some (some d) ∧ QP [] := by unfold wP pRoot; (repeat' split) <;> simp_all [and_assoc] <;> try grind
@[simp] theorem wP_ix {r : Nat} : wP (pIx r mp a) σ QP ↔ wP mp σ fun js => ∃ d xs, σ[r]? = some (some d) ∧ dAt d js = some (.lst .own xs) ∧ wN a σ fun i => ∃ j, ixN xs.length i = some j ∧ QP (js ++ [j]) := by unfold wP wN pIx; (repeat' split) <;> simp_all [and_assoc] <;> try grind
@[simp] theorem wG_name : wG (gNameM i) d σ QG ↔ i < σ.length ∧ QG (σ.set i (some d)) := by unfold wG gNameM; (repeat' split) <;> simp_all [and_assoc] <;> try grind
@[simp] theorem wG_tup : wG (gTupM n gs) d σ QG ↔ ∃ xs, d = .tup xs ∧ xs.length = n ∧ wGs gs xs σ QG := by unfold wG wGs gTupM; (repeat' split) <;> simp_all [and_assoc] <;> try grind
@[simp] theorem wGs_nil : wGs gsNilM ds σ QG ↔ ds = [] ∧ QG σ := by unfold wGs gsNilM; (repeat' split) <;> simp_all [and_assoc] <;> try grind
@[simp] theorem wGs_cons : wGs (gsConsM g gs) ds σ QG ↔ ∃ d r, ds = d :: r ∧ wG g d σ fun σ1 => wGs gs r σ1 QG := by unfold wGs wG gsConsM; (repeat' split) <;> simp_all [and_assoc] <;> try grind
/-- the list at a path -/
def wU (r : Nat) (js : List Nat) (σ : Sg) (Q : List D → (List D → Sg) → Prop) : Prop := ∃ d xs, σ[r]? = some (some d) ∧ dAt d js = some (.lst .own xs) ∧ Q xs fun xs' => σ.set r (some (dPut d js (.lst .own xs')))
theorem upAt_wU {r : Nat} {js : List Nat} {f : List D → Option (List D)} {P : Sg → Prop} : (∃ p, upAt r js f σ = some p ∧ P p) ↔ wU r js σ fun xs put => ∃ xs', f xs = some xs' ∧ P (put xs') := by unfold wU upAt; (repeat' split) <;> simp_all [and_assoc] <;> try grind
theorem wU_congr {r : Nat} {js : List Nat} {Q Q' : List D → (List D → Sg) → Prop} (h : ∀ xs put, Q xs put ↔ Q' xs put) : wU r js σ Q ↔ wU r js σ Q' := by
  unfold wU
  simp [h]
theorem wS_up {r : Nat} {js : List Nat} {f : List D → Option (List D)} : (∃ p, (match upAt r js f σ with
    | some σ2 => some (Fo.nx, σ2)
    | none => none) = some p ∧ QS p.1 p.2) ↔ wU r js σ fun xs put => ∃ xs', f xs = some xs' ∧ QS .nx (put xs') := by
  rw [← upAt_wU]
  cases upAt r js f σ <;> simp
theorem ite_app {α : Type} {c : Prop} [Decidable c] {x : α} {P : α → Prop} : (∃ y, (if c then some x else none) = some y ∧ P y) ↔ c ∧ P x := by
  by_cases h : c <;> simp [h]
theorem map_app {α β : Type} {o : Option α} {f : α → β} {P : β → Prop} : (∃ y, o.map f = some y ∧ P y) ↔ ∃ j, o = some j ∧ P (f j) := by
  cases o <;> simp
@[simp] theorem wG_sub {r : Nat} : wG (gSubM r mp a) d σ QG ↔ wP mp σ fun js => wN a σ fun i => wU r js σ fun xs put => ∃ j, ixN xs.length i = some j ∧ QG (put (xs.set j d)) := by
  unfold wG wP wN gSubM
  rcases h : mp σ with _ | js
  · simp
  · simp only [Option.some.injEq, exists_eq_left']
    rcases h2 : nInt a σ with _ | i
    · simp
    · simp only [Option.some.injEq, exists_eq_left']
      exact upAt_wU.trans (wU_congr fun xs put => map_app)
@[simp] theorem wS_nil : wS sNil σ QS ↔ QS .nx σ := by unfold wS sNil; simp
@[simp] theorem wS_seq : wS (sSeq s1 s2) σ QS ↔ wS s1 σ (kS s2 QS) := by
  unfold wS sSeq
  cases h : s1 σ with
  | none => simp
  | some p => obtain ⟨f, σ1⟩ := p; cases f <;> simp [kS, wS]
@[simp] theorem wS_expr : wS (sExpr a) σ QS ↔ wE a σ fun _ σ1 => QS .nx σ1 := by unfold wS wE sExpr; (repeat' split) <;> simp_all [and_assoc] <;> try grind
@[simp] theorem wS_set : wS (sSet i a) σ QS ↔ wE a σ fun x σ1 => i < σ1.length ∧ QS .nx (σ1.set i (some x)) := by unfold wS wE sSet; (repeat' split) <;> simp_all [and_assoc] <;> try grind
@[simp] theorem wS_asg : wS (sAsg a g) σ QS ↔ wE a σ fun x σ1 => wG g x σ1 fun σ2 => QS .nx σ2 := by unfold wS wE wG sAsg; (repeat' split) <;> simp_all [and_assoc] <;> try grind
@[simp] theorem wS_par : wS (sPar i j ma) σ QS ↔ wA ma σ fun ds σ1 => ∃ x y, ds = [x, y] ∧ i < σ1.length ∧ j < σ1.length ∧ QS .nx ((σ1.set i (some x)).set j (some y)) := by unfold wS wA sPar; (repeat' split) <;> simp_all [and_assoc] <;> try grind
@[simp] theorem wS_if : wS (sIf t s1 s2) σ QS ↔ wT t σ fun k σ1 => if k = true then wS s1 σ1 QS else wS s2 σ1 QS := by unfold wS wT sIf; (repeat' split) <;> simp_all [and_assoc] <;> try grind
@[simp] theorem wS_ret : wS (sRet a) σ QS ↔ wE a σ fun x σ1 => QS (.rt x) σ1 := by unfold wS wE sRet; (repeat' split) <;> simp_all [and_assoc] <;> try grind
@[simp] theorem wS_retN : wS sRetN σ QS ↔ QS (.rt .non) σ := by unfold wS sRetN; simp
@[simp] theorem wS_break : wS sBreak σ QS ↔ QS .bk σ := by unfold wS sBreak; simp
@[simp] theorem wS_cont : wS sCont σ QS ↔ QS .ct σ := by unfold wS sCont; simp
@[simp] theorem wS_aug {f : D → D → Option D} : wS (sAug i f a) σ QS ↔ ∃ x, σ[i]? = some (some (.int x)) ∧ wE a σ fun d σ1 => ∃ z, f (.int x) d = some z ∧ i < σ1.length ∧ QS .nx (σ1.set i (some z)) := by unfold wS wE sAug; (repeat' split) <;> simp_all [and_assoc] <;> try grind
@[simp] theorem wS_app {r : Nat} : wS (sAppN r a) σ QS ↔ ∃ ys, σ[r]? = some (some (.lst .own ys)) ∧ wE a σ fun x σ1 => wU r [] σ1 fun xs put => xs.length < 16777216 ∧ QS .nx (put (xs ++ [x])) := by
  unfold wS wE sAppN sApp
  rcases h : σ[r]? with _ | _ | d
  · simp
  · simp
  · cases d with
    | lst f ys =>
      cases f with
      | own =>
        simp only [Option.some.injEq, D.lst.injEq, true_and, exists_eq_left']
        rcases h2 : a σ with _ | ⟨x, σ1⟩
        · simp
        · simp only [Option.some.injEq, exists_eq_left']
          exact wS_up.trans (wU_congr fun xs put => ite_app (c := xs.length < 16777216) (P := fun y => QS .nx (put y)))
      | _ => simp
    | _ => simp
@[simp] theorem wS_appP {r : Nat} : wS (sAppP r mp a) σ QS ↔ wP mp σ fun js => wE a σ fun x _ => x.noVw = true ∧ wU r js σ fun xs put => xs.length < 16777216 ∧ QS .nx (put (xs ++ [x])) := by
  unfold wS wE wP sAppP
  rcases h : mp σ with _ | js
  · simp
  · simp only [Option.some.injEq, exists_eq_left']
    rcases h2 : a σ with _ | ⟨x, σ1⟩
    · simp
    · simp only [Option.some.injEq, exists_eq_left']
      by_cases hn : x.noVw = true
      · simp only [hn, if_true, true_and]
        exact wS_up.trans (wU_congr fun xs put => ite_app (c := xs.length < 16777216) (P := fun y => QS .nx (put y)))
      · simp [hn]
@[simp] theorem wS_popP {r : Nat} : wS (sPopP r mp) σ QS ↔ wP mp σ fun js => wU r js σ fun xs put => xs ≠ [] ∧ QS .nx (put xs.dropLast) := by
  unfold wS wP sPopP
  rcases h : mp σ with _ | js
  · simp
  · simp only [Option.some.injEq, exists_eq_left']
    exact wS_up.trans (wU_congr fun xs put => by cases xs <;> simp)
@[simp] theorem wS_augP {r : Nat} {f : D → D → Option D} : wS (sAugP r mp b f a) σ QS ↔ ∃ js i x, intAt r mp b σ = some (js, i, x) ∧ wN a σ fun k => ∃ z, f (.int x) (.int k) = some z ∧ wU r js σ fun xs put => ∃ j, ixN xs.length i = some j ∧ QS .nx (put (xs.set j z)) := by
  unfold wS wN sAugP
  rcases h : intAt r mp b σ with _ | ⟨js, i, x⟩
  · simp
  · simp only [Option.some.injEq, Prod.mk.injEq]
    rcases h2 : nInt a σ with _ | k
    · simp
    · simp only [Option.some.injEq, exists_eq_left']
      rcases h3 : f (.int x) (.int k) with _ | z
      · constructor
        · rintro ⟨_, e, _⟩; cases e
        · rintro ⟨_, _, _, ⟨rfl, rfl, rfl⟩, z, e, _⟩
          rw [h3] at e
          cases e
      · constructor
        · intro q
          exact ⟨_, _, _, ⟨rfl, rfl, rfl⟩, z, h3, (wS_up.trans (wU_congr fun xs put => map_app)).mp q⟩
        · rintro ⟨_, _, _, ⟨rfl, rfl, rfl⟩, z', h3', q⟩
          rw [h3] at h3'
          cases h3'
          exact (wS_up.trans (wU_congr fun xs put => map_app)).mpr q
@[simp] theorem wS_for {bk : Option Nat} {mi : MI} : wS (sFor bk mi g s1) σ QS ↔ wI mi σ fun ds o σ1 => wL g s1 ds σ1 fun f σ2 => QS f (gB bk o σ2) := by unfold wS wI wL sFor; (repeat' split) <;> simp_all [and_assoc] <;> try grind
theorem wI_take : wI (iTake i) σ QI ↔ ∃ d, σ[i]? = some (some d) ∧ match d with
    | .lst .own xs => if noOwns xs = true then QI xs (some (.lst .own xs)) (σ.set i none) else QI (frzs xs) none (σ.set i (some (.lst .frz (frzs xs))))
    | d => ∃ ds, d.items = some ds ∧ QI ds none σ := by
  unfold wI iTake
  (repeat' split) <;> simp_all [and_assoc] <;> try grind
@[simp] theorem wI_seq : wI (iSeqM a) σ QI ↔ wE a σ fun x σ1 => ∃ ds, x.items = some ds ∧ QI ds none σ1 := by unfold wI wE iSeqM; (repeat' split) <;> simp_all [and_assoc] <;> try grind
@[simp] theorem wI_rev : wI (iRevM a) σ QI ↔ wE a σ fun x σ1 => ∃ ds, x.items = some ds ∧ QI ds.reverse none σ1 := by unfold wI wE iRevM; (repeat' split) <;> simp_all [and_assoc] <;> try grind
@[simp] theorem wI_rng1 : wI (iRngM1 a) σ QI ↔ wE a σ fun x σ1 => ∃ j, x = .int j ∧ okR j = true ∧ QI (up 0 j.toNat) none σ1 := by unfold wI wE iRngM1; (repeat' split) <;> simp_all [and_assoc] <;> try grind
@[simp] theorem wI_rng2 : wI (iRngM2 a b) σ QI ↔ wE a σ fun x σ1 => wE b σ1 fun y σ2 => ∃ i j, x = .int i ∧ y = .int j ∧ okR i = true ∧ okR j = true ∧ QI (up i (j - i).toNat) none σ2 := by unfold wI wE iRngM2; (repeat' split) <;> simp_all [and_assoc] <;> try grind
@[simp] theorem wE_Lc {bk : Option Nat} {mi : MI} {vs : List Nat} : wE (mLc bk mi g t a vs) σ Q ↔ wI mi σ fun ds o σ1 => wC g t a vs ds σ1 fun xs σ2 => xs.length ≤ 16777216 ∧ Q (.lst .own xs) (gB bk o (unwipe σ1 vs (wipeD σ2 vs))) := by unfold wE wI wC mLc; (repeat' split) <;> simp_all [and_assoc] <;> try grind
@[simp] theorem wF_D {N : Nat} : wF (fnD N s1) ds Q ↔ wS s1 (ds.map some ++ List.replicate (N - ds.length) none) (kF Q) := by
  unfold wF wS fnD
  cases h : s1 (ds.map some ++ List.replicate (N - ds.length) none) with
  | none => simp
  | some p => obtain ⟨f, σ1⟩ := p; cases f <;> simp [kF]
@[simp] theorem wL_nil {QS : Fo → Sg → Prop} : wL g s1 [] σ QS ↔ QS .nx σ := by unfold wL sEach; simp
/-- one more turn -/
def kL (g : MG) (m : MS) (r : List D) (Q : Fo → Sg → Prop) : Fo → Sg → Prop
  | .nx, σ => wL g m r σ Q
  | .ct, σ => wL g m r σ Q
  | .bk, σ => Q .nx σ
  | .rt d, σ => Q (.rt d) σ
theorem wL_cons : wL g s1 (d :: ds) σ QS ↔ wG g d σ fun σ1 => wS s1 σ1 (kL g s1 ds QS) := by
  unfold wL wG sEach
  cases h : g d σ with
  | none => simp
  | some σ1 =>
    simp only [Option.some.injEq, exists_eq_left', wS]
    cases h2 : s1 σ1 with
    | none => simp
    | some p =>
      obtain ⟨f, σ2⟩ := p
      simp only [Option.some.injEq, exists_eq_left']
      cases f <;> simp [kL, wL]
@[simp] theorem wC_nil {vs : List Nat} : wC g t a vs [] σ QA ↔ QA [] σ := by unfold wC lcEach; simp
theorem wC_cons {vs : List Nat} : wC g t a vs (d :: ds) σ QA ↔ wG g d (wipeD σ vs) fun σ1 => wT t σ1 fun k σ2 => if k = true then wE a σ2 fun x σ3 => wC g t a vs ds σ3 fun xs σ4 => QA (x :: xs) σ4 else wC g t a vs ds σ2 QA := by
  unfold wG wT wE
  show (∃ p, lcEach g t a vs (d :: ds) σ = some p ∧ QA p.1 p.2) ↔ _
  rw [lcEach]
  rcases h1 : g d (wipeD σ vs) with _ | σ1
  · simp
  · simp only [Option.some.injEq, exists_eq_left']
    rcases h2 : t σ1 with _ | ⟨k, σ2⟩
    · simp
    · simp only [Option.some.injEq, exists_eq_left']
      cases k
      · simp [wC]
      · simp only [if_true]
        rcases h3 : a σ2 with _ | ⟨x, σ3⟩
        · simp
        · simp only [Option.some.injEq, exists_eq_left', wC]
          rcases h4 : lcEach g t a vs ds σ3 with _ | ⟨xs, σ4⟩ <;> simp
end
end Py
/-! Layer «Py», part X: what operations give, for simp; loops; picks. -/
namespace Py
open PySem PySem.Spec PyProof.Rows L2

section
variable {s : MS} {σ : Sg} {Q : Fo → Sg → Prop} {R : D → Sg → Prop} {d : D} {g : MG} {r : List D}
@[simp] theorem kS_nx : kS s Q .nx σ = wS s σ Q := rfl
@[simp] theorem kS_bk : kS s Q .bk σ = Q .bk σ := rfl
@[simp] theorem kS_ct : kS s Q .ct σ = Q .ct σ := rfl
@[simp] theorem kS_rt : kS s Q (.rt d) σ = Q (.rt d) σ := rfl
@[simp] theorem kF_rt : kF R (.rt d) σ = R d σ := rfl
@[simp] theorem kF_nx : kF R .nx σ = R .non σ := rfl
@[simp] theorem kF_bk : kF R .bk σ = False := rfl
@[simp] theorem kF_ct : kF R .ct σ = False := rfl
@[simp] theorem kL_nx : kL g s r Q .nx σ = wL g s r σ Q := rfl
@[simp] theorem kL_ct : kL g s r Q .ct σ = wL g s r σ Q := rfl
@[simp] theorem kL_bk : kL g s r Q .bk σ = Q .nx σ := rfl
@[simp] theorem kL_rt : kL g s r Q (.rt d) σ = Q (.rt d) σ := rfl
end
/-! ### data -/
section
variable {i j : Int} {b c : Bool} {x y : Str} {xs ys : List D} {d : D} {f : Fl}
@[simp] theorem view_non : D.view .non = .non := rfl
@[simp] theorem view_bl : D.view (.bl b) = .bl b := rfl
@[simp] theorem view_int : D.view (.int i) = .int i := rfl
@[simp] theorem view_str : D.view (.str x) = .str x := rfl
@[simp] theorem view_tup : D.view (.tup xs) = .tup xs := rfl
@[simp] theorem view_own : D.view (.lst .own xs) = .lst .vw (views xs) := rfl
@[simp] theorem view_frz : D.view (.lst .frz xs) = .lst .frz xs := rfl
@[simp] theorem view_vw : D.view (.lst .vw xs) = .lst .vw xs := rfl
@[simp] theorem view_scr : D.view (.lst .scr xs) = .lst .scr xs := rfl
@[simp] theorem frz_non : D.frz .non = .non := rfl
@[simp] theorem frz_bl : D.frz (.bl b) = .bl b := rfl
@[simp] theorem frz_int : D.frz (.int i) = .int i := rfl
@[simp] theorem frz_str : D.frz (.str x) = .str x := rfl
@[simp] theorem frz_tup : D.frz (.tup xs) = .tup xs := rfl
@[simp] theorem frz_own : D.frz (.lst .own xs) = .lst .frz (frzs xs) := rfl
@[simp] theorem frz_frz : D.frz (.lst .frz xs) = .lst .frz xs := rfl
@[simp] theorem frz_vw : D.frz (.lst .vw xs) = .lst .vw xs := rfl
@[simp] theorem frz_scr : D.frz (.lst .scr xs) = .lst .scr xs := rfl
@[simp] theorem noVw_non : D.noVw .non = true := rfl
@[simp] theorem noVw_bl : D.noVw (.bl b) = true := rfl
@[simp] theorem noVw_int : D.noVw (.int i) = true := rfl
@[simp] theorem noVw_str : D.noVw (.str x) = true := rfl
@[simp] theorem noVw_tup : D.noVw (.tup xs) = noVws xs := rfl
@[simp] theorem noVw_own : D.noVw (.lst .own xs) = noVws xs := rfl
@[simp] theorem noVw_frz' : D.noVw (.lst .frz xs) = noVws xs := rfl
@[simp] theorem noVw_scr : D.noVw (.lst .scr xs) = noVws xs := rfl
@[simp] theorem noVw_vw : D.noVw (.lst .vw xs) = false := rfl
@[simp] theorem noOwn_non : D.noOwn .non = true := rfl
@[simp] theorem noOwn_bl : D.noOwn (.bl b) = true := rfl
@[simp] theorem noOwn_int : D.noOwn (.int i) = true := rfl
@[simp] theorem noOwn_str : D.noOwn (.str x) = true := rfl
@[simp] theorem noOwn_tup : D.noOwn (.tup xs) = noOwns xs := rfl
@[simp] theorem noOwn_own : D.noOwn (.lst .own xs) = false := rfl
@[simp] theorem noOwn_frz' : D.noOwn (.lst .frz xs) = noOwns xs := rfl
@[simp] theorem noOwn_scr : D.noOwn (.lst .scr xs) = noOwns xs := rfl
@[simp] theorem noOwn_vw : D.noOwn (.lst .vw xs) = noOwns xs := rfl
@[simp] theorem noVws_nil : noVws [] = true := rfl
@[simp] theorem noVws_cons : noVws (d :: xs) = (d.noVw && noVws xs) := rfl
@[simp] theorem noOwns_nil : noOwns [] = true := rfl
@[simp] theorem noOwns_cons : noOwns (d :: xs) = (d.noOwn && noOwns xs) := rfl
@[simp] theorem views_nil : views [] = [] := rfl
@[simp] theorem views_cons : views (d :: xs) = d.view :: views xs := rfl
@[simp] theorem frzs_nil : frzs [] = [] := rfl
@[simp] theorem frzs_cons : frzs (d :: xs) = d.frz :: frzs xs := rfl
@[simp] theorem isN_non : D.isN .non = true := rfl
@[simp] theorem isN_bl : D.isN (.bl b) = false := rfl
@[simp] theorem isN_int : D.isN (.int i) = false := rfl
@[simp] theorem isN_str : D.isN (.str x) = false := rfl
@[simp] theorem isN_tup : D.isN (.tup xs) = false := rfl
@[simp] theorem isN_lst : D.isN (.lst f xs) = false := rfl
@[simp] theorem items_tup : D.items (.tup xs) = some xs := rfl
@[simp] theorem items_own : D.items (.lst .own xs) = some (frzs xs) := rfl
@[simp] theorem items_frz : D.items (.lst .frz xs) = some xs := rfl
@[simp] theorem items_vw : D.items (.lst .vw xs) = some xs := rfl
@[simp] theorem items_scr : D.items (.lst .scr xs) = some xs := rfl
@[simp] theorem isa_non {T : Ty} : D.isa T .non = false := rfl
@[simp] theorem isa_tup : D.isa .tuple (.tup xs) = true := rfl
@[simp] theorem isa_tup_l : D.isa .list (.tup xs) = false := rfl
@[simp] theorem isa_tup_i : D.isa .int (.tup xs) = false := rfl
@[simp] theorem isa_tup_b : D.isa .bool (.tup xs) = false := rfl
@[simp] theorem isa_tup_s : D.isa .str (.tup xs) = false := rfl
@[simp] theorem isa_lst : D.isa .list (.lst f xs) = true := rfl
@[simp] theorem isa_lst_t : D.isa .tuple (.lst f xs) = false := rfl
@[simp] theorem isa_lst_i : D.isa .int (.lst f xs) = false := rfl
@[simp] theorem isa_lst_b : D.isa .bool (.lst f xs) = false := rfl
@[simp] theorem isa_lst_s : D.isa .str (.lst f xs) = false := rfl
@[simp] theorem isa_int : D.isa .int (.int i) = true := rfl
@[simp] theorem isa_int_b : D.isa .bool (.int i) = false := rfl
@[simp] theorem isa_int_s : D.isa .str (.int i) = false := rfl
@[simp] theorem isa_int_t : D.isa .tuple (.int i) = false := rfl
@[simp] theorem isa_int_l : D.isa .list (.int i) = false := rfl
@[simp] theorem isa_bl : D.isa .bool (.bl b) = true := rfl
@[simp] theorem isa_bl_i : D.isa .int (.bl b) = true := rfl
@[simp] theorem isa_bl_s : D.isa .str (.bl b) = false := rfl
@[simp] theorem isa_bl_t : D.isa .tuple (.bl b) = false := rfl
@[simp] theorem isa_bl_l : D.isa .list (.bl b) = false := rfl
@[simp] theorem isa_str : D.isa .str (.str x) = true := rfl
@[simp] theorem isa_str_i : D.isa .int (.str x) = false := rfl
@[simp] theorem isa_str_b : D.isa .bool (.str x) = false := rfl
@[simp] theorem isa_str_t : D.isa .tuple (.str x) = false := rfl
@[simp] theorem isa_str_l : D.isa .list (.str x) = false := rfl
mutual
theorem view_of : ∀ {d : D}, d.noOwn = true → d.view = d
  | .non, _ => rfl
  | .bl _, _ => rfl
  | .int _, _ => rfl
  | .str _, _ => rfl
  | .tup _, _ => rfl
  | .lst .own _, h => by cases h
  | .lst .frz _, _ => rfl
  | .lst .vw _, _ => rfl
  | .lst .scr _, _ => rfl
theorem views_of : ∀ {ds : List D}, noOwns ds = true → views ds = ds
  | [], _ => rfl
  | d :: ds, h => by
    simp only [noOwns, Bool.and_eq_true] at h
    simp only [views, view_of h.1, views_of h.2]
end
theorem frz_of : ∀ {d : D}, d.noOwn = true → d.frz = d
  | .non, _ => rfl
  | .bl _, _ => rfl
  | .int _, _ => rfl
  | .str _, _ => rfl
  | .tup _, _ => rfl
  | .lst .own _, h => by cases h
  | .lst .frz _, _ => rfl
  | .lst .vw _, _ => rfl
  | .lst .scr _, _ => rfl
theorem frzs_of : ∀ {ds : List D}, noOwns ds = true → frzs ds = ds
  | [], _ => rfl
  | d :: ds, h => by
    simp only [noOwns, Bool.and_eq_true] at h
    simp only [frzs, frz_of h.1, frzs_of h.2]
/-- data that hold no list of their own and look at none -/
def Gr (d : D) : Prop := d.noOwn = true ∧ d.noVw = true
def Grs (ds : List D) : Prop := noOwns ds = true ∧ noVws ds = true
theorem Gr.no (h : Gr d) : d.noOwn = true := h.1
theorem Gr.nv (h : Gr d) : d.noVw = true := h.2
theorem Grs.no (h : Grs xs) : noOwns xs = true := h.1
theorem Grs.nv (h : Grs xs) : noVws xs = true := h.2
theorem grs_iff : ∀ {xs : List D}, Grs xs ↔ ∀ d ∈ xs, Gr d := by
  intro xs
  unfold Grs Gr
  rw [noOwns_all, noVws_all]
  simp only [List.all_eq_true]
  exact ⟨fun h d m => ⟨h.1 d m, h.2 d m⟩, fun h => ⟨fun d m => (h d m).1, fun d m => (h d m).2⟩⟩
theorem gr_tup : Gr (.tup xs) ↔ Grs xs := Iff.rfl
@[simp] theorem gr_int : Gr (.int i) := ⟨rfl, rfl⟩
@[simp] theorem gr_non : Gr .non := ⟨rfl, rfl⟩
@[simp] theorem gr_bl : Gr (.bl b) := ⟨rfl, rfl⟩
@[simp] theorem gr_str : Gr (.str x) := ⟨rfl, rfl⟩
/-! ### operations -/
@[simp] theorem kAdd_int : kAdd (.int i) (.int j) = some (.int (i + j)) := rfl
@[simp] theorem kPlus_int : kPlus (.int i) (.int j) = some (.int (i + j)) := rfl
@[simp] theorem kSub_int : kSub (.int i) (.int j) = some (.int (i - j)) := rfl
@[simp] theorem kLt_int : kLt (.int i) (.int j) = some (.bl (decide (i < j))) := rfl
@[simp] theorem kLe_int : kLe (.int i) (.int j) = some (.bl (decide (i ≤ j))) := rfl
@[simp] theorem kGt_int : kGt (.int i) (.int j) = some (.bl (decide (j < i))) := rfl
@[simp] theorem kGe_int : kGe (.int i) (.int j) = some (.bl (decide (j ≤ i))) := rfl
@[simp] theorem kIsN_non : kIsN d .non = some (.bl d.isN) := rfl
@[simp] theorem kNotN_non : kNotN d .non = some (.bl (!d.isN)) := rfl
@[simp] theorem fNeg_int : fNeg (.int i) = some (.int (-i)) := rfl
@[simp] theorem k1_one {g : D → Option D} : k1 g [d] = g d := rfl
@[simp] theorem k2_two {g : D → D → Option D} {e : D} : k2 g [d, e] = g d e := rfl
@[simp] theorem fLen_tup : fLen (.tup xs) = some (.int xs.length) := rfl
@[simp] theorem fLen_lst : fLen (.lst f xs) = some (.int xs.length) := rfl
@[simp] theorem fAbs_int : fAbs (.int i) = some (.int (if i < 0 then -i else i)) := rfl
@[simp] theorem fInt_int : fInt (.int i) = some (.int i) := rfl
@[simp] theorem fList_tup : fList (.tup xs) = some (.lst .own xs) := rfl
@[simp] theorem fList_lst : fList (.lst f xs) = some (.lst .own xs) := rfl
@[simp] theorem fTuple_tup : fTuple (.tup xs) = some (.tup xs) := rfl
theorem fTuple_lst (h : noOwns xs = true) : fTuple (.lst f xs) = some (.tup xs) := by simp [fTuple, h]
@[simp] theorem dTru_bl : dTru (.bl b) = some b := rfl
@[simp] theorem dTru_non : dTru .non = some false := rfl
@[simp] theorem dTru_int : dTru (.int i) = some (i != 0) := rfl
@[simp] theorem dTru_tup : dTru (.tup xs) = some (!xs.isEmpty) := rfl
@[simp] theorem dTru_lst : dTru (.lst f xs) = some (!xs.isEmpty) := rfl
@[simp] theorem fMax2_int : fMax2 (.int i) (.int j) = some (.int (max i j)) := by
  simp only [fMax2, kI]
  congr 2
  omega
@[simp] theorem fMin2_int : fMin2 (.int i) (.int j) = some (.int (min i j)) := by
  simp only [fMin2, kI]
  congr 2
  omega
@[simp] theorem fMin3_int {k : Int} : fMin3 [.int i, .int j, .int k] = some (.int (min (min i j) k)) := by
  simp only [fMin3]
  congr 2
  omega
@[simp] theorem fMax3_int {k : Int} : fMax3 [.int i, .int j, .int k] = some (.int (max (max i j) k)) := by
  simp only [fMax3]
  congr 2
  omega
theorem kMod_int (h : 0 < j) : kMod (.int i) (.int j) = some (.int (i % j)) := by simp [kMod, kI, h]
theorem kDiv_int (h : 0 < j) (h2 : j < 1073741824) : kDiv (.int i) (.int j) = some (.int (i / j)) := by simp [kDiv, kI, h, h2]
theorem kMul_intL (h : i.natAbs < 18446744073709551616) : kMul (.int i) (.int j) = some (.int (i * j)) := by simp [kMul, cMul, h]
theorem kMul_intR (h : j.natAbs < 18446744073709551616) : kMul (.int i) (.int j) = some (.int (i * j)) := by simp [kMul, cMul, h]
theorem kTup_ok (h : xs.length ≤ 16777216) (h2 : noOwns xs = true) : kTup xs = some (.tup xs) := by simp [kTup, h, h2]
theorem kLst_ok (h : xs.length ≤ 16777216) : kLst xs = some (.lst .own xs) := by simp [kLst, h]
theorem kAdd_tup (h : xs.length + ys.length ≤ 16777216) : kAdd (.tup xs) (.tup ys) = some (.tup (xs ++ ys)) := by simp [kAdd, h]
theorem kAdd_lst {g : Fl} (h1 : f ≠ .scr) (h2 : g ≠ .scr) (h : xs.length + ys.length ≤ 16777216) : kAdd (.lst f xs) (.lst g ys) = some (.lst .own (xs ++ ys)) := by simp [kAdd, h, h1, h2]
@[simp] theorem kEq_int : kEq (.int i) (.int j) = some (.bl (i == j)) := by simp [kEq, D.fit, D.deq]
@[simp] theorem kNe_int : kNe (.int i) (.int j) = some (.bl (!(i == j))) := by simp [kNe, D.fit, D.deq]
@[simp] theorem kEq_bl : kEq (.bl b) (.bl c) = some (.bl (b == c)) := by simp [kEq, D.fit, D.deq]
@[simp] theorem kMul_48271 : kMul (.int i) (.int 48271) = some (.int (i * 48271)) := kMul_intR (by decide)
@[simp] theorem kMod_2147483646 : kMod (.int i) (.int 2147483646) = some (.int (i % 2147483646)) := kMod_int (by decide)
@[simp] theorem kMod_2147483647 : kMod (.int i) (.int 2147483647) = some (.int (i % 2147483647)) := kMod_int (by decide)
@[simp] theorem kMod_2147483629 : kMod (.int i) (.int 2147483629) = some (.int (i % 2147483629)) := kMod_int (by decide)
@[simp] theorem kDiv_5 : kDiv (.int i) (.int 5) = some (.int (i / 5)) := kDiv_int (by decide) (by decide)
@[simp] theorem kPow_10_18 : kPow (.int 10) (.int 18) = some (.int 1000000000000000000) := by
  show (if decide ((0 : Int) ≤ 18 ∧ (18 : Int) ≤ 1000000 ∧ (10 : Int).natAbs < 18446744073709551616) = true then some (D.int (10 ^ (18 : Int).toNat)) else none) = _
  rw [if_pos (by decide)]
  rfl
@[simp] theorem kLst_nil : kLst [] = some (.lst .own []) := rfl
@[simp] theorem kTup_nil : kTup [] = some (.tup []) := rfl
@[simp] theorem kLst_one : kLst [d] = some (.lst .own [d]) := rfl
@[simp] theorem kLst_two {e : D} : kLst [d, e] = some (.lst .own [d, e]) := rfl
theorem kTup_two {e : D} (h1 : d.noOwn = true) (h2 : e.noOwn = true) : kTup [d, e] = some (.tup [d, e]) := by simp [kTup, h1, h2]
theorem kTup_one (h1 : d.noOwn = true) : kTup [d] = some (.tup [d]) := by simp [kTup, h1]
theorem kTup_three {e g : D} (h1 : d.noOwn = true) (h2 : e.noOwn = true) (h3 : g.noOwn = true) : kTup [d, e, g] = some (.tup [d, e, g]) := by simp [kTup, h1, h2, h3]
theorem kEq_lnil {g : Fl} (h : fits 59 xs = true) : kEq (.lst f xs) (.lst g []) = some (.bl xs.isEmpty) := by
  have h' : D.fit 60 (.lst f xs) = true := h
  have h2 : D.fit 60 (.lst g []) = true := rfl
  rw [kEq, if_pos ⟨h', h2⟩]
  cases xs <;> rfl
theorem kNe_lnil {g : Fl} (h : fits 59 xs = true) : kNe (.lst f xs) (.lst g []) = some (.bl !xs.isEmpty) := by
  have h' : D.fit 60 (.lst f xs) = true := h
  have h2 : D.fit 60 (.lst g []) = true := rfl
  rw [kNe, if_pos ⟨h', h2⟩]
  cases xs <;> rfl
theorem fits_ints {n : Nat} : ∀ {ns : List Int}, fits n (ns.map D.int) = true
  | [] => by cases n <;> rfl
  | m :: ns => by
    simp only [List.map_cons, fits, Bool.and_eq_true]
    exact ⟨by cases n <;> rfl, fits_ints⟩
theorem fits_all {n : Nat} : ∀ {ys : List D}, (∀ y ∈ ys, y.fit n = true) → fits n ys = true
  | [], _ => by cases n <;> rfl
  | y :: ys, h => by
    simp only [fits, Bool.and_eq_true]
    exact ⟨h y List.mem_cons_self, fits_all fun z m => h z (List.mem_cons_of_mem _ m)⟩
@[simp] theorem fit_int {n : Nat} : D.fit n (.int i) = true := by cases n <;> rfl
@[simp] theorem fit_non {n : Nat} : D.fit n .non = true := by cases n <;> rfl
@[simp] theorem fit_bl {n : Nat} : D.fit n (.bl b) = true := by cases n <;> rfl
@[simp] theorem fits_nil {n : Nat} : fits n [] = true := by cases n <;> rfl
/-- items -/
theorem ixN_nat {n k : Nat} (h : k < n) : ixN n (k : Int) = some k := by
  unfold ixN
  have : ((k : Int) < (n : Int)) := by omega
  simp [this]
theorem ixN_at {n : Nat} {i : Int} {k : Nat} (h : k < n) (e : i = k) : ixN n i = some k := by subst e; exact ixN_nat h
theorem ixN_last {n : Nat} (h : 0 < n) : ixN n (-1) = some (n - 1) := by
  unfold ixN
  rw [if_neg (by omega), if_pos (by omega)]
  congr 1
  omega
theorem atI_nat {α : Type} {ys : List α} {k : Nat} (h : k < ys.length) : atI ys (k : Int) = some ys[k] := by
  unfold atI
  rw [ixN_nat h]
  simp [h]
theorem atI_at {α : Type} {ys : List α} {i : Int} {k : Nat} {a : α} (e : i = k) (h : ys[k]? = some a) : atI ys i = some a := by
  subst e
  have hk := (List.getElem?_eq_some_iff.mp h).1
  unfold atI
  rw [ixN_nat hk]
  exact h
@[simp] theorem kIx_tup : kIx (.tup xs) (.int i) = atI xs i := rfl
@[simp] theorem kIx_lst : kIx (.lst f xs) (.int i) = atI xs i := rfl
@[simp] theorem kSl_tup {lo hi : Option Int} : kSl (.tup xs) lo hi = some (.tup (cutD xs lo hi)) := rfl
@[simp] theorem kSl_lst {lo hi : Option Int} : kSl (.lst f xs) lo hi = some (.lst .own (cutD xs lo hi)) := rfl
theorem cutD_from {α : Type} {ys : List α} {k : Nat} (h : k ≤ ys.length) : cutD ys (some (k : Int)) none = ys.drop k := by
  rw [cutD, HT.sIx_nat, HT.sIx_none, Nat.min_eq_left h]
  exact List.take_of_length_le (by simp)
theorem cutD_to {α : Type} {ys : List α} {k : Nat} (h : k ≤ ys.length) : cutD ys none (some (k : Int)) = ys.take k := by
  unfold cutD
  have : ¬ ((k : Int) < 0) := by omega
  simp [HT.sIx, h, this]
theorem cutD_mid {α : Type} {ys : List α} {k l : Nat} (h : k ≤ ys.length) (h2 : l ≤ ys.length) : cutD ys (some (k : Int)) (some (l : Int)) = (ys.drop k).take (l - k) := by
  unfold cutD
  have h3 : ¬ ((k : Int) < 0) := by omega
  have h4 : ¬ ((l : Int) < 0) := by omega
  simp [HT.sIx, h, h2, h3, h4]
end
@[simp] theorem wU_iff {r : Nat} {js : List Nat} {σ : Sg} {Q : List D → (List D → Sg) → Prop} : wU r js σ Q ↔ ∃ d xs, σ[r]? = some (some d) ∧ dAt d js = some (.lst .own xs) ∧ Q xs fun xs' => σ.set r (some (dPut d js (.lst .own xs'))) := Iff.rfl
@[simp] theorem dAt_nil {d : D} : dAt d [] = some d := by cases d <;> rfl
@[simp] theorem dPut_nil {d e : D} : dPut d [] e = e := by cases d <;> rfl
theorem dAt_cons {xs : List D} {j : Nat} {js : List Nat} {x : D} (h : xs[j]? = some x) : dAt (.lst .own xs) (j :: js) = dAt x js := by simp [dAt, h]
theorem dPut_cons {xs : List D} {j : Nat} {js : List Nat} {x e : D} (h : xs[j]? = some x) : dPut (.lst .own xs) (j :: js) e = .lst .own (xs.set j (dPut x js e)) := by simp [dPut, h]
/-! ### calls -/
def isSS : Option (Option D) → Bool
  | some (some _) => true
  | _ => false
/-- what is lent stays in its place -/
def alive : List (Option Nat) → Sg → Bool
  | [], _ => true
  | none :: r, σ => alive r σ
  | some i :: r, σ => isSS σ[i]? && alive r σ
@[simp] theorem isSS_some {d : D} : isSS (some (some d)) = true := rfl
@[simp] theorem isSS_none : isSS (some none) = false := rfl
@[simp] theorem alive_nil {σ : Sg} : alive [] σ = true := by simp [alive]
@[simp] theorem alive_none {σ : Sg} {r : List (Option Nat)} : alive (none :: r) σ = alive r σ := by simp [alive]
@[simp] theorem alive_some {σ : Sg} {i : Nat} {r : List (Option Nat)} : alive (some i :: r) σ = (isSS σ[i]? && alive r σ) := by simp [alive]
theorem putB_id {ws : List Nat} : ∀ {ld : List (Option Nat)} {j : Nat} {σc σ : Sg}, alive ld σ = true → putB ws j ld σc σ = σ
  | [], j, σc, σ, _ => by cases σc <;> simp [putB]
  | none :: r, j, [], σ, _ => by simp [putB]
  | some i :: r, j, [], σ, _ => by simp [putB]
  | none :: r, j, o :: σc, σ, h => by
    simp only [putB]
    exact putB_id (ld := r) h
  | some i :: r, j, o :: σc, σ, h => by
    simp only [alive, Bool.and_eq_true] at h
    rcases hσ : σ[i]? with _ | _ | d
    · rw [hσ] at h; cases h.1
    · rw [hσ] at h; cases h.1
    · simp only [putB, hσ]
      by_cases hj : j ∈ ws
      · rw [if_pos hj]
        exact putB_id (ld := r) h.2
      · rw [if_neg hj]
        exact putB_id (ld := r) h.2
@[simp] theorem putB_id' {ws : List Nat} {ld : List (Option Nat)} {j : Nat} {σc σ : Sg} (h : alive ld σ = true) : putB ws j ld σc σ = σ := putB_id h
/-- what a def gives -/
def ret (fn : Fn) (ds : List D) : Option D := (fn ds).map (·.1)
theorem ret_of {fn : Fn} {ds : List D} {r : D} (h : wF fn ds fun x _ => x = r) : ret fn ds = some r := by
  obtain ⟨⟨x, σ⟩, e, h⟩ := h
  simp only at h
  subst h
  simp [ret, e]
theorem wF_ret {fn : Fn} {ds : List D} {r : D} {P : D → Prop} (h : ret fn ds = some r) : (wF fn ds fun x _ => P x) ↔ P r := by
  unfold ret at h
  unfold wF
  cases e : fn ds with
  | none => rw [e] at h; cases h
  | some p => rw [e] at h; cases h; simp
theorem wF_alive {fn : Fn} {ds : List D} {ws : List Nat} {ld : List (Option Nat)} {σ : Sg} {Q : D → Sg → Prop} {r : D} (ha : alive ld σ = true) (h : ret fn ds = some r) : (wF fn ds fun x σc => Q x (putB ws 0 ld σc σ)) ↔ Q r σ := by
  have e : (fun x σc => Q x (putB ws 0 ld σc σ)) = fun x (_ : Sg) => Q x σ := by
    funext x σc
    rw [putB_id ha]
  rw [e]
  exact wF_ret h
@[simp] theorem wA_late {i : Nat} {r : MA} {σ : Sg} {Q : List D → Sg → Prop} : wA (aLate i r) σ Q ↔ (∃ d, σ[i]? = some (some d)) ∧ wA r σ fun xs σ1 => wE (mLend i) σ1 fun x σ2 => Q (x :: xs) σ2 := by unfold wA wE aLate; (repeat' split) <;> simp_all [and_assoc] <;> try grind
/-! ### loops -/
section
variable {g : MG} {m : MS} {σ : Sg} {Q : Fo → Sg → Prop} {t : MT} {a : M} {vs : List Nat} {QA : List D → Sg → Prop}
theorem wL_ind {P : List D → Sg → Prop} (h0 : ∀ σ, P [] σ → Q .nx σ) (hs : ∀ d r σ, P (d :: r) σ → wG g d σ fun σ1 => wS m σ1 fun f σ2 => match f with
    | .nx => P r σ2
    | .ct => P r σ2
    | .bk => Q .nx σ2
    | .rt v => Q (.rt v) σ2) : ∀ {ds : List D} {σ : Sg}, P ds σ → wL g m ds σ Q
  | [], σ, h => wL_nil.mpr (h0 σ h)
  | d :: r, σ, h => by
    refine wL_cons.mpr ?_
    obtain ⟨σ1, e1, ⟨⟨f, σ2⟩, e2, z⟩⟩ := hs d r σ h
    refine ⟨σ1, e1, (f, σ2), e2, ?_⟩
    cases f with
    | nx => exact wL_ind h0 hs z
    | ct => exact wL_ind h0 hs z
    | bk => exact z
    | rt v => exact z
/-- over range(lo, lo + n) -/
theorem wL_rng {lo : Int} {n : Nat} {P : Nat → Sg → Prop} (hp : P 0 σ) (h0 : ∀ σ, P n σ → Q .nx σ) (hs : ∀ k σ, k < n → P k σ → wG g (.int (lo + k)) σ fun σ1 => wS m σ1 fun f σ2 => match f with
    | .nx => P (k + 1) σ2
    | .ct => P (k + 1) σ2
    | .bk => Q .nx σ2
    | .rt v => Q (.rt v) σ2) : wL g m (up lo n) σ Q := by
  have go : ∀ (l k : Nat) (σ : Sg), k + l = n → P k σ → wL g m (up (lo + k) l) σ Q := by
    intro l
    induction l with
    | zero =>
      intro k σ e h
      have : k = n := by omega
      subst this
      exact wL_nil.mpr (h0 σ h)
    | succ l ih =>
      intro k σ e h
      refine wL_cons.mpr ?_
      obtain ⟨σ1, e1, ⟨⟨f, σ2⟩, e2, z⟩⟩ := hs k σ (by omega) h
      refine ⟨σ1, e1, (f, σ2), e2, ?_⟩
      have nxt : P (k + 1) σ2 → wL g m (up (lo + k + 1) l) σ2 Q := fun z => by
        have q := ih (k + 1) σ2 (by omega) z
        have e : lo + ((k + 1 : Nat) : Int) = lo + k + 1 := by omega
        rw [e] at q
        exact q
      cases f with
      | nx => exact nxt z
      | ct => exact nxt z
      | bk => exact z
      | rt v => exact z
  have q := go n 0 σ (by omega) hp
  simpa using q
/-- a comprehension whose turns change nothing but its own names -/
theorem wC_pure {σ : Sg} {ds : List D} (p : D → Bool) (f : D → D) (h : ∀ d ∈ ds, wG g d (wipeD σ vs) fun σ1 => wT t σ1 fun k σ2 => k = p d ∧ if k = true then wE a σ2 fun x σ3 => x = f d ∧ wipeD σ3 vs = wipeD σ vs else wipeD σ2 vs = wipeD σ vs)
    (hQ : ∀ σ', wipeD σ' vs = wipeD σ vs → QA ((ds.filter p).map f) σ') : wC g t a vs ds σ QA := by
  have go : ∀ (ds : List D) (τ : Sg) (QA : List D → Sg → Prop), wipeD τ vs = wipeD σ vs → (∀ d ∈ ds, wG g d (wipeD σ vs) fun σ1 => wT t σ1 fun k σ2 => k = p d ∧ if k = true then wE a σ2 fun x σ3 => x = f d ∧ wipeD σ3 vs = wipeD σ vs else wipeD σ2 vs = wipeD σ vs) →
      (∀ σ', wipeD σ' vs = wipeD σ vs → QA ((ds.filter p).map f) σ') → wC g t a vs ds τ QA := by
    intro ds
    induction ds with
    | nil => exact fun τ QA e _ hQ => wC_nil.mpr (hQ τ e)
    | cons d r ih =>
      intro τ QA e h hQ
      refine wC_cons.mpr ?_
      rw [e]
      obtain ⟨σ1, e1, ⟨k, σ2⟩, e2, ek, z⟩ := h d List.mem_cons_self
      refine ⟨σ1, e1, (k, σ2), e2, ?_⟩
      simp only at ek z ⊢
      cases k with
      | false =>
        simp only [Bool.false_eq_true, if_false] at z ⊢
        refine ih σ2 QA z (fun d m => h d (List.mem_cons_of_mem _ m)) fun σ' w => ?_
        have q := hQ σ' w
        rw [List.filter_cons_of_neg (by rw [← ek]; simp)] at q
        exact q
      | true =>
        simp only [if_true] at z ⊢
        obtain ⟨⟨x, σ3⟩, e3, ex, w3⟩ := z
        refine ⟨(x, σ3), e3, ?_⟩
        simp only at ex w3 ⊢
        refine ih σ3 _ w3 (fun d m => h d (List.mem_cons_of_mem _ m)) fun σ' w => ?_
        have q := hQ σ' w
        rw [List.filter_cons_of_pos (by rw [← ek]), List.map_cons] at q
        rw [ex]
        exact q
  exact go ds σ QA rfl h hQ
theorem wC_none {σ : Sg} {ds : List D} (h : ∀ d ∈ ds, wG g d (wipeD σ vs) fun σ1 => wT t σ1 fun k σ2 => k = false ∧ wipeD σ2 vs = wipeD σ vs) (hQ : ∀ σ', wipeD σ' vs = wipeD σ vs → QA [] σ') : wC g t a vs ds σ QA := by
  refine wC_pure (fun _ => false) id (fun d hd => ?_) (fun σ' w => ?_)
  · obtain ⟨σ1, e, ⟨k, σ2⟩, e2, ek, w⟩ := h d hd
    simp only at ek w
    subst ek
    exact ⟨σ1, e, (false, σ2), e2, rfl, by simpa using w⟩
  · have : ds.filter (fun _ => false) = [] := by simp
    rw [this]
    exact hQ σ' w
theorem up_mem {lo : Int} {n : Nat} {d : D} (h : d ∈ up lo n) : ∃ k : Nat, k < n ∧ d = .int (lo + k) := by
  obtain ⟨i, hi, e⟩ := List.mem_iff_getElem.mp h
  obtain ⟨q, hlt⟩ := up_get n lo i d (by rw [List.getElem?_eq_getElem hi, e])
  exact ⟨i, hlt, q⟩
theorem put1_self (σ : Sg) (i : Nat) : put1 σ i (σ.set i none) = σ := by
  unfold put1
  split
  · rename_i o h
    rw [List.set_set]
    obtain ⟨h1, h2⟩ := List.getElem?_eq_some_iff.mp h
    rw [← h2, List.set_getElem_self]
  · rename_i h
    refine List.set_eq_of_length_le ?_
    exact List.getElem?_eq_none_iff.mp h
theorem unwipe_wipe (σ : Sg) : ∀ vs, unwipe σ vs (wipeD σ vs) = σ
  | [] => rfl
  | v :: vs => by
    simp only [unwipe, wipeD]
    rw [put1_self]
    exact unwipe_wipe σ vs
end
theorem sWhile_mono {c : MT} {m : MS} : ∀ {n k : Nat} {σ : Sg} {r : Fo × Sg}, sWhile c m n σ = some r → n ≤ k → sWhile c m k σ = some r
  | 0, _, _, _, h, _ => by cases h
  | n + 1, 0, _, _, _, h => by omega
  | n + 1, k + 1, σ, r, h, hk => by
    simp only [sWhile] at h ⊢
    split at h
    · rename_i σ1 e; simpa using h
    · rename_i σ1 e
      split at h
      · rename_i σ2 e2; exact sWhile_mono h (by omega)
      · rename_i σ2 e2; exact sWhile_mono h (by omega)
      · rename_i σ2 e2; simpa using h
      · rename_i d σ2 e2; simpa using h
      · cases h
    · cases h
/-- while, by a measure -/
theorem wS_while {c : MT} {m : MS} {N : Nat} {σ : Sg} {Q : Fo → Sg → Prop} {P : Nat → Sg → Prop} {n : Nat} (hn : n < N) (hp : P n σ)
    (hs : ∀ k σ, P k σ → wT c σ fun b σ1 => if b = true then wS m σ1 fun f σ2 => match f with
      | .nx => ∃ j, j < k ∧ P j σ2
      | .ct => ∃ j, j < k ∧ P j σ2
      | .bk => Q .nx σ2
      | .rt v => Q (.rt v) σ2 else Q .nx σ1) : wS (sWhile c m N) σ Q := by
  have go : ∀ (k : Nat) (σ : Sg), P k σ → ∃ r, sWhile c m (k + 1) σ = some r ∧ Q r.1 r.2 := by
    intro k
    induction k using Nat.strongRecOn with
    | ind k ih =>
      intro σ h
      obtain ⟨⟨b, σ1⟩, e1, z⟩ := hs k σ h
      cases b with
      | false => exact ⟨(.nx, σ1), by simp [sWhile, e1], by simpa using z⟩
      | true =>
        simp only [if_true] at z
        obtain ⟨⟨f, σ2⟩, e2, z⟩ := z
        cases f with
        | nx =>
          obtain ⟨j, hj, z⟩ := z
          obtain ⟨r, e, q⟩ := ih j hj σ2 z
          exact ⟨r, by simp only [sWhile, e1, e2]; exact sWhile_mono e (by omega), q⟩
        | ct =>
          obtain ⟨j, hj, z⟩ := z
          obtain ⟨r, e, q⟩ := ih j hj σ2 z
          exact ⟨r, by simp only [sWhile, e1, e2]; exact sWhile_mono e (by omega), q⟩
        | bk => exact ⟨(.nx, σ2), by simp [sWhile, e1, e2], z⟩
        | rt v => exact ⟨(.rt v, σ2), by simp [sWhile, e1, e2], z⟩
  obtain ⟨r, e, q⟩ := go n σ hp
  exact ⟨r, sWhile_mono e (by omega), q⟩
theorem wS_cut {a b : MS} {σ : Sg} {Q : Fo → Sg → Prop} (P : Sg → Prop) (h1 : wS a σ fun f σ' => f = .nx ∧ P σ') (h2 : ∀ σ', P σ' → wS b σ' Q) : wS (sSeq a b) σ Q := by
  refine wS_seq.mpr ?_
  obtain ⟨⟨f, σ'⟩, e, ef, hp⟩ := h1
  simp only at ef hp
  subst ef
  exact ⟨(.nx, σ'), e, h2 σ' hp⟩
theorem wF_mono {fn : Fn} {ds : List D} {Q Q' : D → Sg → Prop} (h : wF fn ds Q) (hq : ∀ r σ, Q r σ → Q' r σ) : wF fn ds Q' := by
  obtain ⟨p, e, h⟩ := h
  exact ⟨p, e, hq _ _ h⟩
theorem wS_mono {m : MS} {σ : Sg} {Q Q' : Fo → Sg → Prop} (h : wS m σ Q) (hq : ∀ f σ, Q f σ → Q' f σ) : wS m σ Q' := by
  obtain ⟨p, e, h⟩ := h
  exact ⟨p, e, hq _ _ h⟩
theorem wE_mono {m : M} {σ : Sg} {Q Q' : D → Sg → Prop} (h : wE m σ Q) (hq : ∀ r σ, Q r σ → Q' r σ) : wE m σ Q' := by
  obtain ⟨p, e, h⟩ := h
  exact ⟨p, e, hq _ _ h⟩
end Py
/-! Layer «Py», part Y: sorting and greatest ones, told plainly. -/
namespace Py
open PySem PySem.Spec PyProof.Rows L2
def rowL (l : List Int) : D := .tup (l.map .int)
theorem py_rowL (l : List Int) : (rowL l).py = .tuple (l.map .int) := by
  have go : ∀ l : List Int, pys (l.map D.int) = l.map PyData.int := fun l => by
    induction l with
    | nil => rfl
    | cons a l ih => simp [pys, D.py, ih]
  show PyData.tuple (pys (l.map D.int)) = _
  rw [go]
theorem le_rowL (a b : List Int) : PySem.W.dataLe false D.py (rowL a) (rowL b) = decide (a ≤ b) := by
  show (!PySem.W.dataLt (rowL b).py (rowL a).py) = _
  rw [py_rowL, py_rowL]
  show (!PySem.W.rowLt (b.map .int) (a.map .int)) = _
  rw [PySem.W.dataLt_ints]
  by_cases h : b < a
  · have h' : ¬ a ≤ b := fun z => z h
    simp [h, h']
  · have h' : a ≤ b := h
    simp [h, h']
theorem le_int (a b : Int) : PySem.W.dataLe false D.py (.int a) (.int b) = decide (a ≤ b) := congrFun (congrFun (PySem.W.dataLe_int (β := Int) id) a) b
theorem ge_int (a b : Int) : PySem.W.dataLe true D.py (.int a) (.int b) = decide (b ≤ a) := congrFun (congrFun (PySem.W.dataGe_int (β := Int) id) a) b
/-- what is sorted and has the same items is what sorting gives -/
theorem sort_is {α : Type} {dec : α → D} {b : Bool} {le : α → α → Prop} (hle : ∀ x y, PySem.W.dataLe b D.py (dec x) (dec y) = true ↔ le x y) (anti : ∀ x y, le x y → le y x → x = y) (tr : ∀ x y z, le x y → le y z → le x z) (tot : ∀ x y, le x y ∨ le y x) {xs ys : List α} (hp : ys.Perm xs) (hs : ys.Pairwise le) :
    (xs.map dec).mergeSort (PySem.W.dataLe b D.py) = ys.map dec := by
  have e : (xs.map dec).mergeSort (PySem.W.dataLe b D.py) = (xs.mergeSort (fun x y => PySem.W.dataLe b D.py (dec x) (dec y))).map dec := (PySem.W.sort_maps (r := fun x y => PySem.W.dataLe b D.py (dec x) (dec y)) (s := PySem.W.dataLe b D.py) dec (fun x _ y _ => rfl)).symm
  rw [e]
  congr 1
  have h1 : (xs.mergeSort (fun x y => PySem.W.dataLe b D.py (dec x) (dec y))).Pairwise le := by
    refine (List.pairwise_mergeSort (le := fun x y => PySem.W.dataLe b D.py (dec x) (dec y)) (fun x y z h1 h2 => (hle _ _).mpr (tr _ _ _ ((hle _ _).mp h1) ((hle _ _).mp h2))) (fun x y => ?_) xs).imp fun {x y} h => (hle x y).mp h
    rcases tot x y with h | h
    · simp [(hle _ _).mpr h]
    · simp [(hle _ _).mpr h]
  exact List.Perm.eq_of_pairwise (le := le) (fun x y _ _ h1 h2 => anti x y h1 h2) h1 hs ((List.mergeSort_perm _ _).trans hp.symm)
theorem alikes_int (ns : List Int) : alikes (ns.map .int) = true := by
  unfold alikes
  simp [D.py, PySem.W.alike]
theorem alikes_row (ls : List (List Int)) : alikes (ls.map rowL) = true := by
  unfold alikes
  simp only [List.all_map, List.all_eq_true, Function.comp]
  intro a _ b _
  rw [py_rowL, py_rowL]
  exact PySem.W.alike_ints a b
theorem sortable_int (ns : List Int) : sortable (ns.map .int) = true := by
  unfold sortable
  simp
theorem sortable_row (ls : List (List Int)) (h : ∀ l ∈ ls, l ≠ []) : sortable (ls.map rowL) = true := by
  unfold sortable
  rw [Bool.or_eq_true]
  refine .inl (List.all_eq_true.mpr fun d m => ?_)
  obtain ⟨l, hl, rfl⟩ := List.mem_map.mp m
  cases l with
  | nil => exact absurd rfl (h [] hl)
  | cons a l => rfl
theorem fits_rows (ls : List (List Int)) : fits 60 (ls.map rowL) = true := fits_all fun y m => by
  obtain ⟨l, _, rfl⟩ := List.mem_map.mp m
  exact fits_ints
theorem fSortB_lst {b : Bool} {f : Fl} {xs : List D} (h : alikes xs = true ∧ sortable xs = true ∧ fits 60 xs = true ∧ xs.length ≤ 16777216) : fSortB b (.lst f xs) = some (.lst .own (xs.mergeSort (PySem.W.dataLe b D.py))) := by
  show (if _ then _ else _) = _
  rw [if_pos h]
theorem fSort_rows {f : Fl} {ls ys : List (List Int)} (h : ∀ l ∈ ls, l ≠ []) (hz : ls.length ≤ 16777216) (hp : ys.Perm ls) (hs : ys.Pairwise (· ≤ ·)) : fSort (.lst f (ls.map rowL)) = some (.lst .own (ys.map rowL)) := by
  rw [fSort, fSortB_lst ⟨alikes_row ls, sortable_row ls h, fits_rows ls, by simpa using hz⟩]
  rw [sort_is (le := (· ≤ ·)) (fun x y => by rw [le_rowL]; simp) (fun x y h1 h2 => List.le_antisymm h1 h2) (fun x y z h1 h2 => List.le_trans h1 h2) (fun x y => List.le_total x y) hp hs]
theorem fSort_ints {f : Fl} {ns ys : List Int} (hz : ns.length ≤ 16777216) (hp : ys.Perm ns) (hs : ys.Pairwise (· ≤ ·)) : fSort (.lst f (ns.map .int)) = some (.lst .own (ys.map .int)) := by
  rw [fSort, fSortB_lst ⟨alikes_int ns, sortable_int ns, fits_ints, by simpa using hz⟩]
  rw [sort_is (dec := D.int) (le := (· ≤ ·)) (fun x y => by rw [le_int]; simp) (fun x y h1 h2 => Int.le_antisymm h1 h2) (fun x y z h1 h2 => Int.le_trans h1 h2) (fun x y => Int.le_total x y) hp hs]
theorem fSortR_ints {f : Fl} {ns ys : List Int} (hz : ns.length ≤ 16777216) (hp : ys.Perm ns) (hs : ys.Pairwise (· ≥ ·)) : fSortB true (.lst f (ns.map .int)) = some (.lst .own (ys.map .int)) := by
  rw [fSortB_lst ⟨alikes_int ns, sortable_int ns, fits_ints, by simpa using hz⟩]
  rw [sort_is (dec := D.int) (le := (· ≥ ·)) (fun x y => by rw [ge_int]; simp) (fun x y h1 h2 => Int.le_antisymm h2 h1) (fun x y z h1 h2 => Int.le_trans h2 h1) (fun x y => Int.le_total y x) hp hs]
/-- some sorted list of the same items -/
theorem exists_sorted (ns : List Int) : ∃ ys : List Int, ys.Perm ns ∧ ys.Pairwise (· ≤ ·) := ⟨ns.mergeSort, List.mergeSort_perm _ _, by
  refine (List.pairwise_mergeSort (le := fun a b : Int => decide (a ≤ b)) (fun a b c h1 h2 => ?_) (fun a b => ?_) ns).imp fun {a b} h => of_decide_eq_true h
  · have := of_decide_eq_true h1
    have := of_decide_eq_true h2
    exact decide_eq_true (by omega)
  · rcases Int.le_total a b with h | h <;> simp [h]⟩
/-- greatest ones -/
def mxs (x : Int) : List Int → Int
  | [] => x
  | y :: r => max x (mxs y r)
theorem maxL_eq : ∀ (r : List Int) (x : Int), maxL (x :: r) = some (mxs x r)
  | [], x => rfl
  | y :: r, x => by
    simp only [maxL, maxL_eq r y, Option.map_some, mxs]
    congr 1
    omega
theorem unInts_map : ∀ ns : List Int, unInts (ns.map .int) = some ns
  | [] => rfl
  | n :: ns => by simp [unInts, unInts_map ns]
theorem fMaxL_ints {f : Fl} {x : Int} {ns : List Int} : fMaxL (.lst f (.int x :: ns.map .int)) = some (.int (mxs x ns)) := by
  have e : D.int x :: ns.map D.int = (x :: ns).map D.int := rfl
  simp only [fMaxL]
  rw [e, unInts_map]
  simp [maxL_eq]
theorem mxs_ge : ∀ (r : List Int) (x : Int), x ≤ mxs x r ∧ ∀ y ∈ r, y ≤ mxs x r
  | [], x => ⟨Int.le_refl _, fun _ m => nomatch m⟩
  | y :: r, x => by
    obtain ⟨h1, h2⟩ := mxs_ge r y
    simp only [mxs]
    refine ⟨by omega, fun z m => ?_⟩
    rcases List.mem_cons.mp m with e | m
    · subst e; omega
    · have := h2 z m; omega
theorem mxs_mem : ∀ (r : List Int) (x : Int), mxs x r ∈ x :: r
  | [], x => by simp [mxs]
  | y :: r, x => by
    simp only [mxs]
    have := mxs_mem r y
    by_cases h : mxs y r ≤ x
    · rw [Int.max_eq_left h]; exact List.mem_cons_self
    · rw [Int.max_eq_right (by omega)]; exact List.mem_cons_of_mem _ this
theorem fSum_ints {f : Fl} {ns : List Int} : fSum (.lst f (ns.map .int)) = some (.int ns.sum) := by
  simp only [fSum]
  rw [unInts_map]
theorem unBls_map : ∀ ns : List Bool, unBls (ns.map .bl) = some ns
  | [] => rfl
  | n :: ns => by simp [unBls, unBls_map ns]
theorem fAll_bls {f : Fl} {ns : List Bool} : fAll (.lst f (ns.map .bl)) = some (.bl (ns.all id)) := by
  simp only [fAll]
  rw [unBls_map]
theorem fAny_bls {f : Fl} {ns : List Bool} : fAny (.lst f (ns.map .bl)) = some (.bl (ns.any id)) := by
  simp only [fAny]
  rw [unBls_map]
theorem up_range : ∀ (n : Nat) (lo : Int), up lo n = (List.range n).map fun i => .int (lo + (i : Nat))
  | 0, _ => rfl
  | n + 1, lo => by
    rw [List.range_succ_eq_map, List.map_cons, List.map_map, up, up_range n (lo + 1)]
    refine List.cons_eq_cons.mpr ⟨by simp, ?_⟩
    apply List.map_congr_left
    intro i _
    simp only [Function.comp]
    congr 1
    omega
end Py
namespace K80
open PySem PySem.Spec PyProof.Rows L2 Py
/-- def _law_start(script): -/
def m__law_start : MS := (sRet (mA kLst (aCons (mFrz 0) (aCons (mC (.int 0)) (aCons (mC (.int 0)) (aCons (mC (.int 7)) aNil))))))
def fn__law_start : Fn := fnD 1 m__law_start
/-- def _law_pick(state, limit): -/
def m__law_pick : MS := (sSeq (sIf (tAndM (Py.tB (m2 kEq (m2 kIx (mVar 0) (mC (.int 2))) (mC (.int 0)))) (Py.tB (m2 kLt (m2 kIx (mVar 0) (mC (.int 1))) (mA (k1 fLen) (aCons (m2 kIx (mVar 0) (mC (.int 0))) aNil))))) (sSeq (sSet 2 (mUp (mA (k1 fAbs) (aCons (m2 kIx (m2 kIx (mVar 0) (mC (.int 0))) (m2 kIx (mVar 0) (mC (.int 1)))) aNil))))
    (sSeq (sAsg (mUp (m2 kAdd (m2 kIx (mVar 0) (mC (.int 1))) (mC (.int 1)))) (gSubM 0 (pRoot 0) (mC (.int 1))))
    (sIf (Py.tB (m2 kGe (mVar 2) (m2 kPow (mC (.int 10)) (mC (.int 18))))) (sAsg (mFrz 2) (gSubM 0 (pRoot 0) (mC (.int 2)))) (sAsg (mUp (m2 kAdd (m2 kMod (mA (k1 fInt) (aCons (m2 kAdd (m2 kMul (m2 kIx (mVar 0) (mC (.int 3))) (mC (.int 48271))) (mVar 2)) aNil)) (mC (.int 2147483646))) (mC (.int 1)))) (gSubM 0 (pRoot 0) (mC (.int 3))))))) sNil)
    (sSeq (sIf (Py.tB (m2 kGt (m2 kIx (mVar 0) (mC (.int 2))) (mC (.int 0)))) (sSeq (sSet 3 (mUp (m2 kMod (mA (k1 fInt) (aCons (m2 kIx (mVar 0) (mC (.int 2))) aNil)) (mVar 1))))
    (sSeq (sAsg (mUp (m2 kDiv (m2 kIx (mVar 0) (mC (.int 2))) (mVar 1))) (gSubM 0 (pRoot 0) (mC (.int 2))))
    (sRet (mMove 3)))) sNil)
    (sSeq (sAsg (mUp (m2 kMod (mA (k1 fInt) (aCons (m2 kMul (m2 kIx (mVar 0) (mC (.int 3))) (mC (.int 48271))) aNil)) (mC (.int 2147483647)))) (gSubM 0 (pRoot 0) (mC (.int 3))))
    (sRet (mUp (m2 kMod (mA (k1 fInt) (aCons (m2 kAdd (m2 kDiv (m2 kIx (mVar 0) (mC (.int 3))) (mC (.int 5))) (m2 kMod (mA (k1 fInt) (aCons (m2 kMul (m2 kIx (mVar 0) (mC (.int 3))) (m2 kIx (mVar 0) (mC (.int 3)))) aNil)) (mC (.int 2147483629)))) aNil)) (mVar 1)))))))
def fn__law_pick : Fn := fnD 4 m__law_pick
/-- def _law_shape(state, rows, wide): -/
def m__law_shape : MS := (sSeq (sSet 3 (mUp (mA kLst aNil)))
    (sSeq (sSet 4 (mFrz 2))
    (sSeq (sFor (none) (iRngM1 (mCall [2, 3] [some 0, none] fn__law_pick (aCons (mLend 0) (aCons (mUp (m2 kAdd (mVar 1) (mC (.int 1)))) aNil)))) (gNameM 5) (sSeq (sSet 4 (m2 kSub (mFrz 4) (m2 kMul (mCall [2, 3] [some 0, none] fn__law_pick (aCons (mLend 0) (aCons (mC (.int 3)) aNil))) (mCall [2, 3] [some 0, none] fn__law_pick (aCons (mLend 0) (aCons (mC (.int 2)) aNil))))))
    (sIf (Py.tB (m2 kGt (mVar 4) (mC (.int 0)))) (sAppN 3 (m2 kAdd (mC (.int 1)) (mCall [2, 3] [some 0, some 4] fn__law_pick (aCons (mLend 0) (aCons (mLend 4) aNil))))) sNil)))
    (sRet (mUp (mA (k1 fTuple) (aCons (mA (k1 (fSortB true)) (aCons (mVar 3) aNil)) aNil)))))))
def fn__law_shape : Fn := fnD 6 m__law_shape
/-- def _law_filled(state, shape, floor): -/
def m__law_filled : MS := (sSeq (sSet 3 (mUp (mA kLst aNil)))
    (sSeq (sFor (none) (iRngM1 (mUp (mA (k1 fLen) (aCons (mVar 1) aNil)))) (gNameM 4) (sSeq (sSet 5 (mC (.int 0)))
    (sSeq (sIf (Py.tB (m2 kLt (mVar 4) (mA (k1 fLen) (aCons (mVar 2) aNil)))) (sSet 5 (mUp (m2 kIx (mVar 2) (mVar 4)))) sNil)
    (sSeq (sSet 6 (mLc (none) (iRngM1 (mFrz 5)) (gNameM 7) tYesM (mC .non) [7]))
    (sSeq (sFor (none) (iRngM2 (mFrz 5) (mUp (m2 kIx (mVar 1) (mVar 4)))) (gNameM 7) (sSeq (sSet 8 (mC (.int 1)))
    (sSeq (sIf (Py.tB (m2 kGt (mVar 7) (mVar 5))) (sSet 8 (mUp (m2 kIx (mVar 6) (m2 kSub (mVar 7) (mC (.int 1)))))) sNil)
    (sSeq (sIf (tAndM (Py.tB (m2 kGt (mVar 4) (mC (.int 0)))) (Py.tB (m2 kNotN (m2 kIx (m2 kIx (mVar 3) (m2 kSub (mVar 4) (mC (.int 1)))) (mVar 7)) (mC .non)))) (sSet 8 (mUp (mA (k2 fMax2) (aCons (mVar 8) (aCons (m2 kAdd (m2 kIx (m2 kIx (mVar 3) (m2 kSub (mVar 4) (mC (.int 1)))) (mVar 7)) (mC (.int 1))) aNil))))) sNil)
    (sAppN 6 (m2 kAdd (mFrz 8) (m2 kIx (mUp (mA kLst (aCons (mC (.int 0)) (aCons (mC (.int 0)) (aCons (mC (.int 1)) (aCons (mC (.int 0)) (aCons (mC (.int 2)) (aCons (mC (.int 1)) (aCons (mC (.int 5)) aNil))))))))) (mCall [2, 3] [some 0, none] fn__law_pick (aCons (mLend 0) (aCons (mC (.int 7)) aNil))))))))))
    (sAppN 3 (mFrz 6)))))))
    (sRet (mA (k1 fTuple) (aCons (mLc (some 3) (iTake 3) (gNameM 6) tYesM (mUp (mA (k1 fTuple) (aCons (mVar 6) aNil))) [6]) aNil)))))
def fn__law_filled : Fn := fnD 9 m__law_filled
/-- def _law_boxes(tableau): -/
def m__law_boxes : MS := (sSeq (sSet 1 (mUp (mA kLst aNil)))
    (sSeq (sFor (none) (iRngM1 (mUp (mA (k1 fLen) (aCons (mVar 0) aNil)))) (gNameM 2) (sSet 1 (m2 kAdd (mFrz 1) (mLc (none) (iRngM1 (mUp (mA (k1 fLen) (aCons (m2 kIx (mVar 0) (mVar 2)) aNil)))) (gNameM 3) (Py.tB (m2 kNotN (m2 kIx (m2 kIx (mVar 0) (mVar 2)) (mVar 3)) (mC .non))) (mA kTup (aCons (mFrz 2) (aCons (mFrz 3) (aCons (mUp (m2 kIx (m2 kIx (mVar 0) (mVar 2)) (mVar 3))) aNil)))) [3]))))
    (sRet (mMove 1))))
def fn__law_boxes : Fn := fnD 4 m__law_boxes
/-- def _law_word(boxes, is_by_rows): -/
def m__law_word : MS := (sSeq (sSet 2 (mUp (mA kLst aNil)))
    (sSeq (sFor (some 0) (iTake 0) (gTupM 3 (gsConsM (gNameM 3) (gsConsM (gNameM 4) (gsConsM (gNameM 5) gsNilM)))) (sIf (tVal (mVar 1)) (sAppN 2 (mA kTup (aCons (mUp (m2 kSub (mC (.int 0)) (mVar 3))) (aCons (mFrz 4) (aCons (mFrz 5) aNil))))) (sAppN 2 (mA kTup (aCons (mFrz 4) (aCons (mUp (m2 kSub (mC (.int 0)) (mVar 3))) (aCons (mFrz 5) aNil)))))))
    (sRet (mA (k1 fTuple) (aCons (mLc (none) (iSeqM (mUp (mA (k1 fSort) (aCons (mVar 2) aNil)))) (gNameM 6) tYesM (mUp (m2 kIx (mVar 6) (mC (.int 2)))) [6]) aNil)))))
def fn__law_word : Fn := fnD 7 m__law_word
/-- def _law_ranks(word): -/
def m__law_ranks : MS := (sSeq (sSet 1 (mUp (mA kLst aNil)))
    (sSeq (sFor (none) (iRngM1 (mUp (mA (k1 fLen) (aCons (mVar 0) aNil)))) (gNameM 2) (sSeq (sSet 3 (mA (k1 fLen) (aCons (mLc (none) (iSeqM (mFrz 0)) (gNameM 4) (Py.tB (m2 kLt (mVar 4) (m2 kIx (mVar 0) (mVar 2)))) (mC (.int 1)) [4]) aNil)))
    (sAppN 1 (m2 kAdd (mUp (m2 kAdd (mC (.int 1)) (mVar 3))) (mA (k1 fLen) (aCons (mLc (none) (iSeqM (mUp (mSl kSl (mVar 0) oNone (oSome (mVar 2))))) (gNameM 4) (Py.tB (m2 kEq (mVar 4) (m2 kIx (mVar 0) (mVar 2)))) (mC (.int 1)) [4]) aNil))))))
    (sRet (mUp (mA (k1 fTuple) (aCons (mVar 1) aNil))))))
def fn__law_ranks : Fn := fnD 5 m__law_ranks
/-- def _law_put(tableau, letters): -/
def m__law_put : MS := (sSeq (sSet 2 (mLc (some 0) (iTake 0) (gNameM 3) tYesM (mUp (mA (k1 fList) (aCons (mVar 3) aNil))) [3]))
    (sSeq (sFor (some 1) (iTake 1) (gTupM 3 (gsConsM (gNameM 4) (gsConsM (gNameM 5) (gsConsM (gNameM 6) gsNilM)))) (sAsg (mFrz 6) (gSubM 2 (pIx 2 (pRoot 2) (mVar 4)) (mVar 5))))
    (sRet (mA (k1 fTuple) (aCons (mLc (some 2) (iTake 2) (gNameM 3) tYesM (mUp (mA (k1 fTuple) (aCons (mVar 3) aNil))) [3]) aNil)))))
def fn__law_put : Fn := fnD 7 m__law_put
/-- def _law_ranked(tableau): -/
def m__law_ranked : MS := (sSeq (sSet 1 (mA (k1 fSort) (aCons (mLc (none) (iSeqM (mCall [1, 2] [some 0] fn__law_boxes (aCons (mLend 0) aNil))) (gTupM 3 (gsConsM (gNameM 2) (gsConsM (gNameM 3) (gsConsM (gNameM 4) gsNilM)))) tYesM (mA kTup (aCons (mUp (m2 kSub (mC (.int 0)) (mVar 2))) (aCons (mFrz 3) (aCons (mFrz 4) aNil)))) [2, 3, 4]) aNil)))
    (sSeq (sSet 5 (mCall [1, 2, 3] [none] fn__law_ranks (aCons (mLc (some 1) (iTake 1) (gNameM 6) tYesM (mUp (m2 kIx (mVar 6) (mC (.int 2)))) [6]) aNil)))
    (sRet (mCall [2, 4, 5, 6] [some 0, none] fn__law_put (aCons (mLend 0) (aCons (mLc (none) (iRngM1 (mUp (mA (k1 fLen) (aCons (mVar 1) aNil)))) (gNameM 2) tYesM (mUp (mA kTup (aCons (m2 kSub (mC (.int 0)) (m2 kIx (m2 kIx (mVar 1) (mVar 2)) (mC (.int 0)))) (aCons (m2 kIx (m2 kIx (mVar 1) (mVar 2)) (mC (.int 1))) (aCons (m2 kIx (mVar 5) (mVar 2)) aNil))))) [2]) aNil))))))
def fn__law_ranked : Fn := fnD 7 m__law_ranked
/-- def _law_within(state, shape): -/
def m__law_within : MS := (sSeq (sSet 2 (mUp (mA kLst aNil)))
    (sSeq (sSet 3 (mC (.int 99)))
    (sSeq (sFor (some 1) (iTake 1) (gNameM 4) (sSeq (sSet 3 (mA (fMin3) (aCons (mFrz 3) (aCons (mFrz 4) (aCons (mCall [2, 3] [some 0, none] fn__law_pick (aCons (mLend 0) (aCons (mUp (m2 kAdd (mVar 4) (mC (.int 1)))) aNil))) aNil)))))
    (sIf (Py.tB (m2 kGt (mVar 3) (mC (.int 0)))) (sAppN 2 (mFrz 3)) sNil)))
    (sRet (mUp (mA (k1 fTuple) (aCons (mVar 2) aNil)))))))
def fn__law_within : Fn := fnD 5 m__law_within
/-- def _law_same(told, due): -/
def m__law_same (fn_self : Fn) : MS := (sSeq (sIf (Py.tB (m2 kIsN (mVar 1) (mC .non))) (sRet (mUp (m2 kIsN (mVar 0) (mC .non)))) sNil)
    (sSeq (sIf (tVal (mIsa Ty.bool (mVar 1))) (sRet (mUp (mAndV (mIsa Ty.bool (mVar 0)) (m2 kEq (mVar 0) (mVar 1))))) sNil)
    (sSeq (sIf (tVal (mIsa Ty.int (mVar 1))) (sRet (mUp (mAndV (mIsa Ty.int (mVar 0)) (mAndV (mNotV (mIsa Ty.bool (mVar 0))) (m2 kEq (mVar 0) (mVar 1)))))) sNil)
    (sSeq (sIf (tVal (mIsa Ty.str (mVar 1))) (sRet (mUp (mAndV (mIsa Ty.str (mVar 0)) (m2 kEq (mVar 0) (mVar 1))))) sNil)
    (sSeq (sIf (tOrM (tAndM (tVal (mIsa Ty.list (mVar 1))) (tNotM (tVal (mIsa Ty.list (mVar 0))))) (tAndM (tVal (mIsa Ty.tuple (mVar 1))) (tNotM (tVal (mIsa Ty.tuple (mVar 0)))))) (sRet (mC (.bl false))) sNil)
    (sRet (mAndV (mUp (m2 kEq (mA (k1 fLen) (aCons (mVar 0) aNil)) (mA (k1 fLen) (aCons (mVar 1) aNil)))) (m2 kEq (mLc (none) (iRngM1 (mUp (mA (k1 fLen) (aCons (mVar 1) aNil)))) (gNameM 2) (tNotM (tVal (mCall [] [none, none] fn_self (aCons (mUp (m2 kIx (mVar 0) (mVar 2))) (aCons (mUp (m2 kIx (mVar 1) (mVar 2))) aNil))))) (mC (.int 1)) [2]) (mUp (mA kLst aNil))))))))))
def fn__law_same : Fn := fnR 3 m__law_same 6
/-- def part(tableau, low, high): -/
def m_part : MS := (sSeq (sSet 3 (mUp (mA kLst aNil)))
    (sSeq (sFor (some 0) (iTake 0) (gNameM 4) (sSeq (sSet 5 (mLc (some 4) (iTake 4) (gNameM 6) (tOrM (Py.tB (m2 kIsN (mVar 6) (mC .non))) (Py.tB (m2 kLe (mVar 6) (mVar 2)))) (mFrz 6) [6]))
    (sIf (Py.tB (m2 kGt (mA (k1 fLen) (aCons (mVar 5) aNil)) (mC (.int 0)))) (sAppN 3 (mA (k1 fTuple) (aCons (mLc (some 5) (iTake 5) (gNameM 6) tYesM (mIf (tOrM (Py.tB (m2 kIsN (mVar 6) (mC .non))) (Py.tB (m2 kLt (mVar 6) (mVar 1)))) (mC .non) (mFrz 6)) [6]) aNil))) sNil)))
    (sRet (mUp (mA (k1 fTuple) (aCons (mVar 3) aNil))))))
def fn_part : Fn := fnD 7 m_part
/-- def outer(tableau): -/
def m_outer : MS := (sRet (mA (k1 fTuple) (aCons (mLc (some 0) (iTake 0) (gNameM 1) tYesM (mUp (mA (k1 fLen) (aCons (mVar 1) aNil))) [1]) aNil)))
def fn_outer : Fn := fnD 2 m_outer
/-- def left_out(row): -/
def m_left_out : MS := (sSeq (sSet 1 (mC (.int 0)))
    (sSeq (sWhile (tAndM (Py.tB (m2 kLt (mVar 1) (mA (k1 fLen) (aCons (mVar 0) aNil)))) (Py.tB (m2 kIsN (m2 kIx (mVar 0) (mVar 1)) (mC .non)))) (sAug 1 kPlus (mC (.int 1))) fu)
    (sRet (mMove 1))))
def fn_left_out : Fn := fnD 2 m_left_out
/-- def inner(tableau): -/
def m_inner : MS := (sRet (mA (k1 fTuple) (aCons (mLc (some 0) (iTake 0) (gNameM 1) (Py.tB (m2 kGt (mCall [1] [some 1] fn_left_out (aCons (mLend 1) aNil)) (mC (.int 0)))) (mCall [1] [some 1] fn_left_out (aCons (mLend 1) aNil)) [1]) aNil)))
def fn_inner : Fn := fnD 2 m_inner
/-- def row_word(tableau): -/
def m_row_word : MS := (sSeq (sSet 1 (mUp (mA kLst aNil)))
    (sSeq (sFor (none) (iRevM (mFrz 0)) (gNameM 2) (sSet 1 (m2 kAdd (mFrz 1) (mA (k1 fList) (aCons (mSl kSl (mFrz 2) (oSome (mCall [1] [some 2] fn_left_out (aCons (mLend 2) aNil))) oNone) aNil)))))
    (sRet (mUp (mA (k1 fTuple) (aCons (mVar 1) aNil))))))
def fn_row_word : Fn := fnD 3 m_row_word
/-- def joined(first, second): -/
def m_joined : MS := (sSeq (sIf (Py.tB (m2 kNe (mCall [] [some 0] fn_outer (aCons (mLend 0) aNil)) (mCall [] [some 1] fn_inner (aCons (mLend 1) aNil)))) (sRet (mC .non)) sNil)
    (sSeq (sSet 2 (mA (k1 fMaxL) (aCons (m2 kAdd (mUp (mA kLst (aCons (mC (.int 0)) aNil))) (mA (k1 fList) (aCons (mCall [1, 2] [some 0] fn_row_word (aCons (mLend 0) aNil)) aNil))) aNil)))
    (sSeq (sSet 3 (mUp (mA kLst aNil)))
    (sSeq (sFor (none) (iRngM1 (mUp (mA (k1 fLen) (aCons (mVar 1) aNil)))) (gNameM 4) (sSeq (sSet 5 (mUp (m2 kIx (mVar 1) (mVar 4))))
    (sSeq (sSet 6 (mIf (Py.tB (m2 kLt (mVar 4) (mA (k1 fLen) (aCons (mVar 0) aNil)))) (mUp (m2 kIx (mVar 0) (mVar 4))) (mUp (mA kTup aNil))))
    (sAppN 3 (m2 kAdd (mFrz 6) (mA (k1 fTuple) (aCons (mLc (none) (iSeqM (mSl kSl (mFrz 5) (oSome (mCall [1] [some 5] fn_left_out (aCons (mLend 5) aNil))) oNone)) (gNameM 7) tYesM (mUp (m2 kAdd (mVar 7) (mVar 2))) [7]) aNil)))))))
    (sRet (mUp (mA (k1 fTuple) (aCons (mVar 3) aNil))))))))
def fn_joined : Fn := fnD 8 m_joined
/-- def _law_parts(state, tableau): -/
def m__law_parts : MS := (sSeq (sSet 2 (mCall [1, 2] [some 1] fn__law_boxes (aCons (mLend 1) aNil)))
    (sSeq (sSet 3 (mA (k1 fMaxL) (aCons (m2 kAdd (mUp (mA kLst (aCons (mC (.int 0)) aNil))) (mLc (some 2) (iTake 2) (gNameM 4) tYesM (mUp (m2 kIx (mVar 4) (mC (.int 2)))) [4])) aNil)))
    (sSeq (sSet 5 (m2 kAdd (mC (.int 1)) (mCall [2, 3] [some 0, none] fn__law_pick (aCons (mLend 0) (aCons (mUp (m2 kAdd (mVar 3) (mC (.int 1)))) aNil)))))
    (sSeq (sSet 6 (mCall [2, 3] [some 0, none] fn__law_pick (aCons (mLend 0) (aCons (mUp (m2 kAdd (mVar 3) (mC (.int 2)))) aNil))))
    (sSeq (sSet 7 (mUp (mA kLst aNil)))
    (sSeq (sFor (some 1) (iTake 1) (gNameM 8) (sSeq (sSet 9 (mUp (mA kLst aNil)))
    (sSeq (sFor (some 8) (iTake 8) (gNameM 10) (sIf (tOrM (Py.tB (m2 kIsN (mVar 10) (mC .non))) (Py.tB (m2 kLe (mVar 10) (mVar 6)))) (sSeq (sAppN 9 (mFrz 10))
    (sIf (tAndM (Py.tB (m2 kNotN (mVar 10) (mC .non))) (Py.tB (m2 kLt (mVar 10) (mVar 5)))) (sAsg (mC .non) (gSubM 9 (pRoot 9) (m1 fNeg (mC (.int 1))))) sNil)) sNil))
    (sAppN 7 (mUp (mA (k1 fTuple) (aCons (mVar 9) aNil)))))))
    (sSeq (sIf (tNotM (tVal (mCall [] [none, none] fn__law_same (aCons (mCall [3, 4, 5] [some 1, some 5, some 6] fn_part (aCons (mLend 1) (aCons (mLend 5) (aCons (mLend 6) aNil)))) (aCons (mA (k1 fTuple) (aCons (mLc (some 7) (iTake 7) (gNameM 8) (Py.tB (m2 kNe (mVar 8) (mA kTup aNil))) (mFrz 8) [8]) aNil)) aNil))))) (sRet (mC (.bl false))) sNil)
    (sSeq (sSet 11 (mCall [3, 4, 5] [some 1, none, some 6] fn_part (aCons (mLend 1) (aCons (mC (.int 1)) (aCons (mLend 6) aNil)))))
    (sSeq (sSet 12 (mCall [3, 4, 5] [some 1, none, some 3] fn_part (aCons (mLend 1) (aCons (mUp (m2 kAdd (mVar 6) (mC (.int 1)))) (aCons (mLend 3) aNil)))))
    (sSeq (sSet 13 (mA (k1 fMaxL) (aCons (m2 kAdd (mUp (mA kLst (aCons (mC (.int 0)) aNil))) (mLc (none) (iSeqM (mCall [1, 2] [some 11] fn__law_boxes (aCons (mLend 11) aNil))) (gNameM 4) tYesM (mUp (m2 kIx (mVar 4) (mC (.int 2)))) [4])) aNil)))
    (sSeq (sSet 14 (mCall [2, 4, 5, 6] [some 1, none] fn__law_put (aCons (mLend 1) (aCons (mLc (some 2) (iTake 2) (gTupM 3 (gsConsM (gNameM 15) (gsConsM (gNameM 16) (gsConsM (gNameM 17) gsNilM)))) (Py.tB (m2 kGt (mVar 17) (mVar 6))) (mA kTup (aCons (mFrz 15) (aCons (mFrz 16) (aCons (mUp (m2 kAdd (mVar 17) (mVar 13))) aNil)))) [15, 16, 17]) aNil))))
    (sSeq (sIf (Py.tB (m2 kNe (mLc (some 11) (iTake 11) (gNameM 8) tYesM (mUp (mA (k1 fLen) (aCons (mVar 8) aNil))) [8]) (mLc (some 12) (iTake 12) (gNameM 8) (Py.tB (m2 kIsN (m2 kIx (mVar 8) (mC (.int 0))) (mC .non))) (mA (k1 fLen) (aCons (mLc (some 8) (iTake 8) (gNameM 10) (Py.tB (m2 kIsN (mVar 10) (mC .non))) (mC (.int 1)) [10]) aNil)) [8]))) (sSet 14 (mC .non)) sNil)
    (sRet (mAndV (mCall [] [none, some 14] fn__law_same (aCons (mCall [2, 3, 4, 5, 6] [some 11, some 12] fn_joined (aCons (mLend 11) (aCons (mLend 12) aNil))) (aCons (mLend 14) aNil))) (m2 kIsN (mCall [2, 3, 4, 5, 6] [none, none] fn_joined (aCons (mA kTup (aCons (mUp (mA kTup (aCons (mC (.int 1)) aNil))) aNil)) (aCons (mA kTup (aCons (mUp (mA kTup (aCons (mC .non) (aCons (mC .non) (aCons (mC (.int 2)) aNil))))) aNil)) aNil))) (mC .non))))))))))))))))
def fn__law_parts : Fn := fnD 18 m__law_parts
/-- def _law_fault(value): -/
def m__law_fault : MS := (sSeq (sIf (tNotM (tVal (mIsa Ty.tuple (mVar 0)))) (sRet (mUp (mA kTup aNil))) sNil)
    (sSeq (sFor (none) (iRngM1 (mUp (mA (k1 fLen) (aCons (mVar 0) aNil)))) (gNameM 1) (sSeq (sIf (tOrM (tNotM (tVal (mIsa Ty.tuple (m2 kIx (mVar 0) (mVar 1))))) (tOrM (Py.tB (m2 kEq (mA (k1 fLen) (aCons (m2 kIx (mVar 0) (mVar 1)) aNil)) (mC (.int 0)))) (tAndM (Py.tB (m2 kGt (mVar 1) (mC (.int 0)))) (Py.tB (m2 kGt (mA (k1 fLen) (aCons (m2 kIx (mVar 0) (mVar 1)) aNil)) (mA (k1 fLen) (aCons (m2 kIx (mVar 0) (m2 kSub (mVar 1) (mC (.int 1)))) aNil))))))) (sRet (mA kTup (aCons (mFrz 1) aNil))) sNil)
    (sFor (none) (iRngM1 (mUp (mA (k1 fLen) (aCons (m2 kIx (mVar 0) (mVar 1)) aNil)))) (gNameM 2) (sSeq (sSet 3 (mUp (m2 kIx (m2 kIx (mVar 0) (mVar 1)) (mVar 2))))
    (sSeq (sSet 4 (mUp (mA kLst aNil)))
    (sSeq (sIf (Py.tB (m2 kGt (mVar 2) (mC (.int 0)))) (sAppN 4 (mUp (mA kTup (aCons (m2 kIx (m2 kIx (mVar 0) (mVar 1)) (m2 kSub (mVar 2) (mC (.int 1)))) (aCons (mC (.int 0)) aNil))))) sNil)
    (sSeq (sIf (Py.tB (m2 kGt (mVar 1) (mC (.int 0)))) (sAppN 4 (mUp (mA kTup (aCons (m2 kIx (m2 kIx (mVar 0) (m2 kSub (mVar 1) (mC (.int 1)))) (mVar 2)) (aCons (mC (.int 1)) aNil))))) sNil)
    (sIf (Py.tB (m2 kIsN (mVar 3) (mC .non))) (sIf (Py.tB (m2 kNe (mLc (some 4) (iTake 4) (gTupM 2 (gsConsM (gNameM 5) (gsConsM (gNameM 6) gsNilM))) (Py.tB (m2 kNotN (mVar 5) (mC .non))) (mC (.int 1)) [5, 6]) (mUp (mA kLst aNil)))) (sRet (mA kTup (aCons (mFrz 1) (aCons (mFrz 2) aNil)))) sNil) (sIf (tOrM (tNotM (tVal (mIsa Ty.int (mVar 3)))) (tOrM (tVal (mIsa Ty.bool (mVar 3))) (Py.tB (m2 kLt (mVar 3) (mC (.int 1)))))) (sRet (mA kTup (aCons (mFrz 1) (aCons (mFrz 2) aNil)))) (sIf (Py.tB (m2 kNe (mLc (some 4) (iTake 4) (gTupM 2 (gsConsM (gNameM 5) (gsConsM (gNameM 6) gsNilM))) (tAndM (Py.tB (m2 kNotN (mVar 5) (mC .non))) (Py.tB (m2 kGt (m2 kAdd (mVar 5) (mVar 6)) (mVar 3)))) (mC (.int 1)) [5, 6]) (mUp (mA kLst aNil)))) (sRet (mA kTup (aCons (mFrz 1) (aCons (mFrz 2) aNil)))) sNil))))))))))
    (sRet (mC .non))))
def fn__law_fault : Fn := fnD 7 m__law_fault
/-- def is_letter(value): -/
def m_is_letter : MS := (sRet (mUp (mAndV (mIsa Ty.int (mVar 0)) (mAndV (mNotV (mIsa Ty.bool (mVar 0))) (m2 kGe (mVar 0) (mC (.int 1)))))))
def fn_is_letter : Fn := fnD 1 m_is_letter
/-- def is_bad_box(above, row, column): -/
def m_is_bad_box : MS := (sSeq (sSet 3 (mUp (m2 kIx (mVar 1) (mVar 2))))
    (sSeq (sSet 4 (mIf (Py.tB (m2 kIsN (mVar 0) (mC .non))) (mC .non) (mUp (m2 kIx (mVar 0) (mVar 2)))))
    (sSeq (sIf (Py.tB (m2 kIsN (mVar 3) (mC .non))) (sRet (mUp (mOrV (m2 kNotN (mVar 4) (mC .non)) (mAndV (m2 kGt (mVar 2) (mC (.int 0))) (m2 kNotN (m2 kIx (mVar 1) (m2 kSub (mVar 2) (mC (.int 1)))) (mC .non)))))) sNil)
    (sSeq (sIf (tNotM (tVal (mCall [] [some 3] fn_is_letter (aCons (mLend 3) aNil)))) (sRet (mC (.bl true))) sNil)
    (sSeq (sIf (tAndM (Py.tB (m2 kGt (mVar 2) (mC (.int 0)))) (tAndM (Py.tB (m2 kNotN (m2 kIx (mVar 1) (m2 kSub (mVar 2) (mC (.int 1)))) (mC .non))) (Py.tB (m2 kGt (m2 kIx (mVar 1) (m2 kSub (mVar 2) (mC (.int 1)))) (mVar 3))))) (sRet (mC (.bl true))) sNil)
    (sRet (mUp (mAndV (m2 kNotN (mVar 4) (mC .non)) (m2 kGe (mVar 4) (mVar 3))))))))))
def fn_is_bad_box : Fn := fnD 5 m_is_bad_box
/-- def fault(value): -/
def m_fault : MS := (sSeq (sIf (tNotM (tVal (mIsa Ty.tuple (mVar 0)))) (sRet (mUp (mA kTup aNil))) sNil)
    (sSeq (sSet 1 (mC .non))
    (sSeq (sFor (none) (iRngM1 (mUp (mA (k1 fLen) (aCons (mVar 0) aNil)))) (gNameM 2) (sSeq (sSet 3 (mUp (m2 kIx (mVar 0) (mVar 2))))
    (sSeq (sIf (tOrM (tNotM (tVal (mIsa Ty.tuple (mVar 3)))) (tOrM (Py.tB (m2 kEq (mA (k1 fLen) (aCons (mVar 3) aNil)) (mC (.int 0)))) (tAndM (Py.tB (m2 kNotN (mVar 1) (mC .non))) (Py.tB (m2 kGt (mA (k1 fLen) (aCons (mVar 3) aNil)) (mA (k1 fLen) (aCons (mVar 1) aNil))))))) (sRet (mA kTup (aCons (mFrz 2) aNil))) sNil)
    (sSeq (sFor (none) (iRngM1 (mUp (mA (k1 fLen) (aCons (mVar 3) aNil)))) (gNameM 4) (sIf (tVal (mCall [3, 4] [some 1, some 3, some 4] fn_is_bad_box (aCons (mLend 1) (aCons (mLend 3) (aCons (mLend 4) aNil))))) (sRet (mA kTup (aCons (mFrz 2) (aCons (mFrz 4) aNil)))) sNil))
    (sSet 1 (mFrz 3))))))
    (sRet (mC .non)))))
def fn_fault : Fn := fnD 5 m_fault
/-- def from_row_word(word): -/
def m_from_row_word : MS := (sSeq (sSet 1 (mUp (mA kLst aNil)))
    (sSeq (sFor (none) (iRngM1 (mUp (mA (k1 fLen) (aCons (mVar 0) aNil)))) (gNameM 2) (sIf (tAndM (Py.tB (m2 kGt (mVar 2) (mC (.int 0)))) (Py.tB (m2 kLe (m2 kIx (mVar 0) (m2 kSub (mVar 2) (mC (.int 1)))) (m2 kIx (mVar 0) (mVar 2))))) (sAppP 1 (pIx 1 (pRoot 1) (m1 fNeg (mC (.int 1)))) (m2 kIx (mVar 0) (mVar 2))) (sAppN 1 (mUp (mA kLst (aCons (m2 kIx (mVar 0) (mVar 2)) aNil))))))
    (sSeq (sSet 3 (mA (k1 fTuple) (aCons (mLc (none) (iRevM (mFrz 1)) (gNameM 4) tYesM (mUp (mA (k1 fTuple) (aCons (mVar 4) aNil))) [4]) aNil)))
    (sRet (mIf (Py.tB (m2 kIsN (mCall [1, 2, 3, 4] [some 3] fn_fault (aCons (mLend 3) aNil)) (mC .non))) (mFrz 3) (mC .non))))))
def fn_from_row_word : Fn := fnD 5 m_from_row_word
/-- def _law_from_word(state, tableau): -/
def m__law_from_word : MS := (sSeq (sSet 2 (mCall [1, 2] [some 1] fn_row_word (aCons (mLend 1) aNil)))
    (sSeq (sIf (Py.tB (m2 kEq (mCall [2, 3] [some 0, none] fn__law_pick (aCons (mLend 0) (aCons (mC (.int 2)) aNil))) (mC (.int 0)))) (sSet 2 (mA (k1 fTuple) (aCons (mLc (none) (iRngM1 (mCall [2, 3] [some 0, none] fn__law_pick (aCons (mLend 0) (aCons (mC (.int 6)) aNil)))) (gNameM 3) tYesM (m2 kAdd (mC (.int 1)) (mCall [2, 3] [some 0, none] fn__law_pick (aCons (mLend 0) (aCons (mC (.int 3)) aNil)))) [3]) aNil))) sNil)
    (sSeq (sSet 4 (mUp (mA kLst aNil)))
    (sSeq (sFor (none) (iRngM1 (mUp (mA (k1 fLen) (aCons (mVar 2) aNil)))) (gNameM 3) (sSeq (sIf (tOrM (Py.tB (m2 kEq (mVar 3) (mC (.int 0)))) (Py.tB (m2 kGt (m2 kIx (mVar 2) (m2 kSub (mVar 3) (mC (.int 1)))) (m2 kIx (mVar 2) (mVar 3))))) (sSet 4 (m2 kAdd (mA kLst (aCons (mUp (mA kLst aNil)) aNil)) (mMove 4))) sNil)
    (sAppP 4 (pIx 4 (pRoot 4) (mC (.int 0))) (m2 kIx (mVar 2) (mVar 3)))))
    (sSeq (sSet 5 (mA (k1 fTuple) (aCons (mLc (some 4) (iTake 4) (gNameM 6) tYesM (mUp (mA (k1 fTuple) (aCons (mVar 6) aNil))) [6]) aNil)))
    (sSeq (sIf (Py.tB (m2 kNotN (mCall [1, 2, 3, 4] [some 5] fn__law_fault (aCons (mLend 5) aNil)) (mC .non))) (sSet 5 (mC .non)) sNil)
    (sRet (mCall [] [none, some 5] fn__law_same (aCons (mCall [1, 2, 3] [some 2] fn_from_row_word (aCons (mLend 2) aNil)) (aCons (mLend 5) aNil))))))))))
def fn__law_from_word : Fn := fnD 7 m__law_from_word
/-- def _law_counts(word): -/
def m__law_counts : MS := (sRet (mA (k1 fTuple) (aCons (mLc (none) (iRngM2 (mC (.int 1)) (mUp (m2 kAdd (mA (k1 fMaxL) (aCons (m2 kAdd (mA kLst (aCons (mC (.int 0)) aNil)) (mA (k1 fList) (aCons (mVar 0) aNil))) aNil)) (mC (.int 1))))) (gNameM 2) tYesM (mA (k1 fLen) (aCons (mLc (some 0) (iTake 0) (gNameM 1) (Py.tB (m2 kEq (mVar 1) (mVar 2))) (mC (.int 1)) [1]) aNil)) [2]) aNil)))
def fn__law_counts : Fn := fnD 3 m__law_counts
/-- def filled(tableau, letters): -/
def m_filled : MS := (sSeq (sSet 2 (mUp (mA kLst aNil)))
    (sSeq (sSet 3 (mUp (mA (k1 fLen) (aCons (mVar 1) aNil))))
    (sSeq (sFor (some 0) (iTake 0) (gNameM 4) (sSeq (sSet 5 (m2 kSub (mUp (mA (k1 fLen) (aCons (mVar 4) aNil))) (mCall [1] [some 4] fn_left_out (aCons (mLend 4) aNil))))
    (sSeq (sAppN 2 (m2 kAdd (mSl kSl (mFrz 4) oNone (oSome (mCall [1] [some 4] fn_left_out (aCons (mLend 4) aNil)))) (mUp (mA (k1 fTuple) (aCons (mSl kSl (mVar 1) (oSome (m2 kSub (mVar 3) (mVar 5))) (oSome (mVar 3))) aNil)))))
    (sAug 3 kSub (mFrz 5)))))
    (sRet (mUp (mA (k1 fTuple) (aCons (mVar 2) aNil)))))))
def fn_filled : Fn := fnD 6 m_filled
/-- def ranks(word): -/
def m_ranks : MS := (sSeq (sSet 1 (mA (k1 fSort) (aCons (mLc (none) (iRngM1 (mUp (mA (k1 fLen) (aCons (mVar 0) aNil)))) (gNameM 2) tYesM (mA kTup (aCons (mUp (m2 kIx (mVar 0) (mVar 2))) (aCons (mFrz 2) aNil))) [2]) aNil)))
    (sSeq (sSet 3 (mUp (m2 kMul (mA kLst (aCons (mC (.int 0)) aNil)) (mA (k1 fLen) (aCons (mVar 0) aNil)))))
    (sSeq (sFor (none) (iRngM1 (mUp (mA (k1 fLen) (aCons (mVar 1) aNil)))) (gNameM 4) (sAsg (mUp (m2 kAdd (mVar 4) (mC (.int 1)))) (gSubM 3 (pRoot 3) (m2 kIx (m2 kIx (mVar 1) (mVar 4)) (mC (.int 1))))))
    (sRet (mUp (mA (k1 fTuple) (aCons (mVar 3) aNil)))))))
def fn_ranks : Fn := fnD 5 m_ranks
/-- def standardized(tableau): -/
def m_standardized : MS := (sRet (mCall [2, 3, 4, 5] [some 0, none] fn_filled (aLate 0 (aCons (mCall [1, 3, 4] [none] fn_ranks (aCons (mCall [1, 2] [some 0] fn_row_word (aCons (mLend 0) aNil)) aNil)) aNil))))
def fn_standardized : Fn := fnD 1 m_standardized
/-- def with_content(standard, counts): -/
def m_with_content : MS := (sSeq (sSet 2 (mUp (mA kLst aNil)))
    (sSeq (sFor (none) (iRngM1 (mUp (mA (k1 fLen) (aCons (mVar 1) aNil)))) (gNameM 3) (sSet 2 (mUp (m2 kAdd (mVar 2) (m2 kMul (mA kLst (aCons (m2 kAdd (mVar 3) (mC (.int 1))) aNil)) (m2 kIx (mVar 1) (mVar 3)))))))
    (sSeq (sSet 4 (mCall [1, 2] [some 0] fn_row_word (aCons (mLend 0) aNil)))
    (sSeq (sIf (Py.tB (m2 kNe (mA (k1 fLen) (aCons (mVar 2) aNil)) (mA (k1 fLen) (aCons (mVar 4) aNil)))) (sRet (mC .non)) sNil)
    (sSeq (sSet 5 (mCall [2, 3, 4, 5] [some 0, none] fn_filled (aCons (mLend 0) (aCons (mLc (some 4) (iTake 4) (gNameM 6) tYesM (mUp (m2 kIx (mVar 2) (m2 kSub (mVar 6) (mC (.int 1))))) [6]) aNil))))
    (sRet (mIf (tAndM (Py.tB (m2 kIsN (mCall [1, 2, 3, 4] [some 5] fn_fault (aCons (mLend 5) aNil)) (mC .non))) (Py.tB (m2 kEq (mCall [] [some 5] fn_standardized (aCons (mLend 5) aNil)) (mFrz 0)))) (mFrz 5) (mC .non))))))))
def fn_with_content : Fn := fnD 7 m_with_content
/-- def _law_contents(state, tableau): -/
def m__law_contents : MS := (sSeq (sSet 2 (mCall [1, 5] [some 1] fn__law_ranked (aCons (mLend 1) aNil)))
    (sSeq (sSet 3 (mCall [2, 3, 4, 5] [none, none] fn__law_word (aCons (mCall [1, 2] [some 1] fn__law_boxes (aCons (mLend 1) aNil)) (aCons (mC (.bl true)) aNil))))
    (sSeq (sSet 4 (mA (k1 fList) (aCons (mCall [] [some 3] fn__law_counts (aCons (mLend 3) aNil)) aNil)))
    (sSeq (sIf (tNotM (tVal (mCall [] [none, some 1] fn__law_same (aCons (mCall [2, 3, 4, 5] [some 2, none] fn_with_content (aCons (mLend 2) (aCons (mUp (mA (k1 fTuple) (aCons (mVar 4) aNil))) aNil))) (aCons (mLend 1) aNil))))) (sRet (mC (.bl false))) sNil)
    (sSeq (sIf (Py.tB (m2 kGt (mA (k1 fLen) (aCons (mVar 4) aNil)) (mC (.int 1)))) (sSeq (sSet 5 (mCall [2, 3] [some 0, none] fn__law_pick (aCons (mLend 0) (aCons (mUp (m2 kSub (mA (k1 fLen) (aCons (mVar 4) aNil)) (mC (.int 1)))) aNil))))
    (sAsg (mA kTup (aCons (m2 kAdd (mUp (m2 kIx (mVar 4) (m2 kAdd (mVar 5) (mC (.int 1))))) (mCall [2, 3] [some 0, none] fn__law_pick (aCons (mLend 0) (aCons (mC (.int 2)) aNil)))) (aCons (mUp (m2 kIx (mVar 4) (mVar 5))) aNil))) (gTupM 2 (gsConsM (gSubM 4 (pRoot 4) (mVar 5)) (gsConsM (gSubM 4 (pRoot 4) (m2 kAdd (mVar 5) (mC (.int 1)))) gsNilM))))) sNil)
    (sSeq (sSet 6 (mUp (mA kLst aNil)))
    (sSeq (sFor (none) (iRngM1 (mUp (mA (k1 fLen) (aCons (mVar 4) aNil)))) (gNameM 7) (sSet 6 (m2 kAdd (mFrz 6) (mLc (none) (iRngM1 (mUp (m2 kIx (mVar 4) (mVar 7)))) (gNameM 8) tYesM (mUp (m2 kAdd (mVar 7) (mC (.int 1)))) [8]))))
    (sSeq (sSet 9 (mC .non))
    (sSeq (sSet 10 (mCall [1, 2] [some 2] fn__law_boxes (aCons (mLend 2) aNil)))
    (sSeq (sIf (Py.tB (m2 kEq (mA (k1 fLen) (aCons (mVar 6) aNil)) (mA (k1 fLen) (aCons (mVar 10) aNil)))) (sSeq (sSet 9 (mCall [2, 4, 5, 6] [some 2, none] fn__law_put (aCons (mLend 2) (aCons (mLc (some 10) (iTake 10) (gTupM 3 (gsConsM (gNameM 7) (gsConsM (gNameM 8) (gsConsM (gNameM 11) gsNilM)))) tYesM (mA kTup (aCons (mFrz 7) (aCons (mFrz 8) (aCons (mUp (m2 kIx (mVar 6) (m2 kSub (mVar 11) (mC (.int 1))))) aNil)))) [7, 8, 11]) aNil))))
    (sIf (tOrM (Py.tB (m2 kNotN (mCall [1, 2, 3, 4] [some 9] fn__law_fault (aCons (mLend 9) aNil)) (mC .non))) (Py.tB (m2 kNe (mCall [1, 5] [some 9] fn__law_ranked (aCons (mLend 9) aNil)) (mFrz 2)))) (sSet 9 (mC .non)) sNil)) sNil)
    (sRet (mCall [] [none, some 9] fn__law_same (aCons (mCall [2, 3, 4, 5] [some 2, none] fn_with_content (aCons (mLend 2) (aCons (mUp (mA (k1 fTuple) (aCons (mVar 4) aNil))) aNil))) (aCons (mLend 9) aNil))))))))))))))
def fn__law_contents : Fn := fnD 12 m__law_contents
/-- def is_straight(value): -/
def m_is_straight : MS := (sRet (mAndV (m2 kIsN (mCall [1, 2, 3, 4] [some 0] fn_fault (aCons (mLend 0) aNil)) (mC .non)) (m2 kEq (mA (k1 fLen) (aCons (mCall [] [some 0] fn_inner (aCons (mLend 0) aNil)) aNil)) (mC (.int 0)))))
def fn_is_straight : Fn := fnD 1 m_is_straight
/-- def content(word): -/
def m_content : MS := (sSeq (sSet 1 (mUp (m2 kMul (mA kLst (aCons (mC (.int 0)) aNil)) (mA (k1 fMaxL) (aCons (m2 kAdd (mA kLst (aCons (mC (.int 0)) aNil)) (mA (k1 fList) (aCons (mVar 0) aNil))) aNil)))))
    (sSeq (sFor (some 0) (iTake 0) (gNameM 2) (sAugP 1 (pRoot 1) (m2 kSub (mVar 2) (mC (.int 1))) kPlus (mC (.int 1))))
    (sRet (mUp (mA (k1 fTuple) (aCons (mVar 1) aNil))))))
def fn_content : Fn := fnD 3 m_content
/-- def is_standard(value): -/
def m_is_standard : MS := (sSeq (sIf (Py.tB (m2 kNotN (mCall [1, 2, 3, 4] [some 0] fn_fault (aCons (mLend 0) aNil)) (mC .non))) (sRet (mC (.bl false))) sNil)
    (sRet (mA (k1 fAll) (aCons (mLc (none) (iSeqM (mCall [1, 2] [none] fn_content (aCons (mCall [1, 2] [some 0] fn_row_word (aCons (mLend 0) aNil)) aNil))) (gNameM 1) tYesM (mUp (m2 kEq (mVar 1) (mC (.int 1)))) [1]) aNil))))
def fn_is_standard : Fn := fnD 2 m_is_standard
/-- def is_tableau(value): -/
def m_is_tableau : MS := (sRet (m2 kIsN (mCall [1, 2, 3, 4] [some 0] fn_fault (aCons (mLend 0) aNil)) (mC .non)))
def fn_is_tableau : Fn := fnD 1 m_is_tableau
/-- def _law_kinds(value): -/
def m__law_kinds : MS := (sSeq (sSet 1 (m2 kIsN (mCall [1, 2, 3, 4] [some 0] fn__law_fault (aCons (mLend 0) aNil)) (mC .non)))
    (sSeq (sIf (tOrM (tNotM (tVal (mCall [] [none, none] fn__law_same (aCons (mCall [1, 2, 3, 4] [some 0] fn_fault (aCons (mLend 0) aNil)) (aCons (mCall [1, 2, 3, 4] [some 0] fn__law_fault (aCons (mLend 0) aNil)) aNil))))) (tNotM (tVal (mCall [] [none, some 1] fn__law_same (aCons (mCall [] [some 0] fn_is_tableau (aCons (mLend 0) aNil)) (aCons (mLend 1) aNil)))))) (sRet (mC (.bl false))) sNil)
    (sSeq (sSet 2 (mC (.bl false)))
    (sSeq (sSet 3 (mC (.bl false)))
    (sSeq (sIf (tVal (mVar 1)) (sSeq (sSet 4 (mLc (none) (iSeqM (mCall [1, 2] [some 0] fn__law_boxes (aCons (mLend 0) aNil))) (gNameM 5) tYesM (mUp (m2 kIx (mVar 5) (mC (.int 2)))) [5]))
    (sSeq (sSet 2 (m2 kEq (mUp (mA (k1 fLen) (aCons (mVar 4) aNil))) (mA (k1 fSum) (aCons (mLc (some 0) (iTake 0) (gNameM 6) tYesM (mUp (mA (k1 fLen) (aCons (mVar 6) aNil))) [6]) aNil))))
    (sSet 3 (mUp (m2 kEq (mA (k1 fSort) (aCons (mVar 4) aNil)) (mLRg (mC (.int 1)) (m2 kAdd (mA (k1 fLen) (aCons (mVar 4) aNil)) (mC (.int 1))))))))) sNil)
    (sRet (mAndV (mCall [] [none, some 2] fn__law_same (aCons (mCall [] [some 0] fn_is_straight (aCons (mLend 0) aNil)) (aCons (mLend 2) aNil))) (mCall [] [none, some 3] fn__law_same (aCons (mCall [] [some 0] fn_is_standard (aCons (mLend 0) aNil)) (aCons (mLend 3) aNil))))))))))
def fn__law_kinds : Fn := fnD 7 m__law_kinds
/-- def transposed(tableau): -/
def m_transposed : MS := (sSeq (sSet 1 (mUp (mA kLst aNil)))
    (sSeq (sFor (none) (iRngM1 (mA (k1 fMaxL) (aCons (m2 kAdd (mUp (mA kLst (aCons (mC (.int 0)) aNil))) (mA (k1 fList) (aCons (mCall [] [some 0] fn_outer (aCons (mLend 0) aNil)) aNil))) aNil))) (gNameM 2) (sAppN 1 (mA (k1 fTuple) (aCons (mLc (some 0) (iTake 0) (gNameM 3) (Py.tB (m2 kGt (mA (k1 fLen) (aCons (mVar 3) aNil)) (mVar 2))) (mUp (m2 kIx (mVar 3) (mVar 2))) [3]) aNil))))
    (sRet (mUp (mA (k1 fTuple) (aCons (mVar 1) aNil))))))
def fn_transposed : Fn := fnD 4 m_transposed
/-- def _law_bent(state, tableau): -/
def m__law_bent : MS := (sSeq (sSet 2 (mLc (some 1) (iTake 1) (gNameM 3) tYesM (mUp (mA (k1 fList) (aCons (mVar 3) aNil))) [3]))
    (sSeq (sSet 4 (mCall [2, 3] [some 0, none] fn__law_pick (aCons (mLend 0) (aCons (mC (.int 8)) aNil))))
    (sSeq (sIf (tOrM (Py.tB (m2 kEq (mVar 2) (mA kLst aNil))) (Py.tB (m2 kEq (mVar 4) (mC (.int 0))))) (sRet (m2 kIx (mA kLst (aCons (mUp (mA kLst aNil)) (aCons (mUp (mA kTup aNil)) (aCons (mA kTup (aCons (mUp (mA kTup (aCons (mC (.int 1)) aNil))) (aCons (mUp (mA kTup aNil)) aNil))) (aCons (mC (.str "1")) (aCons (mC .non) (aCons (mA kTup (aCons (mUp (mA kTup (aCons (mC (.int 1)) (aCons (mC (.int 2)) aNil)))) (aCons (mUp (mA kTup (aCons (mC (.int 3)) (aCons (mC (.int 4)) (aCons (mC (.int 5)) aNil))))) aNil))) (aCons (mA kTup (aCons (mUp (mA kTup (aCons (mC (.str "1")) aNil))) aNil)) (aCons (mA kTup (aCons (mUp (mA kTup (aCons (mC .non) (aCons (mC .non) (aCons (mC (.int 1)) aNil))))) (aCons (mUp (mA kTup (aCons (mC .non) (aCons (mC (.int 2)) (aCons (mC (.int 2)) aNil))))) aNil))) aNil))))))))) (mCall [2, 3] [some 0, none] fn__law_pick (aCons (mLend 0) (aCons (mC (.int 8)) aNil))))) sNil)
    (sSeq (sSet 5 (mCall [2, 3] [some 0, none] fn__law_pick (aCons (mLend 0) (aCons (mUp (mA (k1 fLen) (aCons (mVar 2) aNil))) aNil))))
    (sSeq (sSet 6 (mCall [2, 3] [some 0, none] fn__law_pick (aCons (mLend 0) (aCons (mUp (mA (k1 fLen) (aCons (m2 kIx (mVar 2) (mVar 5)) aNil))) aNil))))
    (sSeq (sIf (Py.tB (m2 kLt (mVar 4) (mC (.int 4)))) (sAsg (m2 kIx (mUp (mA kLst (aCons (mC .non) (aCons (mC (.int 0)) (aCons (m1 fNeg (mC (.int 1))) (aCons (mC (.bl true)) (aCons (mC (.str "a")) (aCons (mC (.int 1)) (aCons (mC (.int 2)) (aCons (mC (.int 3)) (aCons (mC (.int 9)) aNil))))))))))) (mCall [2, 3] [some 0, none] fn__law_pick (aCons (mLend 0) (aCons (mC (.int 9)) aNil)))) (gSubM 2 (pIx 2 (pRoot 2) (mVar 5)) (mVar 6))) (sIf (Py.tB (m2 kEq (mVar 4) (mC (.int 4)))) (sAppP 2 (pIx 2 (pRoot 2) (mVar 5)) (mC (.int 99))) (sIf (Py.tB (m2 kEq (mVar 4) (mC (.int 5)))) (sPopP 2 (pIx 2 (pRoot 2) (mVar 5))) (sIf (Py.tB (m2 kEq (mVar 4) (mC (.int 6)))) (sRet (m2 kAdd (mA (k1 fTuple) (aCons (mLc (none) (iSeqM (mSl kSl (mFrz 2) oNone (oSome (mFrz 5)))) (gNameM 3) tYesM (mUp (mA (k1 fTuple) (aCons (mVar 3) aNil))) [3]) aNil)) (mA kTup (aCons (m2 kIx (mFrz 2) (mFrz 5)) aNil)))) (sSeq (sSet 7 (mCall [2, 3] [some 0, none] fn__law_pick (aCons (mLend 0) (aCons (mUp (mA (k1 fLen) (aCons (mVar 2) aNil))) aNil))))
    (sSwap 2 5 7))))))
    (sRet (mA (k1 fTuple) (aCons (mLc (some 2) (iTake 2) (gNameM 3) tYesM (mUp (mA (k1 fTuple) (aCons (mVar 3) aNil))) [3]) aNil)))))))))
def fn__law_bent : Fn := fnD 8 m__law_bent
/-- def column_word(tableau): -/
def m_column_word : MS := (sSeq (sSet 1 (mUp (mA kLst aNil)))
    (sSeq (sFor (none) (iRngM1 (mA (k1 fMaxL) (aCons (m2 kAdd (mUp (mA kLst (aCons (mC (.int 0)) aNil))) (mA (k1 fList) (aCons (mCall [] [some 0] fn_outer (aCons (mLend 0) aNil)) aNil))) aNil))) (gNameM 2) (sFor (none) (iRevM (mFrz 0)) (gNameM 3) (sIf (tAndM (Py.tB (m2 kLt (mVar 2) (mA (k1 fLen) (aCons (mVar 3) aNil)))) (Py.tB (m2 kNotN (m2 kIx (mVar 3) (mVar 2)) (mC .non)))) (sAppN 1 (mUp (m2 kIx (mVar 3) (mVar 2)))) sNil)))
    (sRet (mUp (mA (k1 fTuple) (aCons (mVar 1) aNil))))))
def fn_column_word : Fn := fnD 4 m_column_word
/-- def law(script): -/
def m_law : MS := (sSeq (sSet 1 (mCall [] [some 0] fn__law_start (aCons (mLend 0) aNil)))
    (sSeq (sSet 2 (mCall [3, 4, 5] [some 1, none, none] fn__law_shape (aCons (mLend 1) (aCons (mC (.int 5)) (aCons (mC (.int 7)) aNil)))))
    (sSeq (sSet 3 (mUp (mA kTup aNil)))
    (sSeq (sIf (Py.tB (m2 kEq (mCall [2, 3] [some 1, none] fn__law_pick (aCons (mLend 1) (aCons (mC (.int 2)) aNil))) (mC (.int 0)))) (sSet 3 (mCall [2, 3, 4] [some 1, some 2] fn__law_within (aCons (mLend 1) (aCons (mLend 2) aNil)))) sNil)
    (sSeq (sSet 4 (mCall [3, 4, 5, 6, 7, 8] [some 1, some 2, some 3] fn__law_filled (aCons (mLend 1) (aCons (mLend 2) (aCons (mLend 3) aNil)))))
    (sSeq (sIf (tOrM (tNotM (tVal (mCall [1, 2, 3, 4] [some 4] fn__law_kinds (aCons (mLend 4) aNil)))) (tOrM (tNotM (tVal (mCall [1, 2, 3, 4] [none] fn__law_kinds (aCons (mCall [2, 4, 5, 6, 7] [some 1, some 4] fn__law_bent (aCons (mLend 1) (aCons (mLend 4) aNil))) aNil)))) (tNotM (tVal (mCall [1, 2, 3, 4] [none] fn__law_kinds (aCons (mCall [2, 4, 5, 6, 7] [some 1, some 4] fn__law_bent (aCons (mLend 1) (aCons (mLend 4) aNil))) aNil)))))) (sRet (mC (.bl false))) sNil)
    (sSeq (sSet 5 (mCall [1, 2] [some 4] fn__law_boxes (aCons (mLend 4) aNil)))
    (sSeq (sSet 6 (mCall [2, 3, 4, 5] [some 5, none] fn__law_word (aCons (mLend 5) (aCons (mC (.bl true)) aNil))))
    (sSeq (sIf (tOrM (tNotM (tVal (mCall [] [none, some 2] fn__law_same (aCons (mCall [] [some 4] fn_outer (aCons (mLend 4) aNil)) (aCons (mLend 2) aNil))))) (tNotM (tVal (mCall [] [none, some 3] fn__law_same (aCons (mCall [] [some 4] fn_inner (aCons (mLend 4) aNil)) (aCons (mLend 3) aNil)))))) (sRet (mC (.bl false))) sNil)
    (sSeq (sIf (tOrM (tNotM (tVal (mCall [] [none, some 6] fn__law_same (aCons (mCall [1, 2] [some 4] fn_row_word (aCons (mLend 4) aNil)) (aCons (mLend 6) aNil))))) (tNotM (tVal (mCall [] [none, none] fn__law_same (aCons (mCall [1, 2, 3] [some 4] fn_column_word (aCons (mLend 4) aNil)) (aCons (mCall [2, 3, 4, 5] [some 5, none] fn__law_word (aCons (mLend 5) (aCons (mC (.bl false)) aNil))) aNil)))))) (sRet (mC (.bl false))) sNil)
    (sSeq (sIf (tOrM (tNotM (tVal (mCall [] [none, none] fn__law_same (aCons (mCall [1, 3, 4] [some 6] fn_ranks (aCons (mLend 6) aNil)) (aCons (mCall [1, 2, 3] [some 6] fn__law_ranks (aCons (mLend 6) aNil)) aNil))))) (tNotM (tVal (mCall [] [none, none] fn__law_same (aCons (mCall [1, 2] [some 6] fn_content (aCons (mLend 6) aNil)) (aCons (mCall [] [some 6] fn__law_counts (aCons (mLend 6) aNil)) aNil)))))) (sRet (mC (.bl false))) sNil)
    (sSeq (sSet 7 (mCall [1, 5] [some 4] fn__law_ranked (aCons (mLend 4) aNil)))
    (sSeq (sIf (tOrM (tNotM (tVal (mCall [1, 2, 3, 4] [some 7] fn__law_kinds (aCons (mLend 7) aNil)))) (tNotM (tVal (mCall [] [none, some 7] fn__law_same (aCons (mCall [] [some 4] fn_standardized (aCons (mLend 4) aNil)) (aCons (mLend 7) aNil)))))) (sRet (mC (.bl false))) sNil)
    (sSeq (sSet 8 (mA (k1 fMaxL) (aCons (m2 kAdd (mUp (mA kLst (aCons (mC (.int 0)) aNil))) (mLc (some 7) (iTake 7) (gNameM 9) tYesM (mUp (mA (k1 fLen) (aCons (mVar 9) aNil))) [9])) aNil)))
    (sSeq (sSet 10 (mA (k1 fTuple) (aCons (mLc (none) (iRngM1 (mFrz 8)) (gNameM 11) tYesM (mA (k1 fTuple) (aCons (mLc (some 7) (iTake 7) (gNameM 9) (Py.tB (m2 kGt (mA (k1 fLen) (aCons (mVar 9) aNil)) (mVar 11))) (mUp (m2 kIx (mVar 9) (mVar 11))) [9]) aNil)) [11]) aNil)))
    (sSeq (sIf (tNotM (tVal (mCall [] [none, some 10] fn__law_same (aCons (mCall [1, 2] [some 7] fn_transposed (aCons (mLend 7) aNil)) (aCons (mLend 10) aNil))))) (sRet (mC (.bl false))) sNil)
    (sRet (mAndV (mCall [2, 3, 5, 6, 7, 8, 9, 10, 11, 12, 13, 14] [some 1, some 4] fn__law_parts (aCons (mLend 1) (aCons (mLend 4) aNil))) (mAndV (mCall [2, 3, 4, 5] [some 1, none] fn__law_from_word (aLate 1 (aCons (mCall [3, 4, 5, 6, 7, 8] [some 1, some 2, none] fn__law_filled (aCons (mLend 1) (aCons (mLend 2) (aCons (mUp (mA kTup aNil)) aNil)))) aNil))) (mCall [2, 3, 4, 5, 6, 7, 9, 10] [some 1, some 4] fn__law_contents (aCons (mLend 1) (aCons (mLend 4) aNil))))))))))))))))))))))
def fn_law : Fn := fnD 12 m_law
end K80
namespace K80
open PySem PySem.Spec PyProof.Rows L2 Py
/-! ### picks -/
def St (d : D) : Prop := ∃ (ns : List Int) (a b c : Int), d = .lst .own [.lst .scr (ns.map .int), .int a, .int b, .int c] ∧ 0 ≤ a ∧ 0 ≤ b ∧ 0 ≤ c ∧ c < 2147483648
theorem St.no {d : D} (h : St d) : d.noOwn = false := by
  obtain ⟨ns, a, b, c, rfl, _⟩ := h
  rfl
theorem noVws_ints (ns : List Int) : noVws (ns.map D.int) = true := by induction ns <;> simp [*]
theorem noOwns_ints (ns : List Int) : noOwns (ns.map D.int) = true := by induction ns <;> simp [*]
theorem pick_all {d : D} {l : Int} {Q : D → Sg → Prop} (h : St d) (h0 : 0 < l) (h1 : l < 1073741824) (hQ : ∀ (r : Int) (st : D) (o1 o2 o3 : Option D), 0 ≤ r → r < l → St st → Q (.int r) [some st, o1, o2, o3]) : wF fn__law_pick [d, .int l] Q := by
  obtain ⟨ns, a, b, c, rfl, ha, hb, hc, hc2⟩ := h
  unfold fn__law_pick m__law_pick
  rw [wF_D]
  refine wS_cut (fun σ => ∃ (a b c : Int) (o1 o2 : Option D), σ = [some (.lst .own [.lst .scr (ns.map .int), .int a, .int b, .int c]), some (.int l), o1, o2] ∧ 0 ≤ a ∧ 0 ≤ b ∧ 0 ≤ c ∧ c < 2147483648) ?_ ?_
  · by_cases hb0 : b = 0
    · by_cases ha1 : a < ns.length
      · subst hb0
        obtain ⟨k, rfl⟩ := Int.eq_ofNat_of_zero_le ha
        have hk : k < ns.length := by omega
        have hm : (c * 48271 + (if ns[k] < 0 then -ns[k] else ns[k])) % 2147483646 < 2147483646 := Int.emod_lt_of_pos _ (by omega)
        have hm0 : 0 ≤ (c * 48271 + (if ns[k] < 0 then -ns[k] else ns[k])) % 2147483646 := Int.emod_nonneg _ (by omega)
        have hab : 0 ≤ (if ns[k] < 0 then -ns[k] else ns[k]) := by split <;> omega
        simp [atI, ixN, hk]
        generalize (if ns[k] < 0 then -ns[k] else ns[k]) = v at *
        by_cases hc1 : 1000000000000000000 ≤ v
        · exact .inr ⟨hc1, _, _, _, ⟨rfl, rfl, rfl⟩, by omega, hab, hc, hc2⟩
        · exact .inl ⟨by omega, _, _, _, ⟨rfl, rfl, rfl⟩, by omega, Int.le_refl 0, by omega, by omega⟩
      · simp [atI, ixN, hb0, ha1]
        exact ⟨_, _, _, ⟨rfl, rfl, rfl⟩, ha, Int.le_refl 0, hc, hc2⟩
    · simp [atI, ixN, hb0]
      exact ⟨_, _, _, ⟨rfl, rfl, rfl⟩, ha, hb, hc, hc2⟩
  · rintro σ ⟨a, b, c, o1, o2, rfl, ha, hb, hc, hc2⟩
    by_cases hb0 : 0 < b
    · simp [atI, ixN, hb0, kMod_int h0, kDiv_int h0 h1]
      exact hQ _ _ _ _ _ (Int.emod_nonneg _ (by omega)) (Int.emod_lt_of_pos _ h0) ⟨ns, a, b / l, c, rfl, ha, Int.ediv_nonneg hb (by omega), hc, hc2⟩
    · have hm : (c * 48271) % 2147483647 < 2147483647 := Int.emod_lt_of_pos _ (by omega)
      have hm0 : 0 ≤ (c * 48271) % 2147483647 := Int.emod_nonneg _ (by omega)
      have hn : ((c * 48271) % 2147483647).natAbs < 18446744073709551616 := by omega
      simp [atI, ixN, hb0, kMod_int h0, kMul_intR hn]
      exact hQ _ _ _ _ _ (Int.emod_nonneg _ (by omega)) (Int.emod_lt_of_pos _ h0) ⟨ns, a, b, _, rfl, ha, hb, hm0, by omega⟩
end K80
namespace K80
open PySem PySem.Spec PyProof.Rows L2 Py
mutual
/-- data that are told: None, bools, ints, tuples of such -/
def Pl : Nat → D → Prop
  | _, .non => True
  | _, .bl _ => True
  | _, .int _ => True
  | n + 1, .tup xs => xs.length ≤ 1000000 ∧ Pls n xs
  | _, _ => False
def Pls : Nat → List D → Prop
  | _, [] => True
  | n, x :: xs => Pl n x ∧ Pls n xs
end
theorem pls_mem {n : Nat} : ∀ {xs : List D}, Pls n xs → ∀ x ∈ xs, Pl n x
  | [], _, _, m => nomatch m
  | x :: xs, h, y, m => by
    rcases List.mem_cons.mp m with e | m
    · subst e; exact h.1
    · exact pls_mem h.2 y m
theorem pls_of {n : Nat} : ∀ {xs : List D}, (∀ x ∈ xs, Pl n x) → Pls n xs
  | [], _ => trivial
  | x :: xs, h => ⟨h x List.mem_cons_self, pls_of fun y m => h y (List.mem_cons_of_mem _ m)⟩
mutual
theorem Pl.gr : ∀ {n : Nat} {d : D}, Pl n d → d.noOwn = true ∧ d.noVw = true
  | _, .non, _ => ⟨rfl, rfl⟩
  | _, .bl _, _ => ⟨rfl, rfl⟩
  | _, .int _, _ => ⟨rfl, rfl⟩
  | n + 1, .tup xs, h => Pls.gr (xs := xs) h.2
  | 0, .tup _, h => h.elim
  | 0, .str _, h => h.elim
  | _ + 1, .str _, h => h.elim
  | 0, .lst _ _, h => h.elim
  | _ + 1, .lst _ _, h => h.elim
theorem Pls.gr : ∀ {n : Nat} {xs : List D}, Pls n xs → noOwns xs = true ∧ noVws xs = true
  | _, [], _ => ⟨rfl, rfl⟩
  | n, x :: xs, h => by
    obtain ⟨a, b⟩ := Pl.gr h.1
    obtain ⟨c, d⟩ := Pls.gr h.2
    simp [a, b, c, d]
end
theorem same_go : ∀ (n : Nat) (d : D), Pl n d → ret (fnR 3 m__law_same (n + 1)) [d, d] = some (.bl true) := by
  intro n
  induction n with
  | zero =>
    intro d h
    apply ret_of
    unfold fnR m__law_same
    cases d with
    | tup xs => exact h.elim
    | str x => exact h.elim
    | lst f xs => exact h.elim
    | _ => simp
  | succ n ih =>
    intro d h
    apply ret_of
    show wF (fnD 3 (m__law_same (fnR 3 m__law_same (n + 1)))) _ _
    generalize fnR 3 m__law_same (n + 1) = self at ih ⊢
    unfold m__law_same
    cases d with
    | str x => exact h.elim
    | lst f xs => exact h.elim
    | tup xs =>
      have hl : okR (xs.length : Int) = true := by
        have := h.1
        unfold okR
        simp
        omega
      simp [hl]
      refine wC_none (fun d hd => ?_) (fun σ' w => ?_)
      · obtain ⟨k, hk, rfl⟩ := up_mem hd
        have hx : xs[k]? = some xs[k] := List.getElem?_eq_getElem hk
        have hp := pls_mem h.2 _ (List.getElem_mem hk)
        have hr := ih _ hp
        simp [wipeD, atI_at (i := (k : Int)) rfl hx, hp.gr, wF_ret hr]
      · simp [w, kEq_lnil, unwipe_wipe]
    | _ => simp
mutual
theorem Pl.mono : ∀ {n : Nat} {d : D}, Pl n d → Pl (n + 1) d
  | _, .non, _ => trivial
  | _, .bl _, _ => trivial
  | _, .int _, _ => trivial
  | n + 1, .tup xs, h => ⟨h.1, Pls.mono h.2⟩
  | 0, .tup _, h => h.elim
  | 0, .str _, h => h.elim
  | _ + 1, .str _, h => h.elim
  | 0, .lst _ _, h => h.elim
  | _ + 1, .lst _ _, h => h.elim
theorem Pls.mono : ∀ {n : Nat} {xs : List D}, Pls n xs → Pls (n + 1) xs
  | _, [], _ => trivial
  | n, x :: xs, h => ⟨Pl.mono h.1, Pls.mono h.2⟩
end
theorem same_refl {d : D} (h : Pl 5 d) : ret fn__law_same [d, d] = some (.bl true) := same_go 5 d h
end K80
namespace K80
open PySem PySem.Spec PyProof.Rows L2 Py
def isLet : D → Bool
  | .int i => decide (1 ≤ i)
  | _ => false
theorem ret_is_letter (d : D) (h : d.noOwn = true) : ret fn_is_letter [d] = some (.bl (isLet d)) := by
  apply ret_of
  unfold fn_is_letter m_is_letter
  cases d with
  | lst f xs => cases f <;> simp_all [isLet]
  | _ => simp [isLet]
def okB (d : D) : Prop := d = .non ∨ ∃ i, d = .int i
def gtI (d : D) (i : Int) : Bool := match d with
  | .int l => decide (i < l)
  | _ => false
def geI (d : D) (i : Int) : Bool := match d with
  | .int l => decide (i ≤ l)
  | _ => false
def badBox (up left one : D) : Bool := match one with
  | .non => !up.isN || !left.isN
  | .int i => !decide (1 ≤ i) || (gtI left i || geI up i)
  | _ => true
theorem okB.no {d : D} (h : okB d) : d.noOwn = true ∧ d.noVw = true := by
  rcases h with rfl | ⟨i, rfl⟩ <;> exact ⟨rfl, rfl⟩
theorem ret_bad {ab : D} {row : List D} {c : Nat} {one up left : D} (hc : row[c]? = some one) (h1 : one.noOwn = true) (h2 : one.noVw = true) (hup : (ab = .non ∧ up = .non) ∨ ∃ av, ab = .tup av ∧ av[c]? = some up ∧ okB up) (hleft : (c = 0 ∧ left = .non) ∨ (0 < c ∧ row[c - 1]? = some left ∧ okB left)) :
    ret fn_is_bad_box [ab, .tup row, .int c] = some (.bl (badBox up left one)) := by
  apply ret_of
  unfold fn_is_bad_box m_is_bad_box
  have v1 := view_of h1
  have hl := ret_is_letter one h1
  have e1 : atI row (c : Int) = some one := atI_at rfl hc
  rw [wF_D]
  refine wS_cut (fun σ => σ = [some ab, some (.tup row), some (.int c), some one, none]) (by simp [e1, h2]) ?_
  rintro σ rfl
  refine wS_cut (fun σ => σ = [some ab, some (.tup row), some (.int c), some one, some up]) ?_ ?_
  · rcases hup with ⟨rfl, rfl⟩ | ⟨av, rfl, ha, ho⟩
    · simp
    · simp [atI_at (i := (c : Int)) rfl ha, ho.no]
  rintro σ rfl
  have hu : okB up := by
    rcases hup with ⟨_, rfl⟩ | ⟨_, _, _, h⟩
    · exact .inl rfl
    · exact h
  have hlf : 0 < c → atI row ((c : Int) - 1) = some left := fun h0 => by
    rcases hleft with ⟨rfl, _⟩ | ⟨_, h, _⟩
    · omega
    · exact atI_at (by omega) h
  have hz : ∀ {P : Prop}, (c = 0 → left = .non → P) → (0 < c → P) → P := fun h h' => by
    rcases hleft with ⟨a, b⟩ | ⟨a, _⟩
    · exact h a b
    · exact h' a
  have hlo : okB left := by
    rcases hleft with ⟨_, rfl⟩ | ⟨_, _, h⟩
    · exact .inl rfl
    · exact h
  cases one with
  | non =>
    refine hz (fun a b => ?_) fun h0 => ?_
    · subst a b
      rcases hu with rfl | ⟨u, rfl⟩ <;> simp [badBox]
    · rcases hu with rfl | ⟨u, rfl⟩ <;> simp [badBox, h0, hlf h0]
  | int i =>
    by_cases h1 : 1 ≤ i
    · refine hz (fun a b => ?_) fun h0 => ?_
      · subst a b
        rcases hu with rfl | ⟨u, rfl⟩ <;> simp [badBox, wF_ret hl, isLet, h1, gtI, geI]
      · rcases hlo with rfl | ⟨l, rfl⟩
        · rcases hu with rfl | ⟨u, rfl⟩ <;> simp [badBox, wF_ret hl, isLet, h1, gtI, geI, h0, hlf h0]
        · by_cases hgt : i < l
          · simp [badBox, wF_ret hl, isLet, h1, gtI, geI, h0, hlf h0, hgt]
          · rcases hu with rfl | ⟨u, rfl⟩ <;> simp [badBox, wF_ret hl, isLet, h1, gtI, geI, h0, hlf h0, hgt]
    · simp [badBox, wF_ret hl, isLet, h1]
  | lst f xs => simp [badBox, v1, h1, wF_ret hl, isLet]
  | bl b => simp [badBox, wF_ret hl, isLet]
  | str x => simp [badBox, wF_ret hl, isLet]
  | tup xs =>
    have h1' : noOwns xs = true := h1
    simp [badBox, wF_ret hl, isLet, h1']
end K80
namespace K80
open PySem PySem.Spec PyProof.Rows L2 Py
def upA (ab : D) (c : Nat) : D := match ab with
  | .tup av => av.getD c .non
  | _ => .non
def leftA (row : List D) (c : Nat) : D := if c = 0 then .non else row.getD (c - 1) .non
def scan (ab : D) (row : List D) (k : Nat) : Nat → Nat → Option D
  | 0, _ => none
  | n + 1, c => if badBox (upA ab c) (leftA row c) (row.getD c .non) = true then some (.tup [.int k, .int c]) else scan ab row k n (c + 1)
def tooLong (ab : D) (row : List D) : Bool := match ab with
  | .tup av => decide (av.length < row.length)
  | _ => false
def scanRows : D → Nat → List D → D
  | _, _, [] => .non
  | ab, k, r :: rs => match r with
    | .tup row => if row.isEmpty || tooLong ab row then .tup [.int k] else match scan ab row k row.length 0 with
      | some d => d
      | none => scanRows (.tup row) (k + 1) rs
    | _ => .tup [.int k]
def faultR : D → D
  | .tup rows => scanRows .non 0 rows
  | _ => .tup []
theorem bad_ok {u l d : D} (h : badBox u l d = false) : okB d := by
  cases d with
  | non => exact .inl rfl
  | int i => exact .inr ⟨i, rfl⟩
  | _ => cases h
theorem scan_ok {ab : D} {row : List D} {k : Nat} : ∀ {n c : Nat}, scan ab row k n c = none → ∀ j, c ≤ j → j < c + n → okB (row.getD j .non)
  | 0, c, _, j, h1, h2 => by omega
  | n + 1, c, h, j, h1, h2 => by
    simp only [scan] at h
    split at h
    · cases h
    · rename_i hb
      by_cases e : j = c
      · subst e
        exact bad_ok (by simpa using hb)
      · exact scan_ok h j (by omega) (by omega)
/-- what is above: None, or a row as long at least whose boxes are letters or None -/
def AbOk (ab : D) (row : List D) : Prop := ab = .non ∨ ∃ av, ab = .tup av ∧ row.length ≤ av.length ∧ (∀ j < av.length, okB (av.getD j .non)) ∧ noOwns av = true
theorem AbOk.up {ab : D} {row : List D} (h : AbOk ab row) {c : Nat} (hc : c < row.length) : (ab = .non ∧ upA ab c = .non) ∨ ∃ av, ab = .tup av ∧ av[c]? = some (upA ab c) ∧ okB (upA ab c) := by
  rcases h with rfl | ⟨av, rfl, hl, ho, _⟩
  · exact .inl ⟨rfl, rfl⟩
  · have hc2 : c < av.length := by omega
    have e : upA (.tup av) c = av[c] := by simp [upA, hc2]
    refine .inr ⟨av, rfl, by rw [e]; exact List.getElem?_eq_getElem hc2, ho c hc2⟩
theorem AbOk.no {ab : D} {row : List D} (h : AbOk ab row) : ab.noOwn = true := by
  rcases h with rfl | ⟨av, rfl, hl, ho, hn⟩
  · rfl
  · exact hn
def bodyF : MS := (sIf (tVal (mCall [3, 4] [some 1, some 3, some 4] fn_is_bad_box (aCons (mLend 1) (aCons (mLend 3) (aCons (mLend 4) aNil))))) (sRet (mA kTup (aCons (mFrz 2) (aCons (mFrz 4) aNil)))) sNil)
theorem inner {val ab : D} {k : Nat} {row : List D} {Q : Fo → Sg → Prop} (hab : AbOk ab row) (hg : Grs row) : ∀ (n c : Nat) (o : Option D), c + n = row.length → (∀ j < c, okB (row.getD j .non)) →
    (∀ o, match scan ab row k n c with
      | some d => Q (.rt d) [some val, some ab, some (.int k), some (.tup row), o]
      | none => Q .nx [some val, some ab, some (.int k), some (.tup row), o]) → wL (gNameM 4) bodyF (up c n) [some val, some ab, some (.int k), some (.tup row), o] Q := by
  intro n
  induction n with
  | zero => intro c o _ _ h; exact wL_nil.mpr (h o)
  | succ n ih =>
    intro c o hn ho h
    have hc : c < row.length := by omega
    have e : row.getD c .non = row[c] := by simp [hc]
    have hgc := grs_iff.mp hg _ (List.getElem_mem hc)
    have hr := ret_bad (ab := ab) (row := row) (c := c) (one := row[c]) (up := upA ab c) (left := leftA row c) (List.getElem?_eq_getElem hc) hgc.1 hgc.2 (hab.up hc) (by
      by_cases h0 : c = 0
      · exact .inl ⟨h0, by simp [leftA, h0]⟩
      · refine .inr ⟨by omega, ?_, ?_⟩
        · have : c - 1 < row.length := by omega
          simp [leftA, h0, this]
        · have := ho (c - 1) (by omega)
          simpa [leftA, h0] using this)
    refine wL_cons.mpr ?_
    unfold bodyF
    simp [hab.no, hg.no, wF_ret hr, kTup_two]
    simp only [scan, e] at h
    by_cases hb : badBox (upA ab c) (leftA row c) row[c] = true
    · simp only [hb, if_true] at h
      exact .inr ⟨hb, _, kTup_two rfl rfl, h _⟩
    · simp only [Bool.not_eq_true] at hb
      simp only [hb, Bool.false_eq_true, if_false] at h
      refine .inl ⟨hb, ih (c + 1) _ (by omega) (fun j hj => ?_) h⟩
      by_cases e2 : j = c
      · subst e2
        rw [e]
        exact bad_ok hb
      · exact ho j (by omega)
@[simp] theorem gB_n {o : Option D} {σ : Sg} : gB none o σ = σ := by cases o <;> rfl
@[simp] theorem gB_sn {i : Nat} {σ : Sg} : gB (some i) none σ = σ := rfl
@[simp] theorem gB_ss {i : Nat} {d : D} {σ : Sg} : gB (some i) (some d) σ = σ.set i (some d) := rfl
def Fin (v : D) : Prop := match v with
  | .tup rows => Grs rows ∧ rows.length ≤ 1000000 ∧ ∀ r ∈ rows, match r with
    | .tup row => row.length ≤ 1000000
    | _ => True
  | _ => True
theorem okR_len {n : Nat} (h : n ≤ 1000000) : okR (n : Int) = true := by
  unfold okR
  simp
  omega
theorem outerF {rows : List D} (hg : Grs rows) (hr : ∀ r ∈ rows, match r with
    | .tup row => row.length ≤ 1000000
    | _ => True) : ∀ (rs : List D) (k : Nat) (ab : D) (o2 o3 o4 : Option D) (Q : Fo → Sg → Prop), rows.drop k = rs → (∀ row, AbOk ab row ∨ tooLong ab row = true) → ab.noOwn = true →
    (∀ o1 o2 o3 o4, match scanRows ab k rs with
      | .non => Q .nx [some (.tup rows), o1, o2, o3, o4]
      | d => Q (.rt d) [some (.tup rows), o1, o2, o3, o4]) →
    wL (gNameM 2) (sSeq (sSet 3 (mUp (m2 kIx (mVar 0) (mVar 2))))
    (sSeq (sIf (tOrM (tNotM (tVal (mIsa Ty.tuple (mVar 3)))) (tOrM (Py.tB (m2 kEq (mA (k1 fLen) (aCons (mVar 3) aNil)) (mC (.int 0)))) (tAndM (Py.tB (m2 kNotN (mVar 1) (mC .non))) (Py.tB (m2 kGt (mA (k1 fLen) (aCons (mVar 3) aNil)) (mA (k1 fLen) (aCons (mVar 1) aNil))))))) (sRet (mA kTup (aCons (mFrz 2) aNil))) sNil)
    (sSeq (sFor (none) (iRngM1 (mUp (mA (k1 fLen) (aCons (mVar 3) aNil)))) (gNameM 4) bodyF)
    (sSet 1 (mFrz 3))))) (up k rs.length) [some (.tup rows), some ab, o2, o3, o4] Q := by
  intro rs
  induction rs with
  | nil => intro k ab o2 o3 o4 Q _ _ _ h; exact wL_nil.mpr (h _ _ _ _)
  | cons r rs ih =>
    intro k ab o2 o3 o4 Q hd hab hno h
    have hk : k < rows.length := by
      by_cases q : k < rows.length
      · exact q
      · rw [List.drop_eq_nil_of_le (by omega)] at hd; cases hd
    have hd2 := List.drop_eq_getElem_cons hk
    rw [hd2] at hd
    have e1 : rows[k] = r := (List.cons.inj hd).1
    have e2 : rows.drop (k + 1) = rs := (List.cons.inj hd).2
    have hx : rows[k]? = some r := by rw [List.getElem?_eq_getElem hk, e1]
    have hgr : Gr r := by rw [← e1]; exact grs_iff.mp hg _ (List.getElem_mem hk)
    have hlr := hr r (by rw [← e1]; exact List.getElem_mem hk)
    refine wL_cons.mpr ?_
    simp only [wG_name, List.length_cons, List.length_nil]
    refine ⟨by omega, ?_⟩
    simp only [List.set_cons_succ, List.set_cons_zero]
    refine wS_cut (fun σ => σ = [some (.tup rows), some ab, some (.int k), some r, o4]) (by simp [atI_at (i := (k : Int)) rfl hx, hgr.2]) ?_
    rintro σ rfl
    cases r with
    | tup row =>
      by_cases h0 : (row.isEmpty || tooLong ab row) = true
      · simp only [scanRows, h0, if_true] at h
        have hw : ∀ {P : Prop}, (row = [] → P) → (row ≠ [] → tooLong ab row = true → P) → P := fun a b => by
          cases row with
          | nil => exact a rfl
          | cons x y => exact b (by simp) (by simpa using h0)
        refine hw (fun e => ?_) fun e tl => ?_
        · subst e
          simp
          exact ⟨_, kTup_one rfl, h _ _ _ _⟩
        · unfold tooLong at tl
          cases ab with
          | tup av =>
            have tl := of_decide_eq_true tl
            have : row.length ≠ 0 := by simpa using e
            simp [tl, e]
            exact ⟨_, kTup_one rfl, h _ _ _ _⟩
          | _ => cases tl
      · simp only [Bool.not_eq_true] at h0
        simp only [scanRows, h0, Bool.false_eq_true, if_false] at h
        obtain ⟨h0a, h0b⟩ := Bool.or_eq_false_iff.mp h0
        have hne : row ≠ [] := by cases row <;> simp_all
        have hab' : AbOk ab row := by
          rcases hab row with q | q
          · exact q
          · rw [h0b] at q; cases q
        refine wS_cut (fun σ => σ = [some (.tup rows), some ab, some (.int k), some (.tup row), o4]) ?_ ?_
        · cases ab with
          | tup av =>
            have tl := of_decide_eq_false h0b
            simp [hne]
            omega
          | non => simp [hne]
          | _ => rcases hab' with z | ⟨_, z, _⟩ <;> cases z
        rintro σ rfl
        refine wS_seq.mpr ?_
        have hl : okR (row.length : Int) = true := okR_len hlr
        simp [hl]
        refine inner hab' hgr row.length 0 _ (by omega) (fun j hj => by omega) fun o => ?_
        cases hs : scan ab row k row.length 0 with
        | some d =>
          simp only [hs] at h
          simp
          have hd' : ∃ ns, d = .tup ns := by
            have go : ∀ n c, scan ab row k n c = some d → ∃ ns, d = .tup ns := by
              intro n
              induction n with
              | zero => intro c z; cases z
              | succ n ih2 =>
                intro c z
                simp only [scan] at z
                split at z
                · cases z; exact ⟨_, rfl⟩
                · exact ih2 _ z
            exact go _ _ hs
          obtain ⟨ns, rfl⟩ := hd'
          exact h _ _ _ _
        | none =>
          simp only [hs] at h
          simp
          have hok := scan_ok hs
          have q := ih (k + 1) (.tup row) (some (.int k)) (some (.tup row)) o Q e2 (fun row' => by
            by_cases q : row.length < row'.length
            · exact .inr (decide_eq_true q)
            · exact .inl (.inr ⟨row, rfl, by omega, fun j hj => hok j (by omega) (by omega), hgr.1⟩)) hgr.1 h
          exact q
    | lst f xs =>
      simp only [scanRows] at h
      have no := hgr.1
      cases f with
      | own => cases no
      | _ =>
        simp
        exact ⟨_, kTup_one rfl, h _ _ _ _⟩
    | _ =>
      simp only [scanRows] at h
      simp
      exact ⟨_, kTup_one rfl, h _ _ _ _⟩
theorem ret_fault {v : D} (hv : v.noOwn = true ∨ v = .lst .own []) (hf : Fin v) : ret fn_fault [v] = some (faultR v) := by
  apply ret_of
  unfold fn_fault m_fault
  cases v with
  | tup rows =>
    obtain ⟨hg, hl, hr⟩ := hf
    have hl' : okR (rows.length : Int) = true := okR_len hl
    rw [wF_D]
    refine wS_cut (fun σ => σ = [some (.tup rows), none, none, none, none]) (by simp) ?_
    rintro σ rfl
    refine wS_cut (fun σ => σ = [some (.tup rows), some .non, none, none, none]) (by simp) ?_
    rintro σ rfl
    refine wS_seq.mpr ?_
    simp [hl']
    refine outerF hg hr rows 0 .non _ _ _ _ (by simp) (fun row => .inl (.inl rfl)) rfl fun o1 o2 o3 o4 => ?_
    simp only [faultR]
    generalize scanRows .non 0 rows = d
    cases d <;> simp
  | lst f xs => cases f <;> simp [faultR]
  | _ => simp [faultR]
end K80
namespace K80
open PySem PySem.Spec PyProof.Rows L2 Py
def bodyG : MS := (sSeq (sSet 3 (mUp (m2 kIx (m2 kIx (mVar 0) (mVar 1)) (mVar 2))))
    (sSeq (sSet 4 (mUp (mA kLst aNil)))
    (sSeq (sIf (Py.tB (m2 kGt (mVar 2) (mC (.int 0)))) (sAppN 4 (mUp (mA kTup (aCons (m2 kIx (m2 kIx (mVar 0) (mVar 1)) (m2 kSub (mVar 2) (mC (.int 1)))) (aCons (mC (.int 0)) aNil))))) sNil)
    (sSeq (sIf (Py.tB (m2 kGt (mVar 1) (mC (.int 0)))) (sAppN 4 (mUp (mA kTup (aCons (m2 kIx (m2 kIx (mVar 0) (m2 kSub (mVar 1) (mC (.int 1)))) (mVar 2)) (aCons (mC (.int 1)) aNil))))) sNil)
    (sIf (Py.tB (m2 kIsN (mVar 3) (mC .non))) (sIf (Py.tB (m2 kNe (mLc (some 4) (iTake 4) (gTupM 2 (gsConsM (gNameM 5) (gsConsM (gNameM 6) gsNilM))) (Py.tB (m2 kNotN (mVar 5) (mC .non))) (mC (.int 1)) [5, 6]) (mUp (mA kLst aNil)))) (sRet (mA kTup (aCons (mFrz 1) (aCons (mFrz 2) aNil)))) sNil) (sIf (tOrM (tNotM (tVal (mIsa Ty.int (mVar 3)))) (tOrM (tVal (mIsa Ty.bool (mVar 3))) (Py.tB (m2 kLt (mVar 3) (mC (.int 1)))))) (sRet (mA kTup (aCons (mFrz 1) (aCons (mFrz 2) aNil)))) (sIf (Py.tB (m2 kNe (mLc (some 4) (iTake 4) (gTupM 2 (gsConsM (gNameM 5) (gsConsM (gNameM 6) gsNilM))) (tAndM (Py.tB (m2 kNotN (mVar 5) (mC .non))) (Py.tB (m2 kGt (m2 kAdd (mVar 5) (mVar 6)) (mVar 3)))) (mC (.int 1)) [5, 6]) (mUp (mA kLst aNil)))) (sRet (mA kTup (aCons (mFrz 1) (aCons (mFrz 2) aNil)))) sNil)))))))
theorem wGs_cc {g : MG} {gs : MGs} {d : D} {r : List D} {σ : Sg} {Q : Sg → Prop} : wGs (gsConsM g gs) (d :: r) σ Q ↔ wG g d σ fun σ1 => wGs gs r σ1 Q := by
  rw [wGs_cons]
  constructor
  · rintro ⟨_, _, e, h⟩
    cases e
    exact h
  · exact fun h => ⟨_, _, rfl, h⟩
theorem any_filter {α : Type} (p : α → Bool) : ∀ l : List α, (!(l.filter p).isEmpty) = l.any p
  | [] => rfl
  | x :: l => by
    cases h : p x
    · simp only [List.filter_cons, h, List.any_cons, Bool.false_or, Bool.false_eq_true, if_false]
      exact any_filter p l
    · simp [List.filter_cons, h]
@[simp] theorem kTup_i {i : Int} : kTup [.int i] = some (.tup [.int i]) := kTup_one rfl
@[simp] theorem kTup_ii {i j : Int} : kTup [.int i, .int j] = some (.tup [.int i, .int j]) := kTup_two rfl rfl
@[simp] theorem kTup_iii {i j l : Int} : kTup [.int i, .int j, .int l] = some (.tup [.int i, .int j, .int l]) := kTup_three rfl rfl rfl
def nearL (left : D) (c : Nat) : List D := if c = 0 then [] else [.tup [left, .int 0]]
def nearU (up : D) (k : Nat) : List D := if k = 0 then [] else [.tup [up, .int 1]]
theorem noOwns_app {xs ys : List D} : noOwns (xs ++ ys) = (noOwns xs && noOwns ys) := by
  rw [noOwns_all, noOwns_all, noOwns_all, List.all_append]
theorem lcN {near : List D} {Q : D → Sg → Prop} (hn : ∀ d ∈ near, ∃ x i, d = .tup [x, .int i] ∧ okB x) {v k c one : D} {o5 o6 : Option D} (hl : near.length ≤ 2)
    (hQ : Q (.bl (near.any fun d => match d with
      | .tup (x :: _) => !x.isN
      | _ => false)) [some v, some k, some c, some one, some (.lst .own near), o5, o6]) :
    wE (m2 kNe (mLc (some 4) (iTake 4) (gTupM 2 (gsConsM (gNameM 5) (gsConsM (gNameM 6) gsNilM))) (Py.tB (m2 kNotN (mVar 5) (mC .non))) (mC (.int 1)) [5, 6]) (mUp (mA kLst aNil))) [some v, some k, some c, some one, some (.lst .own near), o5, o6] Q := by
  have hno : noOwns near = true := by
    rw [noOwns_all]
    refine List.all_eq_true.mpr fun d m => ?_
    obtain ⟨x, i, rfl, hx⟩ := hn d m
    simp [hx.no.1]
  simp [wI_take, hno]
  refine wC_pure (fun d => match d with
      | .tup (x :: _) => !x.isN
      | _ => false) (fun _ => .int 1) (fun d hd => ?_) (fun σ' w => ?_)
  · obtain ⟨x, i, rfl, hx⟩ := hn d hd
    rcases hx with rfl | ⟨j, rfl⟩ <;> simp [wipeD, wGs_cc, -wGs_cons]
  · have hf : fits 59 ((near.filter (fun d => match d with
      | .tup (x :: _) => !x.isN
      | _ => false)).map fun _ => D.int 1) = true := fits_all fun y hy => by
        obtain ⟨_, _, rfl⟩ := List.mem_map.mp hy
        rfl
    have hlen : (near.filter (fun d => match d with
      | .tup (x :: _) => !x.isN
      | _ => false)).length ≤ 16777216 := by
      have := List.length_filter_le (fun d => match d with
        | .tup (x :: _) => !x.isN
        | _ => false) near
      omega
    simp [w, kNe_lnil hf, unwipe_wipe, hlen]
    rw [any_filter]
    exact hQ
def overI (i : Int) : D → Bool
  | .tup [.int x, .int m] => decide (i < x + m)
  | _ => false
theorem lcO {near : List D} {Q : D → Sg → Prop} (hn : ∀ d ∈ near, ∃ x i, d = .tup [x, .int i] ∧ okB x) {v k c : D} {i : Int} {o5 o6 : Option D} (hl : near.length ≤ 2)
    (hQ : Q (.bl (near.any (overI i))) [some v, some k, some c, some (.int i), some (.lst .own near), o5, o6]) :
    wE (m2 kNe (mLc (some 4) (iTake 4) (gTupM 2 (gsConsM (gNameM 5) (gsConsM (gNameM 6) gsNilM))) (tAndM (Py.tB (m2 kNotN (mVar 5) (mC .non))) (Py.tB (m2 kGt (m2 kAdd (mVar 5) (mVar 6)) (mVar 3)))) (mC (.int 1)) [5, 6]) (mUp (mA kLst aNil))) [some v, some k, some c, some (.int i), some (.lst .own near), o5, o6] Q := by
  have hno : noOwns near = true := by
    rw [noOwns_all]
    refine List.all_eq_true.mpr fun d m => ?_
    obtain ⟨x, i, rfl, hx⟩ := hn d m
    simp [hx.no.1]
  simp [wI_take, hno]
  refine wC_pure (overI i) (fun _ => .int 1) (fun d hd => ?_) (fun σ' w => ?_)
  · obtain ⟨x, j, rfl, hx⟩ := hn d hd
    rcases hx with rfl | ⟨l, rfl⟩
    · simp [wipeD, wGs_cc, -wGs_cons, overI]
    · by_cases hc : i < l + j <;> simp [wipeD, wGs_cc, -wGs_cons, overI, hc]
  · have hf : fits 59 ((near.filter (overI i)).map fun _ => D.int 1) = true := fits_all fun y hy => by
        obtain ⟨_, _, rfl⟩ := List.mem_map.mp hy
        rfl
    have hlen : (near.filter (overI i)).length ≤ 16777216 := by
      have := List.length_filter_le (overI i) near
      omega
    simp [w, kNe_lnil hf, unwipe_wipe, hlen]
    rw [any_filter]
    exact hQ
theorem turnG {rows row : List D} {k c : Nat} {up left one : D} {o3 o4 o5 o6 : Option D} (hr : rows[k]? = some (.tup row)) (hc : row[c]? = some one) (h1 : one.noOwn = true) (h2 : one.noVw = true)
    (hup : (k = 0 ∧ up = .non) ∨ (0 < k ∧ ∃ av, rows[k - 1]? = some (.tup av) ∧ av[c]? = some up ∧ okB up)) (hleft : (c = 0 ∧ left = .non) ∨ (0 < c ∧ row[c - 1]? = some left ∧ okB left)) :
    wS bodyG [some (.tup rows), some (.int k), some (.int c), o3, o4, o5, o6] fun f σ => f = (if badBox up left one = true then .rt (.tup [.int k, .int c]) else .nx) ∧ ∃ o3 o4 o5 o6, σ = [some (.tup rows), some (.int k), some (.int c), o3, o4, o5, o6] := by
  have e0 : atI rows (k : Int) = some (.tup row) := atI_at rfl hr
  have e1 : atI row (c : Int) = some one := atI_at rfl hc
  have v1 := view_of h1
  unfold bodyG
  refine wS_cut (fun σ => σ = [some (.tup rows), some (.int k), some (.int c), some one, o4, o5, o6]) (by simp [e0, e1, h2]) ?_
  rintro σ rfl
  refine wS_cut (fun σ => σ = [some (.tup rows), some (.int k), some (.int c), some one, some (.lst .own []), o5, o6]) (by simp) ?_
  rintro σ rfl
  refine wS_cut (fun σ => σ = [some (.tup rows), some (.int k), some (.int c), some one, some (.lst .own (nearL left c)), o5, o6]) ?_ ?_
  · rcases hleft with ⟨rfl, rfl⟩ | ⟨h0, hl, ho⟩
    · simp [nearL]
    · have e2 : atI row ((c : Int) - 1) = some left := atI_at (by omega) hl
      have hne : c ≠ 0 := by omega
      have ek : kTup [left, .int 0] = some (.tup [left, .int 0]) := kTup_two ho.no.1 rfl
      simp [h0, e0, e2, ek, ho.no, nearL, hne]
  rintro σ rfl
  have hnl : (nearL left c).length ≤ 1 := by unfold nearL; split <;> simp
  refine wS_cut (fun σ => σ = [some (.tup rows), some (.int k), some (.int c), some one, some (.lst .own (nearL left c ++ nearU up k)), o5, o6]) ?_ ?_
  · rcases hup with ⟨rfl, rfl⟩ | ⟨h0, av, ha, hu, ho⟩
    · simp [nearU]
    · have e2 : atI rows ((k : Int) - 1) = some (.tup av) := atI_at (by omega) ha
      have e3 : atI av (c : Int) = some up := atI_at rfl hu
      have hne : k ≠ 0 := by omega
      have ek : kTup [up, .int 1] = some (.tup [up, .int 1]) := kTup_two ho.no.1 rfl
      simp [h0, e2, e3, ek, ho.no, nearU, hne]
      omega
  rintro σ rfl
  have hlo : okB left := by
    rcases hleft with ⟨_, rfl⟩ | ⟨_, _, h⟩
    · exact .inl rfl
    · exact h
  have huo : okB up := by
    rcases hup with ⟨_, rfl⟩ | ⟨_, _, _, _, h⟩
    · exact .inl rfl
    · exact h
  have hnu : (nearU up k).length ≤ 1 := by unfold nearU; split <;> simp
  have hn : ∀ d ∈ nearL left c ++ nearU up k, ∃ x i, d = .tup [x, .int i] ∧ okB x := fun d m => by
    rcases List.mem_append.mp m with m | m
    · unfold nearL at m
      split at m
      · cases m
      · exact ⟨left, 0, by simpa using m, hlo⟩
    · unfold nearU at m
      split at m
      · cases m
      · exact ⟨up, 1, by simpa using m, huo⟩
  have hlen : (nearL left c ++ nearU up k).length ≤ 2 := by rw [List.length_append]; omega
  have nL : left.isN = true ∨ c ≠ 0 := by
    rcases hleft with ⟨_, rfl⟩ | ⟨h, _⟩
    · exact .inl rfl
    · exact .inr (by omega)
  have nU : up.isN = true ∨ k ≠ 0 := by
    rcases hup with ⟨_, rfl⟩ | ⟨h, _⟩
    · exact .inl rfl
    · exact .inr (by omega)
  have anyN : (nearL left c ++ nearU up k).any (fun d => match d with
      | .tup (x :: _) => !x.isN
      | _ => false) = (!up.isN || !left.isN) := by
    unfold nearL nearU
    rcases nL with a | a <;> rcases nU with b | b <;> by_cases h1 : c = 0 <;> by_cases h2 : k = 0 <;> simp_all [Bool.or_comm]
  have anyO : ∀ i : Int, (nearL left c ++ nearU up k).any (overI i) = (gtI left i || geI up i) := fun i => by
    have z : ∀ u : Int, decide (i < u + 1) = decide (i ≤ u) := fun u => decide_eq_decide.mpr (by omega)
    unfold nearL nearU
    rcases hlo with rfl | ⟨l, rfl⟩ <;> rcases huo with rfl | ⟨u, rfl⟩ <;> rcases nL with a | a <;> rcases nU with b | b <;> by_cases h1 : c = 0 <;> by_cases h2 : k = 0 <;> simp_all [overI, gtI, geI]
  refine wS_if.mpr ?_
  cases one with
  | non =>
    simp only [wT_B, wE_m2, wE_var, wE_C, List.getElem?_cons_succ, List.getElem?_cons_zero, Option.some.injEq, exists_eq_left', view_non, kIsN_non, isN_non, D.bl.injEq, if_true]
    refine wS_if.mpr (wT_B.mpr (lcN hn hlen ⟨_, rfl, ?_⟩))
    rw [anyN]
    rcases hlo with rfl | ⟨l, rfl⟩ <;> rcases huo with rfl | ⟨u, rfl⟩ <;> simp [badBox, kTup_two]
  | int i =>
    simp only [wT_B, wE_m2, wE_var, wE_C, List.getElem?_cons_succ, List.getElem?_cons_zero, Option.some.injEq, exists_eq_left', view_int, kIsN_non, isN_int, D.bl.injEq, Bool.false_eq_true, if_false]
    refine wS_if.mpr ?_
    by_cases hi : i < 1
    · have hb : badBox up left (.int i) = true := by simp [badBox]; omega
      simp [hi, hb, kTup_two]
    · have hi2 : 1 ≤ i := by omega
      have hb : badBox up left (.int i) = (gtI left i || geI up i) := by simp [badBox, hi2]
      refine wT_or.mpr ?_
      simp [-wS_if, hi]
      refine wS_if.mpr (wT_B.mpr (lcO hn hlen ⟨_, rfl, ?_⟩))
      rw [anyO, hb]
      cases (gtI left i || geI up i) <;> simp [kTup_two]
  | lst f xs =>
    cases f with
    | own => cases h1
    | _ => simp [badBox]
  | _ => simp [badBox, kTup_two]
end K80
namespace K80
open PySem PySem.Spec PyProof.Rows L2 Py
def AbAt (rows : List D) (k : Nat) (ab : D) : Prop := (k = 0 ∧ ab = .non) ∨ (0 < k ∧ ∃ av, ab = .tup av ∧ rows[k - 1]? = some (.tup av) ∧ ∀ j < av.length, okB (av.getD j .non))
theorem innerG {rows row : List D} {k : Nat} {ab : D} {Q : Fo → Sg → Prop} (hr : rows[k]? = some (.tup row)) (hab : AbAt rows k ab) (hlen : tooLong ab row = false) (hg : Grs row) : ∀ (n c : Nat) (o2 o3 o4 o5 o6 : Option D), c + n = row.length → (∀ j < c, okB (row.getD j .non)) →
    (∀ o2 o3 o4 o5 o6, match scan ab row k n c with
      | some d => Q (.rt d) [some (.tup rows), some (.int k), o2, o3, o4, o5, o6]
      | none => Q .nx [some (.tup rows), some (.int k), o2, o3, o4, o5, o6]) → wL (gNameM 2) bodyG (up c n) [some (.tup rows), some (.int k), o2, o3, o4, o5, o6] Q := by
  intro n
  induction n with
  | zero => intro c o2 o3 o4 o5 o6 _ _ h; exact wL_nil.mpr (h _ _ _ _ _)
  | succ n ih =>
    intro c o2 o3 o4 o5 o6 hn ho h
    have hc : c < row.length := by omega
    have e : row.getD c .non = row[c] := by simp [hc]
    have hgc := grs_iff.mp hg _ (List.getElem_mem hc)
    have hl : (c = 0 ∧ leftA row c = .non) ∨ (0 < c ∧ row[c - 1]? = some (leftA row c) ∧ okB (leftA row c)) := by
      by_cases h0 : c = 0
      · exact .inl ⟨h0, by simp [leftA, h0]⟩
      · refine .inr ⟨by omega, ?_, ?_⟩
        · have : c - 1 < row.length := by omega
          simp [leftA, h0, this]
        · have := ho (c - 1) (by omega)
          simpa [leftA, h0] using this
    have hu : (k = 0 ∧ upA ab c = .non) ∨ (0 < k ∧ ∃ av, rows[k - 1]? = some (.tup av) ∧ av[c]? = some (upA ab c) ∧ okB (upA ab c)) := by
      rcases hab with ⟨h0, rfl⟩ | ⟨h0, av, rfl, ha, hb⟩
      · exact .inl ⟨h0, rfl⟩
      · have tl := of_decide_eq_false hlen
        have hc2 : c < av.length := by omega
        have e : upA (.tup av) c = av[c] := by simp [upA, hc2]
        exact .inr ⟨h0, av, ha, by rw [e]; exact List.getElem?_eq_getElem hc2, hb c hc2⟩
    refine wL_cons.mpr ?_
    simp only [wG_name, List.length_cons, List.length_nil]
    refine ⟨by omega, ?_⟩
    simp only [List.set_cons_succ, List.set_cons_zero]
    refine wS_mono (turnG hr (List.getElem?_eq_getElem hc) hgc.1 hgc.2 hu hl) fun f σ hf => ?_
    obtain ⟨rfl, p3, p4, p5, p6, rfl⟩ := hf
    simp only [scan, e] at h
    by_cases hb : badBox (upA ab c) (leftA row c) row[c] = true
    · simp only [hb, if_true] at h ⊢
      exact h _ _ _ _ _
    · simp only [Bool.not_eq_true] at hb
      simp only [hb, Bool.false_eq_true, if_false] at h ⊢
      refine ih (c + 1) _ _ _ _ _ (by omega) (fun j hj => ?_) h
      by_cases e2 : j = c
      · subst e2
        rw [e]
        exact bad_ok hb
      · exact ho j (by omega)
theorem outerG {rows : List D} (hg : Grs rows) (hr : ∀ r ∈ rows, match r with
    | .tup row => row.length ≤ 1000000
    | _ => True) : ∀ (rs : List D) (k : Nat) (ab : D) (o1 o2 o3 o4 o5 o6 : Option D) (Q : Fo → Sg → Prop), rows.drop k = rs → AbAt rows k ab →
    (∀ o1 o2 o3 o4 o5 o6, match scanRows ab k rs with
      | .non => Q .nx [some (.tup rows), o1, o2, o3, o4, o5, o6]
      | d => Q (.rt d) [some (.tup rows), o1, o2, o3, o4, o5, o6]) →
    wL (gNameM 1) (sSeq (sIf (tOrM (tNotM (tVal (mIsa Ty.tuple (m2 kIx (mVar 0) (mVar 1))))) (tOrM (Py.tB (m2 kEq (mA (k1 fLen) (aCons (m2 kIx (mVar 0) (mVar 1)) aNil)) (mC (.int 0)))) (tAndM (Py.tB (m2 kGt (mVar 1) (mC (.int 0)))) (Py.tB (m2 kGt (mA (k1 fLen) (aCons (m2 kIx (mVar 0) (mVar 1)) aNil)) (mA (k1 fLen) (aCons (m2 kIx (mVar 0) (m2 kSub (mVar 1) (mC (.int 1)))) aNil))))))) (sRet (mA kTup (aCons (mFrz 1) aNil))) sNil)
    (sFor (none) (iRngM1 (mUp (mA (k1 fLen) (aCons (m2 kIx (mVar 0) (mVar 1)) aNil)))) (gNameM 2) bodyG)) (up k rs.length) [some (.tup rows), o1, o2, o3, o4, o5, o6] Q := by
  intro rs
  induction rs with
  | nil => intro k ab o1 o2 o3 o4 o5 o6 Q _ _ h; exact wL_nil.mpr (h _ _ _ _ _ _)
  | cons r rs ih =>
    intro k ab o1 o2 o3 o4 o5 o6 Q hd hab h
    have hk : k < rows.length := by
      by_cases q : k < rows.length
      · exact q
      · rw [List.drop_eq_nil_of_le (by omega)] at hd; cases hd
    have hd2 := List.drop_eq_getElem_cons hk
    rw [hd2] at hd
    have e1 : rows[k] = r := (List.cons.inj hd).1
    have e2 : rows.drop (k + 1) = rs := (List.cons.inj hd).2
    have hx : rows[k]? = some r := by rw [List.getElem?_eq_getElem hk, e1]
    have hgr : Gr r := by rw [← e1]; exact grs_iff.mp hg _ (List.getElem_mem hk)
    have hlr := hr r (by rw [← e1]; exact List.getElem_mem hk)
    have ex : atI rows (k : Int) = some r := atI_at rfl hx
    refine wL_cons.mpr ?_
    simp only [wG_name, List.length_cons, List.length_nil]
    refine ⟨by omega, ?_⟩
    simp only [List.set_cons_succ, List.set_cons_zero]
    cases r with
    | tup row =>
      by_cases h0 : (row.isEmpty || tooLong ab row) = true
      · simp only [scanRows, h0, if_true] at h
        have hw : ∀ {P : Prop}, (row = [] → P) → (row ≠ [] → tooLong ab row = true → P) → P := fun a b => by
          cases row with
          | nil => exact a rfl
          | cons x y => exact b (by simp) (by simpa using h0)
        refine hw (fun e => ?_) fun e tl => ?_
        · subst e
          simp [ex]
          exact h _ _ _ _ _ _
        · rcases hab with ⟨_, rfl⟩ | ⟨hk0, av, rfl, ha, hb⟩
          · cases tl
          · have tl := of_decide_eq_true tl
            have : row.length ≠ 0 := by simpa using e
            have ea : atI rows ((k : Int) - 1) = some (.tup av) := atI_at (by omega) ha
            simp [ex, ea, tl, e, hk0]
            exact h _ _ _ _ _ _
      · simp only [Bool.not_eq_true] at h0
        simp only [scanRows, h0, Bool.false_eq_true, if_false] at h
        obtain ⟨h0a, h0b⟩ := Bool.or_eq_false_iff.mp h0
        have hne : row ≠ [] := by cases row <;> simp_all
        refine wS_cut (fun σ => σ = [some (.tup rows), some (.int k), o2, o3, o4, o5, o6]) ?_ ?_
        · rcases hab with ⟨hk0, rfl⟩ | ⟨hk0, av, rfl, ha, hb⟩
          · have ex0 : atI rows 0 = some (.tup row) := by simpa [hk0] using ex
            simp [ex0, hne, hk0]
          · have tl := of_decide_eq_false h0b
            have ea : atI rows ((k : Int) - 1) = some (.tup av) := atI_at (by omega) ha
            simp [ex, ea, hne, hk0]
            omega
        rintro σ rfl
        have hl : okR (row.length : Int) = true := okR_len hlr
        simp [ex, hl]
        refine innerG hx hab h0b hgr row.length 0 _ _ _ _ _ (by omega) (fun j hj => by omega) fun o2 o3 o4 o5 o6 => ?_
        cases hs : scan ab row k row.length 0 with
        | some d =>
          simp only [hs] at h
          simp
          have hd' : ∃ ns, d = .tup ns := by
            have go : ∀ n c, scan ab row k n c = some d → ∃ ns, d = .tup ns := by
              intro n
              induction n with
              | zero => intro c z; cases z
              | succ n ih2 =>
                intro c z
                simp only [scan] at z
                split at z
                · cases z; exact ⟨_, rfl⟩
                · exact ih2 _ z
            exact go _ _ hs
          obtain ⟨ns, rfl⟩ := hd'
          exact h _ _ _ _ _ _
        | none =>
          simp only [hs] at h
          simp
          have hok := scan_ok hs
          have q := ih (k + 1) (.tup row) (some (.int k)) o2 o3 o4 o5 o6 Q e2 (.inr ⟨by omega, row, rfl, hx, fun j hj => hok j (by omega) (by omega)⟩) h
          exact q
    | lst f xs =>
      simp only [scanRows] at h
      simp [ex]
      exact h _ _ _ _ _ _
    | _ =>
      simp only [scanRows] at h
      simp [ex]
      exact h _ _ _ _ _ _
theorem ret_law_fault {v : D} (hv : v.noOwn = true ∨ v = .lst .own []) (hf : Fin v) : ret fn__law_fault [v] = some (faultR v) := by
  apply ret_of
  unfold fn__law_fault m__law_fault
  cases v with
  | tup rows =>
    obtain ⟨hg, hl, hr⟩ := hf
    have hl' : okR (rows.length : Int) = true := okR_len hl
    rw [wF_D]
    refine wS_cut (fun σ => σ = [some (.tup rows), none, none, none, none, none, none]) (by simp) ?_
    rintro σ rfl
    refine wS_seq.mpr ?_
    simp [hl']
    refine outerG hg hr rows 0 .non _ _ _ _ _ _ _ (by simp) (.inl ⟨rfl, rfl⟩) fun o1 o2 o3 o4 o5 o6 => ?_
    simp only [faultR]
    generalize scanRows .non 0 rows = d
    cases d <;> simp
  | lst f xs => cases f <;> simp [faultR]
  | _ => simp [faultR]
end K80
namespace K80
open PySem PySem.Spec PyProof.Rows L2 Py
section
variable {α : Type} {g : MG} {m : MS} {t : MT} {a : M} {vs : List Nat} {σ : Sg} {Q : Fo → Sg → Prop} {QA : List D → Sg → Prop}
/-- a comprehension over l, each item of which is told by dec -/
theorem wC_typ (l : List α) (dec : α → D) (p : α → Bool) (f : α → D) (h : ∀ x ∈ l, wG g (dec x) (wipeD σ vs) fun σ1 => wT t σ1 fun k σ2 => k = p x ∧ if k = true then wE a σ2 fun y σ3 => y = f x ∧ wipeD σ3 vs = wipeD σ vs else wipeD σ2 vs = wipeD σ vs)
    (hQ : ∀ σ', wipeD σ' vs = wipeD σ vs → QA ((l.filter p).map f) σ') : wC g t a vs (l.map dec) σ QA := by
  have go : ∀ (l : List α) (τ : Sg) (QA : List D → Sg → Prop), wipeD τ vs = wipeD σ vs → (∀ x ∈ l, wG g (dec x) (wipeD σ vs) fun σ1 => wT t σ1 fun k σ2 => k = p x ∧ if k = true then wE a σ2 fun y σ3 => y = f x ∧ wipeD σ3 vs = wipeD σ vs else wipeD σ2 vs = wipeD σ vs) →
      (∀ σ', wipeD σ' vs = wipeD σ vs → QA ((l.filter p).map f) σ') → wC g t a vs (l.map dec) τ QA := by
    intro l
    induction l with
    | nil => exact fun τ QA e _ hQ => wC_nil.mpr (hQ τ e)
    | cons d r ih =>
      intro τ QA e h hQ
      refine wC_cons.mpr ?_
      rw [e]
      obtain ⟨σ1, e1, ⟨k, σ2⟩, e2, ek, z⟩ := h d List.mem_cons_self
      refine ⟨σ1, e1, (k, σ2), e2, ?_⟩
      simp only at ek z ⊢
      cases k with
      | false =>
        simp only [Bool.false_eq_true, if_false] at z ⊢
        refine ih σ2 QA z (fun d m => h d (List.mem_cons_of_mem _ m)) fun σ' w => ?_
        have q := hQ σ' w
        rw [List.filter_cons_of_neg (by rw [← ek]; simp)] at q
        exact q
      | true =>
        simp only [if_true] at z ⊢
        obtain ⟨⟨x, σ3⟩, e3, ex, w3⟩ := z
        refine ⟨(x, σ3), e3, ?_⟩
        simp only at ex w3 ⊢
        refine ih σ3 _ w3 (fun d m => h d (List.mem_cons_of_mem _ m)) fun σ' w => ?_
        have q := hQ σ' w
        rw [List.filter_cons_of_pos (by rw [← ek]), List.map_cons] at q
        rw [ex]
        exact q
  exact go l σ QA rfl h hQ
/-- the same, without a test -/
theorem wC_map (l : List α) (dec f : α → D) (h : ∀ x ∈ l, wG g (dec x) (wipeD σ vs) fun σ1 => wE a σ1 fun y σ3 => y = f x ∧ wipeD σ3 vs = wipeD σ vs)
    (hQ : ∀ σ', wipeD σ' vs = wipeD σ vs → QA (l.map f) σ') : wC g tYesM a vs (l.map dec) σ QA := by
  refine wC_typ l dec (fun _ => true) f (fun x m => ?_) fun σ' w => ?_
  · obtain ⟨σ1, e, z⟩ := h x m
    exact ⟨σ1, e, wT_yes.mpr ⟨rfl, by simpa using z⟩⟩
  · rw [List.filter_eq_self.mpr (fun _ _ => rfl)]
    exact hQ σ' w
theorem wL_typ {P : List α → Sg → Prop} (dec : α → D) (h0 : ∀ σ, P [] σ → Q .nx σ) (hs : ∀ x r σ, P (x :: r) σ → wG g (dec x) σ fun σ1 => wS m σ1 fun f σ2 => match f with
    | .nx => P r σ2
    | .ct => P r σ2
    | .bk => Q .nx σ2
    | .rt v => Q (.rt v) σ2) : ∀ {l : List α} {σ : Sg}, P l σ → wL g m (l.map dec) σ Q
  | [], σ, h => wL_nil.mpr (h0 σ h)
  | d :: r, σ, h => by
    refine wL_cons.mpr ?_
    obtain ⟨σ1, e1, ⟨⟨f, σ2⟩, e2, z⟩⟩ := hs d r σ h
    refine ⟨σ1, e1, (f, σ2), e2, ?_⟩
    cases f with
    | nx => exact wL_typ dec h0 hs z
    | ct => exact wL_typ dec h0 hs z
    | bk => exact z
    | rt v => exact z
end
/-! ### tableaux whose rows are Nones, then numbers -/
abbrev T := List (Nat × List Int)
def cells (r : Nat × List Int) : List D := List.replicate r.1 .non ++ r.2.map .int
def rowD (r : Nat × List Int) : D := .tup (cells r)
def tabD (t : T) : D := .tup (t.map rowD)
def wid (r : Nat × List Int) : Nat := r.1 + r.2.length
def Bd (t : T) : Prop := t.length ≤ 1000 ∧ ∀ r ∈ t, wid r ≤ 1000
theorem noOwns_rep {n : Nat} : noOwns (List.replicate n D.non) = true := by induction n <;> simp_all [List.replicate_succ]
theorem noVws_rep' {n : Nat} : noVws (List.replicate n D.non) = true := by induction n <;> simp_all [List.replicate_succ]
theorem grs_cells (r : Nat × List Int) : Grs (cells r) := ⟨by unfold cells; rw [noOwns_app, noOwns_rep, noOwns_ints]; rfl, by unfold cells; rw [noVws_append, noVws_rep', noVws_ints]; rfl⟩
theorem grs_rows (t : T) : Grs (t.map rowD) := grs_iff.mpr fun d m => by
  obtain ⟨r, _, rfl⟩ := List.mem_map.mp m
  exact grs_cells r
section
variable {r : Nat × List Int} {t : T} {i : Int}
@[simp] theorem cells_len : (cells r).length = wid r := by simp [cells, wid]
@[simp] theorem view_rowD : (rowD r).view = rowD r := view_of (grs_cells r).1
@[simp] theorem frz_rowD : (rowD r).frz = rowD r := frz_of (grs_cells r).1
@[simp] theorem noOwn_rowD : (rowD r).noOwn = true := (grs_cells r).1
@[simp] theorem noVw_rowD : (rowD r).noVw = true := (grs_cells r).2
@[simp] theorem items_rowD : (rowD r).items = some (cells r) := by rw [rowD]; exact items_tup
@[simp] theorem fLen_rowD : fLen (rowD r) = some (.int (wid r)) := by rw [rowD, fLen_tup, cells_len]
@[simp] theorem kIx_rowD : kIx (rowD r) (.int i) = atI (cells r) i := by rw [rowD, kIx_tup]
@[simp] theorem kSl_rowD {lo hi : Option Int} : kSl (rowD r) lo hi = some (.tup (cutD (cells r) lo hi)) := by rw [rowD, kSl_tup]
@[simp] theorem isN_rowD : (rowD r).isN = false := by rw [rowD]; exact isN_tup
@[simp] theorem view_tabD : (tabD t).view = tabD t := view_of (grs_rows t).1
@[simp] theorem frz_tabD : (tabD t).frz = tabD t := frz_of (grs_rows t).1
@[simp] theorem noOwn_tabD : (tabD t).noOwn = true := (grs_rows t).1
@[simp] theorem noVw_tabD : (tabD t).noVw = true := (grs_rows t).2
@[simp] theorem items_tabD : (tabD t).items = some (t.map rowD) := by rw [tabD]; exact items_tup
@[simp] theorem fLen_tabD : fLen (tabD t) = some (.int t.length) := by rw [tabD, fLen_tup, List.length_map]
@[simp] theorem kIx_tabD : kIx (tabD t) (.int i) = atI (t.map rowD) i := by rw [tabD, kIx_tup]
@[simp] theorem isN_tabD : (tabD t).isN = false := by rw [tabD]; exact isN_tup
@[simp] theorem noOwns_rows : noOwns (t.map rowD) = true := (grs_rows t).1
@[simp] theorem noVws_rows : noVws (t.map rowD) = true := (grs_rows t).2
theorem wI_tabD {k : Nat} {σ : Sg} {Q : List D → Option D → Sg → Prop} (h : σ[k]? = some (some (tabD t))) (hQ : Q (t.map rowD) none σ) : wI (iTake k) σ Q := by
  rw [wI_take]
  exact ⟨_, h, _, rfl, hQ⟩
theorem wI_rowD {k : Nat} {σ : Sg} {Q : List D → Option D → Sg → Prop} (h : σ[k]? = some (some (rowD r))) (hQ : Q (cells r) none σ) : wI (iTake k) σ Q := by
  rw [wI_take]
  exact ⟨_, h, _, rfl, hQ⟩
theorem wI_tupD {xs : List D} {k : Nat} {σ : Sg} {Q : List D → Option D → Sg → Prop} (h : σ[k]? = some (some (.tup xs))) (hQ : Q xs none σ) : wI (iTake k) σ Q := by
  rw [wI_take]
  exact ⟨_, h, _, rfl, hQ⟩
end
theorem cell_lt {r : Nat × List Int} {j : Nat} (h : j < r.1) : (cells r)[j]? = some .non := by
  unfold cells
  rw [List.getElem?_append_left (by simpa using h)]
  simp [h]
theorem cell_ge {r : Nat × List Int} {j : Nat} (h : r.1 ≤ j) : (cells r)[j]? = (r.2[j - r.1]?).map .int := by
  unfold cells
  rw [List.getElem?_append_right (by simpa using h)]
  simp
theorem ret_left_out (r : Nat × List Int) (h : wid r ≤ 1000) : ret fn_left_out [rowD r] = some (.int r.1) := by
  apply ret_of
  unfold fn_left_out m_left_out
  simp
  refine wS_while (P := fun k σ => ∃ j : Nat, k + j = wid r ∧ j ≤ r.1 ∧ σ = [some (rowD r), some (.int j)]) (n := wid r) (by unfold fu; omega) ⟨0, by omega, by omega, rfl⟩ ?_
  rintro k σ ⟨j, hj, hl, rfl⟩
  have hw : r.1 ≤ wid r := by unfold wid; omega
  simp
  by_cases hjr : j = r.1
  · by_cases he : wid r ≤ j
    · exact .inl ⟨he, by rw [hjr]⟩
    · refine .inr ⟨by omega, ?_⟩
      have hk : j - r.1 < r.2.length := by unfold wid at he; omega
      refine ⟨.int r.2[j - r.1], atI_at rfl (by rw [cell_ge (by omega), List.getElem?_eq_getElem hk]; rfl), .inl ⟨rfl, by rw [hjr]⟩⟩
  · refine .inr ⟨by omega, .non, atI_at rfl (cell_lt (by omega)), .inr ⟨rfl, k - 1, by omega, j + 1, by omega, by omega, by simp⟩⟩
theorem ret_outer (t : T) (hb : Bd t) : ret fn_outer [tabD t] = some (.tup (t.map fun r => .int (wid r))) := by
  apply ret_of
  unfold fn_outer m_outer
  simp
  refine wI_tabD rfl ?_
  refine wC_map t rowD (fun r => .int (wid r)) (fun r hr => ?_) fun σ' w => ?_
  · simp [wipeD]
  · have := hb.1
    simp [w, unwipe_wipe]
    refine ⟨by omega, fTuple_lst ?_⟩
    rw [noOwns_all]
    simp
theorem cut_cells (r : Nat × List Int) : cutD (cells r) (some (r.1 : Int)) none = r.2.map .int := by
  rw [cutD_from (by simp [wid])]
  unfold cells
  simp
theorem cut_none (r : Nat × List Int) : cutD (cells r) none (some (r.1 : Int)) = List.replicate r.1 .non := by
  rw [cutD_to (by simp [wid])]
  unfold cells
  simp
end K80
namespace K80
open PySem PySem.Spec PyProof.Rows L2 Py
theorem Bd.row {t : T} (hb : Bd t) {r : Nat × List Int} (h : r ∈ t) : wid r ≤ 1000 := hb.2 r h
theorem flat_len {α β : Type} {f : α → List β} {n : Nat} : ∀ {l : List α}, (∀ x ∈ l, (f x).length ≤ n) → (l.flatMap f).length ≤ l.length * n
  | [], _ => by simp
  | x :: l, h => by
    have h1 := h x List.mem_cons_self
    have h2 := flat_len (f := f) (n := n) (l := l) fun y m => h y (List.mem_cons_of_mem _ m)
    simp only [List.flatMap_cons, List.length_append, List.length_cons]
    rw [Nat.add_mul]
    omega
def innerL (t : T) : List Int := (t.filter fun r => decide (0 < r.1)).map fun r => (r.1 : Int)
theorem ret_inner (t : T) (hb : Bd t) : ret fn_inner [tabD t] = some (.tup ((innerL t).map .int)) := by
  apply ret_of
  unfold fn_inner m_inner
  simp
  refine wI_tabD rfl ?_
  refine wC_typ t rowD (fun r => decide (0 < r.1)) (fun r => .int r.1) (fun r hr => ?_) fun σ' w => ?_
  · have hl := ret_left_out r (hb.row hr)
    simp [wipeD, wF_ret hl]
    by_cases h : 0 < r.1 <;> simp [h] <;> omega
  · have h1 := hb.1
    have h2 := List.length_filter_le (fun r : Nat × List Int => decide (0 < r.1)) t
    simp [w, unwipe_wipe, innerL]
    refine ⟨by omega, fTuple_lst ?_⟩
    rw [noOwns_all]
    simp
def rwd (t : T) : List Int := t.reverse.flatMap (·.2)
theorem rwd_len {t : T} (hb : Bd t) : (rwd t).length ≤ 1000000 := by
  have h := flat_len (f := fun r : Nat × List Int => r.2) (n := 1000) (l := t.reverse) fun r m => by
    have := hb.row (List.mem_reverse.mp m)
    unfold wid at this
    omega
  have h1 := hb.1
  rw [List.length_reverse] at h
  unfold rwd
  omega
theorem ret_row_word (t : T) (hb : Bd t) : ret fn_row_word [tabD t] = some (.tup ((rwd t).map .int)) := by
  apply ret_of
  unfold fn_row_word m_row_word
  rw [wF_D]
  refine wS_cut (fun σ => σ = [some (tabD t), some (.lst .own []), none]) (by simp) ?_
  rintro σ rfl
  refine wS_cut (fun σ => ∃ o, σ = [some (tabD t), some (.lst .own ((rwd t).map .int)), o]) ?_ ?_
  · simp
    rw [← List.map_reverse]
    refine wL_typ (P := fun (l : T) σ => (∀ r ∈ l, r ∈ t) ∧ ∃ (acc : List Int) (o : Option D), acc ++ l.flatMap (·.2) = rwd t ∧ σ = [some (tabD t), some (.lst .own (acc.map .int)), o]) rowD ?_ ?_ ⟨fun r m => List.mem_reverse.mp m, [], none, by simp [rwd], rfl⟩
    · rintro σ ⟨_, acc, o, e, rfl⟩
      simp at e
      exact ⟨rfl, o, by rw [e]⟩
    · rintro r l σ ⟨hl, acc, o, e, rfl⟩
      have hlo := ret_left_out r (hb.row (hl r List.mem_cons_self))
      have hlen : acc.length + r.2.length ≤ 16777216 := by
        have := rwd_len hb
        rw [← e] at this
        simp at this
        omega
      have hk : kAdd (.lst .frz (frzs (acc.map .int))) (.lst .own (r.2.map .int)) = some (.lst .own (acc.map .int ++ r.2.map .int)) := by
        rw [frzs_of (noOwns_ints acc)]
        exact kAdd_lst (by decide) (by decide) (by simpa using hlen)
      simp [wF_ret hlo, cut_cells, hk]
      refine ⟨fun a b m => hl _ (List.mem_cons_of_mem _ m), acc ++ r.2, by rw [← e]; simp, by simp⟩
  · rintro σ ⟨o, rfl⟩
    have hv : views ((rwd t).map .int) = (rwd t).map .int := views_of (noOwns_ints _)
    simp [hv]
    have ht : fTuple (.lst .vw ((rwd t).map .int)) = some (.tup ((rwd t).map .int)) := fTuple_lst (noOwns_ints _)
    simp [ht, noVws_ints]
/-! ### boxes -/
abbrev Bx := Nat × Nat × Int
def boxD (b : Bx) : D := .tup [.int b.1, .int b.2.1, .int b.2.2]
def rowB (k : Nat) (r : Nat × List Int) : List Bx := (List.range r.2.length).map fun i => (k, r.1 + i, r.2.getD i 0)
def boxesF : Nat → T → List Bx
  | _, [] => []
  | k, r :: t => rowB k r ++ boxesF (k + 1) t
def boxes (t : T) : List Bx := boxesF 0 t
theorem noOwns_box (l : List Bx) : noOwns (l.map boxD) = true := by
  rw [noOwns_all]
  simp [boxD]
theorem noVws_box (l : List Bx) : noVws (l.map boxD) = true := by
  rw [noVws_all]
  simp [boxD]
theorem range_ge (a m : Nat) : (List.range (a + m)).filter (fun j => decide (a ≤ j)) = (List.range m).map (a + ·) := by
  rw [List.range_add, List.filter_append]
  have h1 : (List.range a).filter (fun j => decide (a ≤ j)) = [] := by
    rw [List.filter_eq_nil_iff]
    intro j m
    have := List.mem_range.mp m
    simp
    omega
  have h2 : ((List.range m).map (a + ·)).filter (fun j => decide (a ≤ j)) = (List.range m).map (a + ·) := by
    rw [List.filter_eq_self]
    intro j m
    obtain ⟨i, _, rfl⟩ := List.mem_map.mp m
    simp
  rw [h1, h2]
  rfl
theorem boxesF_len {t : T} : ∀ {k : Nat}, (boxesF k t).length = (t.map fun r => r.2.length).sum := by
  induction t with
  | nil => intro k; rfl
  | cons r t ih => intro k; simp [boxesF, rowB, ih]
theorem sum_le {l : List Nat} {n : Nat} (h : ∀ x ∈ l, x ≤ n) : l.sum ≤ l.length * n := by
  induction l with
  | nil => simp
  | cons a l ih =>
    have h1 := h a List.mem_cons_self
    have h2 := ih fun x m => h x (List.mem_cons_of_mem _ m)
    simp only [List.sum_cons, List.length_cons]
    rw [Nat.add_mul]
    omega
theorem boxes_len {t : T} (hb : Bd t) : (boxes t).length ≤ 1000000 := by
  unfold boxes
  rw [boxesF_len]
  have h := sum_le (l := t.map fun r => r.2.length) (n := 1000) fun x m => by
    obtain ⟨r, hr, rfl⟩ := List.mem_map.mp m
    have := hb.row hr
    unfold wid at this
    omega
  have h1 := hb.1
  rw [List.length_map] at h
  omega
theorem ret_boxes (t : T) (hb : Bd t) : ret fn__law_boxes [tabD t] = some (.lst .own ((boxes t).map boxD)) := by
  apply ret_of
  unfold fn__law_boxes m__law_boxes
  rw [wF_D]
  have hlt : okR (t.length : Int) = true := okR_len (by have := hb.1; omega)
  refine wS_cut (fun σ => σ = [some (tabD t), some (.lst .own []), none, none]) (by simp) ?_
  rintro σ rfl
  refine wS_cut (fun σ => ∃ o1 o2, σ = [some (tabD t), some (.lst .own ((boxes t).map boxD)), o1, o2]) ?_ ?_
  · simp [hlt]
    refine wL_rng (P := fun k σ => ∃ (acc : List Bx) (o1 o2 : Option D), acc ++ boxesF k (t.drop k) = boxes t ∧ σ = [some (tabD t), some (.lst .own (acc.map boxD)), o1, o2]) ⟨[], none, none, by simp [boxes], rfl⟩ ?_ ?_
    · rintro σ ⟨acc, o1, o2, e, rfl⟩
      simp [boxesF] at e
      exact ⟨rfl, o1, o2, by rw [e]⟩
    · rintro k σ hk ⟨acc, o1, o2, e, rfl⟩
      have hx : (t.map rowD)[k]? = some (rowD t[k]) := by simp [hk]
      have ex : atI (t.map rowD) (k : Int) = some (rowD t[k]) := atI_at rfl hx
      have hw : wid t[k] ≤ 1000 := hb.row (List.getElem_mem hk)
      have hl : okR (wid t[k] : Int) = true := okR_len (by omega)
      have hed : t.drop k = t[k] :: t.drop (k + 1) := List.drop_eq_getElem_cons hk
      rw [hed] at e
      simp only [boxesF] at e
      have hlen : acc.length + (rowB k t[k]).length ≤ 16777216 := by
        have := boxes_len hb
        rw [← e] at this
        simp at this
        omega
      simp [ex, hl, frzs_of (noOwns_box acc)]
      rw [up_range]
      refine wC_typ (List.range (wid t[k])) (fun i => .int (0 + (i : Nat))) (fun j => decide (t[k].1 ≤ j)) (fun j => boxD (k, j, t[k].2.getD (j - t[k].1) 0)) (fun j hj => ?_) fun σ' w => ?_
      · have hj := List.mem_range.mp hj
        by_cases h : t[k].1 ≤ j
        · have hj2 : j - t[k].1 < t[k].2.length := by unfold wid at hj; omega
          have ej : atI (cells t[k]) (j : Int) = some (.int t[k].2[j - t[k].1]) := atI_at rfl (by rw [cell_ge h, List.getElem?_eq_getElem hj2]; rfl)
          simp [wipeD, ex, ej, h, boxD, hj2]
        · have ej : atI (cells t[k]) (j : Int) = some .non := atI_at rfl (cell_lt (by omega))
          simp [wipeD, ex, ej, h]
      · have er : ((List.range (wid t[k])).filter (fun j => decide (t[k].1 ≤ j))).map (fun j => boxD (k, j, t[k].2.getD (j - t[k].1) 0)) = (rowB k t[k]).map boxD := by
          unfold wid rowB
          rw [range_ge, List.map_map, List.map_map]
          apply List.map_congr_left
          intro i _
          simp [boxD]
        rw [er]
        have hk : kAdd (.lst .frz (acc.map boxD)) (.lst .own ((rowB k t[k]).map boxD)) = some (.lst .own (acc.map boxD ++ (rowB k t[k]).map boxD)) := kAdd_lst (by decide) (by decide) (by simpa using hlen)
        simp [w, unwipe_wipe, hk]
        refine ⟨by omega, acc ++ rowB k t[k], by rw [← e]; simp, by simp⟩
  · rintro σ ⟨o1, o2, rfl⟩
    simp
end K80
namespace K80
open PySem PySem.Spec PyProof.Rows L2 Py
def keyL (b : Bool) (x : Bx) : List Int := if b = true then [0 - (x.1 : Int), x.2.1, x.2.2] else [(x.2.1 : Int), 0 - (x.1 : Int), x.2.2]
theorem keyL_ne (b : Bool) (x : Bx) : keyL b x ≠ [] := by unfold keyL; split <;> simp
theorem rowL_last (b : Bool) (x : Bx) : kIx (rowL (keyL b x)) (.int 2) = some (.int x.2.2) := by
  unfold keyL
  split <;> rfl
theorem noOwns_rowL (ls : List (List Int)) : noOwns (ls.map rowL) = true := by
  rw [noOwns_all]
  refine List.all_eq_true.mpr fun d m => ?_
  obtain ⟨l, _, rfl⟩ := List.mem_map.mp m
  exact noOwns_ints l
theorem noVws_rowL (ls : List (List Int)) : noVws (ls.map rowL) = true := by
  rw [noVws_all]
  refine List.all_eq_true.mpr fun d m => ?_
  obtain ⟨l, _, rfl⟩ := List.mem_map.mp m
  exact noVws_ints l
theorem wF_word {bs ys : List Bx} {b : Bool} (hp : ys.Perm bs) (hs : (ys.map (keyL b)).Pairwise (· ≤ ·)) (hz : bs.length ≤ 1000000) :
    wF fn__law_word [.lst .own (bs.map boxD), .bl b] fun r σ => r = .tup ((ys.map fun x => x.2.2).map .int) ∧ ∃ o1 o2 o3 o4 o5 o6, σ = [some (.lst .own (bs.map boxD)), o1, o2, o3, o4, o5, o6] := by
  unfold fn__law_word m__law_word
  rw [wF_D]
  refine wS_cut (fun σ => σ = [some (.lst .own (bs.map boxD)), some (.bl b), some (.lst .own []), none, none, none, none]) (by simp) ?_
  rintro σ rfl
  refine wS_cut (fun σ => ∃ o3 o4 o5 o6, σ = [some (.lst .own (bs.map boxD)), some (.bl b), some (.lst .own ((bs.map (keyL b)).map rowL)), o3, o4, o5, o6]) ?_ ?_
  · simp [wI_take, noOwns_box]
    refine wL_typ (P := fun (l : List Bx) σ => ∃ (acc : List Bx) (o3 o4 o5 o6 : Option D), acc ++ l = bs ∧ σ = [none, some (.bl b), some (.lst .own ((acc.map (keyL b)).map rowL)), o3, o4, o5, o6]) boxD ?_ ?_ ⟨[], none, none, none, none, by simp, rfl⟩
    · rintro σ ⟨acc, o3, o4, o5, o6, e, rfl⟩
      simp at e
      subst e
      simp
    · rintro x l σ ⟨acc, o3, o4, o5, o6, e, rfl⟩
      have hl : acc.length < 16777216 := by
        have : acc.length + (l.length + 1) = bs.length := by rw [← e]; simp
        omega
      simp [boxD, wGs_cc, -wGs_cons]
      cases b
      · simp [hl]
        exact ⟨acc ++ [x], by simp [← e], by simp [keyL, rowL]⟩
      · simp [hl]
        exact ⟨acc ++ [x], by simp [← e], by simp [keyL, rowL]⟩
  · rintro σ ⟨o3, o4, o5, o6, rfl⟩
    have hv : views ((bs.map (keyL b)).map rowL) = (bs.map (keyL b)).map rowL := views_of (noOwns_rowL _)
    have hsort : fSortB false (.lst .vw ((bs.map (keyL b)).map rowL)) = some (.lst .own ((ys.map (keyL b)).map rowL)) := fSort_rows (fun l m => by
      obtain ⟨x, _, rfl⟩ := List.mem_map.mp m
      exact keyL_ne b x) (by simp; omega) (hp.map _) hs
    simp only [wS_ret, wE_A, wA_cons, wA_nil, wE_Lc, wI_seq, wE_Up, wE_var, List.getElem?_cons_succ, List.getElem?_cons_zero, Option.some.injEq, exists_eq_left', view_own, hv, k1_one, hsort, noVw_own, noVws_rowL, items_own, frzs_of (noOwns_rowL _), true_and]
    rw [List.map_map]
    refine wC_map ys (rowL ∘ keyL b) (fun x => .int x.2.2) (fun x hx => ?_) fun σ' w => ?_
    · have h1 : (rowL (keyL b x)).view = rowL (keyL b x) := rfl
      simp [wipeD, Function.comp, h1, rowL_last]
    · have hl : ys.length ≤ 16777216 := by rw [hp.length_eq]; omega
      have e : (ys.map fun x => D.int x.2.2) = (ys.map fun x => x.2.2).map D.int := by simp
      simp only [List.length_map, hl, true_and, w, unwipe_wipe, gB_n]
      rw [e]
      exact ⟨_, fTuple_lst (noOwns_ints _), by simp⟩
end K80
namespace K80
open PySem PySem.Spec PyProof.Rows L2 Py
def boxesR : Nat → T → List Bx
  | _, [] => []
  | k, r :: t => boxesR (k + 1) t ++ rowB k r
theorem boxesR_perm : ∀ {t : T} {k : Nat}, (boxesR k t).Perm (boxesF k t)
  | [], _ => .refl _
  | r :: t, k => by
    simp only [boxesR, boxesF]
    exact List.perm_append_comm.trans (boxesR_perm.append_left _)
theorem rowB_let (k : Nat) (r : Nat × List Int) : (rowB k r).map (fun x => x.2.2) = r.2 := by
  unfold rowB
  rw [List.map_map]
  apply List.ext_getElem
  · simp
  · intro i h1 h2
    simp at h1
    simp [h2]
theorem boxesR_let : ∀ {t : T} {k : Nat}, (boxesR k t).map (fun x => x.2.2) = rwd t
  | [], _ => rfl
  | r :: t, k => by
    simp only [boxesR, List.map_append, rowB_let, boxesR_let]
    simp [rwd]
theorem rowB_mem {k : Nat} {r : Nat × List Int} {x : Bx} (h : x ∈ rowB k r) : x.1 = k ∧ r.1 ≤ x.2.1 ∧ x.2.1 < wid r := by
  obtain ⟨i, hi, rfl⟩ := List.mem_map.mp h
  have := List.mem_range.mp hi
  simp [wid]
  omega
theorem boxesR_mem : ∀ {t : T} {k : Nat} {x : Bx}, x ∈ boxesR k t → k ≤ x.1 ∧ ∃ r ∈ t, r.1 ≤ x.2.1 ∧ x.2.1 < wid r
  | [], _, _, h => nomatch h
  | r :: t, k, x, h => by
    rcases List.mem_append.mp h with h | h
    · obtain ⟨a, r', m, b⟩ := boxesR_mem h
      exact ⟨by omega, r', List.mem_cons_of_mem _ m, b⟩
    · obtain ⟨a, b⟩ := rowB_mem h
      exact ⟨by omega, r, List.mem_cons_self, b⟩
/-- lower rows first, then by columns -/
def bLt (x y : Bx) : Prop := y.1 < x.1 ∨ (x.1 = y.1 ∧ x.2.1 < y.2.1)
theorem rowB_lt (k : Nat) (r : Nat × List Int) : (rowB k r).Pairwise bLt := by
  unfold rowB
  rw [List.pairwise_map]
  exact List.pairwise_lt_range.imp fun {i j} h => .inr ⟨rfl, by simp; omega⟩
theorem boxesR_lt : ∀ {t : T} {k : Nat}, (boxesR k t).Pairwise bLt
  | [], _ => .nil
  | r :: t, k => by
    simp only [boxesR]
    refine List.pairwise_append.mpr ⟨boxesR_lt, rowB_lt k r, fun x hx y hy => ?_⟩
    have h1 := (boxesR_mem hx).1
    have h2 := (rowB_mem hy).1
    exact .inl (by omega)
theorem le3 {a b c a' b' c' : Int} (h : a < a' ∨ (a = a' ∧ b < b')) : [a, b, c] ≤ [a', b', c'] := by
  apply List.le_of_lt
  rw [List.cons_lt_cons_iff, List.cons_lt_cons_iff]
  rcases h with h | ⟨h1, h2⟩
  · exact .inl h
  · exact .inr ⟨h1, .inl h2⟩
theorem sorted_row (t : T) : ((boxesR 0 t).map (keyL true)).Pairwise (· ≤ ·) := by
  rw [List.pairwise_map]
  refine boxesR_lt.imp fun {x y} h => ?_
  simp only [keyL, if_true]
  apply le3
  rcases h with h | ⟨h1, h2⟩
  · exact .inl (by omega)
  · exact .inr ⟨by omega, by omega⟩
/-- by columns -/
def ysCol (n : Nat) (t : T) : List Bx := (List.range n).flatMap fun c => (boxesR 0 t).filter fun x => x.2.1 == c
theorem flat_filter_perm {α : Type} (f : α → Nat) : ∀ (n : Nat) (l : List α), (∀ x ∈ l, f x < n) → ((List.range n).flatMap fun c => l.filter fun x => f x == c).Perm l
  | n, [], _ => by simp
  | n, x :: l, h => by
    have hx := h x List.mem_cons_self
    have ih := flat_filter_perm f n l fun y m => h y (List.mem_cons_of_mem _ m)
    have hn : n = f x + (1 + (n - f x - 1)) := by omega
    have go : ∀ (cs : List Nat), f x ∉ cs → (cs.flatMap fun c => (x :: l).filter fun y => f y == c) = cs.flatMap fun c => l.filter fun y => f y == c := by
      intro cs
      induction cs with
      | nil => intro _; rfl
      | cons c cs ih2 =>
        intro hm
        have h1 : f x ≠ c := fun e => hm (by rw [e]; exact List.mem_cons_self)
        have h2 := ih2 fun m => hm (List.mem_cons_of_mem _ m)
        simp only [List.flatMap_cons, h2]
        congr 1
        rw [List.filter_cons_of_neg]
        simpa using h1
    rw [hn, List.range_add, List.range_add] at ih ⊢
    simp only [List.flatMap_append] at ih ⊢
    have e1 : (List.range 1).map (0 + ·) = [0] := rfl
    simp only [List.map_append, List.flatMap_append] at ih ⊢
    rw [go (List.range (f x)) (by simp)]
    rw [go (((List.range (n - f x - 1)).map (1 + ·)).map (f x + ·)) (by simp)]
    have e2 : ((List.range 1).map (f x + ·)).flatMap (fun c => (x :: l).filter fun y => f y == c) = x :: ((List.range 1).map (f x + ·)).flatMap (fun c => l.filter fun y => f y == c) := by
      simp [List.range_succ]
    rw [e2]
    refine List.Perm.trans ?_ (ih.cons x)
    rw [List.cons_append]
    exact List.perm_middle
theorem ysCol_perm {n : Nat} {t : T} (h : ∀ r ∈ t, wid r ≤ n) : (ysCol n t).Perm (boxes t) := by
  refine (flat_filter_perm (fun x : Bx => x.2.1) n (boxesR 0 t) fun x m => ?_).trans boxesR_perm
  obtain ⟨_, r, hr, _, h2⟩ := boxesR_mem m
  have := h r hr
  omega
theorem sorted_col (n : Nat) (t : T) : ((ysCol n t).map (keyL false)).Pairwise (· ≤ ·) := by
  rw [List.pairwise_map]
  unfold ysCol
  rw [List.flatMap, List.pairwise_flatten]
  refine ⟨fun l hl => ?_, ?_⟩
  · obtain ⟨c, hc, rfl⟩ := List.mem_map.mp hl
    have h := (boxesR_lt (t := t) (k := 0)).filter (fun x => x.2.1 == c)
    refine List.Pairwise.imp_of_mem (fun {x y} hx hy h => ?_) h
    have h1 := (List.mem_filter.mp hx).2
    have h2 := (List.mem_filter.mp hy).2
    simp at h1 h2
    simp only [keyL, Bool.false_eq_true, if_false]
    apply le3
    rcases h with h | ⟨_, h⟩
    · exact .inr ⟨by omega, by omega⟩
    · omega
  · rw [List.pairwise_map]
    refine List.pairwise_lt_range.imp fun {a b} hab x hx y hy => ?_
    have h1 := (List.mem_filter.mp hx).2
    have h2 := (List.mem_filter.mp hy).2
    simp at h1 h2
    simp only [keyL, Bool.false_eq_true, if_false]
    exact le3 (.inl (by omega))
end K80
namespace K80
open PySem PySem.Spec PyProof.Rows L2 Py
def cf (c : Nat) (r : Nat × List Int) : List Int := if r.1 ≤ c then (r.2[c - r.1]?).toList else []
theorem range_one (a c : Nat) : ∀ m : Nat, (List.range m).filter (fun i => a + i == c) = if a ≤ c ∧ c - a < m then [c - a] else []
  | 0 => by simp
  | m + 1 => by
    rw [List.range_succ, List.filter_append, range_one a c m]
    by_cases h1 : a ≤ c ∧ c - a < m
    · rw [if_pos h1, if_pos ⟨h1.1, by omega⟩]
      have : (List.filter (fun i => a + i == c) [m]) = [] := by simp; omega
      rw [this]
      rfl
    · rw [if_neg h1]
      by_cases h2 : a ≤ c ∧ c - a < m + 1
      · rw [if_pos h2]
        have e : a + m = c := by omega
        have e2 : c - a = m := by omega
        simp [e, e2]
      · rw [if_neg h2]
        simp
        omega
theorem rowB_col (k c : Nat) (r : Nat × List Int) : ((rowB k r).filter fun x => x.2.1 == c).map (fun x => x.2.2) = cf c r := by
  unfold rowB cf
  rw [List.filter_map, List.map_map]
  have e : ((List.range r.2.length).filter ((fun x : Bx => x.2.1 == c) ∘ fun i => (k, r.1 + i, r.2.getD i 0))) = (List.range r.2.length).filter (fun i => r.1 + i == c) := rfl
  rw [e, range_one]
  by_cases h : r.1 ≤ c
  · by_cases h2 : c - r.1 < r.2.length
    · simp [h, h2]
    · simp [h, h2]
  · simp [h]
theorem boxesR_col (c : Nat) : ∀ {t : T} {k : Nat}, ((boxesR k t).filter fun x => x.2.1 == c).map (fun x => x.2.2) = t.reverse.flatMap (cf c)
  | [], _ => rfl
  | r :: t, k => by
    simp only [boxesR, List.filter_append, List.map_append, rowB_col, boxesR_col c]
    simp
def cwd (n : Nat) (t : T) : List Int := (ysCol n t).map fun x => x.2.2
theorem cwd_eq (n : Nat) (t : T) : cwd n t = (List.range n).flatMap fun c => t.reverse.flatMap (cf c) := by
  unfold cwd ysCol
  rw [List.map_flatMap]
  congr 1
  funext c
  exact boxesR_col c
def mw (t : T) : Int := mxs 0 (t.map fun r => (wid r : Int))
theorem mw_nat (t : T) : ∃ n : Nat, mw t = n ∧ ∀ r ∈ t, wid r ≤ n := by
  obtain ⟨h1, h2⟩ := mxs_ge (t.map fun r => (wid r : Int)) 0
  obtain ⟨n, hn⟩ := Int.eq_ofNat_of_zero_le h1
  refine ⟨n, hn, fun r m => ?_⟩
  have := h2 (wid r) (List.mem_map.mpr ⟨r, m, rfl⟩)
  omega
theorem mw_le {t : T} (hb : Bd t) : mw t ≤ 1000 := by
  have := mxs_mem (t.map fun r => (wid r : Int)) 0
  rcases List.mem_cons.mp this with e | m
  · unfold mw; omega
  · obtain ⟨r, hr, e⟩ := List.mem_map.mp m
    have := hb.row hr
    unfold mw
    omega
theorem maxOuter {t : T} : fMaxL (.lst .own (.int 0 :: t.map fun r => .int (wid r))) = some (.int (mw t)) := by
  have e : (t.map fun r => D.int (wid r)) = (t.map fun r => (wid r : Int)).map D.int := by simp
  rw [e]
  exact fMaxL_ints
theorem cwd_len {t : T} (hb : Bd t) {n : Nat} (h : ∀ r ∈ t, wid r ≤ n) : (cwd n t).length ≤ 1000000 := by
  unfold cwd
  rw [List.length_map, (ysCol_perm h).length_eq]
  exact boxes_len hb
theorem ret_column_word (t : T) (hb : Bd t) : ∃ n : Nat, (∀ r ∈ t, wid r ≤ n) ∧ ret fn_column_word [tabD t] = some (.tup ((cwd n t).map .int)) := by
  obtain ⟨n, hn, hw⟩ := mw_nat t
  refine ⟨n, hw, ?_⟩
  apply ret_of
  unfold fn_column_word m_column_word
  rw [wF_D]
  refine wS_cut (fun σ => σ = [some (tabD t), some (.lst .own []), none, none]) (by simp) ?_
  rintro σ rfl
  refine wS_cut (fun σ => ∃ o1 o2, σ = [some (tabD t), some (.lst .own ((cwd n t).map .int)), o1, o2]) ?_ ?_
  · have ho := ret_outer t hb
    have h2 := mw_le hb
    have hk : kAdd (.lst .own [.int 0]) (.lst .own (t.map fun r => .int (wid r))) = some (.lst .own (.int 0 :: t.map fun r => .int (wid r))) := kAdd_lst (by decide) (by decide) (by have := hb.1; simp; omega)
    have hok : okR (mw t) = true := by rw [hn] at h2 ⊢; exact okR_len (by omega)
    simp [wF_ret ho, hk, maxOuter, hok]
    rw [hn]
    simp
    refine wL_rng (P := fun c σ => ∃ (acc : List Int) (o1 o2 : Option D), acc = ((List.range c).flatMap fun c => t.reverse.flatMap (cf c)) ∧ σ = [some (tabD t), some (.lst .own (acc.map .int)), o1, o2]) ⟨[], none, none, rfl, rfl⟩ ?_ ?_
    · rintro σ ⟨acc, o1, o2, e, rfl⟩
      exact ⟨rfl, o1, o2, by rw [e, cwd_eq]⟩
    · rintro c σ hc ⟨acc, o1, o2, e, rfl⟩
      simp
      rw [← List.map_reverse]
      refine wL_typ (P := fun (l : T) σ => ∃ (acc2 : List Int) (o : Option D), acc2 ++ l.flatMap (cf c) = acc ++ t.reverse.flatMap (cf c) ∧ σ = [some (tabD t), some (.lst .own (acc2.map .int)), some (.int c), o]) rowD ?_ ?_ ⟨acc, o2, rfl, by simp⟩
      · rintro σ ⟨acc2, o, e2, rfl⟩
        simp at e2
        refine ⟨some (.int c), o, ?_⟩
        rw [e2, List.range_succ, List.flatMap_append, ← e]
        simp
      · rintro r l σ ⟨acc2, o, e2, rfl⟩
        have hl : acc2.length < 16777216 := by
          have h3 := cwd_len hb hw
          have h4 : ((acc ++ t.reverse.flatMap (cf c))).length ≤ (cwd n t).length := by
            rw [cwd_eq]
            have : List.range n = List.range (c + 1) ++ (List.range (n - c - 1)).map ((c + 1) + ·) := by rw [← List.range_add]; congr 1; omega
            rw [this, List.flatMap_append, List.range_succ, List.flatMap_append, ← e]
            simp
          rw [← e2] at h4
          simp at h4
          omega
        simp
        by_cases h : wid r ≤ c
        · refine .inl ⟨h, ?_⟩
          have : cf c r = [] := by
            unfold cf
            split
            · have : r.2.length ≤ c - r.1 := by unfold wid at h; omega
              simp [this]
            · rfl
          exact ⟨acc2, by rw [← e2]; simp [this], rfl⟩
        · refine .inr ⟨by omega, ?_⟩
          by_cases h5 : r.1 ≤ c
          · have hj2 : c - r.1 < r.2.length := by unfold wid at h; omega
            have ej : atI (cells r) (c : Int) = some (.int r.2[c - r.1]) := atI_at rfl (by rw [cell_ge h5, List.getElem?_eq_getElem hj2]; rfl)
            have : cf c r = [r.2[c - r.1]] := by simp [cf, h5, hj2]
            simp [ej, hl]
            exact ⟨acc2 ++ [r.2[c - r.1]], by rw [← e2]; simp [this], by simp⟩
          · have ej : atI (cells r) (c : Int) = some .non := atI_at rfl (cell_lt (by omega))
            have : cf c r = [] := by simp [cf, h5]
            simp [ej]
            exact ⟨acc2, by rw [← e2]; simp [this], rfl⟩
  · rintro σ ⟨o1, o2, rfl⟩
    have hv : views ((cwd n t).map .int) = (cwd n t).map .int := views_of (noOwns_ints _)
    have ht : fTuple (.lst .vw ((cwd n t).map .int)) = some (.tup ((cwd n t).map .int)) := fTuple_lst (noOwns_ints _)
    simp [hv, ht, noVws_ints]
end K80
namespace K80
open PySem PySem.Spec PyProof.Rows L2 Py
def rkAt (w : List Int) (k : Nat) : Int := 1 + (w.countP (fun x => decide (x < w.getD k 0)) : Nat) + ((w.take k).countP (fun x => x == w.getD k 0) : Nat)
def rkL (w : List Int) : List Int := (List.range w.length).map (rkAt w)
theorem ret_law_ranks (w : List Int) (h : w.length ≤ 1000000) : ret fn__law_ranks [.tup (w.map .int)] = some (.tup ((rkL w).map .int)) := by
  apply ret_of
  unfold fn__law_ranks m__law_ranks
  rw [wF_D]
  have hok : okR (w.length : Int) = true := okR_len h
  refine wS_cut (fun σ => σ = [some (.tup (w.map .int)), some (.lst .own []), none, none, none]) (by simp) ?_
  rintro σ rfl
  refine wS_cut (fun σ => ∃ o1 o2 o3, σ = [some (.tup (w.map .int)), some (.lst .own ((rkL w).map .int)), o1, o2, o3]) ?_ ?_
  · simp [hok]
    refine wL_rng (P := fun k σ => ∃ o1 o2 o3, σ = [some (.tup (w.map .int)), some (.lst .own (((List.range k).map (rkAt w)).map .int)), o1, o2, o3]) ⟨none, none, none, rfl⟩ ?_ ?_
    · rintro σ ⟨o1, o2, o3, rfl⟩
      exact ⟨rfl, o1, o2, o3, rfl⟩
    · rintro k σ hk ⟨o1, o2, o3, rfl⟩
      have ex : atI (w.map D.int) (k : Int) = some (.int w[k]) := atI_at rfl (by simp [hk])
      have hg : w.getD k 0 = w[k] := by simp [hk]
      simp
      refine wC_typ w D.int (fun x => decide (x < w[k])) (fun _ => .int 1) (fun x hx => ?_) fun σ' hw => ?_
      · by_cases q : x < w[k] <;> simp [wipeD, ex, q]
      · have hl := List.length_filter_le (fun x => decide (x < w[k])) w
        have hcut : cutD (w.map D.int) none (some (k : Int)) = (w.take k).map D.int := by
          rw [cutD_to (by simp; omega), List.map_take]
        simp [hw, unwipe_wipe, hcut, noVws_ints]
        refine ⟨by omega, ?_⟩
        rw [← List.map_take]
        refine ⟨noVws_ints _, ?_⟩
        refine wC_typ (w.take k) D.int (fun x => x == w[k]) (fun _ => .int 1) (fun x hx => ?_) fun σ2 hw2 => ?_
        · by_cases q : x = w[k] <;> simp [wipeD, ex, q]
        · have hl2 := List.length_filter_le (fun x => x == w[k]) (w.take k)
          simp only [List.length_take] at hl2
          simp [hw2, unwipe_wipe]
          refine ⟨by omega, by omega, ?_⟩
          rw [List.range_succ, List.map_append]
          simp [rkAt, List.getElem?_eq_getElem hk, List.countP_eq_length_filter]
  · rintro σ ⟨o1, o2, o3, rfl⟩
    have hv : views ((rkL w).map .int) = (rkL w).map .int := views_of (noOwns_ints _)
    have ht : fTuple (.lst .vw ((rkL w).map .int)) = some (.tup ((rkL w).map .int)) := fTuple_lst (noOwns_ints _)
    simp [hv, ht, noVws_ints]
/-! ### sorting pairs -/
abbrev Pr := Int × Nat
def ltP (p q : Pr) : Prop := p.1 < q.1 ∨ (p.1 = q.1 ∧ p.2 < q.2)
instance {p q : Pr} : Decidable (ltP p q) := by unfold ltP; exact inferInstance
def prs (w : List Int) : List Pr := (List.range w.length).map fun k => (w.getD k 0, k)
def prD (p : Pr) : D := .tup [.int p.1, .int p.2]
theorem nltP {a b : Pr} : (!decide (ltP b a)) = true ↔ (a.1 < b.1 ∨ (a.1 = b.1 ∧ a.2 ≤ b.2)) := by
  rw [Bool.not_eq_true', decide_eq_false_iff_not]
  unfold ltP
  omega
theorem sorted_prs (w : List Int) : ∃ ys : List Pr, ys.Perm (prs w) ∧ ys.Pairwise ltP := by
  refine ⟨(prs w).mergeSort (fun a b => !decide (ltP b a)), List.mergeSort_perm _ _, ?_⟩
  have h1 := List.pairwise_mergeSort (le := fun a b : Pr => !decide (ltP b a)) (fun a b c h1 h2 => by
    have h1 := nltP.mp h1
    have h2 := nltP.mp h2
    exact nltP.mpr (by omega)) (fun a b => by
    rw [Bool.or_eq_true]
    by_cases q : a.1 < b.1 ∨ (a.1 = b.1 ∧ a.2 ≤ b.2)
    · exact .inl (nltP.mpr q)
    · exact .inr (nltP.mpr (by omega))) (prs w)
  have nd : ((prs w).mergeSort (fun a b => !decide (ltP b a))).Pairwise (fun a b => a.2 ≠ b.2) := by
    have h2 : (prs w).Pairwise (fun a b => a.2 ≠ b.2) := by
      unfold prs
      rw [List.pairwise_map]
      exact List.pairwise_lt_range.imp fun {i j} h => by simp; omega
    exact ((List.mergeSort_perm (prs w) (fun a b => !decide (ltP b a))).symm.pairwise h2 (fun {a b} h e => h e.symm))
  refine (h1.and nd).imp fun {a b} ⟨h, h'⟩ => ?_
  have h := nltP.mp h
  unfold ltP
  omega
theorem count_index {α : Type} {R : α → α → Prop} [∀ a b, Decidable (R a b)] (irr : ∀ a, ¬ R a a) (asy : ∀ a b, R a b → ¬ R b a) : ∀ {l : List α}, l.Pairwise R → ∀ (i : Nat) (h : i < l.length), l.countP (fun x => decide (R x l[i])) = i
  | [], _, i, h => by simp at h
  | a :: l, p, 0, h => by
    simp only [List.getElem_cons_zero, List.countP_cons]
    have h1 : l.countP (fun x => decide (R x a)) = 0 := by
      rw [List.countP_eq_zero]
      intro x m
      have := List.rel_of_pairwise_cons p m
      simpa using asy _ _ this
    simp [h1, irr]
  | a :: l, p, i + 1, h => by
    have h2 : i < l.length := by simpa using h
    have ih := count_index irr asy p.of_cons i h2
    simp only [List.getElem_cons_succ, List.countP_cons, ih]
    have := List.rel_of_pairwise_cons p (List.getElem_mem h2)
    simp [this]
theorem countP_or {α : Type} (p q : α → Bool) (hd : ∀ x, ¬ (p x = true ∧ q x = true)) : ∀ l : List α, l.countP (fun x => p x || q x) = l.countP p + l.countP q
  | [] => rfl
  | x :: l => by
    simp only [List.countP_cons, countP_or p q hd l]
    have := hd x
    cases h1 : p x <;> cases h2 : q x <;> simp_all <;> omega
theorem rank_index {w : List Int} {ys : List Pr} (hp : ys.Perm (prs w)) (hs : ys.Pairwise ltP) (i : Nat) (h : i < ys.length) : rkAt w (ys[i]).2 = i + 1 := by
  have hc := count_index (R := ltP) (fun a h => by simp [ltP] at h) (fun a b h h' => by simp [ltP] at h h'; omega) hs i h
  have hm : ys[i] ∈ prs w := hp.mem_iff.mp (List.getElem_mem h)
  obtain ⟨k, hk, e⟩ := List.mem_map.mp hm
  have hk := List.mem_range.mp hk
  rw [← e] at hc ⊢
  rw [hp.countP_eq] at hc
  unfold prs at hc
  rw [List.countP_map] at hc
  have hx : w.getD k 0 = w[k] := by simp [hk]
  have e1 : ((fun x : Pr => decide (ltP x (w.getD k 0, k))) ∘ fun k => (w.getD k 0, k)) = fun j => (decide (w.getD j 0 < w.getD k 0)) || (decide (w.getD j 0 = w.getD k 0 ∧ j < k)) := by
    funext j
    simp [ltP, Function.comp]
  rw [e1, countP_or _ _ (fun j ⟨a, b⟩ => by simp at a b; omega)] at hc
  have e2 : (List.range w.length).countP (fun j => decide (w.getD j 0 < w.getD k 0)) = w.countP (fun x => decide (x < w.getD k 0)) := by
    have ew : (List.range w.length).map (fun j => w.getD j 0) = w := by
      apply List.ext_getElem
      · simp
      · intro i h1 h2
        simp at h1
        simp [h1]
    have q := congrArg (List.countP (fun x => decide (x < w.getD k 0))) ew
    rw [List.countP_map] at q
    exact q
  have e3 : (List.range w.length).countP (fun j => decide (w.getD j 0 = w.getD k 0 ∧ j < k)) = (w.take k).countP (fun x => x == w.getD k 0) := by
    have : List.range w.length = List.range k ++ (List.range (w.length - k)).map (k + ·) := by rw [← List.range_add]; congr 1; omega
    rw [this, List.countP_append, List.countP_map]
    have z : (List.range (w.length - k)).countP ((fun j => decide (w.getD j 0 = w.getD k 0 ∧ j < k)) ∘ (k + ·)) = 0 := by
      rw [List.countP_eq_zero]
      intro j _
      simp
    rw [z, Nat.add_zero]
    have e4 : w.take k = (List.range k).map (fun j => w.getD j 0) := by
      apply List.ext_getElem
      · simp; omega
      · intro i h1 h2
        simp at h1
        have : i < w.length := by omega
        simp [this]
    rw [e4, List.countP_map]
    apply List.countP_congr
    intro j hj
    have := List.mem_range.mp hj
    simp [this]
  rw [e2, e3] at hc
  simp only [rkAt]
  omega
theorem ret_ranks (w : List Int) (h : w.length ≤ 1000000) : ret fn_ranks [.tup (w.map .int)] = some (.tup ((rkL w).map .int)) := by
  apply ret_of
  unfold fn_ranks m_ranks
  rw [wF_D]
  have hok : okR (w.length : Int) = true := okR_len h
  obtain ⟨ys, hp, hs⟩ := sorted_prs w
  have hpl : (prs w).length = w.length := by simp [prs]
  have hyl : ys.length = w.length := by rw [hp.length_eq, hpl]
  have hno : noOwns (ys.map prD) = true := by
    rw [noOwns_all]
    simp [prD]
  have hnv : noVws (ys.map prD) = true := by
    rw [noVws_all]
    simp [prD]
  refine wS_cut (fun σ => ∃ o2, σ = [some (.tup (w.map .int)), some (.lst .own (ys.map prD)), o2, none, none]) ?_ ?_
  · simp [hok]
    rw [up_range]
    refine wC_map (List.range w.length) (fun i => .int (0 + (i : Nat))) (fun k => prD (w.getD k 0, k)) (fun k hk => ?_) fun σ' hw => ?_
    · have hk := List.mem_range.mp hk
      have ex : atI (w.map D.int) (k : Int) = some (.int w[k]) := atI_at rfl (by simp [hk])
      simp [wipeD, ex, prD, hk]
    · have hsort : fSortB false (.lst .own ((prs w).map prD)) = some (.lst .own (ys.map prD)) := by
        have e : ∀ l : List Pr, l.map prD = (l.map fun p => [p.1, (p.2 : Int)]).map rowL := fun l => by simp [prD, rowL]
        rw [e, e]
        refine fSort_rows (fun l m => ?_) (by simp; omega) (hp.map _) ?_
        · obtain ⟨x, _, rfl⟩ := List.mem_map.mp m
          simp
        · rw [List.pairwise_map]
          refine hs.imp fun {x y} z => ?_
          apply List.le_of_lt
          rw [List.cons_lt_cons_iff, List.cons_lt_cons_iff]
          rcases z with z | ⟨z1, z2⟩
          · exact .inl z
          · exact .inr ⟨z1, .inl (by omega)⟩
      have e : (List.range w.length).map (fun k => prD (w.getD k 0, k)) = (prs w).map prD := by simp [prs]
      rw [e]
      simp [hw, unwipe_wipe, hpl, hsort]
      omega
  rintro σ ⟨o2, rfl⟩
  have hmul : kMul (.lst .own [.int 0]) (.int (w.length : Int)) = some (.lst .own (List.replicate w.length (.int 0))) := by
    have e : (List.replicate w.length [D.int 0]).flatten = List.replicate w.length (.int 0) := by
      induction w.length with
      | zero => rfl
      | succ n ih => simp [List.replicate_succ, ih]
    simp [kMul]
    omega
  have hnr : ∀ n : Nat, noVws (List.replicate n (.int 0)) = true := fun n => by induction n <;> simp_all [List.replicate_succ]
  refine wS_cut (fun σ => σ = [some (.tup (w.map .int)), some (.lst .own (ys.map prD)), o2, some (.lst .own ((List.replicate w.length (0 : Int)).map .int)), none]) ?_ ?_
  · simp [hmul, hnr]
  rintro σ rfl
  refine wS_cut (fun σ => ∃ o4, σ = [some (.tup (w.map .int)), some (.lst .own (ys.map prD)), o2, some (.lst .own ((rkL w).map .int)), o4]) ?_ ?_
  · have hvs : views (ys.map prD) = ys.map prD := views_of hno
    simp [hvs, hyl, hok]
    refine wL_rng (P := fun i σ => ∃ (fd : List Int) (o4 : Option D), fd.length = w.length ∧ (∀ m, m < i → ∀ (hm : m < ys.length), fd[(ys[m]).2]? = some ((m : Int) + 1)) ∧ σ = [some (.tup (w.map .int)), some (.lst .own (ys.map prD)), o2, some (.lst .own (fd.map .int)), o4]) ⟨List.replicate w.length 0, none, by simp, fun m hm => by omega, by simp⟩ ?_ ?_
    · rintro σ ⟨fd, o4, hl, hf, rfl⟩
      have e : fd = rkL w := by
        apply List.ext_getElem
        · rw [hl]; simp [rkL]
        · intro i h1 h2
          have hi : i < w.length := by omega
          have hm : (w.getD i 0, i) ∈ ys := hp.mem_iff.mpr (List.mem_map.mpr ⟨i, List.mem_range.mpr hi, rfl⟩)
          obtain ⟨m, hm1, hm2⟩ := List.mem_iff_getElem.mp hm
          have q := hf m (by omega) hm1
          have q2 := rank_index hp hs m hm1
          rw [hm2] at q q2
          simp only at q q2
          rw [List.getElem?_eq_getElem h1] at q
          have q := Option.some.inj q
          rw [q, ← q2]
          simp [rkL]
      rw [e]
      exact ⟨rfl, o4, rfl⟩
    · rintro i σ hi ⟨fd, o4, hl, hf, rfl⟩
      have hi2 : i < ys.length := by omega
      have ex : atI (ys.map prD) (i : Int) = some (prD ys[i]) := atI_at rfl (by simp [hi2])
      have hm : ys[i] ∈ prs w := hp.mem_iff.mp (List.getElem_mem hi2)
      obtain ⟨k, hk, e⟩ := List.mem_map.mp hm
      have hk := List.mem_range.mp hk
      have e2 : (ys[i]).2 = k := by rw [← e]
      have hkk : kIx (prD ys[i]) (.int 1) = some (.int (k : Int)) := by rw [← e2]; rfl
      have hix : ixN w.length (k : Int) = some k := ixN_nat hk
      simp [hvs, ex, hkk, hl, hix]
      refine ⟨fd.set k ((i : Int) + 1), ?_, fun m hm hm2 => ?_, ?_⟩
      · simp [hl]
      · by_cases q : m = i
        · subst q
          rw [e2, List.getElem?_set_self (by omega)]
        · have hne : (ys[m]).2 ≠ k := fun z => by
            have hr1 := rank_index hp hs m hm2
            have hr2 := rank_index hp hs i hi2
            rw [z] at hr1
            rw [e2] at hr2
            rw [hr1] at hr2
            omega
          rw [List.getElem?_set_ne (Ne.symm hne)]
          exact hf m (by omega) hm2
      · simp
  · rintro σ ⟨o4, rfl⟩
    have hv : views ((rkL w).map .int) = (rkL w).map .int := views_of (noOwns_ints _)
    have ht : fTuple (.lst .vw ((rkL w).map .int)) = some (.tup ((rkL w).map .int)) := fTuple_lst (noOwns_ints _)
    simp [hv, ht, noVws_ints]
end K80
namespace K80
open PySem PySem.Spec PyProof.Rows L2 Py
theorem wS_augR {r : Nat} {a b : M} {f : D → D → Option D} {σ : Sg} {Q : Fo → Sg → Prop} {xs : List D} {i k x : Int} {j : Nat} {z : D} (h1 : σ[r]? = some (some (.lst .own xs))) (h2 : nInt b σ = some i) (h3 : ixN xs.length i = some j) (h4 : xs[j]? = some (.int x)) (h5 : nInt a σ = some k) (h6 : f (.int x) (.int k) = some z)
    (hQ : Q .nx (σ.set r (some (.lst .own (xs.set j z))))) : wS (sAugP r (pRoot r) b f a) σ Q := by
  refine wS_augP.mpr ⟨[], i, x, ?_, ⟨k, h5, z, h6, ?_⟩⟩
  · simp [Py.intAt, pRoot, h1, h2, dAt_nil, h3, h4]
  · simp [h1, h3]
    exact hQ
def cntL (n : Nat) (w : List Int) : List Int := (List.range n).map fun (i : Nat) => ((w.countP (fun x => x == ((i : Int) + 1)) : Nat) : Int)
theorem ret_content (w : List Int) (h : w.length ≤ 1000000) (h1 : ∀ x ∈ w, 1 ≤ x ∧ x ≤ 1000000) : ret fn_content [.tup (w.map .int)] = some (.tup ((cntL (mxs 0 w).toNat w).map .int)) := by
  apply ret_of
  unfold fn_content m_content
  rw [wF_D]
  obtain ⟨g1, g2⟩ := mxs_ge w 0
  obtain ⟨n, hn⟩ := Int.eq_ofNat_of_zero_le g1
  have hnb : n ≤ 1000000 := by
    rcases List.mem_cons.mp (mxs_mem w 0) with e | m
    · omega
    · have := (h1 _ m).2
      omega
  have hmul : kMul (.lst .own [.int 0]) (.int (n : Int)) = some (.lst .own (List.replicate n (.int 0))) := by
    have e : (List.replicate n [D.int 0]).flatten = List.replicate n (.int 0) := by
      clear hn hnb
      induction n with
      | zero => rfl
      | succ n ih => simp [List.replicate_succ, ih]
    simp [kMul]
    omega
  have hnr : ∀ n : Nat, noVws (List.replicate n (.int 0)) = true := fun n => by induction n <;> simp_all [List.replicate_succ]
  have hk : kAdd (.lst .own [.int 0]) (.lst .own (w.map .int)) = some (.lst .own (.int 0 :: w.map .int)) := kAdd_lst (by decide) (by decide) (by simp; omega)
  rw [hn, Int.toNat_natCast]
  refine wS_cut (fun σ => σ = [some (.tup (w.map .int)), some (.lst .own ((List.replicate n (0 : Int)).map .int)), none]) ?_ ?_
  · simp [hk, fMaxL_ints, hn, hmul, hnr]
  rintro σ rfl
  refine wS_cut (fun σ => ∃ o, σ = [some (.tup (w.map .int)), some (.lst .own ((cntL n w).map .int)), o]) ?_ ?_
  · rw [wS_for]
    refine wI_tupD rfl ?_
    refine wL_typ (P := fun (l : List Int) σ => ∃ (acc : List Int) (o : Option D), acc ++ l = w ∧ σ = [some (.tup (w.map .int)), some (.lst .own ((cntL n acc).map .int)), o]) D.int ?_ ?_ ⟨[], none, rfl, ?_⟩
    · rintro σ ⟨acc, o, e, rfl⟩
      simp at e
      subst e
      exact ⟨rfl, o, rfl⟩
    · rintro x l σ ⟨acc, o, e, rfl⟩
      have hx : x ∈ w := by rw [← e]; simp
      have hx1 := h1 x hx
      have hx2 := g2 x hx
      obtain ⟨k, hk⟩ := Int.eq_ofNat_of_zero_le (show 0 ≤ x - 1 by omega)
      have hkn : k < n := by omega
      simp only [wG_name, List.length_cons, List.length_nil]
      refine ⟨by omega, ?_⟩
      simp only [List.set_cons_succ, List.set_cons_zero]
      refine wS_augR (i := (k : Int)) (k := 1) (j := k) (x := (acc.countP (fun x => x == ((k : Int) + 1)) : Nat)) (z := .int ((acc.countP (fun x => x == ((k : Int) + 1)) : Nat) + 1)) rfl (by rw [← hk]; rfl) (ixN_nat (by simp [cntL, hkn])) (by simp [cntL, hkn]) rfl rfl ⟨acc ++ [x], some (.int x), by simp [← e], ?_⟩
      have ec : (((cntL n acc).map D.int).set k (.int ((acc.countP (fun x => x == ((k : Int) + 1)) : Nat) + 1))) = (cntL n (acc ++ [x])).map D.int := by
        apply List.ext_getElem
        · simp [cntL]
        · intro i p1 p2
          simp [cntL] at p1 p2
          by_cases q : k = i
          · subst q
            have : x = (k : Int) + 1 := by omega
            simp [cntL, List.countP_append, List.countP_cons, this]
          · have : ¬ x = (i : Int) + 1 := by omega
            simp [cntL, List.countP_append, List.countP_cons, this, q]
      simp only [List.set_cons_succ, List.set_cons_zero]
      rw [ec]
    · have : cntL n [] = List.replicate n 0 := by
        apply List.ext_getElem
        · simp [cntL]
        · intro i p1 p2
          simp [cntL]
      rw [this]
  · rintro σ ⟨o, rfl⟩
    have hv : views ((cntL n w).map .int) = (cntL n w).map .int := views_of (noOwns_ints _)
    have ht : fTuple (.lst .vw ((cntL n w).map .int)) = some (.tup ((cntL n w).map .int)) := fTuple_lst (noOwns_ints _)
    simp [hv, ht, noVws_ints]
theorem ret_counts (w : List Int) (h : w.length ≤ 1000000) (h1 : ∀ x ∈ w, x ≤ 1000000) : ret fn__law_counts [.tup (w.map .int)] = some (.tup ((cntL (mxs 0 w).toNat w).map .int)) := by
  apply ret_of
  unfold fn__law_counts m__law_counts
  obtain ⟨g1, g2⟩ := mxs_ge w 0
  obtain ⟨n, hn⟩ := Int.eq_ofNat_of_zero_le g1
  have hnb : n ≤ 1000000 := by
    rcases List.mem_cons.mp (mxs_mem w 0) with e | m
    · omega
    · have := h1 _ m
      omega
  have hk : kAdd (.lst .own [.int 0]) (.lst .own (w.map .int)) = some (.lst .own (.int 0 :: w.map .int)) := kAdd_lst (by decide) (by decide) (by simp; omega)
  rw [hn, Int.toNat_natCast]
  have ok1 : okR 1 = true := by decide
  have ok2 : okR ((n : Int) + 1) = true := by
    unfold okR
    exact decide_eq_true (by omega)
  simp [hk, fMaxL_ints, hn, ok1, ok2]
  rw [up_range]
  refine wC_map (List.range n) (fun i => .int (1 + (i : Nat))) (fun (i : Nat) => .int (w.countP (fun x => x == ((i : Int) + 1)) : Nat)) (fun i hi => ?_) fun σ' hw => ?_
  · simp [wipeD]
    refine wI_tupD rfl ?_
    refine wC_typ w D.int (fun x => x == ((i : Int) + 1)) (fun _ => .int 1) (fun x hx => ?_) fun σ2 hw2 => ?_
    · by_cases q : x = (i : Int) + 1
      · simp [wipeD, q]
        omega
      · have q2 : ¬ x = 1 + (i : Int) := by omega
        simp [wipeD, q, q2]
    · have hl2 := List.length_filter_le (fun x => x == ((i : Int) + 1)) w
      have hw3 : List.set σ2 1 none = [some (.tup (w.map .int)), none, some (.int (1 + (i : Int)))] := hw2
      simp [hw3, unwipe, put1, wipeD, List.countP_eq_length_filter]
      omega
  · simp [hw, unwipe_wipe]
    refine ⟨by omega, ?_⟩
    have e : (List.range n).map (fun (i : Nat) => D.int (w.countP (fun x => x == ((i : Int) + 1)) : Nat)) = (cntL n w).map D.int := by simp [cntL]
    rw [e, fTuple_lst (noOwns_ints _)]
end K80
namespace K80
open PySem PySem.Spec PyProof.Rows L2 Py
def fillT : T → List Int → T
  | [], _ => []
  | r :: t, ls => (r.1, ls.drop (ls.length - r.2.length)) :: fillT t (ls.take (ls.length - r.2.length))
def lets (t : T) : Nat := (t.map fun r => r.2.length).sum
theorem rwd_lets (t : T) : (rwd t).length = lets t := by
  unfold rwd lets
  induction t with
  | nil => rfl
  | cons r t ih => simp_all; omega
/-- a tuple or a list of these numbers -/
def Seq (c : D) (ls : List Int) : Prop := c = .tup (ls.map .int) ∨ c = .lst .own (ls.map .int)
theorem ret_filled (t : T) (hb : Bd t) (c : D) (ls : List Int) (hc : Seq c ls) (hl : ls.length = lets t) : ret fn_filled [tabD t, c] = some (tabD (fillT t ls)) := by
  apply ret_of
  unfold fn_filled m_filled
  rw [wF_D]
  have hln : fLen c.view = some (.int ls.length) := by
    rcases hc with rfl | rfl
    · simp
    · simp [views_of (noOwns_ints ls)]
  refine wS_cut (fun σ => σ = [some (tabD t), some c, some (.lst .own []), none, none, none]) (by simp) ?_
  rintro σ rfl
  refine wS_cut (fun σ => σ = [some (tabD t), some c, some (.lst .own []), some (.int ls.length), none, none]) (by simp [hln]) ?_
  rintro σ rfl
  refine wS_cut (fun σ => ∃ o3 o4 o5, σ = [some (tabD t), some c, some (.lst .own ((fillT t ls).map rowD)), o3, o4, o5]) ?_ ?_
  · rw [wS_for]
    refine wI_tabD rfl ?_
    refine wL_typ (P := fun (l : T) σ => ∃ (acc : T) (at_ : Nat) (o4 o5 : Option D), (∀ r ∈ l, r ∈ t) ∧ at_ = lets l ∧ at_ ≤ ls.length ∧ acc.length + l.length = t.length ∧ acc ++ fillT l (ls.take at_) = fillT t ls ∧ σ = [some (tabD t), some c, some (.lst .own (acc.map rowD)), some (.int at_), o4, o5]) rowD ?_ ?_ ⟨[], ls.length, none, none, fun r m => m, hl, Nat.le_refl _, by simp, by simp, rfl⟩
    · rintro σ ⟨acc, at_, o4, o5, _, ha, hle, _, e, rfl⟩
      simp [fillT] at e
      exact ⟨rfl, some (.int at_), o4, o5, by rw [e]; rfl⟩
    · rintro r l σ ⟨acc, at_, o4, o5, hm, ha, hle, hlen, e, rfl⟩
      have hr := hm r List.mem_cons_self
      have hlo := ret_left_out r (hb.row hr)
      have hb1 := hb.1
      have ha2 : at_ = r.2.length + lets l := by rw [ha]; simp [lets]
      have hw : (wid r : Int) - (r.1 : Int) = (r.2.length : Int) := by unfold wid; omega
      have hsub : (at_ : Int) - (r.2.length : Int) = ((at_ - r.2.length : Nat) : Int) := by omega
      have hsl : ∃ y, kSl c.view (some ((at_ - r.2.length : Nat) : Int)) (some (at_ : Int)) = some y ∧ fTuple y = some (.tup (((ls.drop (at_ - r.2.length)).take r.2.length).map .int)) := by
        have hcut : cutD (ls.map D.int) (some ((at_ - r.2.length : Nat) : Int)) (some (at_ : Int)) = ((ls.drop (at_ - r.2.length)).take r.2.length).map .int := by
          rw [cutD_mid (by simp; omega) (by simpa using hle), List.map_take, List.map_drop]
          congr 1
          omega
        rcases hc with rfl | rfl
        · exact ⟨_, kSl_tup, by rw [hcut]; rfl⟩
        · refine ⟨_, by rw [view_own, views_of (noOwns_ints ls)]; exact kSl_lst, ?_⟩
          rw [hcut]
          exact fTuple_lst (noOwns_ints _)
      obtain ⟨y, hy1, hy2⟩ := hsl
      have hkadd : kAdd (.tup (List.replicate r.1 .non)) (.tup (((ls.drop (at_ - r.2.length)).take r.2.length).map .int)) = some (rowD (r.1, (ls.drop (at_ - r.2.length)).take r.2.length)) := by
        rw [kAdd_tup (by have := hb.row hr; unfold wid at this; simp; omega)]
        rfl
      obtain ⟨seg, hseg⟩ : ∃ seg, seg = (ls.drop (at_ - r.2.length)).take r.2.length := ⟨_, rfl⟩
      rw [← hseg] at hy2 hkadd
      have hacc : acc.length < 16777216 := by simp at hlen; omega
      simp only [wG_name, List.length_cons, List.length_nil]
      refine ⟨by omega, ?_⟩
      simp only [List.set_cons_succ, List.set_cons_zero]
      refine wS_cut (fun σ => σ = [some (tabD t), some c, some (.lst .own (acc.map rowD)), some (.int at_), some (rowD r), some (.int r.2.length)]) ?_ ?_
      · simp [wF_ret hlo, hw]
      rintro σ rfl
      refine wS_cut (fun σ => σ = [some (tabD t), some c, some (.lst .own ((acc ++ [(r.1, seg)]).map rowD)), some (.int at_), some (rowD r), some (.int r.2.length)]) ?_ ?_
      · simp [wF_ret hlo, cut_none, hsub, hy1, hy2, noVws_ints, hkadd, hacc]
      rintro σ rfl
      refine wS_mono (Q := fun f σ => f = .nx ∧ σ = [some (tabD t), some c, some (.lst .own ((acc ++ [(r.1, seg)]).map rowD)), some (.int (at_ - r.2.length : Nat)), some (rowD r), some (.int r.2.length)]) (by simp [hsub]) ?_
      rintro f σ ⟨rfl, rfl⟩
      refine ⟨acc ++ [(r.1, seg)], at_ - r.2.length, _, _, fun r' m => hm _ (List.mem_cons_of_mem _ m), by omega, by omega, by simp at hlen ⊢; omega, ?_, rfl⟩
      rw [← e]
      simp only [fillT, List.length_take, Nat.min_eq_left hle]
      simp only [List.append_assoc, List.cons_append, List.nil_append]
      congr 1
      rw [List.take_take, Nat.min_eq_left (by omega), List.drop_take, hseg]
      congr 3
      omega
  · rintro σ ⟨o3, o4, o5, rfl⟩
    have hv : views ((fillT t ls).map rowD) = (fillT t ls).map rowD := views_of noOwns_rows
    have ht : fTuple (.lst .vw ((fillT t ls).map rowD)) = some (tabD (fillT t ls)) := fTuple_lst noOwns_rows
    simp [hv, ht]
theorem ret_standardized (t : T) (hb : Bd t) : ret fn_standardized [tabD t] = some (tabD (fillT t (rkL (rwd t)))) := by
  apply ret_of
  unfold fn_standardized m_standardized
  have h1 := ret_row_word t hb
  have h2 := ret_ranks (rwd t) (rwd_len hb)
  have h3 := ret_filled t hb (.tup ((rkL (rwd t)).map .int)) (rkL (rwd t)) (.inl rfl) (by rw [← rwd_lets]; simp [rkL])
  simp [wF_ret h1, wF_ret h2, wF_ret h3]
end K80
namespace K80
open PySem PySem.Spec PyProof.Rows L2 Py
abbrev Rs := List (List D)
def put1C (R : Rs) (b : Bx) : Rs := R.set b.1 ((R.getD b.1 []).set b.2.1 (.int b.2.2))
def putC (R : Rs) (bs : List Bx) : Rs := bs.foldl put1C R
def Val (R : Rs) (b : Bx) : Prop := b.1 < R.length ∧ b.2.1 < (R.getD b.1 []).length
theorem put1C_len (R : Rs) (b : Bx) : (put1C R b).length = R.length := by simp [put1C]
theorem put1C_row (R : Rs) (b : Bx) (k : Nat) : ((put1C R b).getD k []).length = (R.getD k []).length := by
  unfold put1C
  by_cases h : b.1 = k
  · subst h
    by_cases h2 : b.1 < R.length
    · simp [h2]
    · rw [List.set_eq_of_length_le (by omega)]
  · simp [List.getD_eq_getElem?_getD, List.getElem?_set_ne h]
theorem Val.put {R : Rs} {b c : Bx} (h : Val R c) : Val (put1C R b) c := ⟨by rw [put1C_len]; exact h.1, by rw [put1C_row]; exact h.2⟩
def ownR (row : List D) : D := .lst .own row
def rowsD (R : Rs) : D := .lst .own (R.map ownR)
def frzR (row : List D) : D := .lst .frz row
theorem grs_put {R : Rs} {b : Bx} (h : ∀ row ∈ R, Grs row) : ∀ row ∈ put1C R b, Grs row := by
  intro row m
  unfold put1C at m
  rcases List.mem_or_eq_of_mem_set m with m | e
  · exact h row m
  · subst e
    have h0 : Grs (R.getD b.1 []) := by
      by_cases q : b.1 < R.length
      · have : R.getD b.1 [] = R[b.1] := by simp [q]
        rw [this]
        exact h _ (List.getElem_mem q)
      · have : R.getD b.1 [] = [] := by simp [List.getD_eq_getElem?_getD, List.getElem?_eq_none (by omega : R.length ≤ b.1)]
        rw [this]
        exact ⟨rfl, rfl⟩
    refine grs_iff.mpr fun d md => ?_
    rcases List.mem_or_eq_of_mem_set md with md | e
    · exact grs_iff.mp h0 d md
    · subst e
      exact gr_int
theorem ret_put (t : T) (hb : Bd t) (bs : List Bx) (hv : ∀ b ∈ bs, Val (t.map cells) b) : ret fn__law_put [tabD t, .lst .own (bs.map boxD)] = some (.tup ((putC (t.map cells) bs).map .tup)) := by
  apply ret_of
  unfold fn__law_put m__law_put
  rw [wF_D]
  have hbt := hb.1
  have hno : ∀ R : Rs, noOwns (R.map ownR) = true ∨ (noOwns (R.map ownR) = false) := fun R => by cases noOwns (R.map ownR) <;> simp
  refine wS_cut (fun σ => σ = [some (tabD t), some (.lst .own (bs.map boxD)), some (rowsD (t.map cells)), none, none, none, none]) ?_ ?_
  · simp
    refine wI_tabD rfl ?_
    refine wC_map t rowD (fun r => ownR (cells r)) (fun r hr => ?_) fun σ' hw => ?_
    · have : fList (rowD r) = some (ownR (cells r)) := rfl
      have h2 : (ownR (cells r)).noVw = true := (grs_cells r).2
      simp [wipeD, this, h2]
    · simp [hw, unwipe_wipe, rowsD]
      omega
  rintro σ rfl
  refine wS_cut (fun σ => ∃ o3 o4 o5 o6, (putC (t.map cells) bs).length = t.length ∧ (∀ row ∈ putC (t.map cells) bs, Grs row) ∧ σ = [some (tabD t), some (.lst .own (bs.map boxD)), some (rowsD (putC (t.map cells) bs)), o3, o4, o5, o6]) ?_ ?_
  · rw [wS_for, wI_take]
    refine ⟨_, rfl, ?_⟩
    simp only [noOwns_box, if_true, List.set_cons_succ, List.set_cons_zero]
    refine wL_typ (P := fun (l : List Bx) σ => ∃ (R : Rs) (o3 o4 o5 o6 : Option D), (∀ b ∈ l, Val R b) ∧ R.length = t.length ∧ (∀ row ∈ R, Grs row) ∧ putC R l = putC (t.map cells) bs ∧ σ = [some (tabD t), none, some (rowsD R), o3, o4, o5, o6]) boxD ?_ ?_ ⟨t.map cells, none, none, none, none, hv, by simp, fun row m => ?_, rfl, rfl⟩
    · rintro σ ⟨R, o3, o4, o5, o6, _, hl, hg, e, rfl⟩
      have e : R = putC (t.map cells) bs := e
      exact ⟨rfl, o3, o4, o5, o6, by rw [← e]; exact hl, by rw [← e]; exact hg, by rw [← e]; rfl⟩
    · rintro x l σ ⟨R, o3, o4, o5, o6, hva, hl, hg, e, rfl⟩
      obtain ⟨v1, v2⟩ := hva x List.mem_cons_self
      have hrow : R.getD x.1 [] = R[x.1] := by simp [v1]
      rw [hrow] at v2
      have e1 : (R.map ownR)[x.1]? = some (ownR R[x.1]) := by simp [v1]
      have hix : ixN R.length (x.1 : Int) = some x.1 := ixN_nat v1
      have hix2 : ixN R[x.1].length (x.2.1 : Int) = some x.2.1 := ixN_nat v2
      have hd : dAt (rowsD R) [x.1] = some (ownR R[x.1]) := by rw [rowsD, dAt_cons e1]; exact dAt_nil
      have hp : ∀ z : D, dPut (rowsD R) [x.1] z = .lst .own ((R.map ownR).set x.1 z) := fun z => by rw [rowsD, dPut_cons e1, dPut_nil]
      have e2 : (R.map ownR).set x.1 (.lst .own (R[x.1].set x.2.1 (.int x.2.2))) = (put1C R x).map ownR := by
        unfold put1C
        rw [hrow, List.map_set]
        rfl
      have hG : ∀ {Q : Sg → Prop}, Q [some (tabD t), none, some (rowsD R), o3, some (.int x.1), some (.int x.2.1), some (.int x.2.2)] → wG (gTupM 3 (gsConsM (gNameM 4) (gsConsM (gNameM 5) (gsConsM (gNameM 6) gsNilM)))) (boxD x) [some (tabD t), none, some (rowsD R), o3, o4, o5, o6] Q := by
        intro Q h
        simp [boxD, wGs_cc, -wGs_cons]
        exact h
      refine hG ?_
      refine wS_mono (Q := fun f σ => f = .nx ∧ σ = [some (tabD t), none, some (rowsD (put1C R x)), o3, some (.int x.1), some (.int x.2.1), some (.int x.2.2)]) ?_ ?_
      · have e3 : rowsD R = .lst .own (R.map ownR) := rfl
        have e4 : ownR R[x.1] = .lst .own R[x.1] := rfl
        have hle : (R.map ownR).length = R.length := List.length_map _
        simp [e3, hix]
        rw [← e3, hd, e4]
        simp [hix2, hp, e2]
        rfl
      · rintro f σ ⟨rfl, rfl⟩
        exact ⟨put1C R x, o3, _, _, _, fun b m => (hva b (List.mem_cons_of_mem _ m)).put, by rw [put1C_len]; exact hl, grs_put hg, e, rfl⟩
    · obtain ⟨r, _, rfl⟩ := List.mem_map.mp m
      exact grs_cells r
  · rintro σ ⟨o3, o4, o5, o6, hl, hg, rfl⟩
    generalize putC (t.map cells) bs = R at hl hg ⊢
    have hfr : frzs (R.map ownR) = R.map frzR := by
      rw [frzs_map, List.map_map]
      apply List.map_congr_left
      intro row m
      show D.lst .frz (frzs row) = _
      rw [frzs_of (hg row m).1]
      rfl
    have hout : noOwns (R.map D.tup) = true := by
      rw [noOwns_all]
      refine List.all_eq_true.mpr fun d m => ?_
      obtain ⟨row, hm, rfl⟩ := List.mem_map.mp m
      exact (hg row hm).1
    simp only [wS_ret, wE_A, wA_cons, wA_nil, wE_Lc]
    rw [wI_take]
    refine ⟨_, rfl, ?_⟩
    have hturn : ∀ (σ : Sg) (hσ : 3 < σ.length) (QA : List D → Sg → Prop), (∀ σ', wipeD σ' [3] = wipeD σ [3] → QA (R.map D.tup) σ') → wC (gNameM 3) tYesM (mUp (mA (k1 fTuple) (aCons (mVar 3) aNil))) [3] (R.map frzR) σ QA := fun σ hσ QA hQ => by
      refine wC_map R frzR D.tup (fun row m => ?_) hQ
      have h1 : fTuple (frzR row) = some (.tup row) := fTuple_lst (hg row m).1
      have h2 : (frzR row).view = frzR row := rfl
      have h3 : noVws row = true := (hg row m).2
      simp [wipeD, hσ, h1, h2, h3]
    by_cases hn : noOwns (R.map ownR) = true
    · have : R = [] := by
        cases R with
        | nil => rfl
        | cons a R => simp [ownR] at hn
      subst this
      simp [rowsD]
      rfl
    · simp [rowsD, hn, hfr]
      refine hturn _ ?_ _ fun σ' w => ?_
      · simp
      · simp [w, unwipe_wipe, fTuple_lst hout]
        omega
end K80
namespace K80
open PySem PySem.Spec PyProof.Rows L2 Py
theorem mem_rowB {k j : Nat} {l : Int} {s : Nat} {r : Nat × List Int} : (k, j, l) ∈ rowB s r ↔ k = s ∧ r.1 ≤ j ∧ r.2[j - r.1]? = some l := by
  unfold rowB
  simp only [List.mem_map, List.mem_range, Prod.mk.injEq]
  constructor
  · rintro ⟨i, hi, rfl, rfl, rfl⟩
    refine ⟨rfl, by omega, ?_⟩
    simp [hi]
  · rintro ⟨rfl, h1, h2⟩
    obtain ⟨h3, h4⟩ := List.getElem?_eq_some_iff.mp h2
    exact ⟨j - r.1, h3, rfl, by omega, by simp [h3, h4]⟩
theorem mem_boxesF {k j : Nat} {l : Int} : ∀ {t : T} {s : Nat}, (k, j, l) ∈ boxesF s t ↔ s ≤ k ∧ ∃ r, t[k - s]? = some r ∧ r.1 ≤ j ∧ r.2[j - r.1]? = some l
  | [], s => by simp [boxesF]
  | r :: t, s => by
    simp only [boxesF, List.mem_append, mem_rowB, mem_boxesF (t := t)]
    constructor
    · rintro (⟨rfl, h1, h2⟩ | ⟨h0, r', h1, h2⟩)
      · exact ⟨Nat.le_refl _, r, by simp, h1, h2⟩
      · refine ⟨by omega, r', ?_, h2⟩
        have : k - s = (k - (s + 1)) + 1 := by omega
        rw [this]
        simpa using h1
    · rintro ⟨h0, r', h1, h2⟩
      by_cases e : k = s
      · subst e
        simp at h1
        subst h1
        exact .inl ⟨rfl, h2⟩
      · refine .inr ⟨by omega, r', ?_, h2⟩
        have : k - s = (k - (s + 1)) + 1 := by omega
        rw [this] at h1
        simpa using h1
theorem mem_boxes {k j : Nat} {l : Int} {t : T} : (k, j, l) ∈ boxes t ↔ ∃ r, t[k]? = some r ∧ r.1 ≤ j ∧ r.2[j - r.1]? = some l := by
  unfold boxes
  rw [mem_boxesF]
  simp
def get2 (R : Rs) (k j : Nat) : Option D := (R[k]?).bind fun row => row[j]?
theorem get2_put {R : Rs} {b : Bx} (hv : Val R b) (k j : Nat) : get2 (put1C R b) k j = if b.1 = k ∧ b.2.1 = j then some (.int b.2.2) else get2 R k j := by
  obtain ⟨v1, v2⟩ := hv
  have hrow : R.getD b.1 [] = R[b.1] := by simp [v1]
  rw [hrow] at v2
  unfold get2 put1C
  rw [hrow]
  by_cases h : b.1 = k
  · subst h
    rw [List.getElem?_set_self v1, List.getElem?_eq_getElem v1]
    simp only [Option.bind_some, true_and]
    by_cases h2 : b.2.1 = j
    · subst h2
      rw [List.getElem?_set_self v2, if_pos rfl]
    · rw [List.getElem?_set_ne h2, if_neg h2]
  · rw [List.getElem?_set_ne h, if_neg (fun z => h z.1)]
theorem rs_ext {R S : Rs} (h1 : R.length = S.length) (h2 : ∀ k, (R.getD k []).length = (S.getD k []).length) (h : ∀ k j, get2 R k j = get2 S k j) : R = S := by
  apply List.ext_getElem h1
  intro k p1 p2
  have e1 : R.getD k [] = R[k] := by simp [p1]
  have e2 : S.getD k [] = S[k] := by simp [p2]
  have h2 := h2 k
  rw [e1, e2] at h2
  apply List.ext_getElem h2
  intro j q1 q2
  have := h k j
  unfold get2 at this
  rw [List.getElem?_eq_getElem p1, List.getElem?_eq_getElem p2] at this
  simp only [Option.bind_some] at this
  rw [List.getElem?_eq_getElem q1, List.getElem?_eq_getElem q2] at this
  exact Option.some.inj this
theorem get2_cells {t : T} {k j : Nat} {r : Nat × List Int} (h : t[k]? = some r) : get2 (t.map cells) k j = (cells r)[j]? := by
  unfold get2
  rw [List.getElem?_map, h]
  rfl
theorem get2_box {t : T} {b : Bx} (h : b ∈ boxes t) : get2 (t.map cells) b.1 b.2.1 = some (.int b.2.2) := by
  obtain ⟨k, j, l⟩ := b
  obtain ⟨r, h1, h2, h3⟩ := mem_boxes.mp h
  rw [get2_cells h1, cell_ge h2, h3]
  rfl
theorem getD_cells {t : T} {k : Nat} {r : Nat × List Int} (h : t[k]? = some r) : (t.map cells).getD k [] = cells r := by
  rw [List.getD_eq_getElem?_getD, List.getElem?_map, h]
  rfl
theorem val_box {t : T} {b : Bx} (h : b ∈ boxes t) : Val (t.map cells) b := by
  obtain ⟨k, j, l⟩ := b
  obtain ⟨r, h1, h2, h3⟩ := mem_boxes.mp h
  have hk := (List.getElem?_eq_some_iff.mp h1).1
  have hj := (List.getElem?_eq_some_iff.mp h3).1
  refine ⟨by simpa using hk, ?_⟩
  rw [getD_cells h1, cells_len]
  unfold wid
  simp only
  omega
theorem put_go {t' : T} : ∀ (bs : List Bx) (R : Rs), R.length = t'.length → (∀ k, (R.getD k []).length = ((t'.map cells).getD k []).length) → (∀ b ∈ bs, b ∈ boxes t') → (∀ k j, get2 R k j = get2 (t'.map cells) k j ∨ ∃ l, (k, j, l) ∈ bs) → putC R bs = t'.map cells
  | [], R, h1, h2, _, h4 => rs_ext (R := R) (by simpa using h1) h2 fun k j => by
    rcases h4 k j with h | ⟨l, h⟩
    · exact h
    · cases h
  | b :: bs, R, h1, h2, h3, h4 => by
    have hb := h3 b List.mem_cons_self
    have hv : Val R b := by
      have := val_box hb
      refine ⟨?_, ?_⟩
      · have := this.1
        rw [h1]
        simpa using this
      · rw [h2]
        exact this.2
    show putC (put1C R b) bs = _
    refine put_go bs (put1C R b) (by rw [put1C_len]; exact h1) (fun k => by rw [put1C_row]; exact h2 k) (fun c m => h3 c (List.mem_cons_of_mem _ m)) fun k j => ?_
    rw [get2_put hv]
    by_cases e : b.1 = k ∧ b.2.1 = j
    · rw [if_pos e, ← e.1, ← e.2]
      exact .inl (get2_box hb).symm
    · rw [if_neg e]
      rcases h4 k j with h | ⟨l, h⟩
      · exact .inl h
      · rcases List.mem_cons.mp h with h | h
        · subst h
          exact absurd ⟨rfl, rfl⟩ e
        · exact .inr ⟨l, h⟩
theorem put_eq {t t' : T} {bs : List Bx} (hl : t'.map (fun r => (r.1, r.2.length)) = t.map (fun r => (r.1, r.2.length))) (hb : ∀ b ∈ bs, b ∈ boxes t') (hr : ∀ b ∈ boxes t', b ∈ bs ∨ b ∈ boxes t) : putC (t.map cells) bs = t'.map cells := by
  have hlen : t'.length = t.length := by simpa using congrArg List.length hl
  have hat : ∀ k : Nat, (t'[k]?).map (fun r => (r.1, r.2.length)) = (t[k]?).map (fun r => (r.1, r.2.length)) := fun k => by
    rw [← List.getElem?_map, ← List.getElem?_map, hl]
  refine put_go bs (t.map cells) (by simpa using hlen.symm) (fun k => ?_) hb fun k j => ?_
  · have := hat k
    rcases h1 : t'[k]? with _ | r' <;> rcases h2 : t[k]? with _ | r <;> rw [h1, h2] at this
    · simp [List.getD_eq_getElem?_getD, h1, h2]
    · cases this
    · cases this
    · rw [getD_cells h1, getD_cells h2, cells_len, cells_len]
      simp only [Option.map_some, Option.some.injEq, Prod.mk.injEq] at this
      unfold wid
      omega
  · have := hat k
    rcases h1 : t'[k]? with _ | r' <;> rcases h2 : t[k]? with _ | r <;> rw [h1, h2] at this
    · left
      simp [get2, h1, h2]
    · cases this
    · cases this
    · simp only [Option.map_some, Option.some.injEq, Prod.mk.injEq] at this
      rw [get2_cells h1, get2_cells h2]
      by_cases hj : j < r.1
      · left
        rw [cell_lt hj, cell_lt (by omega)]
      · rw [cell_ge (by omega : r.1 ≤ j), cell_ge (by omega : r'.1 ≤ j), this.1]
        rcases h3 : r'.2[j - r.1]? with _ | l
        · left
          have : r.2.length ≤ j - r.1 := by
            have := List.getElem?_eq_none_iff.mp h3
            omega
          rw [List.getElem?_eq_none this]
        · rcases hr (k, j, l) (mem_boxes.mpr ⟨r', h1, by omega, by rw [this.1]; exact h3⟩) with h | h
          · exact .inr ⟨l, h⟩
          · left
            obtain ⟨r2, h4, h5, h6⟩ := mem_boxes.mp h
            rw [h2] at h4
            cases h4
            rw [h6]
/-- letters changed one by one -/
def mapT (f : Int → Int) (t : T) : T := t.map fun r => (r.1, r.2.map f)
theorem mapT_shape (f : Int → Int) (t : T) : (mapT f t).map (fun r => (r.1, r.2.length)) = t.map (fun r => (r.1, r.2.length)) := by
  unfold mapT
  simp
theorem boxes_mapT (f : Int → Int) (t : T) : boxes (mapT f t) = (boxes t).map fun b => (b.1, b.2.1, f b.2.2) := by
  unfold boxes
  have go : ∀ (t : T) (s : Nat), boxesF s (mapT f t) = (boxesF s t).map fun b => (b.1, b.2.1, f b.2.2) := by
    intro t
    induction t with
    | nil => intro s; rfl
    | cons r t ih =>
      intro s
      have e : mapT f (r :: t) = (r.1, r.2.map f) :: mapT f t := rfl
      rw [e]
      simp only [boxesF, List.map_append, ih]
      congr 1
      unfold rowB
      rw [List.map_map]
      simp only [List.length_map]
      apply List.map_congr_left
      intro i hi
      have := List.mem_range.mp hi
      simp [this]
  exact go t 0
theorem boxesR_fill : ∀ {t : T} {k : Nat} {ls : List Int}, ls.length = lets t → boxesR k (fillT t ls) = List.zipWith (fun b l => (b.1, b.2.1, l)) (boxesR k t) ls
  | [], k, ls, h => rfl
  | r :: t, k, ls, h => by
    have h2 : ls.length = r.2.length + lets t := by rw [h]; simp [lets]
    have hl1 : (ls.take (ls.length - r.2.length)).length = lets t := by simp; omega
    have hbl : (boxesR (k + 1) t).length = lets t := by
      rw [boxesR_perm.length_eq, boxesF_len]
      rfl
    simp only [fillT, boxesR]
    rw [boxesR_fill hl1]
    have e : ls = ls.take (ls.length - r.2.length) ++ ls.drop (ls.length - r.2.length) := (List.take_append_drop _ _).symm
    conv => rhs; rw [e]
    rw [List.zipWith_append (by rw [hbl, hl1])]
    congr 1
    have hd : (ls.drop (ls.length - r.2.length)).length = r.2.length := by simp; omega
    generalize ls.drop (ls.length - r.2.length) = m at hd
    unfold rowB
    apply List.ext_getElem
    · simp [hd]
    · intro i p1 p2
      simp at p1
      simp [p1]
theorem fill_shape : ∀ {t : T} {ls : List Int}, ls.length = lets t → (fillT t ls).map (fun r => (r.1, r.2.length)) = t.map (fun r => (r.1, r.2.length))
  | [], _, _ => rfl
  | r :: t, ls, h => by
    have h2 : ls.length = r.2.length + lets t := by rw [h]; simp [lets]
    simp only [fillT, List.map_cons]
    rw [fill_shape (by simp; omega)]
    simp
    omega
theorem fill_map (f : Int → Int) : ∀ t : T, fillT t ((rwd t).map f) = mapT f t
  | [] => rfl
  | r :: t => by
    have e : (rwd (r :: t)).map f = (rwd t).map f ++ r.2.map f := by simp [rwd]
    rw [e]
    simp only [fillT]
    have h1 : ((rwd t).map f ++ r.2.map f).length - r.2.length = ((rwd t).map f).length := by simp
    rw [h1, List.drop_left, List.take_left, fill_map f t]
    rfl
end K80
namespace K80
open PySem PySem.Spec PyProof.Rows L2 Py
def SeqF (c : D) (w : List Int) : Prop := c = .tup (w.map .int) ∨ c = .lst .own (w.map .int) ∨ c = .lst .frz (w.map .int)
theorem SeqF.facts {c : D} {w : List Int} (h : SeqF c w) : fLen c.view = some (.int w.length) ∧ (∀ i, kIx c.view (.int i) = atI (w.map .int) i) ∧ c.frz.items = some (w.map .int) ∧ SeqF c.frz w ∧ ∀ k : Nat, k ≤ w.length → ∃ y, kSl c.view none (some (k : Int)) = some y ∧ y.noVw = true ∧ y.items = some ((w.take k).map .int) := by
  have hc : ∀ k : Nat, k ≤ w.length → cutD (w.map D.int) none (some (k : Int)) = (w.take k).map D.int := fun k hk => by
    rw [cutD_to (by simpa using hk), List.map_take]
  rcases h with rfl | rfl | rfl
  · refine ⟨by simp, fun i => rfl, rfl, .inl rfl, fun k hk => ⟨_, kSl_tup, ?_, ?_⟩⟩
    · rw [hc k hk]; exact noVws_ints _
    · rw [hc k hk]; rfl
  · refine ⟨by simp [views_of (noOwns_ints w)], fun i => ?_, ?_, .inr (.inr ?_), fun k hk => ⟨.lst .own (cutD (w.map D.int) none (some (k : Int))), ?_, ?_, ?_⟩⟩
    · rw [view_own, views_of (noOwns_ints w)]; rfl
    · rw [frz_own, frzs_of (noOwns_ints w)]; rfl
    · rw [frz_own, frzs_of (noOwns_ints w)]
    · rw [view_own, views_of (noOwns_ints w)]; rfl
    · rw [hc k hk]; exact noVws_ints _
    · rw [hc k hk, items_own, frzs_of (noOwns_ints _)]
  · refine ⟨by simp, fun i => rfl, rfl, .inr (.inr rfl), fun k hk => ⟨_, kSl_lst, ?_, ?_⟩⟩
    · rw [hc k hk]; exact noVws_ints _
    · rw [hc k hk, items_own, frzs_of (noOwns_ints _)]
theorem ret_law_ranksL (w : List Int) (c0 : D) (hc0 : SeqF c0 w) (h : w.length ≤ 1000000) : ret fn__law_ranks [c0] = some (.tup ((rkL w).map .int)) := by
  apply ret_of
  unfold fn__law_ranks m__law_ranks
  rw [wF_D]
  have hok : okR (w.length : Int) = true := okR_len h
  refine wS_cut (fun σ => σ = [some c0, some (.lst .own []), none, none, none]) (by simp) ?_
  rintro σ rfl
  refine wS_cut (fun σ => ∃ c o1 o2 o3, σ = [some c, some (.lst .own ((rkL w).map .int)), o1, o2, o3]) ?_ ?_
  · obtain ⟨f1, _⟩ := hc0.facts
    rw [wS_for, wI_rng1]
    simp [f1, hok]
    refine wL_rng (P := fun k σ => ∃ c o1 o2 o3, SeqF c w ∧ σ = [some c, some (.lst .own (((List.range k).map (rkAt w)).map .int)), o1, o2, o3]) ⟨c0, none, none, none, hc0, rfl⟩ ?_ ?_
    · rintro σ ⟨c, o1, o2, o3, _, rfl⟩
      exact ⟨rfl, c, o1, o2, o3, rfl⟩
    · rintro k σ hk ⟨c, o1, o2, o3, hc, rfl⟩
      have ex : atI (w.map D.int) (k : Int) = some (.int w[k]) := atI_at rfl (by simp [hk])
      have hg : w.getD k 0 = w[k] := by simp [hk]
      obtain ⟨f1, f2, f3, f4, f5⟩ := hc.facts
      obtain ⟨g1, g2, g3, g4, g5⟩ := f4.facts
      obtain ⟨y, y1, y2, y3⟩ := g5 k (by omega)
      refine wG_name.mpr ⟨by simp, ?_⟩
      simp only [List.set_cons_succ, List.set_cons_zero]
      refine wS_cut (fun σ => σ = [some c.frz, some (.lst .own (((List.range k).map (rkAt w)).map .int)), some (.int k), some (.int (w.countP (fun x => decide (x < w[k])) : Nat)), o3]) ?_ ?_
      · simp [f3]
        refine wC_typ w D.int (fun x => decide (x < w[k])) (fun _ => .int 1) (fun x hx => ?_) fun σ' hw => ?_
        · by_cases q : x < w[k] <;> simp [wipeD, g2, ex, q]
        · have hl := List.length_filter_le (fun x => decide (x < w[k])) w
          simp [hw, unwipe_wipe, List.countP_eq_length_filter]
          omega
      rintro σ rfl
      refine wS_mono (Q := fun f σ => f = .nx ∧ σ = [some c.frz, some (.lst .own (((List.range (k + 1)).map (rkAt w)).map .int)), some (.int k), some (.int (w.countP (fun x => decide (x < w[k])) : Nat)), o3]) ?_ ?_
      · simp [y1, y2, y3]
        rw [← List.map_take]
        refine wC_typ (w.take k) D.int (fun x => x == w[k]) (fun _ => .int 1) (fun x hx => ?_) fun σ2 hw2 => ?_
        · by_cases q : x = w[k] <;> simp [wipeD, g2, ex, q]
        · have hl2 := List.length_filter_le (fun x => x == w[k]) (w.take k)
          simp only [List.length_take] at hl2
          simp [hw2, unwipe_wipe]
          refine ⟨by omega, by omega, ?_⟩
          rw [List.range_succ, List.map_append]
          simp [rkAt, List.getElem?_eq_getElem hk, List.countP_eq_length_filter]
      · rintro f σ ⟨rfl, rfl⟩
        exact ⟨c.frz, _, _, _, f4, rfl⟩
  · rintro σ ⟨c, o1, o2, o3, rfl⟩
    have hv : views ((rkL w).map .int) = (rkL w).map .int := views_of (noOwns_ints _)
    have ht : fTuple (.lst .vw ((rkL w).map .int)) = some (.tup ((rkL w).map .int)) := fTuple_lst (noOwns_ints _)
    simp [hv, ht, noVws_ints]
theorem ret_ranked (t : T) (hb : Bd t) : ret fn__law_ranked [tabD t] = some (tabD (fillT t (rkL (rwd t)))) := by
  apply ret_of
  unfold fn__law_ranked m__law_ranked
  rw [wF_D]
  have hB := ret_boxes t hb
  have hbl := boxes_len hb
  have hrl : (boxesR 0 t).length ≤ 1000000 := by rw [boxesR_perm.length_eq]; exact hbl
  have hwl := rwd_len hb
  have hlets : (rkL (rwd t)).length = lets t := by rw [← rwd_lets]; simp [rkL]
  obtain ⟨KS, hKS⟩ : ∃ KS, KS = ((boxesR 0 t).map (keyL true)).map rowL := ⟨_, rfl⟩
  have hsort : fSort (.lst .own (((boxes t).map (keyL true)).map rowL)) = some (.lst .own KS) := hKS ▸ fSort_rows (fun l m => by
    obtain ⟨x, _, rfl⟩ := List.mem_map.mp m
    exact keyL_ne true x) (by simp; omega) (boxesR_perm.map _) (sorted_row t)
  refine wS_cut (fun σ => σ = [some (tabD t), some (.lst .own KS), none, none, none, none, none]) ?_ ?_
  · simp [wF_ret hB]
    have hfz : frzs ((boxes t).map boxD) = (boxes t).map boxD := frzs_of (noOwns_box _)
    rw [hfz]
    refine wC_map (boxes t) boxD (fun x => rowL (keyL true x)) (fun x hx => ?_) fun σ' hw => ?_
    · simp [wipeD, boxD, wGs_cc, -wGs_cons, rowL, keyL]
    · have e : (boxes t).map (fun x => rowL (keyL true x)) = ((boxes t).map (keyL true)).map rowL := by simp
      rw [e, hsort]
      simp [hw, unwipe_wipe]
      omega
  rintro σ rfl
  have hro : noOwns KS = true := hKS ▸ noOwns_rowL ((boxesR 0 t).map (keyL true))
  have hKl : KS.length = (boxesR 0 t).length := by rw [hKS]; simp
  refine wS_cut (fun σ => σ = [some (tabD t), some (.lst .own KS), none, none, none, some (.tup ((rkL (rwd t)).map .int)), none]) ?_ ?_
  · have h2 := ret_law_ranksL (rwd t) (.lst .own ((rwd t).map .int)) (.inr (.inl rfl)) hwl
    simp only [wS_set, wE_Call, wA_cons, wA_nil, wE_Lc]
    rw [wI_take]
    refine ⟨_, rfl, ?_⟩
    simp only [hro, if_true, List.set_cons_succ, List.set_cons_zero]
    have hQ : ∀ {g : MG} {tt : MT} {a : M} {vs : List Nat} {σ : Sg} {QA : List D → Sg → Prop}, wC g tt a vs ((boxesR 0 t).map (rowL ∘ keyL true)) σ QA → wC g tt a vs KS σ QA := fun h => by rw [hKS, List.map_map]; exact h
    refine hQ ?_
    refine wC_map (boxesR 0 t) (rowL ∘ keyL true) (fun x => .int x.2.2) (fun x hx => ?_) fun σ' hw => ?_
    · have h1 : (rowL (keyL true x)).view = rowL (keyL true x) := rfl
      simp [wipeD, Function.comp, h1, rowL_last]
    · have e : (boxesR 0 t).map (fun x => D.int x.2.2) = (rwd t).map .int := by rw [← boxesR_let (t := t) (k := 0), List.map_map]; rfl
      rw [e]
      simp [hw, unwipe_wipe, wF_ret h2]
      omega
  rintro σ rfl
  have hshape := fill_shape hlets
  have hput := ret_put t hb (boxesR 0 (fillT t (rkL (rwd t)))) (fun b m => by
    have hm := boxesR_perm.mem_iff.mp m
    have v := val_box hm
    obtain ⟨k, j, l⟩ := b
    obtain ⟨r', h1, h2, h3⟩ := mem_boxes.mp hm
    have hat : (t[k]?).map (fun r => (r.1, r.2.length)) = some (r'.1, r'.2.length) := by
      rw [← List.getElem?_map, ← hshape, List.getElem?_map, h1]
      rfl
    obtain ⟨r, h4, h5⟩ := Option.map_eq_some_iff.mp hat
    have hk := (List.getElem?_eq_some_iff.mp h4).1
    have hj := (List.getElem?_eq_some_iff.mp h3).1
    refine ⟨by simpa using hk, ?_⟩
    rw [getD_cells h4, cells_len]
    simp only [Prod.mk.injEq] at h5
    unfold wid
    simp only
    omega)
  rw [put_eq hshape (fun b m => boxesR_perm.mem_iff.mp m) (fun b m => .inl (boxesR_perm.mem_iff.mpr m))] at hput
  have hout : (((fillT t (rkL (rwd t))).map cells).map D.tup) = (fillT t (rkL (rwd t))).map rowD := by rw [List.map_map]; rfl
  have hok : okR ((boxesR 0 t).length : Int) = true := okR_len hrl
  have hvs : views KS = KS := views_of hro
  simp only [wS_ret, wE_Call, wA_cons, wA_nil, wE_lend, wE_Lc, wI_rng1, wE_Up, wE_A, wE_var, List.getElem?_cons_succ, List.getElem?_cons_zero, Option.some.injEq, exists_eq_left', noOwn_tabD, if_true, view_own, hvs, k1_one, fLen_lst, noVw_int, D.int.injEq, hKl, hok, true_and, Int.toNat_natCast]
  rw [up_range]
  refine wC_map (List.range (boxesR 0 t).length) (fun i => .int (0 + (i : Nat))) (fun i => boxD (((boxesR 0 (fillT t (rkL (rwd t)))).getD i (0, 0, 0)))) (fun i hi => ?_) fun σ' hw => ?_
  · have hi := List.mem_range.mp hi
    have hrk : (rkL (rwd t)).length = (boxesR 0 t).length := by rw [hlets, boxesR_perm.length_eq, boxesF_len]; rfl
    have e1 : atI KS (i : Int) = some (rowL (keyL true (boxesR 0 t)[i])) := atI_at rfl (by rw [hKS]; simp [hi])
    have e2 : atI ((rkL (rwd t)).map D.int) (i : Int) = some (.int ((rkL (rwd t))[i]'(by omega))) := atI_at rfl (by simp [hrk, hi])
    have k0 : kIx (rowL (keyL true (boxesR 0 t)[i])) (.int 0) = some (.int (0 - ((boxesR 0 t)[i]).1)) := rfl
    have k1 : kIx (rowL (keyL true (boxesR 0 t)[i])) (.int 1) = some (.int ((boxesR 0 t)[i]).2.1) := rfl
    have e3 : (boxesR 0 (fillT t (rkL (rwd t)))).getD i (0, 0, 0) = (((boxesR 0 t)[i]).1, ((boxesR 0 t)[i]).2.1, (rkL (rwd t))[i]'(by omega)) := by
      rw [boxesR_fill hlets]
      simp [hi, hrk]
    rw [e3]
    simp [wipeD, hvs, e1, e2, k0, k1, boxD]
  · have e : (List.range (boxesR 0 t).length).map (fun i => boxD ((boxesR 0 (fillT t (rkL (rwd t)))).getD i (0, 0, 0))) = (boxesR 0 (fillT t (rkL (rwd t)))).map boxD := by
      have hln : (boxesR 0 (fillT t (rkL (rwd t)))).length = (boxesR 0 t).length := by
        rw [boxesR_fill hlets, List.length_zipWith, hlets, boxesR_perm.length_eq, boxesF_len]
        exact Nat.min_self _
      apply List.ext_getElem
      · simp [hln]
      · intro i p1 p2
        simp at p1
        have : i < (boxesR 0 (fillT t (rkL (rwd t)))).length := by omega
        simp [this]
    rw [e]
    simp [hw, unwipe_wipe, wF_ret hput, hout]
    refine ⟨?_, rfl⟩
    rw [boxesR_fill hlets, List.length_zipWith]
    omega
end K80
namespace K80
open PySem PySem.Spec PyProof.Rows L2 Py
theorem Fin_tabD {t : T} (hb : Bd t) : Fin (tabD t) := by
  refine ⟨grs_rows t, by have := hb.1; simp; omega, fun r m => ?_⟩
  obtain ⟨r, hr, rfl⟩ := List.mem_map.mp m
  have := hb.row hr
  show (cells r).length ≤ 1000000
  rw [cells_len]
  omega
theorem fit_rowD (r : Nat × List Int) {n : Nat} : (rowD r).fit (n + 1) = true := by
  show fits n (cells r) = true
  refine fits_all fun y m => ?_
  unfold cells at m
  rcases List.mem_append.mp m with m | m
  · rw [(List.mem_replicate.mp m).2]; exact fit_non
  · obtain ⟨i, _, rfl⟩ := List.mem_map.mp m; exact fit_int
theorem fit_tabD (t : T) : (tabD t).fit 60 = true := by
  show fits 59 (t.map rowD) = true
  refine fits_all fun y m => ?_
  obtain ⟨r, _, rfl⟩ := List.mem_map.mp m
  exact fit_rowD r (n := 58)
theorem kEq_tab (a b : T) : kEq (tabD a) (tabD b) = some (.bl ((tabD a).deq (tabD b))) := by rw [kEq, if_pos ⟨fit_tabD a, fit_tabD b⟩]
theorem kNe_tab (a b : T) : kNe (tabD a) (tabD b) = some (.bl (!(tabD a).deq (tabD b))) := by rw [kNe, if_pos ⟨fit_tabD a, fit_tabD b⟩]
def stdT (t : T) : T := fillT t (rkL (rwd t))
theorem bd_of {t t' : T} (hb : Bd t) (h : t'.map (fun r => (r.1, r.2.length)) = t.map (fun r => (r.1, r.2.length))) : Bd t' := by
  have hl : t'.length = t.length := by simpa using congrArg List.length h
  refine ⟨by rw [hl]; exact hb.1, fun r hr => ?_⟩
  have : (r.1, r.2.length) ∈ t.map (fun r => (r.1, r.2.length)) := by rw [← h]; exact List.mem_map.mpr ⟨r, hr, rfl⟩
  obtain ⟨r', hr', e⟩ := List.mem_map.mp this
  have := hb.row hr'
  simp only [Prod.mk.injEq] at e
  unfold wid at *
  omega
theorem rkL_len (w : List Int) : (rkL w).length = w.length := by simp [rkL]
theorem std_shape (t : T) : (stdT t).map (fun r => (r.1, r.2.length)) = t.map (fun r => (r.1, r.2.length)) := fill_shape (by rw [rkL_len, rwd_lets])
theorem rwd_fill : ∀ {t : T} {ls : List Int}, ls.length = lets t → rwd (fillT t ls) = ls := fun {t ls} h => by
  rw [← boxesR_let (k := 0), boxesR_fill h]
  apply List.ext_getElem
  · simp [h, boxesR_perm.length_eq, boxesF_len, lets]
  · intro i h1 h2
    simp
theorem rwd_std (t : T) : rwd (stdT t) = rkL (rwd t) := rwd_fill (by rw [rkL_len, rwd_lets])
theorem rk_range (w : List Int) : ∀ x ∈ rkL w, 1 ≤ x ∧ x ≤ w.length := fun x hx => by
  obtain ⟨k, hk, rfl⟩ := List.mem_map.mp hx
  have hk := List.mem_range.mp hk
  obtain ⟨ys, hp, hs⟩ := sorted_prs w
  have hyl : ys.length = w.length := by rw [hp.length_eq]; simp [prs]
  have hm : (w.getD k 0, k) ∈ ys := hp.mem_iff.mpr (List.mem_map.mpr ⟨k, List.mem_range.mpr hk, rfl⟩)
  obtain ⟨i, h1, h2⟩ := List.mem_iff_getElem.mp hm
  have := rank_index hp hs i h1
  rw [h2] at this
  simp only at this
  omega
theorem lets_of {t t' : T} (h : t'.map (fun r => (r.1, r.2.length)) = t.map (fun r => (r.1, r.2.length))) : lets t' = lets t := by
  unfold lets
  have h2 := congrArg (fun l => (l.map Prod.snd).sum) h
  simp only [List.map_map] at h2
  exact h2
/-- letters by their counts -/
def lettersL (cs : List Int) : List Int := (List.range cs.length).flatMap fun k => List.replicate (cs.getD k 0).toNat ((k : Int) + 1)
def pickL (L : List Int) (x : Int) : Int := L.getD (x - 1).toNat 0
def wcT (s : T) (cs : List Int) : T := mapT (pickL (lettersL cs)) s
def wcR (s : T) (cs : List Int) : D := if (lettersL cs).length = lets s then (if (faultR (tabD (wcT s cs))).isN = true ∧ (tabD (stdT (wcT s cs))).deq (tabD s) = true then tabD (wcT s cs) else .non) else .non
def CsOk (cs : List Int) : Prop := cs.length ≤ 1000000 ∧ (∀ c ∈ cs, 0 ≤ c ∧ c ≤ 1000000) ∧ (lettersL cs).length ≤ 1000000
theorem take_letters (cs : List Int) (k : Nat) (hk : k < cs.length) : ((List.range (k + 1)).flatMap fun k => List.replicate (cs.getD k 0).toNat ((k : Int) + 1)) = ((List.range k).flatMap fun k => List.replicate (cs.getD k 0).toNat ((k : Int) + 1)) ++ List.replicate (cs[k]).toNat ((k : Int) + 1) := by
  rw [List.range_succ, List.flatMap_append]
  simp [hk]
theorem letters_pre {cs : List Int} {k : Nat} (hk : k ≤ cs.length) : ((List.range k).flatMap fun k => List.replicate (cs.getD k 0).toNat ((k : Int) + 1)).length ≤ (lettersL cs).length := by
  unfold lettersL
  have : List.range cs.length = List.range k ++ (List.range (cs.length - k)).map (k + ·) := by rw [← List.range_add]; congr 1; omega
  rw [this, List.flatMap_append, List.length_append]
  omega
theorem ret_with_content (s : T) (hb : Bd s) (hr : ∀ x ∈ rwd s, 1 ≤ x ∧ x ≤ lets s) (cs : List Int) (hc : CsOk cs) : ret fn_with_content [tabD s, .tup (cs.map .int)] = some (wcR s cs) := by
  apply ret_of
  unfold fn_with_content m_with_content
  rw [wF_D]
  obtain ⟨c1, c2, c3⟩ := hc
  have hok : okR (cs.length : Int) = true := okR_len c1
  have hrw := ret_row_word s hb
  refine wS_cut (fun σ => σ = [some (tabD s), some (.tup (cs.map .int)), some (.lst .own []), none, none, none, none]) (by simp) ?_
  rintro σ rfl
  refine wS_cut (fun σ => ∃ o3, σ = [some (tabD s), some (.tup (cs.map .int)), some (.lst .own ((lettersL cs).map .int)), o3, none, none, none]) ?_ ?_
  · simp [hok]
    refine wL_rng (P := fun k σ => ∃ o3, σ = [some (tabD s), some (.tup (cs.map .int)), some (.lst .own (((List.range k).flatMap fun k => List.replicate (cs.getD k 0).toNat ((k : Int) + 1)).map .int)), o3, none, none, none]) ⟨none, rfl⟩ ?_ ?_
    · rintro σ ⟨o3, rfl⟩
      exact ⟨rfl, o3, rfl⟩
    · rintro k σ hk ⟨o3, rfl⟩
      have ex : atI (cs.map D.int) (k : Int) = some (.int cs[k]) := atI_at rfl (by simp [hk])
      have hck := c2 _ (List.getElem_mem hk)
      have hmul : kMul (.lst .own [.int ((k : Int) + 1)]) (.int cs[k]) = some (.lst .own ((List.replicate (cs[k]).toNat ((k : Int) + 1)).map .int)) := by
        have e : ∀ n : Nat, (List.replicate n [D.int ((k : Int) + 1)]).flatten = (List.replicate n ((k : Int) + 1)).map .int := fun n => by
          induction n with
          | zero => rfl
          | succ n ih => simp_all [List.replicate_succ]
        show (if _ then _ else _) = _
        rw [if_pos ⟨by decide, rfl, by omega, by omega, by simp <;> omega⟩, e]
      have hlen := letters_pre (cs := cs) (k := k + 1) (by omega)
      have ht := take_letters cs k hk
      rw [ht] at hlen
      generalize hA : ((List.range k).flatMap fun k => List.replicate (cs.getD k 0).toNat ((k : Int) + 1)) = A at hlen ht ⊢
      have hadd : kAdd (.lst .vw (A.map .int)) (.lst .own ((List.replicate (cs[k]).toNat ((k : Int) + 1)).map .int)) = some (.lst .own ((A ++ List.replicate (cs[k]).toNat ((k : Int) + 1)).map .int)) := by
        rw [kAdd_lst (by decide) (by decide) (by rw [List.length_append] at hlen; rw [List.length_map, List.length_map]; omega), List.map_append]
      refine wG_name.mpr ⟨by simp, ?_⟩
      simp only [List.set_cons_succ, List.set_cons_zero]
      refine wS_mono (Q := fun f σ => f = .nx ∧ σ = [some (tabD s), some (.tup (cs.map .int)), some (.lst .own ((A ++ List.replicate (cs[k]).toNat ((k : Int) + 1)).map .int)), some (.int k), none, none, none]) ?_ ?_
      · have hv : views (A.map D.int) = A.map D.int := views_of (noOwns_ints A)
        have hnv : noVws ((A ++ List.replicate (cs[k]).toNat ((k : Int) + 1)).map D.int) = true := noVws_ints _
        generalize (List.replicate (cs[k]).toNat ((k : Int) + 1)).map D.int = B at hmul hadd
        generalize (A ++ List.replicate (cs[k]).toNat ((k : Int) + 1)).map D.int = C at hadd hnv ⊢
        simp [hv, ex, hmul, hadd, hnv]
      · rintro f σ ⟨rfl, rfl⟩
        exact ⟨some (.int k), by rw [ht]⟩
  rintro σ ⟨o3, rfl⟩
  refine wS_cut (fun σ => σ = [some (tabD s), some (.tup (cs.map .int)), some (.lst .own ((lettersL cs).map .int)), o3, some (.tup ((rwd s).map .int)), none, none]) ?_ ?_
  · simp [wF_ret hrw]
  rintro σ rfl
  refine wS_seq.mpr ?_
  refine wS_if.mpr ?_
  have hlw : (rwd s).length = lets s := rwd_lets s
  have hvl : views ((lettersL cs).map D.int) = (lettersL cs).map D.int := views_of (noOwns_ints _)
  by_cases hle : (lettersL cs).length = lets s
  · simp only [wcR, if_pos hle]
    have hte : ((lettersL cs).length : Int) = ((rwd s).length : Int) := by omega
    simp [hvl, hte]
    refine wI_tupD rfl ?_
    have hB2 : Bd (wcT s cs) := bd_of hb (mapT_shape _ s)
    have hfill := ret_filled s hb (.lst .own (((rwd s).map (pickL (lettersL cs))).map .int)) ((rwd s).map (pickL (lettersL cs))) (.inr rfl) (by simp [hlw])
    rw [fill_map] at hfill
    have hfa := ret_fault (v := tabD (wcT s cs)) (.inl (noOwn_tabD)) (Fin_tabD hB2)
    have hst := ret_standardized (wcT s cs) hB2
    refine wC_map (rwd s) D.int (fun x => .int (pickL (lettersL cs) x)) (fun x hx => ?_) fun σ' hw => ?_
    · have hxr := hr x hx
      obtain ⟨k, hk⟩ := Int.eq_ofNat_of_zero_le (show 0 ≤ x - 1 by omega)
      have hkl : k < (lettersL cs).length := by omega
      have ex : atI ((lettersL cs).map D.int) (x - 1) = some (.int (pickL (lettersL cs) x)) := atI_at hk (by
        have : (x - 1).toNat = k := by omega
        simp [pickL, this, hkl])
      simp [wipeD, hvl, ex]
    · have e : (rwd s).map (fun x => D.int (pickL (lettersL cs) x)) = ((rwd s).map (pickL (lettersL cs))).map .int := by rw [List.map_map]; rfl
      rw [e]
      have hsm : (rwd s).length ≤ 16777216 := by have := rwd_len hb; omega
      have hdef : mapT (pickL (lettersL cs)) s = wcT s cs := rfl
      rw [hdef] at hfill
      generalize hZ : (((rwd s).map (pickL (lettersL cs))).map D.int) = Z at hfill ⊢
      have hZl : Z.length ≤ 16777216 := by rw [← hZ]; simpa using hsm
      simp [hw, unwipe_wipe, wF_ret hfill, hZl]
      refine (wF_ret hfa).mpr ?_
      cases h1 : (faultR (tabD (wcT s cs))).isN with
      | false => exact .inl ⟨rfl, fun z => by cases z⟩
      | true =>
        refine .inr ⟨rfl, (wF_ret (r := tabD (stdT (wcT s cs))) hst).mpr ⟨_, kEq_tab _ _, ?_⟩⟩
        cases h2 : (tabD (stdT (wcT s cs))).deq (tabD s) with
        | false => exact .inl ⟨rfl, fun _ z => by cases z⟩
        | true => exact .inr ⟨rfl, fun z => by cases z rfl⟩
  · have hte : ¬ ((lettersL cs).length : Int) = ((rwd s).length : Int) := by omega
    simp [hvl, hte, wcR, hle]
theorem ret_transposed (t : T) (hb : Bd t) : ∃ n : Nat, mw t = n ∧ ret fn_transposed [tabD t] = some (.tup ((List.range n).map fun c => D.tup ((t.filter fun r => decide (c < wid r)).map fun r => (cells r).getD c .non))) := by
  obtain ⟨n, hn, hw⟩ := mw_nat t
  refine ⟨n, hn, ?_⟩
  apply ret_of
  unfold fn_transposed m_transposed
  rw [wF_D]
  have hb1 := hb.1
  have ho := ret_outer t hb
  have h2 := mw_le hb
  have hk : kAdd (.lst .own [.int 0]) (.lst .own (t.map fun r => .int (wid r))) = some (.lst .own (.int 0 :: t.map fun r => .int (wid r))) := kAdd_lst (by decide) (by decide) (by simp; omega)
  have hok : okR (mw t) = true := by rw [hn] at h2 ⊢; exact okR_len (by omega)
  refine wS_cut (fun σ => σ = [some (tabD t), some (.lst .own []), none, none]) (by simp) ?_
  rintro σ rfl
  obtain ⟨col, hcol⟩ : ∃ col : Nat → D, col = fun c => D.tup ((t.filter fun r => decide (c < wid r)).map fun r => (cells r).getD c .non) := ⟨_, rfl⟩
  have hgc : ∀ c, (col c).noOwn = true ∧ (col c).noVw = true := fun c => by
    rw [hcol]
    have : Grs ((t.filter fun r => decide (c < wid r)).map fun r => (cells r).getD c .non) := grs_iff.mpr fun d m => by
      obtain ⟨r, hr, rfl⟩ := List.mem_map.mp m
      have := (List.mem_filter.mp hr).2
      have hc : c < (cells r).length := by simpa using this
      rw [List.getD_eq_getElem?_getD, List.getElem?_eq_getElem hc]
      exact grs_iff.mp (grs_cells r) _ (List.getElem_mem hc)
    exact this
  have hno : ∀ k, noOwns ((List.range k).map col) = true ∧ noVws ((List.range k).map col) = true := fun k => by
    rw [noOwns_all, noVws_all]
    refine ⟨List.all_eq_true.mpr fun d m => ?_, List.all_eq_true.mpr fun d m => ?_⟩
    · obtain ⟨c, _, rfl⟩ := List.mem_map.mp m; exact (hgc c).1
    · obtain ⟨c, _, rfl⟩ := List.mem_map.mp m; exact (hgc c).2
  refine wS_cut (fun σ => ∃ o1 o2, σ = [some (tabD t), some (.lst .own ((List.range n).map col)), o1, o2]) ?_ ?_
  · simp [wF_ret ho, hk, maxOuter, hok]
    rw [hn]
    simp
    refine wL_rng (P := fun k σ => ∃ o1 o2, σ = [some (tabD t), some (.lst .own ((List.range k).map col)), o1, o2]) ⟨none, none, rfl⟩ ?_ ?_
    · rintro σ ⟨o1, o2, rfl⟩
      exact ⟨rfl, o1, o2, rfl⟩
    · rintro k σ hk ⟨o1, o2, rfl⟩
      refine wG_name.mpr ⟨by simp, ?_⟩
      simp only [List.set_cons_succ, List.set_cons_zero]
      refine wS_mono (Q := fun f σ => f = .nx ∧ σ = [some (tabD t), some (.lst .own ((List.range (k + 1)).map col)), some (.int k), o2]) ?_ ?_
      · have e0 : (0 : Int) + (k : Int) = k := by omega
        simp only [e0, wS_app, wE_A, wA_cons, wA_nil, wE_Lc, List.getElem?_cons_succ, List.getElem?_cons_zero, Option.some.injEq, D.lst.injEq, true_and, exists_eq_left', k1_one]
        refine wI_tabD rfl ?_
        refine wC_typ t rowD (fun r => decide (k < wid r)) (fun r => (cells r).getD k .non) (fun r hr => ?_) fun σ' w => ?_
        · by_cases h : k < wid r
          · have hc : k < (cells r).length := by simpa using h
            have ex : atI (cells r) (k : Int) = some ((cells r).getD k .non) := atI_at rfl (by rw [List.getD_eq_getElem?_getD, List.getElem?_eq_getElem hc]; rfl)
            have hg : ((cells r).getD k .non).noVw = true := by
              rw [List.getD_eq_getElem?_getD, List.getElem?_eq_getElem hc]
              exact (grs_iff.mp (grs_cells r) _ (List.getElem_mem hc)).2
            generalize (cells r).getD k .non = x at ex hg ⊢
            simp [wipeD, h, ex, hg]
          · simp [wipeD, h]
        · have hl := List.length_filter_le (fun r : Nat × List Int => decide (k < wid r)) t
          have hck := hgc k
          rw [hcol] at hck
          have ht : fTuple (.lst .own ((t.filter fun r => decide (k < wid r)).map fun r => (cells r).getD k .non)) = some (col k) := by
            rw [hcol]
            exact fTuple_lst hck.1
          have hZ : ((t.filter fun r => decide (k < wid r)).map fun r => (cells r).getD k .non).length ≤ 16777216 := by simp; omega
          generalize ((t.filter fun r => decide (k < wid r)).map fun r => (cells r).getD k .non) = Z at ht hZ ⊢
          simp only [gB_n, w, unwipe_wipe]
          refine ⟨hZ, col k, ht, ?_⟩
          simp
          rw [List.range_succ, List.map_append]
          exact ⟨by omega, rfl⟩
      · rintro f σ ⟨rfl, rfl⟩
        exact ⟨_, _, rfl⟩
  · rintro σ ⟨o1, o2, rfl⟩
    have hv : views ((List.range n).map col) = (List.range n).map col := views_of (hno n).1
    have ht : fTuple (.lst .vw ((List.range n).map col)) = some (.tup ((List.range n).map col)) := fTuple_lst (hno n).1
    rw [← hcol]
    simp [hv, ht, (hno n).2]
end K80
namespace K80
open PySem PySem.Spec PyProof.Rows L2 Py
theorem split_row : ∀ row : List D, (∀ c : Nat, row[c]? = some D.non → ∀ c' < c, row[c']? = some D.non) → (∀ d ∈ row, d = D.non ∨ ∃ i, d = D.int i ∧ 1 ≤ i) → ∃ r, row = cells r ∧ ∀ x ∈ r.2, (1 : Int) ≤ x
  | [], _, _ => ⟨(0, []), rfl, fun x m => nomatch m⟩
  | d :: row, h1, h2 => by
    rcases h2 d List.mem_cons_self with rfl | ⟨i, rfl, hi⟩
    · obtain ⟨r, e, h3⟩ := split_row row (fun c hc c' hlt => by
        have := h1 (c + 1) (by simpa using hc) (c' + 1) (by omega)
        simpa using this) fun d m => h2 d (List.mem_cons_of_mem _ m)
      refine ⟨(r.1 + 1, r.2), ?_, h3⟩
      rw [e]
      simp [cells, List.replicate_succ]
    · have hall : ∀ d ∈ row, ∃ i, d = .int i ∧ 1 ≤ i := fun d m => by
        rcases h2 d (List.mem_cons_of_mem _ m) with rfl | h
        · obtain ⟨c, hc, e⟩ := List.mem_iff_getElem.mp m
          have := h1 (c + 1) (by simp [hc, e]) 0 (by omega)
          cases this
        · exact h
      have hns : ∃ ns : List Int, row = ns.map .int ∧ ∀ x ∈ ns, 1 ≤ x := by
        clear h1 h2
        induction row with
        | nil => exact ⟨[], rfl, fun x m => nomatch m⟩
        | cons d row ih =>
          obtain ⟨i, rfl, hi⟩ := hall d List.mem_cons_self
          obtain ⟨ns, e, hn⟩ := ih fun d m => hall d (List.mem_cons_of_mem _ m)
          exact ⟨i :: ns, by rw [e]; rfl, fun x m => by
            rcases List.mem_cons.mp m with rfl | m
            · exact hi
            · exact hn x m⟩
      obtain ⟨ns, e, hn⟩ := hns
      refine ⟨(0, i :: ns), by rw [e]; rfl, fun x m => ?_⟩
      rcases List.mem_cons.mp m with rfl | m
      · exact hi
      · exact hn x m
theorem scan_all {ab : D} {row : List D} {k : Nat} : ∀ {n c : Nat}, scan ab row k n c = none → ∀ j, c ≤ j → j < c + n → badBox (upA ab j) (leftA row j) (row.getD j .non) = false
  | 0, c, _, j, h1, h2 => by omega
  | n + 1, c, h, j, h1, h2 => by
    simp only [scan] at h
    split at h
    · cases h
    · rename_i hb
      by_cases e : j = c
      · subst e
        simpa using hb
      · exact scan_all h j (by omega) (by omega)
theorem row_good {ab : D} {row : List D} {k : Nat} (h : scan ab row k row.length 0 = none) : ∃ r, row = cells r ∧ ∀ x ∈ r.2, (1 : Int) ≤ x := by
  have ha : ∀ j < row.length, badBox (upA ab j) (leftA row j) (row.getD j .non) = false := fun j hj => scan_all h j (by omega) (by omega)
  refine split_row row ?_ fun d m => ?_
  · intro c
    induction c with
    | zero => intro _ c' h; omega
    | succ c ih =>
      intro hc c' hlt
      have hl := (List.getElem?_eq_some_iff.mp hc).1
      have hb := ha (c + 1) hl
      have e : row.getD (c + 1) .non = .non := by rw [List.getD_eq_getElem?_getD, hc]; rfl
      rw [e] at hb
      simp only [badBox, Bool.or_eq_false_iff, Bool.not_eq_false'] at hb
      have hleft : (row.getD c .non).isN = true := by simpa [leftA] using hb.2
      have hc2 : c < row.length := by omega
      have e2 : row.getD c .non = row[c] := by simp [hc2]
      rw [e2] at hleft
      have hcc : row[c]? = some .non := by
        rw [List.getElem?_eq_getElem hc2]
        cases hx : row[c] <;> rw [hx] at hleft <;> first | rfl | cases hleft
      by_cases q : c' = c
      · subst q; exact hcc
      · exact ih hcc c' (by omega)
  · obtain ⟨c, hc, e⟩ := List.mem_iff_getElem.mp m
    have hb := ha c hc
    have e2 : row.getD c .non = d := by simp [hc, e]
    rw [e2] at hb
    cases d with
    | non => exact .inl rfl
    | int i =>
      simp only [badBox, Bool.or_eq_false_iff, Bool.not_eq_false', decide_eq_true_eq] at hb
      exact .inr ⟨i, rfl, hb.1⟩
    | _ => cases hb
theorem rows_good : ∀ {rows : List D} {ab : D} {k : Nat}, scanRows ab k rows = .non → ∃ t : T, rows = t.map rowD ∧ ∀ r ∈ t, ∀ x ∈ r.2, (1 : Int) ≤ x
  | [], _, _, _ => ⟨[], rfl, fun r m => nomatch m⟩
  | r :: rows, ab, k, h => by
    cases r with
    | tup row =>
      simp only [scanRows] at h
      split at h
      · cases h
      · cases hs : scan ab row k row.length 0 with
        | some d =>
          rw [hs] at h
          simp only at h
          subst h
          have go : ∀ n c, scan ab row k n c = some .non → False := by
            intro n
            induction n with
            | zero => intro c z; cases z
            | succ n ih2 =>
              intro c z
              simp only [scan] at z
              split at z
              · cases z
              · exact ih2 _ z
          exact (go _ _ hs).elim
        | none =>
          rw [hs] at h
          simp only at h
          obtain ⟨r, e, hr⟩ := row_good hs
          obtain ⟨t, e2, ht⟩ := rows_good h
          refine ⟨r :: t, by rw [e, e2]; rfl, fun r' m => ?_⟩
          rcases List.mem_cons.mp m with rfl | m
          · exact hr
          · exact ht r' m
    | _ => cases h
/-- a value as the law makes them -/
def BV (v : D) : Prop := match v with
  | .tup rows => Grs rows ∧ rows.length ≤ 1000 ∧ ∀ r ∈ rows, match r with
    | .tup row => row.length ≤ 1000 ∧ ∀ i, D.int i ∈ row → i ≤ 1000000
    | _ => True
  | .lst _ _ => False
  | _ => True
theorem BV.fin {v : D} (h : BV v) : Fin v := by
  cases v with
  | tup rows =>
    refine ⟨h.1, by have := h.2.1; omega, fun r m => ?_⟩
    have := h.2.2 r m
    cases r with
    | tup row => have := this.1; show row.length ≤ 1000000; omega
    | _ => trivial
  | _ => trivial
theorem BV.no {v : D} (h : BV v) : v.noOwn = true := by
  cases v with
  | tup rows => exact h.1.1
  | lst f xs => exact h.elim
  | _ => rfl
theorem BV.good {v : D} (h : BV v) (hf : (faultR v).isN = true) : ∃ t : T, v = tabD t ∧ Bd t ∧ ∀ r ∈ t, ∀ x ∈ r.2, (1 : Int) ≤ x ∧ x ≤ 1000000 := by
  cases v with
  | tup rows =>
    have hs : scanRows .non 0 rows = .non := by
      have hf : (scanRows .non 0 rows).isN = true := hf
      cases hx : scanRows .non 0 rows <;> rw [hx] at hf <;> first | rfl | cases hf
    obtain ⟨t, e, ht⟩ := rows_good hs
    subst e
    have hrow : ∀ r ∈ t, (cells r).length ≤ 1000 ∧ ∀ i, D.int i ∈ cells r → i ≤ 1000000 := fun r m => h.2.2 (rowD r) (List.mem_map.mpr ⟨r, m, rfl⟩)
    refine ⟨t, rfl, ⟨by simpa using h.2.1, fun r m => by simpa using (hrow r m).1⟩, fun r m x hx => ⟨ht r m x hx, (hrow r m).2 x ?_⟩⟩
    unfold cells
    exact List.mem_append_right _ (List.mem_map.mpr ⟨x, hx, rfl⟩)
  | lst f xs => exact h.elim
  | _ => cases hf
theorem ret_is_tableau {v : D} (h : BV v) : ret fn_is_tableau [v] = some (.bl (faultR v).isN) := by
  apply ret_of
  unfold fn_is_tableau m_is_tableau
  have hf := ret_fault (.inl h.no) h.fin
  simp [h.no]
  refine (wF_ret hf).mpr ?_
  simp
theorem ret_is_straight_bad {v : D} (h : BV v) (hf : (faultR v).isN = false) : ret fn_is_straight [v] = some (.bl false) := by
  apply ret_of
  unfold fn_is_straight m_is_straight
  have hr := ret_fault (.inl h.no) h.fin
  simp [h.no]
  refine (wF_ret hr).mpr ?_
  simp [hf]
theorem ret_is_straight {t : T} (hb : Bd t) (hf : (faultR (tabD t)).isN = true) : ret fn_is_straight [tabD t] = some (.bl (innerL t).isEmpty) := by
  apply ret_of
  unfold fn_is_straight m_is_straight
  have hr := ret_fault (v := tabD t) (.inl noOwn_tabD) (Fin_tabD hb)
  have hi := ret_inner t hb
  simp
  refine (wF_ret hr).mpr ?_
  simp [hf, wF_ret hi]
  cases h : innerL t <;> simp
  omega
theorem ret_is_standard_bad {v : D} (h : BV v) (hf : (faultR v).isN = false) : ret fn_is_standard [v] = some (.bl false) := by
  apply ret_of
  unfold fn_is_standard m_is_standard
  have hr := ret_fault (.inl h.no) h.fin
  simp [h.no]
  refine (wF_ret hr).mpr ?_
  simp [hf]
theorem ret_is_standard {t : T} (hb : Bd t) (hl : ∀ r ∈ t, ∀ x ∈ r.2, (1 : Int) ≤ x ∧ x ≤ 1000000) (hf : (faultR (tabD t)).isN = true) : ret fn_is_standard [tabD t] = some (.bl ((cntL (mxs 0 (rwd t)).toNat (rwd t)).all fun x => x == 1)) := by
  apply ret_of
  unfold fn_is_standard m_is_standard
  rw [wF_D]
  have hr := ret_fault (v := tabD t) (.inl noOwn_tabD) (Fin_tabD hb)
  have hw := ret_row_word t hb
  have hwl := rwd_len hb
  have hlet : ∀ x ∈ rwd t, 1 ≤ x ∧ x ≤ 1000000 := fun x m => by
    obtain ⟨r, hr, hx⟩ := List.mem_flatMap.mp m
    exact hl r (List.mem_reverse.mp hr) x hx
  have hc := ret_content (rwd t) hwl hlet
  refine wS_cut (fun σ => σ = [some (tabD t), none]) ?_ ?_
  · simp
    refine (wF_ret hr).mpr ?_
    simp [hf]
  rintro σ rfl
  have hmx : (mxs 0 (rwd t)).toNat ≤ 1000000 := by
    rcases List.mem_cons.mp (mxs_mem (rwd t) 0) with e | m
    · omega
    · have := (hlet _ m).2
      omega
  generalize hC : cntL (mxs 0 (rwd t)).toNat (rwd t) = C at hc
  have hCl : C.length ≤ 1000000 := by rw [← hC]; simpa [cntL] using hmx
  simp [wF_ret hw, wF_ret hc]
  refine wC_map C D.int (fun x => .bl (x == 1)) (fun x hx => ?_) fun σ' w => ?_
  · simp [wipeD]
  · have e : C.map (fun x => D.bl (x == 1)) = (C.map fun x => x == 1).map .bl := by simp
    rw [e]
    refine ⟨by simp; omega, ?_⟩
    rw [fAll_bls, List.all_map]
    rfl
end K80
namespace K80
open PySem PySem.Spec PyProof.Rows L2 Py
def rng (n : Nat) : List Int := (List.range n).map fun (i : Nat) => 1 + (i : Int)
theorem rng_sorted (n : Nat) : (rng n).Pairwise (· ≤ ·) := by
  unfold rng
  rw [List.pairwise_map]
  exact List.pairwise_lt_range.imp fun {i j} h => by omega
theorem rng_mem {n : Nat} {x : Int} : x ∈ rng n ↔ 1 ≤ x ∧ x ≤ n := by
  unfold rng
  simp only [List.mem_map, List.mem_range]
  constructor
  · rintro ⟨i, hi, rfl⟩; omega
  · rintro ⟨h1, h2⟩; exact ⟨(x - 1).toNat, by omega, by omega⟩
theorem rng_nodup (n : Nat) : (rng n).Nodup := by
  unfold rng List.Nodup
  rw [List.pairwise_map]
  exact List.pairwise_lt_range.imp fun {i j} h => by omega
theorem count_nodup {l : List Int} (h : l.Nodup) (x : Int) : l.count x = if x ∈ l then 1 else 0 := by
  induction l with
  | nil => simp
  | cons a l ih =>
    have h2 := ih h.of_cons
    rw [List.count_cons, h2]
    by_cases e : a = x
    · subst e
      have : a ∉ l := fun m => (List.rel_of_pairwise_cons h m) rfl
      simp [this]
    · have e2 : ¬ x = a := fun z => e z.symm
      by_cases m : x ∈ l <;> simp [e, e2, m]
theorem cnt_all {n : Nat} {w : List Int} : ((cntL n w).all fun x => x == 1) = true ↔ ∀ i < n, w.count ((i : Int) + 1) = 1 := by
  unfold cntL
  simp only [List.all_map, List.all_eq_true, List.mem_range, Function.comp]
  constructor
  · intro h i hi
    have := h i hi
    simp only [beq_iff_eq] at this
    have e : w.countP (fun x => x == (i : Int) + 1) = w.count ((i : Int) + 1) := rfl
    rw [e] at this
    omega
  · intro h i hi
    have e : w.countP (fun x => x == (i : Int) + 1) = w.count ((i : Int) + 1) := rfl
    simp only [beq_iff_eq]
    rw [e, h i hi]
    rfl
theorem std_iff {w ys : List Int} (hw : ∀ x ∈ w, 1 ≤ x) (hp : ys.Perm w) (hs : ys.Pairwise (· ≤ ·)) : decide (ys = rng w.length) = ((cntL (mxs 0 w).toNat w).all fun x => x == 1) := by
  obtain ⟨g1, g2⟩ := mxs_ge w 0
  obtain ⟨m, hm⟩ := Int.eq_ofNat_of_zero_le g1
  rw [hm, Int.toNat_natCast]
  apply Bool.eq_iff_iff.mpr
  rw [decide_eq_true_iff, cnt_all]
  constructor
  · intro e i hi
    have hpr : w.Perm (rng w.length) := by rw [← e]; exact hp.symm
    rw [hpr.count_eq, count_nodup (rng_nodup _), if_pos]
    rw [rng_mem]
    have : (m : Int) ≤ w.length := by
      rcases List.mem_cons.mp (mxs_mem w 0) with q | q
      · omega
      · have := rng_mem.mp (hpr.mem_iff.mp q)
        omega
    omega
  · intro h
    have hpr : w.Perm (rng m) := by
      rw [List.perm_iff_count]
      intro x
      rw [count_nodup (rng_nodup _)]
      by_cases q : x ∈ rng m
      · rw [if_pos q]
        have := rng_mem.mp q
        have := h (x - 1).toNat (by omega)
        have e : (((x - 1).toNat : Nat) : Int) + 1 = x := by omega
        rw [e] at this
        exact this
      · rw [if_neg q]
        refine List.count_eq_zero.mpr fun hx => q (rng_mem.mpr ⟨hw x hx, ?_⟩)
        have := g2 x hx
        omega
    have hl : w.length = m := by rw [hpr.length_eq]; simp [rng]
    rw [hl]
    exact List.Perm.eq_of_pairwise (le := (· ≤ ·)) (fun a b _ _ h1 h2 => Int.le_antisymm h1 h2) hs (rng_sorted m) (hp.trans hpr)
theorem deqs_ints : ∀ a b : List Int, deqs (a.map .int) (b.map .int) = decide (a = b)
  | [], [] => rfl
  | [], b :: bs => rfl
  | a :: as, [] => rfl
  | a :: as, b :: bs => by
    simp only [List.map_cons, deqs, deqs_ints as bs, D.deq]
    by_cases h : a = b <;> by_cases h2 : as = bs <;> simp [h, h2]
theorem kEq_ints {f g : Fl} (a b : List Int) : kEq (.lst f (a.map .int)) (.lst g (b.map .int)) = some (.bl (decide (a = b))) := by
  have h1 : D.fit 60 (.lst f (a.map .int)) = true := (fits_ints : fits 59 _ = true)
  have h2 : D.fit 60 (.lst g (b.map .int)) = true := (fits_ints : fits 59 _ = true)
  rw [kEq, if_pos ⟨h1, h2⟩]
  have : D.deq (.lst f (a.map .int)) (.lst g (b.map .int)) = deqs (a.map .int) (b.map .int) := rfl
  rw [this, deqs_ints]
theorem straight_iff (t : T) : (((boxes t).map fun b => b.2.2).length == (t.map wid).sum) = (innerL t).isEmpty := by
  have h1 : ((boxes t).map fun b => b.2.2).length = (t.map fun r => r.2.length).sum := by rw [List.length_map]; exact boxesF_len
  rw [h1]
  unfold innerL
  induction t with
  | nil => rfl
  | cons r t ih =>
    have hle : (t.map fun r => r.2.length).sum ≤ (t.map wid).sum := by
      clear ih h1
      induction t with
      | nil => simp
      | cons a t ih => simp [wid] at ih ⊢; omega
    have ih := ih (by rw [List.length_map]; exact boxesF_len)
    by_cases h : 0 < r.1
    · simp [h, wid]
      omega
    · have h0 : r.1 = 0 := by omega
      simp only [List.map_cons, List.sum_cons, wid, h0]
      rw [List.filter_cons_of_neg (by simp [h0])]
      rw [← ih]
      apply Bool.eq_iff_iff.mpr
      simp
theorem pl_fault : ∀ {ab : D} {k : Nat} {rows : List D}, Pl 5 (scanRows ab k rows)
  | _, _, [] => trivial
  | ab, k, r :: rows => by
    have two : ∀ {xs : List D}, xs.length ≤ 1000000 → (∀ x ∈ xs, ∃ i, x = .int i) → Pl 5 (.tup xs) := fun h1 h2 => ⟨h1, pls_of fun x m => by obtain ⟨i, rfl⟩ := h2 x m; trivial⟩
    cases r with
    | tup row =>
      simp only [scanRows]
      split
      · exact two (by simp) (by simp)
      · cases hs : scan ab row k row.length 0 with
        | some d =>
          have go : ∀ n c, scan ab row k n c = some d → Pl 5 d := by
            intro n
            induction n with
            | zero => intro c z; cases z
            | succ n ih2 =>
              intro c z
              simp only [scan] at z
              split at z
              · cases z; exact two (by simp) (by simp)
              · exact ih2 _ z
          exact go _ _ hs
        | none => exact pl_fault
    | _ => exact two (by simp) (by simp)
theorem pl_faultR (v : D) : Pl 5 (faultR v) := by
  cases v with
  | tup rows => exact pl_fault
  | _ => exact ⟨by simp, trivial⟩
end K80
namespace K80
open PySem PySem.Spec PyProof.Rows L2 Py
theorem kEq_nats (a b : Nat) : kEq (.int a) (.int b) = some (.bl (a == b)) := by
  rw [kEq_int]
  congr 2
  apply Bool.eq_iff_iff.mpr
  simp only [beq_iff_eq]
  omega
theorem ret_kinds {v : D} (h : BV v) : ret fn__law_kinds [v] = some (.bl true) := by
  apply ret_of
  unfold fn__law_kinds m__law_kinds
  rw [wF_D]
  have hf := ret_fault (.inl h.no) h.fin
  have hlf := ret_law_fault (.inl h.no) h.fin
  have hsf := same_refl (pl_faultR v)
  have hit := ret_is_tableau h
  have hsb : ∀ b : Bool, ret fn__law_same [.bl b, .bl b] = some (.bl true) := fun b => same_refl trivial
  have hno := h.no
  refine wS_cut (fun σ => σ = [some v, some (.bl (faultR v).isN), none, none, none, none, none]) ?_ ?_
  · simp [hno]
    refine (wF_ret hlf).mpr ?_
    simp
  rintro σ rfl
  refine wS_cut (fun σ => σ = [some v, some (.bl (faultR v).isN), none, none, none, none, none]) ?_ ?_
  · simp [hno]
    refine (wF_ret hf).mpr ?_
    refine (wF_ret hlf).mpr ?_
    refine (wF_ret hsf).mpr ?_
    simp
    refine (wF_ret hit).mpr ?_
    refine (wF_ret (hsb _)).mpr ?_
    simp
  rintro σ rfl
  refine wS_cut (fun σ => σ = [some v, some (.bl (faultR v).isN), some (.bl false), none, none, none, none]) (by simp) ?_
  rintro σ rfl
  refine wS_cut (fun σ => σ = [some v, some (.bl (faultR v).isN), some (.bl false), some (.bl false), none, none, none]) (by simp) ?_
  rintro σ rfl
  cases hr : (faultR v).isN with
  | false =>
    have h1 := ret_is_straight_bad h hr
    have h2 := ret_is_standard_bad h hr
    refine wS_cut (fun σ => σ = [some v, some (.bl false), some (.bl false), some (.bl false), none, none, none]) (by simp) ?_
    rintro σ rfl
    simp [hno]
    refine (wF_ret h1).mpr ?_
    refine (wF_ret (hsb _)).mpr ?_
    simp
    refine (wF_ret h2).mpr ?_
    refine (wF_ret (hsb _)).mpr ?_
    simp
  | true =>
    obtain ⟨t, rfl, hb, hl⟩ := h.good hr
    have h1 := ret_is_straight hb hr
    have h2 := ret_is_standard hb hl hr
    have hB := ret_boxes t hb
    have hbl := boxes_len hb
    have hwl := rwd_len hb
    obtain ⟨L, hL⟩ : ∃ L, L = (boxes t).map fun b => b.2.2 := ⟨_, rfl⟩
    have hLl : L.length ≤ 1000000 := by rw [hL]; simpa using hbl
    have hLw : L.Perm (rwd t) := by
      rw [hL, ← boxesR_let (t := t) (k := 0)]
      exact (boxesR_perm.map _).symm
    obtain ⟨ys, hp, hs⟩ := exists_sorted L
    have hsi := std_iff (w := rwd t) (ys := ys) (fun x m => by
      obtain ⟨r, hr, hx⟩ := List.mem_flatMap.mp m
      exact (hl r (List.mem_reverse.mp hr) x hx).1) (hp.trans hLw) hs
    have hst := straight_iff t
    rw [← hL] at hst
    refine wS_cut (fun σ => ∃ o4 o5 o6, σ = [some (tabD t), some (.bl true), some (.bl (innerL t).isEmpty), some (.bl ((cntL (mxs 0 (rwd t)).toNat (rwd t)).all fun x => x == 1)), o4, o5, o6]) ?_ ?_
    · refine wS_if.mpr ?_
      simp only [wT_val, wE_var, List.getElem?_cons_succ, List.getElem?_cons_zero, Option.some.injEq, exists_eq_left', view_bl, dTru_bl, if_true]
      refine wS_cut (fun σ => σ = [some (tabD t), some (.bl true), some (.bl false), some (.bl false), some (.lst .own (L.map .int)), none, none]) ?_ ?_
      · simp [wF_ret hB]
        have hfz : frzs ((boxes t).map boxD) = (boxes t).map boxD := frzs_of (noOwns_box _)
        rw [hfz]
        refine wC_map (boxes t) boxD (fun b => .int b.2.2) (fun b m => ?_) fun σ' w => ?_
        · have h1 : (boxD b).view = boxD b := rfl
          have h2 : kIx (boxD b) (.int 2) = some (.int b.2.2) := rfl
          simp [wipeD, h1, h2]
        · have e : (boxes t).map (fun b => D.int b.2.2) = L.map .int := by rw [hL, List.map_map]; rfl
          rw [e]
          simp [w, unwipe_wipe]
          omega
      rintro σ rfl
      have hvL : views (L.map D.int) = L.map D.int := views_of (noOwns_ints L)
      refine wS_cut (fun σ => σ = [some (tabD t), some (.bl true), some (.bl (innerL t).isEmpty), some (.bl false), some (.lst .own (L.map .int)), none, none]) ?_ ?_
      · simp only [wS_set, wE_m2, wE_Up, wE_A, wA_cons, wA_nil, wE_var, List.getElem?_cons_succ, List.getElem?_cons_zero, Option.some.injEq, exists_eq_left', view_own, hvL, k1_one, fLen_lst, noVw_int, true_and, wE_Lc]
        refine wI_tabD rfl ?_
        refine wC_map t rowD (fun r => .int (wid r)) (fun r hr => by simp [wipeD]) fun σ' w => ?_
        have e : (t.map fun r => D.int (wid r)) = (t.map fun r => (wid r : Int)).map .int := by simp
        rw [e]
        have hsum : ∀ t : T, (t.map fun r => (wid r : Int)).sum = ((t.map wid).sum : Nat) := fun t => by
          induction t with
          | nil => rfl
          | cons r t ih => simp [ih]
        simp only [gB_sn, w, unwipe_wipe, fSum_ints, hsum, List.length_map]
        refine ⟨by have := hb.1; omega, _, rfl, _, kEq_nats _ _, ?_⟩
        rw [hst]
        simp
      rintro σ rfl
      have hup : up 1 L.length = (rng L.length).map .int := by
        rw [up_range]
        unfold rng
        rw [List.map_map]
        rfl
      have hsort : fSort (.lst .vw (L.map .int)) = some (.lst .own (ys.map .int)) := fSort_ints (by omega) hp hs
      have hrg : rgOk 1 ((L.length : Int) + 1) = true := by
        unfold rgOk
        have ok1 : okR 1 = true := by decide
        have ok2 : okR ((L.length : Int) + 1) = true := by
          unfold okR
          exact decide_eq_true (by omega)
        rw [ok1, ok2]
        exact decide_eq_true (by omega)
      have htn : ((L.length : Int) + 1 - 1).toNat = L.length := by omega
      refine wS_mono (Q := fun f σ => f = .nx ∧ σ = [some (tabD t), some (.bl true), some (.bl (innerL t).isEmpty), some (.bl (decide (ys = rng L.length))), some (.lst .own (L.map .int)), none, none]) ?_ ?_
      · generalize hZ : L.map D.int = Z at hvL hsort ⊢
        have hZl : Z.length = L.length := by rw [← hZ]; simp
        generalize hR : (rng L.length).map D.int = R at hup
        have hkeq : kEq (.lst .own (ys.map .int)) (.lst .own R) = some (.bl (decide (ys = rng L.length))) := by rw [← hR]; exact kEq_ints _ _
        generalize ys.map D.int = Y at hsort hkeq
        simp [hvL, hsort, hZl, hrg, htn, hup, hkeq]
      · rintro f σ ⟨rfl, rfl⟩
        refine ⟨rfl, some (.lst .own (L.map .int)), none, none, ?_⟩
        rw [hLw.length_eq, hsi]
    rintro σ ⟨o4, o5, o6, rfl⟩
    simp
    refine (wF_ret h1).mpr ?_
    refine (wF_ret (hsb _)).mpr ?_
    simp
    refine (wF_ret h2).mpr ?_
    refine (wF_ret (hsb _)).mpr ?_
    simp
end K80
namespace K80
open PySem PySem.Spec PyProof.Rows L2 Py
abbrev nilD : D := .lst .own []
theorem nil_fault {Q : D → Sg → Prop} (h : Q (.tup []) [some nilD, none, none, none, none]) : wF fn_fault [nilD] Q := by
  unfold fn_fault m_fault
  simp
  exact h
theorem nil_law_fault {Q : D → Sg → Prop} (h : Q (.tup []) [some nilD, none, none, none, none, none, none]) : wF fn__law_fault [nilD] Q := by
  unfold fn__law_fault m__law_fault
  simp
  exact h
theorem nil_is_tableau {Q : D → Sg → Prop} (h : Q (.bl false) [some nilD]) : wF fn_is_tableau [nilD] Q := by
  unfold fn_is_tableau m_is_tableau
  simp
  refine nil_fault ?_
  simp [putB]
  exact h
theorem nil_is_straight {Q : D → Sg → Prop} (h : Q (.bl false) [some nilD]) : wF fn_is_straight [nilD] Q := by
  unfold fn_is_straight m_is_straight
  simp
  refine nil_fault ?_
  simp [putB]
  exact h
theorem nil_is_standard {Q : D → Sg → Prop} (h : Q (.bl false) [some nilD, none]) : wF fn_is_standard [nilD] Q := by
  unfold fn_is_standard m_is_standard
  simp
  refine nil_fault ?_
  simp [putB]
  exact h
theorem ret_kinds_nil : ret fn__law_kinds [nilD] = some (.bl true) := by
  apply ret_of
  unfold fn__law_kinds m__law_kinds
  rw [wF_D]
  have hsb : ∀ b : Bool, ret fn__law_same [.bl b, .bl b] = some (.bl true) := fun b => same_refl trivial
  have hst : ret fn__law_same [.tup [], .tup []] = some (.bl true) := same_refl ⟨by simp, trivial⟩
  refine wS_cut (fun σ => σ = [some nilD, some (.bl false), none, none, none, none, none]) ?_ ?_
  · simp
    refine nil_law_fault ?_
    simp [putB]
  rintro σ rfl
  refine wS_cut (fun σ => σ = [some nilD, some (.bl false), none, none, none, none, none]) ?_ ?_
  · simp
    refine nil_fault ?_
    simp [putB]
    refine nil_law_fault ?_
    simp [putB]
    refine (wF_ret hst).mpr ?_
    simp
    refine nil_is_tableau ?_
    simp [putB]
    refine (wF_ret (hsb _)).mpr ?_
    simp
  rintro σ rfl
  refine wS_cut (fun σ => σ = [some nilD, some (.bl false), some (.bl false), none, none, none, none]) (by simp) ?_
  rintro σ rfl
  refine wS_cut (fun σ => σ = [some nilD, some (.bl false), some (.bl false), some (.bl false), none, none, none]) (by simp) ?_
  rintro σ rfl
  refine wS_cut (fun σ => σ = [some nilD, some (.bl false), some (.bl false), some (.bl false), none, none, none]) (by simp) ?_
  rintro σ rfl
  simp
  refine nil_is_straight ?_
  simp [putB]
  refine (wF_ret (hsb _)).mpr ?_
  simp
  refine nil_is_standard ?_
  simp [putB]
  refine (wF_ret (hsb _)).mpr ?_
  simp
end K80
namespace K80
open PySem PySem.Spec PyProof.Rows L2 Py
def keepB (hi : Int) : D → Bool
  | .non => true
  | .int i => decide (i ≤ hi)
  | _ => false
def maskB (lo : Int) : D → D
  | .int i => if i < lo then .non else .int i
  | _ => .non
def keptR (hi : Int) (r : Nat × List Int) : List D := (cells r).filter (keepB hi)
def partR (lo hi : Int) (r : Nat × List Int) : List D := (keptR hi r).map (maskB lo)
def partD (t : T) (lo hi : Int) : D := .tup (((t.map (partR lo hi)).filter fun l => !l.isEmpty).map .tup)
theorem cells_ok {r : Nat × List Int} {d : D} (h : d ∈ cells r) : okB d := by
  unfold cells at h
  rcases List.mem_append.mp h with h | h
  · exact .inl (List.mem_replicate.mp h).2
  · obtain ⟨i, _, rfl⟩ := List.mem_map.mp h; exact .inr ⟨i, rfl⟩
theorem grs_ok {l : List D} (h : ∀ d ∈ l, okB d) : Grs l := grs_iff.mpr fun d m => ⟨(h d m).no.1, (h d m).no.2⟩
theorem kept_ok {hi : Int} {r : Nat × List Int} {d : D} (h : d ∈ keptR hi r) : okB d := cells_ok (List.mem_filter.mp h).1
theorem part_ok {lo hi : Int} {r : Nat × List Int} {d : D} (h : d ∈ partR lo hi r) : okB d := by
  obtain ⟨x, hx, rfl⟩ := List.mem_map.mp h
  rcases kept_ok hx with rfl | ⟨i, rfl⟩
  · exact .inl rfl
  · show okB (if i < lo then .non else .int i)
    by_cases q : i < lo
    · rw [if_pos q]; exact .inl rfl
    · rw [if_neg q]; exact .inr ⟨i, rfl⟩
theorem noOwns_tups {ls : List (List D)} (h : ∀ l ∈ ls, Grs l) : noOwns (ls.map D.tup) = true ∧ noVws (ls.map D.tup) = true := by
  rw [noOwns_all, noVws_all]
  refine ⟨List.all_eq_true.mpr fun d m => ?_, List.all_eq_true.mpr fun d m => ?_⟩
  · obtain ⟨l, hl, rfl⟩ := List.mem_map.mp m; exact (h l hl).1
  · obtain ⟨l, hl, rfl⟩ := List.mem_map.mp m; exact (h l hl).2
theorem wC_id {α : Type} {g : MG} {t : MT} {a : M} {vs : List Nat} {σ : Sg} {QA : List D → Sg → Prop} (l : List D) (p : D → Bool) (f : D → D) (h : ∀ x ∈ l, wG g x (wipeD σ vs) fun σ1 => wT t σ1 fun k σ2 => k = p x ∧ if k = true then wE a σ2 fun y σ3 => y = f x ∧ wipeD σ3 vs = wipeD σ vs else wipeD σ2 vs = wipeD σ vs)
    (hQ : ∀ σ', wipeD σ' vs = wipeD σ vs → QA ((l.filter p).map f) σ') : wC g t a vs l σ QA := wC_pure p f h hQ
theorem ret_part (t : T) (hb : Bd t) (lo hi : Int) : ret fn_part [tabD t, .int lo, .int hi] = some (partD t lo hi) := by
  apply ret_of
  unfold fn_part m_part
  rw [wF_D]
  have hb1 := hb.1
  refine wS_cut (fun σ => σ = [some (tabD t), some (.int lo), some (.int hi), some (.lst .own []), none, none, none]) (by simp) ?_
  rintro σ rfl
  have hgp : ∀ l ∈ (t.map (partR lo hi)).filter (fun l => !l.isEmpty), Grs l := fun l m => by
    obtain ⟨r, _, rfl⟩ := List.mem_map.mp (List.mem_filter.mp m).1
    exact grs_ok fun d m => part_ok m
  refine wS_cut (fun σ => ∃ o4 o5 o6, σ = [some (tabD t), some (.int lo), some (.int hi), some (.lst .own (((t.map (partR lo hi)).filter fun l => !l.isEmpty).map D.tup)), o4, o5, o6]) ?_ ?_
  · rw [wS_for]
    refine wI_tabD rfl ?_
    refine wL_typ (P := fun (l : T) σ => ∃ (acc : List (List D)) (o4 o5 o6 : Option D), (∀ r ∈ l, r ∈ t) ∧ acc.length + l.length ≤ t.length ∧ acc ++ (l.map (partR lo hi)).filter (fun l => !l.isEmpty) = (t.map (partR lo hi)).filter (fun l => !l.isEmpty) ∧ σ = [some (tabD t), some (.int lo), some (.int hi), some (.lst .own (acc.map D.tup)), o4, o5, o6]) rowD ?_ ?_ ⟨[], none, none, none, fun r m => m, by simp, rfl, rfl⟩
    · rintro σ ⟨acc, o4, o5, o6, _, _, e, rfl⟩
      simp at e
      exact ⟨rfl, o4, o5, o6, by rw [← e]; rfl⟩
    · rintro r l σ ⟨acc, o4, o5, o6, hm, hlen, e, rfl⟩
      have hr := hm r List.mem_cons_self
      have hw := hb.row hr
      have hkl : (keptR hi r).length ≤ 1000 := by
        have := List.length_filter_le (keepB hi) (cells r)
        unfold keptR
        rw [cells_len] at this
        omega
      have hkg : Grs (keptR hi r) := grs_ok fun d m => kept_ok m
      have hpg : Grs (partR lo hi r) := grs_ok fun d m => part_ok m
      have hpl : (partR lo hi r).length = (keptR hi r).length := by simp [partR]
      have hacc : acc.length < 16777216 := by simp at hlen; omega
      refine wG_name.mpr ⟨by simp, ?_⟩
      simp only [List.set_cons_succ, List.set_cons_zero]
      refine wS_cut (fun σ => σ = [some (tabD t), some (.int lo), some (.int hi), some (.lst .own (acc.map D.tup)), some (rowD r), some (.lst .own (keptR hi r)), o6]) ?_ ?_
      · simp only [wS_set, wE_Lc]
        refine wI_rowD rfl ?_
        refine wC_id (α := D) (cells r) (keepB hi) id (fun x hx => ?_) fun σ' w => ?_
        · rcases cells_ok hx with rfl | ⟨i, rfl⟩
          · simp [wipeD, keepB]
          · by_cases q : i ≤ hi <;> simp [wipeD, keepB, q]
        · simp only [List.map_id, gB_sn, w, unwipe_wipe]
          exact ⟨by show (keptR hi r).length ≤ _; omega, by simp, by simp, rfl⟩
      rintro σ rfl
      have hvk : views (keptR hi r) = keptR hi r := views_of hkg.1
      refine wS_if.mpr ?_
      by_cases h0 : 0 < (keptR hi r).length
      · have htt : fTuple (.lst .own (partR lo hi r)) = some (.tup (partR lo hi r)) := fTuple_lst hpg.1
        simp [hvk, h0]
        rw [wI_take]
        refine ⟨_, rfl, ?_⟩
        simp only [hkg.1, if_true, List.set_cons_succ, List.set_cons_zero]
        refine wC_id (α := D) (keptR hi r) (fun _ => true) (maskB lo) (fun x hx => ?_) fun σ' w => ?_
        · rcases kept_ok hx with rfl | ⟨i, rfl⟩
          · simp [wipeD, maskB]
          · by_cases q : i < lo <;> simp [wipeD, maskB, q]
        · rw [List.filter_eq_self.mpr (fun _ _ => rfl)]
          have e0 : (keptR hi r).map (maskB lo) = partR lo hi r := rfl
          rw [e0]
          generalize hP : partR lo hi r = P at htt hpl
          simp [w, unwipe_wipe, htt, hacc]
          have hPe : (!P.isEmpty) = true := by cases P <;> simp_all
          refine ⟨by omega, fun a b m => hm _ (List.mem_cons_of_mem _ m), acc ++ [P], by simp at hlen ⊢; omega, ?_, by simp⟩
          rw [← e, List.map_cons, hP]
          simp only [List.filter_cons, hPe, if_true, List.append_assoc, List.cons_append, List.nil_append]
      · have hnil : keptR hi r = [] := List.eq_nil_of_length_eq_zero (by omega)
        have hpe : partR lo hi r = [] := by unfold partR; rw [hnil]; rfl
        simp [hvk, hnil]
        refine ⟨fun a b m => hm _ (List.mem_cons_of_mem _ m), acc, by simp at hlen ⊢; omega, ?_, rfl⟩
        rw [← e, List.map_cons, hpe]
        rfl
  · rintro σ ⟨o4, o5, o6, rfl⟩
    have hz := noOwns_tups hgp
    show wS _ _ (kF fun x _ => x = D.tup (((t.map (partR lo hi)).filter fun l => !l.isEmpty).map D.tup))
    generalize ((t.map (partR lo hi)).filter fun l => !l.isEmpty).map D.tup = Z at hz
    have hv : views Z = Z := views_of hz.1
    have ht : fTuple (.lst .vw Z) = some (.tup Z) := fTuple_lst hz.1
    simp [hv, ht, hz.2]
end K80
namespace K80
open PySem PySem.Spec PyProof.Rows L2 Py
/-- the runs of a word so far: newest first -/
def runB (w : List Int) (k : Nat) : Bool := k == 0 || decide (w.getD k 0 < w.getD (k - 1) 0)
def runs (w : List Int) : Nat → List (List Int)
  | 0 => []
  | k + 1 => if runB w k = true then [w.getD k 0] :: runs w k else match runs w k with
    | [] => [[w.getD k 0]]
    | r :: rs => (r ++ [w.getD k 0]) :: rs
theorem runs_ne {w : List Int} : ∀ {k : Nat}, runs w (k + 1) ≠ [] := fun {k} => by
  simp only [runs]
  split
  · simp
  · split <;> simp
theorem runs_cons {w : List Int} {k : Nat} (h : runB w k = false) : ∃ r rs, runs w k = r :: rs ∧ runs w (k + 1) = (r ++ [w.getD k 0]) :: rs := by
  cases k with
  | zero => cases h
  | succ k =>
    cases e : runs w (k + 1) with
    | nil => exact absurd e runs_ne
    | cons r rs => exact ⟨r, rs, rfl, by rw [runs, if_neg (by rw [h]; decide), e]⟩
theorem runs_len {w : List Int} : ∀ k, (runs w k).length ≤ k ∧ ∀ r ∈ runs w k, r.length ≤ k
  | 0 => ⟨by simp [runs], fun r m => nomatch m⟩
  | k + 1 => by
    obtain ⟨h1, h2⟩ := runs_len (w := w) k
    cases hb : runB w k with
    | true =>
      rw [runs, if_pos hb]
      refine ⟨by simp; omega, fun r m => ?_⟩
      rcases List.mem_cons.mp m with rfl | m
      · simp
      · have := h2 r m; omega
    | false =>
      obtain ⟨r, rs, e1, e2⟩ := runs_cons hb
      rw [e2]
      rw [e1] at h1 h2
      refine ⟨by simp at h1 ⊢; omega, fun r' m => ?_⟩
      rcases List.mem_cons.mp m with rfl | m
      · have := h2 r List.mem_cons_self; simp; omega
      · have := h2 r' (List.mem_cons_of_mem _ m); omega
def intsD (l : List Int) : D := .lst .own (l.map .int)
def runsD (w : List Int) : D := .tup ((runs w w.length).map fun l => .tup (l.map .int))
theorem ret_from_row_word (w : List Int) (hw : w.length ≤ 1000) (hf : ret fn_fault [runsD w] = some (faultR (runsD w))) : ret fn_from_row_word [.tup (w.map .int)] = some (if (faultR (runsD w)).isN = true then runsD w else .non) := by
  apply ret_of
  unfold fn_from_row_word m_from_row_word
  rw [wF_D]
  have hok : okR (w.length : Int) = true := okR_len (by omega)
  refine wS_cut (fun σ => σ = [some (.tup (w.map .int)), some (.lst .own []), none, none, none]) (by simp) ?_
  rintro σ rfl
  refine wS_cut (fun σ => ∃ o2, σ = [some (.tup (w.map .int)), some (.lst .own ((runs w w.length).reverse.map intsD)), o2, none, none]) ?_ ?_
  · simp [hok]
    refine wL_rng (P := fun k σ => ∃ o2, σ = [some (.tup (w.map .int)), some (.lst .own ((runs w k).reverse.map intsD)), o2, none, none]) ⟨none, rfl⟩ ?_ ?_
    · rintro σ ⟨o2, rfl⟩
      exact ⟨rfl, o2, by simp⟩
    · rintro k σ hk ⟨o2, rfl⟩
      have ex : atI (w.map D.int) (k : Int) = some (.int w[k]) := atI_at rfl (by simp [hk])
      have hg : w.getD k 0 = w[k] := by simp [hk]
      have hrl := (runs_len (w := w) k).1
      refine wG_name.mpr ⟨by simp, ?_⟩
      simp only [List.set_cons_succ, List.set_cons_zero]
      have e0 : (0 : Int) + (k : Int) = k := by omega
      rw [e0]
      refine wS_mono (Q := fun f σ => f = .nx ∧ σ = [some (.tup (w.map .int)), some (.lst .own ((runs w (k + 1)).reverse.map intsD)), some (.int k), none, none]) ?_ ?_
      · refine wS_if.mpr ?_
        cases hb : runB w k with
        | true =>
          have hnew : runs w (k + 1) = [w[k]] :: runs w k := by rw [runs, if_pos hb, hg]
          rw [hnew]
          have hT : ∀ {Q : Bool → Sg → Prop} {σ : Sg}, σ[0]? = some (some (.tup (w.map .int))) → σ[2]? = some (some (.int k)) → Q false σ → wT (tAndM (Py.tB (m2 kGt (mVar 2) (mC (.int 0)))) (Py.tB (m2 kLe (m2 kIx (mVar 0) (m2 kSub (mVar 2) (mC (.int 1)))) (m2 kIx (mVar 0) (mVar 2))))) σ Q := by
            intro Q σ h0 h2 hq
            by_cases hk0 : k = 0
            · subst hk0
              simp [h2]
              exact hq
            · have hk1 : k - 1 < w.length := by omega
              have ep : atI (w.map D.int) ((k : Int) - 1) = some (.int w[k - 1]) := atI_at (k := k - 1) (by omega) (by simp [hk1])
              have hlt : ¬ w[k - 1] ≤ w[k] := by
                unfold runB at hb
                simp [hk0, hk, hk1] at hb
                omega
              have hk0' : 0 < k := by omega
              simp [h0, h2, ex, ep, hlt, hk0']
              exact hq
          refine hT rfl rfl ?_
          have hlen : ((runs w k).reverse.map intsD).length < 16777216 := by simp; omega
          have hR : ([w[k]] :: runs w k).reverse.map intsD = (runs w k).reverse.map intsD ++ [.lst .own [.int w[k]]] := by simp [intsD]
          rw [hR]
          generalize (runs w k).reverse.map intsD = Z at hlen
          simp [ex, hlen]
        | false =>
          obtain ⟨r, rs, e1, e2⟩ := runs_cons hb
          rw [hg] at e2
          rw [e2, e1]
          have hk0 : k ≠ 0 := fun z => by subst z; cases hb
          have hk0' : 0 < k := by omega
          have hk1 : k - 1 < w.length := by omega
          have ep : atI (w.map D.int) ((k : Int) - 1) = some (.int w[k - 1]) := atI_at (k := k - 1) (by omega) (by simp [hk1])
          have hle : w[k - 1] ≤ w[k] := by
            unfold runB at hb
            simp [hk0, hk, hk1] at hb
            omega
          have hrr : r.length < 16777216 := by
            have := (runs_len (w := w) k).2 r (by rw [e1]; exact List.mem_cons_self)
            omega
          have hA : ((r :: rs).reverse.map intsD) = rs.reverse.map intsD ++ [intsD r] := by simp
          have hB : (((r ++ [w[k]]) :: rs).reverse.map intsD) = rs.reverse.map intsD ++ [intsD (r ++ [w[k]])] := by simp
          rw [hA, hB]
          generalize rs.reverse.map intsD = Z
          have hix : ixN (Z ++ [intsD r]).length (-1) = some Z.length := by
            rw [ixN_last (by simp)]
            simp
          have hat : (Z ++ [intsD r])[Z.length]? = some (intsD r) := by simp
          have hd : dAt (.lst .own (Z ++ [intsD r])) [Z.length] = some (intsD r) := by rw [dAt_cons hat]; exact dAt_nil
          have hp : ∀ z : D, dPut (.lst .own (Z ++ [intsD r])) [Z.length] z = .lst .own (Z ++ [z]) := fun z => by
            rw [dPut_cons hat, dPut_nil]
            simp
          simp [ex, ep, hle, hk0']
          refine ⟨Z.length, by simpa using hix, r.map .int, hd, by simpa using hrr, ?_⟩
          rw [hp]
          simp [intsD]
      · rintro f σ ⟨rfl, rfl⟩
        exact ⟨some (.int k), rfl⟩
  · rintro σ ⟨o2, rfl⟩
    obtain ⟨h1, h2⟩ := runs_len (w := w) w.length
    have hfz : frzs ((runs w w.length).reverse.map intsD) = (runs w w.length).reverse.map (fun l => D.lst .frz (l.map .int)) := by
      rw [frzs_map, List.map_map]
      apply List.map_congr_left
      intro l _
      show D.lst .frz (frzs (l.map .int)) = _
      rw [frzs_of (noOwns_ints l)]
    have hrev : ((runs w w.length).reverse.map (fun l => D.lst .frz (l.map .int))).reverse = (runs w w.length).map (fun l => D.lst .frz (l.map .int)) := by simp
    have hgr : Grs ((runs w w.length).map fun l => D.tup (l.map .int)) := grs_iff.mpr fun d m => by
      obtain ⟨l, _, rfl⟩ := List.mem_map.mp m
      exact ⟨noOwns_ints l, noVws_ints l⟩
    have htt : fTuple (.lst .own ((runs w w.length).map fun l => D.tup (l.map .int))) = some (runsD w) := fTuple_lst hgr.1
    have hno : (runsD w).noOwn = true := hgr.1
    refine wS_cut (fun σ => ∃ c, σ = [some (.tup (w.map .int)), c, o2, some (runsD w), none]) ?_ ?_
    · simp only [wS_set, wE_A, wA_cons, wA_nil, wE_Lc, wI_rev, wE_frz, List.getElem?_cons_succ, List.getElem?_cons_zero, Option.some.injEq, exists_eq_left', frz_own, hfz, items_frz, hrev, k1_one]
      refine wC_map (runs w w.length) (fun l => D.lst .frz (l.map .int)) (fun l => D.tup (l.map .int)) (fun l hl => ?_) fun σ' hw => ?_
      · have h3 : fTuple (.lst .frz (l.map .int)) = some (.tup (l.map .int)) := fTuple_lst (noOwns_ints l)
        simp [wipeD, h3, noVws_ints]
      · simp only [gB_n, hw, unwipe_wipe]
        exact ⟨by simp; omega, _, htt, by simp, trivial, _, rfl⟩
    rintro σ ⟨c, rfl⟩
    have hvw : (runsD w).view = runsD w := view_of hno
    have hfr : (runsD w).frz = runsD w := frz_of hno
    simp [hno]
    refine (wF_ret hf).mpr ?_
    cases hn : (faultR (runsD w)).isN <;> simp [hfr]
end K80
namespace K80
open PySem PySem.Spec PyProof.Rows L2 Py
theorem wE_pick {i : Nat} {σ : Sg} {st : D} {l : Int} {m : M} {Q : D → Sg → Prop} (h : σ[i]? = some (some st)) (hs : St st) (hm : wE m (σ.set i none) fun x τ => x = .int l ∧ τ = σ.set i none) (h0 : 0 < l) (h1 : l < 1073741824) (hQ : ∀ (r : Int) (st' : D), 0 ≤ r → r < l → St st' → Q (.int r) (σ.set i (some st'))) :
    wE (mCall [2, 3] [some i, none] fn__law_pick (aCons (mLend i) (aCons m aNil))) σ Q := by
  rw [wE_Call, wA_cons, wE_lend]
  refine ⟨st, h, ?_⟩
  rw [if_neg (by rw [hs.no]; decide), wA_cons]
  refine wE_mono hm fun x τ hx => ?_
  obtain ⟨rfl, rfl⟩ := hx
  rw [wA_nil]
  refine pick_all hs h0 h1 fun r st' o1 o2 o3 r0 r1 hs' => ?_
  have hi := (List.getElem?_eq_some_iff.mp h).1
  have e : putB [2, 3] 0 [some i, none] [some st', o1, o2, o3] (σ.set i none) = σ.set i (some st') := by
    have e1 : (σ.set i none)[i]? = some none := by rw [List.getElem?_set_self hi]
    simp only [putB]
    rw [if_neg (by decide)]
    simp only [e1, List.set_set]
  rw [e]
  exact hQ r st' r0 r1 hs'
theorem wC_inv {g : MG} {a : M} {vs : List Nat} {QA : List D → Sg → Prop} {I : Sg → Prop} {R : D → Prop} : ∀ {ds : List D} {σ : Sg}, (∀ d ∈ ds, ∀ σ, I (wipeD σ vs) → wG g d (wipeD σ vs) fun σ1 => wE a σ1 fun x σ2 => R x ∧ I (wipeD σ2 vs)) → I (wipeD σ vs) → (∀ xs σ', xs.length = ds.length → (∀ x ∈ xs, R x) → I (wipeD σ' vs) → QA xs σ') → wC g tYesM a vs ds σ QA
  | [], σ, h, hi, hQ => wC_nil.mpr (hQ [] σ rfl (fun x m => nomatch m) hi)
  | d :: ds, σ, h, hi, hQ => by
    refine wC_cons.mpr ?_
    obtain ⟨σ1, e1, ⟨x, σ2⟩, e2, hx, hi2⟩ := h d List.mem_cons_self σ hi
    refine ⟨σ1, e1, wT_yes.mpr ?_⟩
    simp only [if_true]
    refine ⟨(x, σ2), e2, ?_⟩
    refine wC_inv (fun d m => h d (List.mem_cons_of_mem _ m)) hi2 fun xs σ' hl hr hi' => ?_
    exact hQ (x :: xs) σ' (by simp [hl]) (fun y m => by
      rcases List.mem_cons.mp m with rfl | m
      · exact hx
      · exact hr y m) hi'
theorem ints_of : ∀ {xs : List D} {lo hi : Int}, (∀ x ∈ xs, ∃ i, x = .int i ∧ lo ≤ i ∧ i ≤ hi) → ∃ ns : List Int, xs = ns.map .int ∧ ∀ n ∈ ns, lo ≤ n ∧ n ≤ hi
  | [], lo, hi, _ => ⟨[], rfl, fun n m => nomatch m⟩
  | x :: xs, lo, hi, h => by
    obtain ⟨i, rfl, hi'⟩ := h x List.mem_cons_self
    obtain ⟨ns, e, hn⟩ := ints_of fun y m => h y (List.mem_cons_of_mem _ m)
    exact ⟨i :: ns, by rw [e]; rfl, fun n m => by
      rcases List.mem_cons.mp m with rfl | m
      · exact hi'
      · exact hn n m⟩
theorem fin_runs {w : List Int} (hw : w.length ≤ 1000) : Fin (runsD w) ∧ (runsD w).noOwn = true := by
  obtain ⟨h1, h2⟩ := runs_len (w := w) w.length
  have hgr : Grs ((runs w w.length).map fun l => D.tup (l.map .int)) := grs_iff.mpr fun d m => by
    obtain ⟨l, _, rfl⟩ := List.mem_map.mp m
    exact ⟨noOwns_ints l, noVws_ints l⟩
  refine ⟨⟨hgr, by simp; omega, fun r m => ?_⟩, hgr.1⟩
  obtain ⟨l, hl, rfl⟩ := List.mem_map.mp m
  have := h2 l hl
  show (l.map D.int).length ≤ 1000000
  simp
  omega
theorem pl_runs {w : List Int} (hw : w.length ≤ 1000) : Pl 5 (runsD w) := by
  obtain ⟨h1, h2⟩ := runs_len (w := w) w.length
  refine ⟨by simp; omega, pls_of fun d m => ?_⟩
  obtain ⟨l, hl, rfl⟩ := List.mem_map.mp m
  have := h2 l hl
  refine ⟨by simp; omega, pls_of fun d m => ?_⟩
  obtain ⟨i, _, rfl⟩ := List.mem_map.mp m
  trivial
theorem wF_from_word {t : T} {st : D} {Q : D → Sg → Prop} (hb : Bd t) (hwt : (rwd t).length ≤ 1000) (hs : St st) (hQ : ∀ st' r, St st' → Q (.bl true) (some st' :: r)) : wF fn__law_from_word [st, tabD t] Q := by
  unfold fn__law_from_word m__law_from_word
  rw [wF_D]
  have hrw := ret_row_word t hb
  refine wS_cut (fun σ => ∃ w : List Int, w.length ≤ 1000 ∧ σ = [some st, some (tabD t), some (.tup (w.map .int)), none, none, none, none]) ?_ ?_
  · simp [wF_ret hrw]
    exact ⟨rwd t, hwt, rfl⟩
  rintro σ ⟨w, hw, rfl⟩
  refine wS_cut (fun σ => ∃ (st' : D) (w : List Int) (o3 : Option D), St st' ∧ w.length ≤ 1000 ∧ σ = [some st', some (tabD t), some (.tup (w.map .int)), o3, none, none, none]) ?_ ?_
  · refine wS_if.mpr ?_
    rw [wT_B, wE_m2]
    refine wE_pick (l := 2) rfl hs (by simp) (by decide) (by decide) fun r st1 r0 r1 hs1 => ?_
    simp only [wE_C, kEq_int, Option.some.injEq, exists_eq_left', D.bl.injEq, List.set_cons_zero]
    by_cases hr : r = 0
    · simp only [hr, beq_self_eq_true, if_true]
      rw [wS_set, wE_A, wA_cons, wE_Lc, wI_rng1]
      refine wE_pick (l := 6) rfl hs1 (by simp) (by decide) (by decide) fun n st2 n0 n1 hs2 => ?_
      have hok : okR n = true := by unfold okR; exact decide_eq_true (by omega)
      refine ⟨n, rfl, hok, ?_⟩
      simp only [List.set_cons_zero]
      refine wC_inv (I := fun σ => ∃ st', St st' ∧ σ = [some st', some (tabD t), some (.tup (w.map .int)), none, none, none, none]) (R := fun x => ∃ i, x = .int i ∧ 1 ≤ i ∧ i ≤ 3) (fun d hd σ hI => ?_) ⟨st2, hs2, rfl⟩ fun xs σ' hl hr hI => ?_
      · obtain ⟨st3, hs3, e⟩ := hI
        rw [e]
        obtain ⟨k, _, rfl⟩ := up_mem hd
        refine wG_name.mpr ⟨by simp, ?_⟩
        simp only [List.set_cons_succ, List.set_cons_zero]
        rw [wE_m2, wE_C]
        refine wE_pick (l := 3) rfl hs3 (by simp) (by decide) (by decide) fun r st4 r0 r1 hs4 => ?_
        refine ⟨_, kAdd_int, ⟨_, rfl, by omega, by omega⟩, st4, hs4, rfl⟩
      · obtain ⟨st3, hs3, e⟩ := hI
        obtain ⟨ns, rfl, hn⟩ := ints_of hr
        have hl2 : ns.length ≤ 5 := by
          rw [List.length_map, up_len] at hl
          omega
        rw [wA_nil]
        have e2 : σ'.set 3 none = [some st3, some (tabD t), some (.tup (w.map .int)), none, none, none, none] := e
        have hun : unwipe [some st2, some (tabD t), some (.tup (w.map .int)), none, none, none, none] [3] (wipeD σ' [3]) = [some st3, some (tabD t), some (.tup (w.map .int)), none, none, none, none] := by
          rw [e]
          rfl
        rw [gB_n, hun]
        have ht : k1 fTuple [D.lst Fl.own (ns.map D.int)] = some (.tup (ns.map .int)) := fTuple_lst (f := Fl.own) (noOwns_ints ns)
        exact ⟨by simp; omega, _, ht, by simp, trivial, st3, ns, none, hs3, by omega, rfl⟩
    · have hb0 : (r == 0) = false := by simpa using hr
      simp only [hb0, Bool.false_eq_true, if_false]
      exact wS_nil.mpr ⟨rfl, st1, w, none, hs1, hw, rfl⟩
  clear hs hrw hwt hw w
  rintro σ ⟨st1, w, o3, hs1, hw, rfl⟩
  have hno1 := hs1.no
  have hok : okR (w.length : Int) = true := okR_len (by omega)
  obtain ⟨hl1, hl2⟩ := runs_len (w := w) w.length
  refine wS_cut (fun σ => σ = [some st1, some (tabD t), some (.tup (w.map .int)), o3, some (.lst .own []), none, none]) (by simp) ?_
  rintro σ rfl
  refine wS_cut (fun σ => ∃ o3, σ = [some st1, some (tabD t), some (.tup (w.map .int)), o3, some (.lst .own ((runs w w.length).map intsD)), none, none]) ?_ ?_
  · simp [hok]
    refine wL_rng (P := fun k σ => ∃ o3, σ = [some st1, some (tabD t), some (.tup (w.map .int)), o3, some (.lst .own ((runs w k).map intsD)), none, none]) ⟨o3, rfl⟩ ?_ ?_
    · rintro σ ⟨o3, rfl⟩
      exact ⟨rfl, o3, rfl⟩
    · rintro k σ hk ⟨o3, rfl⟩
      have ex : atI (w.map D.int) (k : Int) = some (.int w[k]) := atI_at rfl (by simp [hk])
      have hg : w.getD k 0 = w[k] := by simp [hk]
      have hrl := (runs_len (w := w) k).1
      have e0 : (0 : Int) + (k : Int) = k := by omega
      rw [e0]
      refine wG_name.mpr ⟨by simp, ?_⟩
      simp only [List.set_cons_succ, List.set_cons_zero]
      refine wS_cut (fun σ => ∃ (r : List Int) (rs : List (List Int)), r.length ≤ 1000 ∧ (r ++ [w[k]]) :: rs = runs w (k + 1) ∧ σ = [some st1, some (tabD t), some (.tup (w.map .int)), some (.int k), some (.lst .own (intsD r :: rs.map intsD)), none, none]) ?_ ?_
      · refine wS_if.mpr ?_
        have hT : ∀ {Q : Bool → Sg → Prop} {σ : Sg}, σ[2]? = some (some (.tup (w.map .int))) → σ[3]? = some (some (.int k)) → Q (runB w k) σ → wT (tOrM (Py.tB (m2 kEq (mVar 3) (mC (.int 0)))) (Py.tB (m2 kGt (m2 kIx (mVar 2) (m2 kSub (mVar 3) (mC (.int 1)))) (m2 kIx (mVar 2) (mVar 3))))) σ Q := by
          intro Q σ h0 h2 hq
          by_cases hk0 : k = 0
          · subst hk0
            simp [h2]
            exact hq
          · have hk1 : k - 1 < w.length := by omega
            have ep : atI (w.map D.int) ((k : Int) - 1) = some (.int w[k - 1]) := atI_at (k := k - 1) (by omega) (by simp [hk1])
            have hq2 : Q (decide (w[k] < w[k - 1])) σ := by
              have : runB w k = decide (w[k] < w[k - 1]) := by
                unfold runB
                simp [hk0, hk, hk1]
              rw [← this]
              exact hq
            simp [h0, h2, ex, ep, hk0]
            cases hd : decide (w[k] < w[k - 1])
            · rw [hd] at hq2
              have := of_decide_eq_false hd
              simp [this, hq2]
              omega
            · rw [hd] at hq2
              have := of_decide_eq_true hd
              simp [this, hq2]
        refine hT rfl rfl ?_
        cases hb : runB w k with
        | true =>
          have hnew : runs w (k + 1) = [w[k]] :: runs w k := by rw [runs, if_pos hb, hg]
          have hadd : kAdd (.lst .own [.lst .own []]) (.lst .own ((runs w k).map intsD)) = some (.lst .own (.lst .own [] :: (runs w k).map intsD)) := kAdd_lst (by decide) (by decide) (by simp; omega)
          simp only [if_true]
          refine wS_mono (Q := fun f σ => f = .nx ∧ σ = [some st1, some (tabD t), some (.tup (w.map .int)), some (.int k), some (.lst .own (.lst .own [] :: (runs w k).map intsD)), none, none]) ?_ ?_
          · generalize (runs w k).map intsD = Z at hadd
            simp [hadd]
          · rintro f σ ⟨rfl, rfl⟩
            exact ⟨rfl, [], runs w k, by simp, by rw [hnew]; rfl, rfl⟩
        | false =>
          obtain ⟨r, rs, e1, e2⟩ := runs_cons hb
          have := (runs_len (w := w) k).2 r (by rw [e1]; exact List.mem_cons_self)
          rw [hg] at e2
          rw [e1]
          simp only [Bool.false_eq_true, if_false]
          exact wS_nil.mpr ⟨rfl, r, rs, by omega, e2.symm, rfl⟩
      rintro σ ⟨r, rs, hr, e, rfl⟩
      refine wS_mono (Q := fun f σ => f = .nx ∧ σ = [some st1, some (tabD t), some (.tup (w.map .int)), some (.int k), some (.lst .own (intsD (r ++ [w[k]]) :: rs.map intsD)), none, none]) ?_ ?_
      · have hix : ixN (rs.map intsD).length.succ 0 = some 0 := ixN_nat (k := 0) (by omega)
        have hat : (intsD r :: rs.map intsD)[0]? = some (intsD r) := rfl
        generalize rs.map intsD = Z at hat
        have hd : dAt (.lst .own (intsD r :: Z)) [0] = some (intsD r) := by rw [dAt_cons hat]; exact dAt_nil
        have hp : ∀ z : D, dPut (.lst .own (intsD r :: Z)) [0] z = .lst .own (z :: Z) := fun z => by
          rw [dPut_cons hat, dPut_nil]
          rfl
        have hix : ixN (Z.length + 1) 0 = some 0 := ixN_nat (k := 0) (by omega)
        simp [ex, hix]
        refine ⟨r.map .int, hd, by simp; omega, ?_⟩
        rw [hp]
        simp [intsD]
      · rintro f σ ⟨rfl, rfl⟩
        exact ⟨some (.int k), by rw [← e]; rfl⟩
  rintro σ ⟨o3', rfl⟩
  obtain ⟨hfin, hno⟩ := fin_runs (w := w) hw
  have hfa := ret_fault (.inl hno) hfin
  have hlf := ret_law_fault (.inl hno) hfin
  have hfr := ret_from_row_word w hw hfa
  have hvw : (runsD w).view = runsD w := view_of hno
  refine wS_cut (fun σ => σ = [some st1, some (tabD t), some (.tup (w.map .int)), o3', none, some (runsD w), none] ∨ ∃ c, σ = [some st1, some (tabD t), some (.tup (w.map .int)), o3', some c, some (runsD w), none]) ?_ ?_
  · rw [wS_set, wE_A, wA_cons, wE_Lc, wI_take]
    refine ⟨_, rfl, ?_⟩
    have hgr : Grs ((runs w w.length).map fun l => D.tup (l.map .int)) := grs_iff.mpr fun d m => by
      obtain ⟨l, _, rfl⟩ := List.mem_map.mp m
      exact ⟨noOwns_ints l, noVws_ints l⟩
    have htt : k1 fTuple [D.lst Fl.own ((runs w w.length).map fun l => D.tup (l.map .int))] = some (runsD w) := fTuple_lst (f := Fl.own) hgr.1
    have hfz : frzs ((runs w w.length).map intsD) = (runs w w.length).map (fun l => D.lst .frz (l.map .int)) := by
      rw [frzs_map, List.map_map]
      apply List.map_congr_left
      intro l _
      show D.lst .frz (frzs (l.map .int)) = _
      rw [frzs_of (noOwns_ints l)]
    by_cases hn : noOwns ((runs w w.length).map intsD) = true
    · have hnil : runs w w.length = [] := by
        cases hx : runs w w.length with
        | nil => rfl
        | cons a l => rw [hx] at hn; simp [intsD] at hn
      simp only [hn, if_true]
      rw [hnil] at htt ⊢
      refine wC_nil.mpr ?_
      rw [gB_ss, unwipe_wipe, wA_nil]
      exact ⟨by simp, _, htt, by simp, trivial, .inr ⟨_, rfl⟩⟩
    · simp only [hn, Bool.false_eq_true, if_false, hfz]
      refine wC_map (runs w w.length) (fun l => D.lst .frz (l.map .int)) (fun l => D.tup (l.map .int)) (fun l hl => ?_) fun σ' hw => ?_
      · have h3 : fTuple (.lst .frz (l.map .int)) = some (.tup (l.map .int)) := fTuple_lst (noOwns_ints l)
        simp [wipeD, h3, noVws_ints]
      · rw [gB_sn, hw, unwipe_wipe, wA_nil]
        exact ⟨by simp; omega, _, htt, by simp, trivial, .inr ⟨_, rfl⟩⟩
  intro σ hσ
  have hlast : ∀ o4 : Option D, wS (sSeq (sIf (Py.tB (m2 kNotN (mCall [1, 2, 3, 4] [some 5] fn__law_fault (aCons (mLend 5) aNil)) (mC .non))) (sSet 5 (mC .non)) sNil) (sRet (mCall [] [none, some 5] fn__law_same (aCons (mCall [1, 2, 3] [some 2] fn_from_row_word (aCons (mLend 2) aNil)) (aCons (mLend 5) aNil))))) [some st1, some (tabD t), some (.tup (w.map .int)), o3', o4, some (runsD w), none] (kF Q) := fun o4 => by
    have hpl := pl_runs (w := w) hw
    refine wS_cut (fun σ => σ = [some st1, some (tabD t), some (.tup (w.map .int)), o3', o4, some (if (faultR (runsD w)).isN = true then runsD w else .non), none]) ?_ ?_
    · simp [hno]
      refine (wF_ret hlf).mpr ?_
      cases hx : (faultR (runsD w)).isN <;> simp
    rintro σ rfl
    have hsame : ret fn__law_same [(if (faultR (runsD w)).isN = true then runsD w else .non), (if (faultR (runsD w)).isN = true then runsD w else .non)] = some (.bl true) := same_refl (by split <;> first | exact hpl | trivial)
    have hno2 : (if (faultR (runsD w)).isN = true then runsD w else .non).noOwn = true := by split <;> first | exact hno | rfl
    generalize (if (faultR (runsD w)).isN = true then runsD w else D.non) = z at hfr hsame hno2
    simp [noOwns_ints]
    refine (wF_ret hfr).mpr ?_
    simp [hno2]
    refine (wF_ret hsame).mpr ?_
    exact hQ _ _ hs1
  rcases hσ with rfl | ⟨c, rfl⟩
  · exact hlast none
  · exact hlast (some c)
end K80
namespace K80
open PySem PySem.Spec PyProof.Rows L2 Py
theorem letters_sorted (cs : List Int) : (lettersL cs).Pairwise (· ≤ ·) := by
  unfold lettersL
  rw [List.flatMap, List.pairwise_flatten]
  refine ⟨fun l hl => ?_, ?_⟩
  · obtain ⟨k, _, rfl⟩ := List.mem_map.mp hl
    rw [List.pairwise_replicate]
    exact .inr (Int.le_refl _)
  · rw [List.pairwise_map]
    refine List.pairwise_lt_range.imp fun {a b} hab x hx y hy => ?_
    rw [(List.mem_replicate.mp hx).2, (List.mem_replicate.mp hy).2]
    omega
theorem letters_count (cs : List Int) (x : Int) : (lettersL cs).count x = if 1 ≤ x ∧ x ≤ cs.length then (cs.getD (x - 1).toNat 0).toNat else 0 := by
  unfold lettersL
  have go : ∀ n, ((List.range n).flatMap fun k => List.replicate (cs.getD k 0).toNat ((k : Int) + 1)).count x = if 1 ≤ x ∧ x ≤ n then (cs.getD (x - 1).toNat 0).toNat else 0 := by
    intro n
    induction n with
    | zero =>
      rw [if_neg (by omega)]
      rfl
    | succ n ih =>
      rw [List.range_succ, List.flatMap_append, List.count_append, ih]
      have e : ([n].flatMap fun k => List.replicate (cs.getD k 0).toNat ((k : Int) + 1)) = List.replicate (cs.getD n 0).toNat ((n : Int) + 1) := by simp
      rw [e, List.count_replicate]
      by_cases h : x = (n : Int) + 1
      · subst h
        have e2 : ((n : Int) + 1 - 1).toNat = n := by omega
        rw [if_neg (by omega), if_pos (by simp), if_pos (by omega), e2]
        simp
      · have hb : ¬ (((n : Int) + 1) == x) = true := by simp; omega
        rw [if_neg hb, Nat.add_zero]
        by_cases h2 : 1 ≤ x ∧ x ≤ n
        · rw [if_pos h2, if_pos (by omega)]
        · rw [if_neg h2, if_neg (by omega)]
  exact go cs.length
theorem letters_perm {w : List Int} (hw : ∀ x ∈ w, 1 ≤ x) : (lettersL (cntL (mxs 0 w).toNat w)).Perm w := by
  obtain ⟨g1, g2⟩ := mxs_ge w 0
  obtain ⟨m, hm⟩ := Int.eq_ofNat_of_zero_le g1
  rw [hm, Int.toNat_natCast]
  rw [List.perm_iff_count]
  intro x
  rw [letters_count]
  have hl : (cntL m w).length = m := by simp [cntL]
  rw [hl]
  by_cases h : 1 ≤ x ∧ x ≤ m
  · rw [if_pos h]
    have hk : (x - 1).toNat < m := by omega
    have e : (((x - 1).toNat : Nat) : Int) + 1 = x := by omega
    have e2 : (cntL m w).getD (x - 1).toNat 0 = ((w.count x : Nat) : Int) := by
      simp only [cntL, List.getD_eq_getElem?_getD, List.getElem?_map, List.getElem?_range hk, Option.map_some, Option.getD_some]
      rw [e]
      rfl
    rw [e2]
    simp
  · rw [if_neg h]
    symm
    refine List.count_eq_zero.mpr fun hx => h ⟨hw x hx, ?_⟩
    have := g2 x hx
    omega
/-- the letters by rank are the word -/
theorem pick_rank {w L : List Int} (hp : L.Perm w) (hs : L.Pairwise (· ≤ ·)) : (rkL w).map (pickL L) = w := by
  obtain ⟨ys, hy, hsy⟩ := sorted_prs w
  have hyl : ys.length = w.length := by rw [hy.length_eq]; simp [prs]
  have hw1 : (prs w).map (·.1) = w := by
    unfold prs
    rw [List.map_map]
    apply List.ext_getElem
    · simp
    · intro i h1 h2
      simp at h1
      simp [h1]
  have hL : L = ys.map (·.1) := by
    refine List.Perm.eq_of_pairwise (le := (· ≤ ·)) (fun a b _ _ h1 h2 => Int.le_antisymm h1 h2) hs ?_ (hp.trans ?_)
    · rw [List.pairwise_map]
      exact hsy.imp fun {a b} h => by rcases h with h | h <;> omega
    · have := (hy.map (·.1)).symm
      rw [hw1] at this
      exact this
  apply List.ext_getElem
  · simp [rkL]
  · intro k h1 h2
    have hm : (w.getD k 0, k) ∈ ys := hy.mem_iff.mpr (List.mem_map.mpr ⟨k, List.mem_range.mpr h2, rfl⟩)
    obtain ⟨i, hi, e⟩ := List.mem_iff_getElem.mp hm
    have hr := rank_index hy hsy i hi
    rw [e] at hr
    simp only at hr
    have e3 : (rkL w)[k]'(by simpa [rkL] using h2) = (i : Int) + 1 := by
      simp only [rkL, List.getElem_map, List.getElem_range]
      exact hr
    rw [List.getElem_map, e3]
    unfold pickL
    have e4 : ((i : Int) + 1 - 1).toNat = i := by omega
    rw [e4, hL]
    have : (ys.map (·.1)).getD i 0 = (ys[i]).1 := by simp [hi]
    rw [this, e]
    simp [h2]
theorem fill_self : ∀ t : T, fillT t (rwd t) = t := fun t => by
  have := fill_map id t
  rw [List.map_id] at this
  rw [this]
  unfold mapT
  simp
theorem deq_ints : ∀ d : D, Pl 5 d → d.deq d = true := by
  have go : ∀ (n : Nat) (d : D), Pl n d → d.deq d = true := by
    intro n
    induction n with
    | zero => intro d h; cases d <;> first | exact h.elim | simp [D.deq]
    | succ n ih =>
      intro d h
      cases d with
      | tup xs =>
        have h2 := h.2
        show deqs xs xs = true
        have : ∀ ys : List D, Pls n ys → deqs ys ys = true := by
          intro ys
          induction ys with
          | nil => intro _; rfl
          | cons y ys ih2 => intro hy; simp only [deqs, ih y hy.1, ih2 hy.2, Bool.and_self]
        exact this xs h2
      | str x => exact h.elim
      | lst f xs => exact h.elim
      | _ => simp [D.deq]
  exact fun d h => go 5 d h
theorem pl_tab {t : T} (hb : Bd t) : Pl 5 (tabD t) := by
  refine ⟨by have := hb.1; simp; omega, pls_of fun d m => ?_⟩
  obtain ⟨r, hr, rfl⟩ := List.mem_map.mp m
  have := hb.row hr
  refine ⟨by rw [cells_len]; omega, pls_of fun d m => ?_⟩
  rcases cells_ok m with rfl | ⟨i, rfl⟩ <;> trivial
/-- its own content gives a tableau back -/
theorem wc_self {t : T} (hb : Bd t) (hl : ∀ r ∈ t, ∀ x ∈ r.2, (1 : Int) ≤ x) (hg : (faultR (tabD t)).isN = true) : wcR (stdT t) (cntL (mxs 0 (rwd t)).toNat (rwd t)) = tabD t := by
  have hw : ∀ x ∈ rwd t, 1 ≤ x := fun x m => by
    obtain ⟨r, hr, hx⟩ := List.mem_flatMap.mp m
    exact hl r (List.mem_reverse.mp hr) x hx
  have hp := letters_perm hw
  have hwc : wcT (stdT t) (cntL (mxs 0 (rwd t)).toNat (rwd t)) = t := by
    unfold wcT
    rw [← fill_map, rwd_std, pick_rank hp (letters_sorted _)]
    have hf : ∀ (t : T) (ls ms : List Int), ls.length = lets t → ms.length = lets t → fillT (fillT t ls) ms = fillT t ms := by
      intro t
      induction t with
      | nil => intro ls ms _ _; rfl
      | cons r t ih =>
        intro ls ms h1 h2
        have e1 : lets (r :: t) = r.2.length + lets t := by simp [lets]
        simp only [fillT]
        have e2 : (ls.drop (ls.length - r.2.length)).length = r.2.length := by simp; omega
        simp only [e2]
        rw [ih _ _ (by simp; omega) (by simp; omega)]
    have := hf t (rkL (rwd t)) (rwd t) (by rw [rkL_len, rwd_lets]) (rwd_lets t)
    unfold stdT
    rw [this, fill_self]
  have hlen : (lettersL (cntL (mxs 0 (rwd t)).toNat (rwd t))).length = lets (stdT t) := by
    rw [hp.length_eq, rwd_lets, lets_of (std_shape t)]
  unfold wcR
  rw [if_pos hlen, hwc, if_pos ⟨hg, deq_ints _ (pl_tab (bd_of hb (std_shape t)))⟩]
end K80
namespace K80
open PySem PySem.Spec PyProof.Rows L2 Py
theorem wE_pickN {i j : Nat} {σ : Sg} {st : D} {l : Int} {Q : D → Sg → Prop} (h : σ[i]? = some (some st)) (hj : σ[j]? = some (some (.int l))) (hij : i ≠ j) (hs : St st) (h0 : 0 < l) (h1 : l < 1073741824) (hQ : ∀ (r : Int) (st' : D), 0 ≤ r → r < l → St st' → Q (.int r) (σ.set i (some st'))) :
    wE (mCall [2, 3] [some i, some j] fn__law_pick (aCons (mLend i) (aCons (mLend j) aNil))) σ Q := by
  rw [wE_Call, wA_cons, wE_lend]
  refine ⟨st, h, ?_⟩
  rw [if_neg (by rw [hs.no]; decide), wA_cons, wE_lend]
  refine ⟨.int l, by rw [List.getElem?_set_ne hij]; exact hj, ?_⟩
  rw [if_pos noOwn_int, wA_nil]
  refine pick_all hs h0 h1 fun r st' o1 o2 o3 r0 r1 hs' => ?_
  have hi := (List.getElem?_eq_some_iff.mp h).1
  have e : putB [2, 3] 0 [some i, some j] [some st', o1, o2, o3] (σ.set i none) = σ.set i (some st') := by
    have e1 : (σ.set i none)[i]? = some none := by rw [List.getElem?_set_self hi]
    have e2 : (σ.set i (some st'))[j]? = some (some (.int l)) := by rw [List.getElem?_set_ne hij]; exact hj
    simp only [putB]
    rw [if_neg (by decide), if_neg (by decide)]
    simp only [e1, List.set_set, e2]
  rw [e]
  exact hQ r st' r0 r1 hs'
def ShOk (sh : List Int) : Prop := sh.length ≤ 5 ∧ sh.Pairwise (· ≥ ·) ∧ ∀ x ∈ sh, 1 ≤ x ∧ x ≤ 7
theorem wF_shape {st : D} {Q : D → Sg → Prop} (hs : St st) (hQ : ∀ st' sh r, St st' → ShOk sh → Q (.tup (sh.map .int)) (some st' :: r)) : wF fn__law_shape [st, .int 5, .int 7] Q := by
  unfold fn__law_shape m__law_shape
  rw [wF_D]
  refine wS_cut (fun σ => σ = [some st, some (.int 5), some (.int 7), some (.lst .own []), none, none]) (by simp) ?_
  rintro σ rfl
  refine wS_cut (fun σ => σ = [some st, some (.int 5), some (.int 7), some (.lst .own []), some (.int 7), none]) (by simp) ?_
  rintro σ rfl
  refine wS_cut (fun σ => ∃ (st' : D) (ns : List Int) (o4 o5 : Option D), St st' ∧ ns.length ≤ 5 ∧ (∀ x ∈ ns, (1 : Int) ≤ x ∧ x ≤ 7) ∧ σ = [some st', some (.int 5), some (.int 7), some (.lst .own (ns.map .int)), o4, o5]) ?_ ?_
  · rw [wS_for, wI_rng1]
    refine wE_pick (l := 6) rfl hs (by simp) (by decide) (by decide) fun n st1 n0 n1 hs1 => ?_
    refine ⟨n, rfl, by unfold okR; exact decide_eq_true (by omega), ?_⟩
    simp only [List.set_cons_zero]
    refine wL_rng (P := fun k σ => ∃ (st' : D) (ns : List Int) (left : Int) (o5 : Option D), St st' ∧ ns.length ≤ k ∧ left ≤ 7 ∧ (∀ x ∈ ns, (1 : Int) ≤ x ∧ x ≤ 7) ∧ σ = [some st', some (.int 5), some (.int 7), some (.lst .own (ns.map .int)), some (.int left), o5]) ⟨st1, [], 7, none, hs1, by simp, by omega, fun x m => (List.not_mem_nil m).elim, rfl⟩ ?_ ?_
    · rintro σ ⟨st', ns, left, o5, hs', h1, _, h2, rfl⟩
      exact ⟨rfl, st', ns, _, o5, hs', by omega, h2, rfl⟩
    · rintro k σ hk ⟨st', ns, left, o5, hs', h1, hl, h2, rfl⟩
      refine wG_name.mpr ⟨by simp, ?_⟩
      simp only [List.set_cons_succ, List.set_cons_zero]
      refine wS_cut (fun σ => ∃ (st' : D) (left' : Int), St st' ∧ left' ≤ left ∧ σ = [some st', some (.int 5), some (.int 7), some (.lst .own (ns.map .int)), some (.int left'), some (.int (0 + (k : Int)))]) ?_ ?_
      · rw [wS_set, wE_m2, wE_frz]
        refine ⟨_, rfl, ?_⟩
        simp only [frz_int, List.set_cons_succ, List.set_cons_zero]
        rw [wE_m2]
        refine wE_pick (l := 3) rfl hs' (by simp) (by decide) (by decide) fun a st2 a0 a1 hs2 => ?_
        simp only [List.set_cons_zero]
        refine wE_pick (l := 2) rfl hs2 (by simp) (by decide) (by decide) fun b st3 b0 b1 hs3 => ?_
        simp only [List.set_cons_zero]
        have hab : 0 ≤ a * b := Int.mul_nonneg a0 b0
        exact ⟨_, kMul_intR (by omega), _, kSub_int, by simp, trivial, st3, left - a * b, hs3, by omega, rfl⟩
      rintro σ ⟨st2, left', hs2, hle, rfl⟩
      refine wS_if.mpr ?_
      simp only [wT_B, wE_m2, wE_var, wE_C, List.getElem?_cons_succ, List.getElem?_cons_zero, Option.some.injEq, exists_eq_left', view_int, kGt_int, D.bl.injEq]
      by_cases hp : 0 < left'
      · simp only [hp, decide_true, if_true]
        rw [wS_app]
        refine ⟨_, rfl, ?_⟩
        rw [wE_m2, wE_C]
        refine wE_pickN (l := left') rfl rfl (by decide) hs2 hp (by omega) fun r st3 r0 r1 hs3 => ?_
        refine ⟨_, kAdd_int, _, _, rfl, rfl, by simp; omega, ?_⟩
        refine ⟨st3, ns ++ [1 + r], left', some (.int (0 + (k : Int))), hs3, by simp; omega, by omega, fun x m => ?_, ?_⟩
        · rcases List.mem_append.mp m with m | m
          · exact h2 x m
          · have := List.mem_singleton.mp m
            omega
        · rw [List.map_append]
          rfl
      · simp only [hp, decide_false, Bool.false_eq_true, if_false]
        exact wS_nil.mpr ⟨st2, ns, left', _, hs2, by omega, by omega, h2, rfl⟩
  rintro σ ⟨st', ns, o4, o5, hs', h1, h2, rfl⟩
  obtain ⟨ys, hp, hsrt⟩ := exists_sorted ns
  have hv : views (ns.map D.int) = ns.map D.int := views_of (noOwns_ints ns)
  have hsort : fSortB true (.lst .vw (ns.map .int)) = some (.lst .own (ys.reverse.map .int)) := fSortR_ints (by omega) ((List.reverse_perm ys).trans hp) (by rw [List.pairwise_reverse]; exact hsrt.imp fun h => h)
  have ht : fTuple (.lst .own (ys.reverse.map .int)) = some (.tup (ys.reverse.map .int)) := fTuple_lst (noOwns_ints _)
  have hq := hQ st' ys.reverse [some (.int 5), some (.int 7), some (.lst .own (ns.map .int)), o4, o5] hs' ⟨by rw [List.length_reverse, hp.length_eq]; exact h1, by rw [List.pairwise_reverse]; exact hsrt.imp fun h => h, fun x m => h2 x (hp.mem_iff.mp (List.mem_reverse.mp m))⟩
  have hnv := noVws_ints ys.reverse
  generalize ys.reverse.map D.int = Y at hsort ht hq hnv
  generalize ns.map D.int = Z at hv hsort hq ⊢
  simp [hv, hsort, ht, hnv]
  exact hq
end K80
namespace K80
open PySem PySem.Spec PyProof.Rows L2 Py
def FlOk (sh fl : List Int) : Prop := fl.length ≤ sh.length ∧ fl.Pairwise (· ≥ ·) ∧ (∀ x ∈ fl, 1 ≤ x) ∧ ∀ (k : Nat) (x y : Int), fl[k]? = some x → sh[k]? = some y → x ≤ y
theorem wF_within {st : D} {sh : List Int} {Q : D → Sg → Prop} (hs : St st) (hsh : ShOk sh) (hQ : ∀ st' fl r, St st' → FlOk sh fl → Q (.tup (fl.map .int)) (some st' :: r)) : wF fn__law_within [st, .tup (sh.map .int)] Q := by
  unfold fn__law_within m__law_within
  rw [wF_D]
  obtain ⟨s1, s2, s3⟩ := hsh
  refine wS_cut (fun σ => σ = [some st, some (.tup (sh.map .int)), some (.lst .own []), none, none]) (by simp) ?_
  rintro σ rfl
  refine wS_cut (fun σ => σ = [some st, some (.tup (sh.map .int)), some (.lst .own []), some (.int 99), none]) (by simp) ?_
  rintro σ rfl
  refine wS_cut (fun σ => ∃ (st' : D) (fl : List Int) (o3 o4 : Option D), St st' ∧ FlOk sh fl ∧ σ = [some st', some (.tup (sh.map .int)), some (.lst .own (fl.map .int)), o3, o4]) ?_ ?_
  · rw [wS_for]
    refine wI_tupD rfl ?_
    refine wL_typ (P := fun (l : List Int) σ => ∃ (st' : D) (pre fl : List Int) (left : Int) (o4 : Option D), St st' ∧ pre ++ l = sh ∧ fl.length ≤ pre.length ∧ (0 < left → fl.length = pre.length) ∧ 0 ≤ left ∧ fl.Pairwise (· ≥ ·) ∧ (∀ x ∈ fl, 1 ≤ x ∧ left ≤ x) ∧ (∀ (k : Nat) (x y : Int), fl[k]? = some x → sh[k]? = some y → x ≤ y) ∧ σ = [some st', some (.tup (sh.map .int)), some (.lst .own (fl.map .int)), some (.int left), o4]) D.int ?_ ?_ ⟨st, [], [], 99, none, hs, rfl, Nat.le_refl _, fun _ => rfl, by omega, .nil, fun x m => (List.not_mem_nil m).elim, fun k x y h => by simp at h, rfl⟩
    · rintro σ ⟨st', pre, fl, left, o4, hs', e, h1, h2, h3, h4, h5, h6, rfl⟩
      simp at e
      subst e
      exact ⟨rfl, st', fl, some (.int left), o4, hs', ⟨h1, h4, fun x m => (h5 x m).1, h6⟩, rfl⟩
    · rintro many l σ ⟨st', pre, fl, left, o4, hs', e, h1, h2, h3, h4, h5, h6, rfl⟩
      have hmany := s3 many (by rw [← e]; simp)
      have hpre : pre.length + (l.length + 1) = sh.length := by rw [← e]; simp
      refine wG_name.mpr ⟨by simp, ?_⟩
      simp only [List.set_cons_succ, List.set_cons_zero]
      refine wS_cut (fun σ => ∃ (st' : D) (p : Int), St st' ∧ 0 ≤ p ∧ σ = [some st', some (.tup (sh.map .int)), some (.lst .own (fl.map .int)), some (.int (min (min left many) p)), some (.int many)]) ?_ ?_
      · rw [wS_set, wE_A, wA_cons, wE_frz]
        refine ⟨_, rfl, ?_⟩
        simp only [frz_int, List.set_cons_succ, List.set_cons_zero]
        rw [wA_cons, wE_frz]
        refine ⟨_, rfl, ?_⟩
        simp only [frz_int, List.set_cons_succ, List.set_cons_zero]
        rw [wA_cons]
        refine wE_pick (l := many + 1) rfl hs' (by simp) (by omega) (by omega) fun p st2 p0 p1 hs2 => ?_
        simp only [List.set_cons_zero]
        rw [wA_nil]
        exact ⟨_, fMin3_int, by simp, trivial, st2, p, hs2, p0, rfl⟩
      rintro σ ⟨st2, p, hs2, p0, rfl⟩
      obtain ⟨new, hnew⟩ : ∃ new, new = min (min left many) p := ⟨_, rfl⟩
      rw [← hnew]
      have hn1 : new ≤ left ∧ new ≤ many ∧ 0 ≤ new := by omega
      refine wS_if.mpr ?_
      simp only [wT_B, wE_m2, wE_var, wE_C, List.getElem?_cons_succ, List.getElem?_cons_zero, Option.some.injEq, exists_eq_left', view_int, kGt_int, D.bl.injEq]
      by_cases hp : 0 < new
      · simp only [hp, decide_true, if_true]
        have hfl := h2 (by omega)
        rw [wS_app]
        refine ⟨_, rfl, ?_⟩
        rw [wE_frz]
        refine ⟨_, rfl, ?_⟩
        simp only [frz_int, List.set_cons_succ, List.set_cons_zero]
        refine ⟨_, _, rfl, rfl, by simp; omega, ?_⟩
        refine ⟨st2, pre ++ [many], fl ++ [new], new, some (.int many), hs2, by rw [← e]; simp, by simp; omega, fun _ => by simp; omega, by omega, ?_, fun x m => ?_, fun k x y hx hy => ?_, ?_⟩
        · refine List.pairwise_append.mpr ⟨h4, List.pairwise_singleton _ _, fun a ha b hb => ?_⟩
          have := List.mem_singleton.mp hb
          have := (h5 a ha).2
          show a ≥ b
          omega
        · rcases List.mem_append.mp m with m | m
          · have := h5 x m; omega
          · have := List.mem_singleton.mp m; omega
        · by_cases q : k < fl.length
          · rw [List.getElem?_append_left q] at hx
            exact h6 k x y hx hy
          · have hk : k = fl.length := by
              by_cases q2 : k = fl.length
              · exact q2
              · rw [List.getElem?_eq_none (by simp; omega)] at hx
                cases hx
            subst hk
            have hx' : new = x := by simpa using hx
            have hy' : many = y := by
              rw [← e, hfl] at hy
              simpa using hy
            omega
        · rw [List.map_append]
          rfl
      · simp only [hp, decide_false, Bool.false_eq_true, if_false]
        exact wS_nil.mpr ⟨st2, pre ++ [many], fl, new, some (.int many), hs2, by rw [← e]; simp, by simp; omega, fun z => absurd z hp, by omega, h4, fun x m => by have := h5 x m; omega, h6, rfl⟩
  rintro σ ⟨st', fl, o3, o4, hs', hf, rfl⟩
  have hv : views (fl.map D.int) = fl.map D.int := views_of (noOwns_ints fl)
  have ht : fTuple (.lst .vw (fl.map .int)) = some (.tup (fl.map .int)) := fTuple_lst (noOwns_ints _)
  have hq := hQ st' fl [some (.tup (sh.map .int)), some (.lst .own (fl.map .int)), o3, o4] hs' hf
  simp [hv, ht, noVws_ints]
  exact hq
end K80
namespace K80
open PySem PySem.Spec PyProof.Rows L2 Py
def loR (hi : Int) (r : Nat × List Int) : Nat × List Int := (r.1, r.2.filter fun x => decide (x ≤ hi))
def hiR (hi : Int) (r : Nat × List Int) : Nat × List Int := (r.1 + (r.2.filter fun x => decide (x ≤ hi)).length, r.2.filter fun x => decide (hi < x))
theorem keep_nons (hi : Int) (a : Nat) : (List.replicate a D.non).filter (keepB hi) = List.replicate a D.non := List.filter_eq_self.mpr fun d m => by
  rw [(List.mem_replicate.mp m).2]; rfl
theorem kept_eq (hi : Int) (r : Nat × List Int) : keptR hi r = cells (loR hi r) := by
  unfold keptR cells loR
  rw [List.filter_append, keep_nons, List.filter_map]
  rfl
theorem part_lo {hi : Int} {r : Nat × List Int} (h : ∀ x ∈ r.2, (1 : Int) ≤ x) : partR 1 hi r = cells (loR hi r) := by
  unfold partR
  rw [kept_eq]
  unfold cells loR
  rw [List.map_append, List.map_replicate, List.map_map]
  congr 1
  apply List.map_congr_left
  intro x m
  have := h x (List.mem_filter.mp m).1
  show (if x < 1 then D.non else .int x) = .int x
  rw [if_neg (by omega)]
theorem split_sorted {hi : Int} : ∀ {ns : List Int}, ns.Pairwise (· ≤ ·) → ns = ns.filter (fun x => decide (x ≤ hi)) ++ ns.filter (fun x => decide (hi < x))
  | [], _ => rfl
  | x :: ns, h => by
    have ih := split_sorted (hi := hi) h.of_cons
    by_cases q : x ≤ hi
    · have q2 : ¬ hi < x := by omega
      rw [List.filter_cons_of_pos (by simpa using q), List.filter_cons_of_neg (by simpa using q2), List.cons_append, ← ih]
    · have q2 : hi < x := by omega
      have hall : ∀ y ∈ ns, hi < y := fun y m => by
        have := List.rel_of_pairwise_cons h m
        omega
      have e1 : ns.filter (fun x => decide (x ≤ hi)) = [] := List.filter_eq_nil_iff.mpr fun y m => by
        have := hall y m
        simp
        omega
      have e2 : ns.filter (fun x => decide (hi < x)) = ns := List.filter_eq_self.mpr fun y m => by simpa using hall y m
      rw [List.filter_cons_of_neg (by simpa using q), List.filter_cons_of_pos (by simpa using q2), e1, e2]
      rfl
theorem part_hi {hi g : Int} {r : Nat × List Int} (h : ∀ x ∈ r.2, x ≤ g) (hs : r.2.Pairwise (· ≤ ·)) : partR (hi + 1) g r = cells (hiR hi r) := by
  unfold partR
  rw [kept_eq]
  have e : loR g r = r := by
    unfold loR
    rw [List.filter_eq_self.mpr fun x m => by simpa using h x m]
  rw [e]
  unfold cells hiR
  simp only
  rw [List.map_append, List.map_replicate, List.map_map]
  have e1 : maskB (hi + 1) D.non = D.non := rfl
  rw [e1]
  conv => lhs; rw [split_sorted (hi := hi) hs]
  rw [List.map_append]
  have e2 : (r.2.filter fun x => decide (x ≤ hi)).map (maskB (hi + 1) ∘ D.int) = List.replicate (r.2.filter fun x => decide (x ≤ hi)).length D.non := by
    rw [List.eq_replicate_iff]
    refine ⟨by simp, fun d m => ?_⟩
    obtain ⟨x, hx, rfl⟩ := List.mem_map.mp m
    have := (List.mem_filter.mp hx).2
    simp at this
    show (if x < hi + 1 then D.non else .int x) = D.non
    rw [if_pos (by omega)]
  have e3 : (r.2.filter fun x => decide (hi < x)).map (maskB (hi + 1) ∘ D.int) = (r.2.filter fun x => decide (hi < x)).map D.int := by
    apply List.map_congr_left
    intro x hx
    have := (List.mem_filter.mp hx).2
    simp at this
    show (if x < hi + 1 then D.non else .int x) = .int x
    rw [if_neg (by omega)]
  rw [e2, e3, ← List.append_assoc, List.replicate_append_replicate]
theorem isEmpty_cells (r : Nat × List Int) : (!(cells r).isEmpty) = decide (0 < wid r) := by
  have h := cells_len (r := r)
  cases hc : cells r with
  | nil => rw [hc] at h; simp at h; simp [← h]
  | cons d l => rw [hc] at h; simp at h; simp [← h]
def partT (f : Nat × List Int → Nat × List Int) (t : T) : T := (t.map f).filter fun r => decide (0 < wid r)
theorem partD_eq {t : T} {lo hi : Int} {f : Nat × List Int → Nat × List Int} (h : ∀ r ∈ t, partR lo hi r = cells (f r)) : partD t lo hi = tabD (partT f t) := by
  unfold partD tabD partT
  have e : t.map (partR lo hi) = (t.map f).map cells := by
    rw [List.map_map]
    exact List.map_congr_left fun r m => h r m
  rw [e, List.filter_map]
  congr 1
  have e2 : ((fun l : List D => !l.isEmpty) ∘ cells) = fun r => decide (0 < wid r) := by
    funext r
    exact isEmpty_cells r
  rw [e2, List.map_map]
  rfl
end K80
namespace K80
open PySem PySem.Spec PyProof.Rows L2 Py
theorem kNe_tints (a b : List Int) : kNe (.tup (a.map .int)) (.tup (b.map .int)) = some (.bl (!decide (a = b))) := by
  have h1 : D.fit 60 (.tup (a.map .int)) = true := (fits_ints : fits 59 _ = true)
  have h2 : D.fit 60 (.tup (b.map .int)) = true := (fits_ints : fits 59 _ = true)
  rw [kNe, if_pos ⟨h1, h2⟩]
  have : D.deq (.tup (a.map .int)) (.tup (b.map .int)) = deqs (a.map .int) (b.map .int) := rfl
  rw [this, deqs_ints]
def outerL (t : T) : List Int := t.map fun r => (wid r : Int)
def joinRow (f s : T) (k : Nat) : List D := ((f[k]?).map cells).getD [] ++ (((s[k]?).map (·.2)).getD []).map (fun x => D.int (x + mxs 0 (rwd f)))
def joinD (f s : T) : D := if outerL f = innerL s then .tup ((List.range s.length).map fun k => D.tup (joinRow f s k)) else .non
theorem joinRow_grs (f s : T) (k : Nat) : Grs (joinRow f s k) := grs_ok fun d m => by
  unfold joinRow at m
  rcases List.mem_append.mp m with m | m
  · cases h : f[k]? with
    | none => rw [h] at m; simp at m
    | some r => rw [h] at m; exact cells_ok m
  · obtain ⟨x, _, rfl⟩ := List.mem_map.mp m
    exact .inr ⟨_, rfl⟩
theorem ret_joined (f s : T) (hf : Bd f) (hs : Bd s) : ret fn_joined [tabD f, tabD s] = some (joinD f s) := by
  apply ret_of
  unfold fn_joined m_joined
  rw [wF_D]
  have ho := ret_outer f hf
  have hi := ret_inner s hs
  have hw := ret_row_word f hf
  have eo : (f.map fun r => D.int (wid r)) = (outerL f).map .int := by simp [outerL]
  rw [eo] at ho
  by_cases he : outerL f = innerL s
  · unfold joinD
    rw [if_pos he]
    have hwl := rwd_len hf
    have hk : kAdd (.lst .own [.int 0]) (.lst .own ((rwd f).map .int)) = some (.lst .own (.int 0 :: (rwd f).map .int)) := kAdd_lst (by decide) (by decide) (by simp; omega)
    have hs1 := hs.1
    have hok : okR (s.length : Int) = true := okR_len (by omega)
    refine wS_cut (fun σ => σ = [some (tabD f), some (tabD s), none, none, none, none, none, none]) ?_ ?_
    · simp [wF_ret ho, wF_ret hi, kNe_tints, he]
    rintro σ rfl
    refine wS_cut (fun σ => σ = [some (tabD f), some (tabD s), some (.int (mxs 0 (rwd f))), none, none, none, none, none]) ?_ ?_
    · simp [wF_ret hw, hk, fMaxL_ints]
    rintro σ rfl
    refine wS_cut (fun σ => σ = [some (tabD f), some (tabD s), some (.int (mxs 0 (rwd f))), some (.lst .own []), none, none, none, none]) (by simp) ?_
    rintro σ rfl
    have hgz : ∀ n, noOwns ((List.range n).map fun k => D.tup (joinRow f s k)) = true ∧ noVws ((List.range n).map fun k => D.tup (joinRow f s k)) = true := fun n => by
      have := noOwns_tups (ls := (List.range n).map (joinRow f s)) fun l m => by
        obtain ⟨k, _, rfl⟩ := List.mem_map.mp m
        exact joinRow_grs f s k
      rw [List.map_map] at this
      exact this
    refine wS_cut (fun σ => ∃ o4 o5 o6 o7, σ = [some (tabD f), some (tabD s), some (.int (mxs 0 (rwd f))), some (.lst .own ((List.range s.length).map fun k => D.tup (joinRow f s k))), o4, o5, o6, o7]) ?_ ?_
    · simp [hok]
      refine wL_rng (P := fun k σ => ∃ (o4 o5 o6 o7 : Option D), σ = [some (tabD f), some (tabD s), some (.int (mxs 0 (rwd f))), some (.lst .own ((List.range k).map fun k => D.tup (joinRow f s k))), o4, o5, o6, o7]) ⟨none, none, none, none, rfl⟩ ?_ ?_
      · rintro σ ⟨o4, o5, o6, o7, rfl⟩
        exact ⟨rfl, o4, o5, o6, o7, rfl⟩
      · rintro k σ hk ⟨o4, o5, o6, o7, rfl⟩
        have e0 : (0 : Int) + (k : Int) = k := by omega
        rw [e0]
        have ex : atI (s.map rowD) (k : Int) = some (rowD s[k]) := atI_at rfl (by simp [hk])
        have hlo := ret_left_out s[k] (hs.row (List.getElem_mem hk))
        have hsw := hs.row (List.getElem_mem hk)
        obtain ⟨hd, hhd⟩ : ∃ hd : List D, hd = ((f[k]?).map cells).getD [] := ⟨_, rfl⟩
        have hhg : Grs hd := grs_ok fun d m => by
          rw [hhd] at m
          cases h : f[k]? with
          | none => rw [h] at m; simp at m
          | some r => rw [h] at m; exact cells_ok m
        have hhl : hd.length ≤ 1000 := by
          rw [hhd]
          cases h : f[k]? with
          | none => simp
          | some r =>
            simp only [Option.map_some, Option.getD_some, cells_len]
            exact hf.row (List.mem_of_getElem? h)
        refine wG_name.mpr ⟨by simp, ?_⟩
        simp only [List.set_cons_succ, List.set_cons_zero]
        refine wS_cut (fun σ => σ = [some (tabD f), some (tabD s), some (.int (mxs 0 (rwd f))), some (.lst .own ((List.range k).map fun k => D.tup (joinRow f s k))), some (.int k), some (rowD s[k]), o6, o7]) ?_ ?_
        · simp [ex]
        rintro σ rfl
        refine wS_cut (fun σ => σ = [some (tabD f), some (tabD s), some (.int (mxs 0 (rwd f))), some (.lst .own ((List.range k).map fun k => D.tup (joinRow f s k))), some (.int k), some (rowD s[k]), some (.tup hd), o7]) ?_ ?_
        · by_cases hkf : k < f.length
          · have ef : atI (f.map rowD) (k : Int) = some (rowD f[k]) := atI_at rfl (by simp [hkf])
            have : D.tup hd = rowD f[k] := by rw [hhd, List.getElem?_eq_getElem hkf]; rfl
            rw [this]
            simp [hkf, ef]
          · have : hd = [] := by rw [hhd, List.getElem?_eq_none (by omega)]; rfl
            rw [this]
            simp [hkf]
        rintro σ rfl
        have hrow : joinRow f s k = hd ++ (s[k].2).map (fun x => D.int (x + mxs 0 (rwd f))) := by
          unfold joinRow
          rw [← hhd, List.getElem?_eq_getElem hk]
          rfl
        have e1 : (List.range (k + 1)).map (fun k => D.tup (joinRow f s k)) = (List.range k).map (fun k => D.tup (joinRow f s k)) ++ [D.tup (hd ++ (s[k].2).map (fun x => D.int (x + mxs 0 (rwd f))))] := by
          rw [List.range_succ, List.map_append, ← hrow]
          rfl
        have hzl : ((List.range k).map fun k => D.tup (joinRow f s k)).length < 16777216 := by simp; omega
        refine wS_mono (Q := fun f' σ => f' = .nx ∧ ∃ o7, σ = [some (tabD f), some (tabD s), some (.int (mxs 0 (rwd f))), some (.lst .own ((List.range (k + 1)).map fun k => D.tup (joinRow f s k))), some (.int k), some (rowD s[k]), some (.tup hd), o7]) ?_ ?_
        · rw [e1]
          generalize ((List.range k).map fun k => D.tup (joinRow f s k)) = Z at hzl
          simp only [wS_app, List.getElem?_cons_succ, List.getElem?_cons_zero, Option.some.injEq, D.lst.injEq, true_and, exists_eq_left', wE_m2, wE_frz, frz_tup, wE_A, wA_cons, wA_nil, wE_Lc, wI_seq, wE_Sl, frz_rowD, wO_some, wO_none, wE_Call, wE_lend, noOwn_rowD, if_true, List.set_cons_succ, List.set_cons_zero, k1_one]
          refine wF_mono (Q := fun r _ => r = .int s[k].1) ((wF_ret (P := fun r => r = .int s[k].1) hlo).mpr rfl) fun r σc hr => ?_
          subst hr
          rw [putB_id' (by simp)]
          refine ⟨_, rfl, _, kSl_rowD, _, rfl, ?_⟩
          rw [cut_cells]
          refine wC_map (s[k].2) D.int (fun x => .int (x + mxs 0 (rwd f))) (fun x hx => by simp [wipeD]) fun σ' w => ?_
          rw [w, unwipe_wipe, gB_n]
          have hg2 : noOwns ((s[k].2).map fun x => D.int (x + mxs 0 (rwd f))) = true := by
            rw [noOwns_all]
            simp
          have hl2 : (s[k].2).length ≤ 1000 := by unfold wid at hsw; omega
          have hadd : kAdd (.tup hd) (.tup ((s[k].2).map fun x => D.int (x + mxs 0 (rwd f)))) = some (.tup (hd ++ (s[k].2).map fun x => D.int (x + mxs 0 (rwd f)))) := kAdd_tup (by simp; omega)
          refine ⟨by simp; omega, _, fTuple_lst hg2, _, hadd, _, _, rfl, rfl, hzl, o7, rfl⟩
        · rintro f' σ ⟨rfl, o7, rfl⟩
          exact ⟨_, _, _, o7, rfl⟩
    rintro σ ⟨o4, o5, o6, o7, rfl⟩
    have hz := hgz s.length
    generalize ((List.range s.length).map fun k => D.tup (joinRow f s k)) = Z at hz
    have hv : views Z = Z := views_of hz.1
    have ht : fTuple (.lst .vw Z) = some (.tup Z) := fTuple_lst hz.1
    simp [hv, ht, hz.2]
  · unfold joinD
    rw [if_neg he]
    refine wS_seq.mpr ?_
    simp [wF_ret ho, wF_ret hi, kNe_tints, he]
end K80
namespace K80
open PySem PySem.Spec PyProof.Rows L2 Py
/-- a row under the one above it -/
def Und (p : Option (Nat × List Int)) (r : Nat × List Int) : Prop := 0 < wid r ∧ r.2.Pairwise (· ≤ ·) ∧ (∀ x ∈ r.2, (1 : Int) ≤ x) ∧
  ∀ a, p = some a → wid r ≤ wid a ∧ r.1 ≤ a.1 ∧ ∀ (j : Nat) (x y : Int), a.1 ≤ j → a.2[j - a.1]? = some x → r.2[j - r.1]? = some y → x < y
def GoodF : Option (Nat × List Int) → T → Prop
  | _, [] => True
  | p, r :: t => Und p r ∧ GoodF (some r) t
def abD : Option (Nat × List Int) → D
  | none => .non
  | some a => rowD a
theorem badBox_good {p : Option (Nat × List Int)} {r : Nat × List Int} (h : Und p r) {c : Nat} (hc : c < wid r) : badBox (upA (abD p) c) (leftA (cells r) c) ((cells r).getD c .non) = false := by
  obtain ⟨h0, h1, h2, h3⟩ := h
  by_cases q : c < r.1
  · have e : (cells r).getD c .non = .non := by rw [List.getD_eq_getElem?_getD, cell_lt q]; rfl
    have el : leftA (cells r) c = .non := by
      unfold leftA
      split
      · rfl
      · rw [List.getD_eq_getElem?_getD, cell_lt (by omega)]; rfl
    have eu : upA (abD p) c = .non := by
      cases p with
      | none => rfl
      | some a =>
        have := (h3 a rfl).2.1
        show (cells a).getD c .non = .non
        rw [List.getD_eq_getElem?_getD, cell_lt (by omega)]; rfl
    rw [e, el, eu]
    rfl
  · have hj : c - r.1 < r.2.length := by unfold wid at hc; omega
    have e : (cells r).getD c .non = .int r.2[c - r.1] := by
      rw [List.getD_eq_getElem?_getD, cell_ge (by omega), List.getElem?_eq_getElem hj]; rfl
    rw [e]
    have hx := h2 _ (List.getElem_mem hj)
    have hl : gtI (leftA (cells r) c) r.2[c - r.1] = false := by
      unfold leftA
      split
      · rfl
      · by_cases q2 : c - 1 < r.1
        · rw [List.getD_eq_getElem?_getD, cell_lt q2]; rfl
        · have hj2 : c - 1 - r.1 < r.2.length := by omega
          rw [List.getD_eq_getElem?_getD, cell_ge (by omega), List.getElem?_eq_getElem hj2]
          have := List.pairwise_iff_getElem.mp h1 (c - 1 - r.1) (c - r.1) hj2 hj (by omega)
          show decide (r.2[c - r.1] < r.2[c - 1 - r.1]) = false
          exact decide_eq_false (by omega)
    have hu : geI (upA (abD p) c) r.2[c - r.1] = false := by
      cases p with
      | none => rfl
      | some a =>
        obtain ⟨w1, w2, w3⟩ := h3 a rfl
        show geI ((cells a).getD c .non) _ = false
        by_cases q2 : c < a.1
        · rw [List.getD_eq_getElem?_getD, cell_lt q2]; rfl
        · have hj2 : c - a.1 < a.2.length := by unfold wid at w1 hc; omega
          have := w3 c _ _ (by omega) (List.getElem?_eq_getElem hj2) (List.getElem?_eq_getElem hj)
          rw [List.getD_eq_getElem?_getD, cell_ge (by omega), List.getElem?_eq_getElem hj2]
          show decide (r.2[c - r.1] ≤ a.2[c - a.1]) = false
          exact decide_eq_false (by omega)
    simp only [badBox, hl, hu, Bool.or_false, Bool.not_eq_false']
    exact decide_eq_true hx
theorem scan_good {p : Option (Nat × List Int)} {r : Nat × List Int} (h : Und p r) (k : Nat) : ∀ n c, c + n = wid r → scan (abD p) (cells r) k n c = none
  | 0, _, _ => rfl
  | n + 1, c, e => by
    simp only [scan]
    rw [badBox_good h (by omega)]
    exact scan_good h k n (c + 1) (by omega)
theorem good_fault : ∀ {t : T} {p : Option (Nat × List Int)} {k : Nat}, GoodF p t → scanRows (abD p) k (t.map rowD) = .non
  | [], _, _, _ => rfl
  | r :: t, p, k, h => by
    obtain ⟨h1, h2⟩ := h
    have hs := scan_good h1 k (cells r).length 0 (by simp)
    have he : (cells r).isEmpty = false := by
      have := isEmpty_cells r
      rw [decide_eq_true h1.1] at this
      simpa using this
    have ht : tooLong (abD p) (cells r) = false := by
      cases p with
      | none => rfl
      | some a =>
        have := (h1.2.2.2 a rfl).1
        show decide ((cells a).length < (cells r).length) = false
        rw [cells_len, cells_len]
        exact decide_eq_false (by omega)
    have ih := good_fault (t := t) (p := some r) (k := k + 1) h2
    show scanRows (abD p) k (D.tup (cells r) :: t.map rowD) = .non
    simp only [scanRows, he, ht, Bool.or_false, Bool.false_eq_true, if_false, hs]
    exact ih
end K80
namespace K80
open PySem PySem.Spec PyProof.Rows L2 Py
/-- what put gives when letters are changed one by one -/
theorem ret_put_map (s : T) (hb : Bd s) (f : Int → Int) : ret fn__law_put [tabD s, .lst .own ((boxes (mapT f s)).map boxD)] = some (tabD (mapT f s)) := by
  have hsh := mapT_shape f s
  have hput := ret_put s hb (boxes (mapT f s)) (fun b m => by
    rw [boxes_mapT] at m
    obtain ⟨b', hb', rfl⟩ := List.mem_map.mp m
    exact (val_box hb' : Val (s.map cells) b'))
  rw [put_eq hsh (fun b m => m) (fun b m => .inl m)] at hput
  rw [hput]
  show some (D.tup (((mapT f s).map cells).map D.tup)) = _
  rw [List.map_map]
  rfl
theorem std_letters (t : T) : ∀ x ∈ rwd (stdT t), 1 ≤ x ∧ x ≤ lets (stdT t) := fun x hx => by
  rw [rwd_std] at hx
  have := rk_range (rwd t) x hx
  rw [lets_of (std_shape t), ← rwd_lets]
  exact this
theorem good_isN {t : T} (h : GoodF none t) : (faultR (tabD t)).isN = true := by
  have : faultR (tabD t) = .non := good_fault (p := none) (k := 0) h
  rw [this]
  rfl
theorem good_letters : ∀ {t : T} {p : Option (Nat × List Int)}, GoodF p t → ∀ r ∈ t, ∀ x ∈ r.2, (1 : Int) ≤ x
  | [], _, _, r, m => (List.not_mem_nil m).elim
  | r0 :: t, p, h, r, m => by
    rcases List.mem_cons.mp m with rfl | m
    · exact h.1.2.2.1
    · exact good_letters h.2 r m
theorem good_sorted : ∀ {t : T} {p : Option (Nat × List Int)}, GoodF p t → ∀ r ∈ t, r.2.Pairwise (· ≤ ·)
  | [], _, _, r, m => (List.not_mem_nil m).elim
  | r0 :: t, p, h, r, m => by
    rcases List.mem_cons.mp m with rfl | m
    · exact h.1.2.1
    · exact good_sorted h.2 r m
end K80
namespace K80
open PySem PySem.Spec PyProof.Rows L2 Py
theorem ret_word_row (t : T) (hb : Bd t) {Q : D → Sg → Prop} (h : ∀ r, Q (.tup ((rwd t).map .int)) r) : wF fn__law_word [.lst .own ((boxes t).map boxD), .bl true] Q := by
  refine wF_mono (wF_word (b := true) boxesR_perm (sorted_row t) (boxes_len hb)) fun r σ hr => ?_
  obtain ⟨rfl, _⟩ := hr
  rw [boxesR_let]
  exact h σ
theorem cs_ok {w : List Int} (hw : w.length ≤ 1000000) (h : ∀ x ∈ w, 1 ≤ x ∧ x ≤ 1000000) : CsOk (cntL (mxs 0 w).toNat w) := by
  refine ⟨?_, fun c m => ?_, ?_⟩
  · have : (mxs 0 w).toNat ≤ 1000000 := by
      rcases List.mem_cons.mp (mxs_mem w 0) with e | m
      · omega
      · have := (h _ m).2
        omega
    simpa [cntL] using this
  · obtain ⟨i, _, rfl⟩ := List.mem_map.mp m
    have := List.countP_le_length (p := fun x : Int => x == (i : Int) + 1) (l := w)
    omega
  · rw [(letters_perm fun x m => (h x m).1).length_eq]
    exact hw
theorem ret_wc_self {t : T} (hb : Bd t) (hg : GoodF none t) (hl : ∀ r ∈ t, ∀ x ∈ r.2, x ≤ (1000000 : Int)) : ret fn_with_content [tabD (stdT t), .tup ((cntL (mxs 0 (rwd t)).toNat (rwd t)).map .int)] = some (tabD t) := by
  have hw : ∀ x ∈ rwd t, 1 ≤ x ∧ x ≤ 1000000 := fun x m => by
    obtain ⟨r, hr, hx⟩ := List.mem_flatMap.mp m
    exact ⟨good_letters hg r (List.mem_reverse.mp hr) x hx, hl r (List.mem_reverse.mp hr) x hx⟩
  have := ret_with_content (stdT t) (bd_of hb (std_shape t)) (std_letters t) _ (cs_ok (rwd_len hb) hw)
  rw [wc_self hb (good_letters hg) (good_isN hg)] at this
  exact this
end K80
namespace K80
open PySem PySem.Spec PyProof.Rows L2 Py
theorem wF_any {fn : Fn} {ds : List D} {r : D} {Q : D → Sg → Prop} (h : ret fn ds = some r) (hQ : ∀ σc, Q r σc) : wF fn ds Q := by
  unfold Py.ret at h
  unfold wF
  cases e : fn ds with
  | none => rw [e] at h; cases h
  | some p =>
    rw [e] at h
    cases h
    exact ⟨p, rfl, hQ _⟩
/-- a call whose arguments change nothing -/
theorem wE_cr {ws : List Nat} {ld : List (Option Nat)} {fn : Fn} {ma : MA} {σ : Sg} {as : List D} {r : D} {Q : D → Sg → Prop} (h : ret fn as = some r) (hm : wA ma σ fun ds τ => ds = as ∧ τ = σ) (hal : alive ld σ = true) (hQ : Q r σ) : wE (mCall ws ld fn ma) σ Q := by
  rw [wE_Call]
  obtain ⟨⟨ds, τ⟩, e, e1, e2⟩ := hm
  simp only at e1 e2
  subst e1 e2
  refine ⟨_, e, wF_any h fun σc => ?_⟩
  rw [putB_id hal]
  exact hQ
theorem letters_len {cs : List Int} {n m : Nat} (h1 : cs.length ≤ n) (h2 : ∀ c ∈ cs, c ≤ (m : Int)) : (lettersL cs).length ≤ n * m := by
  have h := flat_len (f := fun k => List.replicate (cs.getD k 0).toNat ((k : Int) + 1)) (n := m) (l := List.range cs.length) fun k hk => by
    have hk := List.mem_range.mp hk
    have := h2 _ (List.getElem_mem hk)
    simp [hk]
    omega
  rw [List.length_range] at h
  exact Nat.le_trans h (Nat.mul_le_mul_right m h1)
theorem pl_wcR {s : T} {cs : List Int} (hb : Bd s) : Pl 5 (wcR s cs) := by
  unfold wcR
  split
  · split
    · exact pl_tab (bd_of hb (mapT_shape _ s))
    · trivial
  · trivial
theorem wcR_no {s : T} {cs : List Int} : (wcR s cs).noOwn = true := by
  unfold wcR
  split
  · split
    · exact noOwn_tabD
    · rfl
  · rfl
theorem box_letter {t : T} {b : Bx} (h : b ∈ boxes t) : b.2.2 ∈ rwd t := by
  rw [← boxesR_let (t := t) (k := 0)]
  exact List.mem_map.mpr ⟨b, boxesR_perm.mem_iff.mpr h, rfl⟩
theorem wF_contents {t : T} {st : D} {Q : D → Sg → Prop} (hb : Bd t) (hg : GoodF none t) (hl : ∀ r ∈ t, ∀ x ∈ r.2, x ≤ (900 : Int)) (hlt : lets t ≤ 1000) (hs : St st) (hQ : ∀ st' r, St st' → Q (.bl true) (some st' :: r)) : wF fn__law_contents [st, tabD t] Q := by
  unfold fn__law_contents m__law_contents
  rw [wF_D]
  have hno := hs.no
  have hr := ret_ranked t hb
  have hB := ret_boxes t hb
  have hw : ∀ x ∈ rwd t, 1 ≤ x ∧ x ≤ 900 := fun x m => by
    obtain ⟨r, hr, hx⟩ := List.mem_flatMap.mp m
    exact ⟨good_letters hg r (List.mem_reverse.mp hr) x hx, hl r (List.mem_reverse.mp hr) x hx⟩
  have hc := ret_counts (rwd t) (rwd_len hb) fun x m => by have := hw x m; omega
  have hwc := ret_wc_self hb hg fun r m x hx => by have := hl r m x hx; omega
  have hsame := same_refl (pl_tab hb)
  obtain ⟨C, hC⟩ : ∃ C, C = cntL (mxs 0 (rwd t)).toNat (rwd t) := ⟨_, rfl⟩
  have hC1 : C.length ≤ 900 := by
    rw [hC]
    simp only [cntL, List.length_map, List.length_range]
    rcases List.mem_cons.mp (mxs_mem (rwd t) 0) with e | m
    · omega
    · have := hw _ m; omega
  have hC2 : ∀ c ∈ C, 0 ≤ c ∧ c ≤ 1000 := fun c m => by
    rw [hC] at m
    obtain ⟨i, _, rfl⟩ := List.mem_map.mp m
    have h1 := List.countP_le_length (p := fun x : Int => x == (i : Int) + 1) (l := rwd t)
    rw [rwd_lets] at h1
    omega
  rw [← hC] at hc hwc
  have hsd : fillT t (rkL (rwd t)) = stdT t := rfl
  rw [hsd] at hr
  refine wS_cut (fun σ => σ = [some st, some (tabD t), some (tabD (stdT t)), none, none, none, none, none, none, none, none, none]) ?_ ?_
  · simp [wF_ret hr]
  rintro σ rfl
  refine wS_cut (fun σ => σ = [some st, some (tabD t), some (tabD (stdT t)), some (.tup ((rwd t).map .int)), none, none, none, none, none, none, none, none]) ?_ ?_
  · simp [wF_ret hB]
    refine ret_word_row t hb fun r => ?_
    simp
  rintro σ rfl
  refine wS_cut (fun σ => σ = [some st, some (tabD t), some (tabD (stdT t)), some (.tup ((rwd t).map .int)), some (.lst .own (C.map .int)), none, none, none, none, none, none, none]) ?_ ?_
  · simp [wF_ret hc, noOwns_ints]
  rintro σ rfl
  have hv : views (C.map D.int) = C.map D.int := views_of (noOwns_ints C)
  refine wS_cut (fun σ => σ = [some st, some (tabD t), some (tabD (stdT t)), some (.tup ((rwd t).map .int)), some (.lst .own (C.map .int)), none, none, none, none, none, none, none]) ?_ ?_
  · have ht : fTuple (.lst .vw (C.map .int)) = some (.tup (C.map .int)) := fTuple_lst (noOwns_ints C)
    simp [hv, ht, noVws_ints, wF_ret hwc, wF_ret hsame]
  rintro σ rfl
  refine wS_cut (fun σ => ∃ (st' : D) (C' : List Int) (o5 : Option D), St st' ∧ C'.length = C.length ∧ (∀ c ∈ C', 0 ≤ c ∧ c ≤ 1001) ∧ σ = [some st', some (tabD t), some (tabD (stdT t)), some (.tup ((rwd t).map .int)), some (.lst .own (C'.map .int)), o5, none, none, none, none, none, none]) ?_ ?_
  · refine wS_if.mpr ?_
    simp only [wT_B, wE_m2, wE_A, wA_cons, wA_nil, wE_var, wE_C, List.getElem?_cons_succ, List.getElem?_cons_zero, Option.some.injEq, exists_eq_left', view_own, k1_one, fLen_lst, kGt_int, D.bl.injEq, hv, List.length_map]
    by_cases h1 : (1 : Int) < C.length
    · simp only [h1, decide_true, if_true]
      rw [wS_seq, wS_set]
      refine wE_pick (l := C.length - 1) rfl hs (by simp [hv]) (by omega) (by omega) fun a st1 a0 a1 hs1 => ?_
      refine ⟨by simp, ?_⟩
      rw [kS_nx]
      simp only [List.set_cons_succ, List.set_cons_zero]
      obtain ⟨k, rfl⟩ := Int.eq_ofNat_of_zero_le a0
      have hk : k + 1 < C.length := by omega
      have ex1 : atI (C.map D.int) ((k : Int) + 1) = some (.int C[k + 1]) := atI_at (k := k + 1) (by omega) (by simp [hk])
      have ex2 : atI (C.map D.int) (k : Int) = some (.int (C[k]'(by omega))) := atI_at rfl (by simp [show k < C.length by omega])
      have hi1 : ixN C.length (k : Int) = some k := ixN_nat (by omega)
      have hi2 : ixN C.length ((k : Int) + 1) = some (k + 1) := ixN_at hk (by omega)
      simp [-wE_Call, hv, ex1]
      refine wE_pick (l := 2) rfl hs1 (by simp) (by decide) (by decide) fun b st2 b0 b1 hs2 => ?_
      simp [hv, ex2, hi1, hi2]
      refine ⟨_, _, ⟨rfl, rfl⟩, _, _, rfl, rfl, st2, hs2, (C.set k (C[k + 1] + b)).set (k + 1) (C[k]'(by omega)), by simp, fun c m => ?_, rfl, by rw [List.map_set, List.map_set]⟩
      rcases List.mem_or_eq_of_mem_set m with m | e
      · rcases List.mem_or_eq_of_mem_set m with m | e
        · have := hC2 c m; omega
        · have := hC2 _ (List.getElem_mem hk); omega
      · have := hC2 _ (List.getElem_mem (show k < C.length by omega)); omega
    · simp only [h1, decide_false, Bool.false_eq_true, if_false]
      exact wS_nil.mpr ⟨rfl, st, C, none, hs, rfl, fun c m => by have := hC2 c m; omega, rfl⟩
  clear hs hno hwc hsame hc hv
  rintro σ ⟨st1, C', o5, hs1, hl1, hC3, rfl⟩
  have hno1 := hs1.no
  have hv : views (C'.map D.int) = C'.map D.int := views_of (noOwns_ints C')
  have hLl : (lettersL C').length ≤ 1000000 := by
    have := letters_len (cs := C') (n := 900) (m := 1001) (by omega) fun c m => (hC3 c m).2
    omega
  have hcs : CsOk C' := ⟨by omega, fun c m => by have := hC3 c m; omega, hLl⟩
  have hok : okR (C'.length : Int) = true := okR_len (by omega)
  refine wS_cut (fun σ => σ = [some st1, some (tabD t), some (tabD (stdT t)), some (.tup ((rwd t).map .int)), some (.lst .own (C'.map .int)), o5, some (.lst .own []), none, none, none, none, none]) (by simp) ?_
  rintro σ rfl
  refine wS_cut (fun σ => ∃ o7, σ = [some st1, some (tabD t), some (tabD (stdT t)), some (.tup ((rwd t).map .int)), some (.lst .own (C'.map .int)), o5, some (.lst .own ((lettersL C').map .int)), o7, none, none, none, none]) ?_ ?_
  · simp [hv, hok]
    refine wL_rng (P := fun k σ => ∃ o7, σ = [some st1, some (tabD t), some (tabD (stdT t)), some (.tup ((rwd t).map .int)), some (.lst .own (C'.map .int)), o5, some (.lst .own (((List.range k).flatMap fun k => List.replicate (C'.getD k 0).toNat ((k : Int) + 1)).map .int)), o7, none, none, none, none]) ⟨none, rfl⟩ ?_ ?_
    · rintro σ ⟨o7, rfl⟩
      exact ⟨rfl, o7, rfl⟩
    · rintro k σ hk ⟨o7, rfl⟩
      have ex : atI (C'.map D.int) (k : Int) = some (.int C'[k]) := atI_at rfl (by simp [hk])
      have hck := hC3 _ (List.getElem_mem hk)
      have hlen := letters_pre (cs := C') (k := k + 1) (by omega)
      have ht := take_letters C' k hk
      rw [ht] at hlen
      obtain ⟨n, hn⟩ := Int.eq_ofNat_of_zero_le hck.1
      have hn2 : (C'[k]).toNat = n := by omega
      have hokn : okR C'[k] = true := by rw [hn]; exact okR_len (by omega)
      generalize hA : ((List.range k).flatMap fun k => List.replicate (C'.getD k 0).toNat ((k : Int) + 1)) = A at hlen ht ⊢
      have hadd : kAdd (.lst .frz (A.map .int)) (.lst .own ((List.replicate (C'[k]).toNat ((k : Int) + 1)).map .int)) = some (.lst .own ((A ++ List.replicate (C'[k]).toNat ((k : Int) + 1)).map .int)) := by
        rw [kAdd_lst (by decide) (by decide) (by rw [List.length_append] at hlen; rw [List.length_map, List.length_map]; omega), List.map_append]
      have hfz : frzs (A.map D.int) = A.map D.int := frzs_of (noOwns_ints A)
      refine wG_name.mpr ⟨by simp, ?_⟩
      simp only [List.set_cons_succ, List.set_cons_zero]
      have e0 : (0 : Int) + (k : Int) = k := by omega
      rw [e0]
      refine wS_mono (Q := fun f σ => f = .nx ∧ σ = [some st1, some (tabD t), some (tabD (stdT t)), some (.tup ((rwd t).map .int)), some (.lst .own (C'.map .int)), o5, some (.lst .own ((A ++ List.replicate (C'[k]).toNat ((k : Int) + 1)).map .int)), some (.int k), none, none, none, none]) ?_ ?_
      · rw [hn2] at hadd ⊢
        have hrep : (List.replicate n ((k : Int) + 1)).map D.int = (List.range n).map fun (_ : Nat) => D.int ((k : Int) + 1) := by
          rw [List.map_replicate, List.map_const', List.length_range]
        rw [hrep] at hadd
        generalize (A ++ List.replicate n ((k : Int) + 1)).map D.int = Z at hadd ⊢
        simp only [wS_set, wE_m2, wE_frz, List.getElem?_cons_succ, List.getElem?_cons_zero, Option.some.injEq, exists_eq_left', frz_own, hfz, List.set_cons_succ, List.set_cons_zero, wE_Lc, wI_rng1, wE_Up, wE_var, view_own, hv, view_int, kIx_lst, ex, noVw_int, true_and, D.int.injEq, hokn, hn2]
        rw [up_range]
        refine wC_map (List.range n) (fun i => .int (0 + (i : Nat))) (fun _ => .int ((k : Int) + 1)) (fun x hx => ?_) fun σ' hw => ?_
        · simp [wipeD]
        · simp only [hw, unwipe_wipe, gB_n, hadd, Option.some.injEq, exists_eq_left', List.set_cons_succ, List.set_cons_zero, List.length_map, List.length_range, List.length_cons]
          exact ⟨by omega, by decide, trivial⟩
      · rintro f σ ⟨rfl, rfl⟩
        exact ⟨some (.int k), by rw [ht]⟩
  rintro σ ⟨o7, rfl⟩
  refine wS_cut (fun σ => σ = [some st1, some (tabD t), some (tabD (stdT t)), some (.tup ((rwd t).map .int)), some (.lst .own (C'.map .int)), o5, some (.lst .own ((lettersL C').map .int)), o7, none, some .non, none, none]) (by simp) ?_
  rintro σ rfl
  have hbs : Bd (stdT t) := bd_of hb (std_shape t)
  have hls : lets (stdT t) = lets t := lets_of (std_shape t)
  have hB2 := ret_boxes (stdT t) hbs
  refine wS_cut (fun σ => σ = [some st1, some (tabD t), some (tabD (stdT t)), some (.tup ((rwd t).map .int)), some (.lst .own (C'.map .int)), o5, some (.lst .own ((lettersL C').map .int)), o7, none, some .non, some (.lst .own ((boxes (stdT t)).map boxD)), none]) ?_ ?_
  · simp [wF_ret hB2]
  rintro σ rfl
  have hstd := std_letters t
  have hwc := ret_with_content (stdT t) hbs hstd C' hcs
  have hsame := same_refl (pl_wcR (s := stdT t) (cs := C') hbs)
  have hnw : (wcR (stdT t) C').noOwn = true := wcR_no
  refine wS_cut (fun σ => σ = [some st1, some (tabD t), some (tabD (stdT t)), some (.tup ((rwd t).map .int)), some (.lst .own (C'.map .int)), o5, some (.lst .own ((lettersL C').map .int)), o7, none, some (wcR (stdT t) C'), some (.lst .own ((boxes (stdT t)).map boxD)), none]) ?_ ?_
  · have hvl : views ((lettersL C').map D.int) = (lettersL C').map D.int := views_of (noOwns_ints _)
    have hbl : (boxes (stdT t)).length = lets t := by rw [← hls]; exact boxesF_len
    have hnb : noOwns ((boxes (stdT t)).map boxD) = true := noOwns_box _
    have hvb : views ((boxes (stdT t)).map boxD) = (boxes (stdT t)).map boxD := views_of hnb
    generalize hLL : lettersL C' = L at hvl hLl ⊢
    refine wS_if.mpr ?_
    simp only [wT_B, wE_m2, wE_A, wA_cons, wA_nil, wE_var, wE_C, List.getElem?_cons_succ, List.getElem?_cons_zero, Option.some.injEq, exists_eq_left', view_own, k1_one, fLen_lst, kEq_int, D.bl.injEq, hvl, hvb, List.length_map, hbl]
    by_cases hle : L.length = lets t
    · have hle2 : ((L.length : Int) == (lets t : Int)) = true := by simp [hle]
      simp only [hle2, if_true]
      have hput := ret_put_map (stdT t) hbs (pickL L)
      have hwcT : mapT (pickL L) (stdT t) = wcT (stdT t) C' := by unfold wcT; rw [hLL]
      rw [hwcT] at hput
      have hbw : Bd (wcT (stdT t) C') := bd_of hbs (mapT_shape _ _)
      refine wS_cut (fun σ => σ = [some st1, some (tabD t), some (tabD (stdT t)), some (.tup ((rwd t).map .int)), some (.lst .own (C'.map .int)), o5, some (.lst .own (L.map .int)), o7, none, some (tabD (wcT (stdT t) C')), some (.lst .own ((boxes (stdT t)).map boxD)), none]) ?_ ?_
      · rw [wS_set, wE_Call, wA_cons, wE_lend]
        refine ⟨_, rfl, ?_⟩
        simp only [noOwn_tabD, if_true, wA_cons, wE_Lc]
        rw [wI_take]
        refine ⟨_, rfl, ?_⟩
        simp only [hnb, if_true, List.set_cons_succ, List.set_cons_zero]
        refine wC_map (boxes (stdT t)) boxD (fun b => boxD (b.1, b.2.1, pickL L b.2.2)) (fun b hbm => ?_) fun σ' hw => ?_
        · have hx := hstd _ (box_letter hbm)
          rw [hls] at hx
          obtain ⟨k, hk⟩ := Int.eq_ofNat_of_zero_le (show 0 ≤ b.2.2 - 1 by omega)
          have hkl : k < L.length := by omega
          have ex : atI (L.map D.int) (b.2.2 - 1) = some (.int (pickL L b.2.2)) := atI_at hk (by
            have : (b.2.2 - 1).toNat = k := by omega
            simp [pickL, this, hkl])
          simp [wipeD, hvl, boxD, wGs_cc, -wGs_cons, ex]
        · have e : (boxes (stdT t)).map (fun b => boxD (b.1, b.2.1, pickL L b.2.2)) = (boxes (wcT (stdT t) C')).map boxD := by
            rw [← hwcT, boxes_mapT, List.map_map]
            rfl
          rw [e]
          simp only [hw, unwipe_wipe, gB_ss, wA_nil, List.set_cons_succ, List.set_cons_zero]
          refine ⟨?_, ?_⟩
          · have := boxes_len hbw
            simp; omega
          · refine wF_any hput fun σc => ?_
            rw [putB_id]
            rotate_left
            · rfl
            exact ⟨by simp, trivial, rfl⟩
      rintro σ rfl
      have hfa := ret_law_fault (v := tabD (wcT (stdT t) C')) (.inl (noOwn_tabD)) (Fin_tabD hbw)
      have hrk := ret_ranked (wcT (stdT t) C') hbw
      have hsd2 : fillT (wcT (stdT t) C') (rkL (rwd (wcT (stdT t) C'))) = stdT (wcT (stdT t) C') := rfl
      rw [hsd2] at hrk
      have hwcR : wcR (stdT t) C' = if (faultR (tabD (wcT (stdT t) C'))).isN = true ∧ (tabD (stdT (wcT (stdT t) C'))).deq (tabD (stdT t)) = true then tabD (wcT (stdT t) C') else .non := by
        unfold wcR
        rw [if_pos (by rw [hLL, hle, hls])]
      refine wS_mono (Q := fun f σ => f = .nx ∧ σ = [some st1, some (tabD t), some (tabD (stdT t)), some (.tup ((rwd t).map .int)), some (.lst .own (C'.map .int)), o5, some (.lst .own (L.map .int)), o7, none, some (wcR (stdT t) C'), some (.lst .own ((boxes (stdT t)).map boxD)), none]) ?_ fun f σ h => h
      rw [hwcR]
      refine wS_if.mpr ?_
      rw [wT_or, wT_B, wE_m2]
      refine wE_cr hfa (by simp) (by simp) ?_
      rw [wE_C]
      refine ⟨_, kNotN_non, _, rfl, ?_⟩
      cases h1 : (faultR (tabD (wcT (stdT t) C'))).isN with
      | false => simp
      | true =>
        simp only [Bool.not_true, Bool.false_eq_true, if_false]
        rw [wT_B, wE_m2]
        refine wE_cr hrk (by simp) (by simp) ?_
        rw [wE_frz]
        refine ⟨_, rfl, ?_⟩
        rw [frz_tabD]
        refine ⟨_, kNe_tab _ _, _, rfl, ?_⟩
        cases h2 : (tabD (stdT (wcT (stdT t) C'))).deq (tabD (stdT t)) <;> simp
    · have hle2 : ((L.length : Int) == (lets t : Int)) = false := by simp; omega
      simp only [hle2, Bool.false_eq_true, if_false]
      refine wS_nil.mpr ⟨rfl, ?_⟩
      have : wcR (stdT t) C' = .non := by
        unfold wcR
        rw [if_neg (by rw [hLL, hls]; exact hle)]
      rw [this]
  rintro σ rfl
  have ht : fTuple (.lst .vw (C'.map .int)) = some (.tup (C'.map .int)) := fTuple_lst (noOwns_ints C')
  generalize wcR (stdT t) C' = z at hwc hsame hnw ⊢
  simp [hv, ht, noVws_ints, wF_ret hwc, hnw]
  refine (wF_ret hsame).mpr ?_
  exact hQ _ _ hs1
end K80
namespace K80
open PySem PySem.Spec PyProof.Rows L2 Py
theorem lo_wid (hi : Int) (r : Nat × List Int) : wid (loR hi r) = (hiR hi r).1 := rfl
theorem hi_wid {hi : Int} {r : Nat × List Int} (hs : r.2.Pairwise (· ≤ ·)) : wid (hiR hi r) = wid r := by
  have h := congrArg List.length (split_sorted (hi := hi) hs)
  rw [List.length_append] at h
  show r.1 + (r.2.filter fun x => decide (x ≤ hi)).length + (r.2.filter fun x => decide (hi < x)).length = r.1 + r.2.length
  omega
theorem good_wid : ∀ {t : T} {p : Option (Nat × List Int)}, GoodF p t → ∀ r ∈ t, 0 < wid r
  | [], _, _, r, m => (List.not_mem_nil m).elim
  | r0 :: t, p, h, r, m => by
    rcases List.mem_cons.mp m with rfl | m
    · exact h.1.1
    · exact good_wid h.2 r m
theorem partT_hi {t : T} {p : Option (Nat × List Int)} {hi : Int} (h : GoodF p t) : partT (hiR hi) t = t.map (hiR hi) := by
  unfold partT
  rw [List.filter_eq_self]
  intro r m
  obtain ⟨r0, m0, rfl⟩ := List.mem_map.mp m
  rw [hi_wid (good_sorted h r0 m0)]
  simpa using good_wid h r0 m0
theorem lo_zero1 {hi : Int} {a r : Nat × List Int} (h : Und (some a) r) (hz : wid (loR hi a) = 0) : wid (loR hi r) = 0 := by
  obtain ⟨_, _, _, h4⟩ := h
  obtain ⟨h5, h6, h7⟩ := h4 a rfl
  have hz1 : a.1 = 0 ∧ (a.2.filter fun x => decide (x ≤ hi)).length = 0 := by
    have : a.1 + (a.2.filter fun x => decide (x ≤ hi)).length = 0 := hz
    omega
  have ha : ∀ x ∈ a.2, hi < x := fun x m => by
    have e := List.length_eq_zero_iff.mp hz1.2
    have := List.filter_eq_nil_iff.mp e x m
    simp at this
    omega
  have hr1 : r.1 = 0 := by omega
  have hr2 : r.2.filter (fun x => decide (x ≤ hi)) = [] := by
    refine List.filter_eq_nil_iff.mpr fun y m => ?_
    obtain ⟨j, hj, e⟩ := List.mem_iff_getElem.mp m
    have hja : j < a.2.length := by
      unfold wid at h5
      omega
    have hlt := h7 j a.2[j] y (by omega) (by simp [hz1.1, hja]) (by rw [hr1]; simp [hj, e])
    have := ha _ (List.getElem_mem hja)
    simp
    omega
  show r.1 + (r.2.filter fun x => decide (x ≤ hi)).length = 0
  rw [hr1, hr2]
  rfl
theorem lo_zero {hi : Int} : ∀ {t : T} {a : Nat × List Int}, GoodF (some a) t → wid (loR hi a) = 0 → ∀ r ∈ t, wid (loR hi r) = 0
  | [], _, _, _, r, m => (List.not_mem_nil m).elim
  | r0 :: t, a, h, hz, r, m => by
    have h0 := lo_zero1 h.1 hz
    rcases List.mem_cons.mp m with rfl | m
    · exact h0
    · exact lo_zero h.2 h0 r m
theorem cells_zero {r : Nat × List Int} (h : wid r = 0) : cells r = [] := by
  apply List.eq_nil_of_length_eq_zero
  rw [cells_len, h]
theorem lo_rows {hi : Int} : ∀ {t : T} {p : Option (Nat × List Int)}, GoodF p t → ∀ k : Nat, (((partT (loR hi) t)[k]?).map cells).getD [] = ((t[k]?).map fun r => cells (loR hi r)).getD []
  | [], _, _, k => by simp [partT]
  | r :: t, p, h, k => by
    by_cases hz : wid (loR hi r) = 0
    · have h0 := lo_zero h.2 hz
      have hnil : partT (loR hi) (r :: t) = [] := by
        unfold partT
        refine List.filter_eq_nil_iff.mpr fun x m => ?_
        obtain ⟨r0, m0, rfl⟩ := List.mem_map.mp m
        rcases List.mem_cons.mp m0 with rfl | m0
        · simp [hz]
        · simp [h0 r0 m0]
      rw [hnil]
      cases hk : (r :: t)[k]? with
      | none => rfl
      | some r1 =>
        have m1 := List.mem_of_getElem? hk
        have : wid (loR hi r1) = 0 := by
          rcases List.mem_cons.mp m1 with rfl | m1
          · exact hz
          · exact h0 r1 m1
        simp [cells_zero this]
    · have hc : partT (loR hi) (r :: t) = loR hi r :: partT (loR hi) t := by
        unfold partT
        rw [List.map_cons, List.filter_cons_of_pos (by simp; omega)]
      rw [hc]
      cases k with
      | zero => rfl
      | succ k => simpa using lo_rows h.2 k
theorem outer_inner {hi : Int} (t : T) {p : Option (Nat × List Int)} (h : GoodF p t) : outerL (partT (loR hi) t) = innerL (partT (hiR hi) t) := by
  rw [partT_hi h]
  unfold outerL innerL partT
  rw [List.filter_map, List.filter_map, List.map_map, List.map_map]
  rfl
def gUp (hi c x : Int) : Int := if x ≤ hi then x else x + c
theorem map_gUp {hi c : Int} {ns : List Int} (h : ns.Pairwise (· ≤ ·)) : ns.map (gUp hi c) = ns.filter (fun x => decide (x ≤ hi)) ++ (ns.filter (fun x => decide (hi < x))).map (· + c) := by
  have e := congrArg (List.map (gUp hi c)) (split_sorted (hi := hi) h)
  rw [List.map_append] at e
  rw [e]
  congr 1
  · have : ∀ x ∈ ns.filter (fun x => decide (x ≤ hi)), gUp hi c x = x := fun x m => by
      have := (List.mem_filter.mp m).2
      unfold gUp
      rw [if_pos (by simpa using this)]
    exact (List.map_congr_left this).trans (List.map_id _)
  · apply List.map_congr_left
    intro x m
    have := (List.mem_filter.mp m).2
    have : hi < x := by simpa using this
    unfold gUp
    rw [if_neg (by omega)]
theorem join_parts {hi : Int} {t : T} {p : Option (Nat × List Int)} (h : GoodF p t) : joinD (partT (loR hi) t) (partT (hiR hi) t) = tabD (mapT (gUp hi (mxs 0 (rwd (partT (loR hi) t)))) t) := by
  unfold joinD
  rw [if_pos (outer_inner t h), partT_hi h]
  unfold tabD mapT
  congr 1
  apply List.ext_getElem
  · simp
  · intro k h1 h2
    have hk : k < t.length := by simpa using h1
    simp only [List.getElem_map, List.getElem_range]
    unfold joinRow
    rw [lo_rows h k]
    have e1 : (t.map (hiR hi))[k]? = some (hiR hi t[k]) := by simp [hk]
    rw [e1, List.getElem?_eq_getElem hk]
    simp only [Option.map_some, Option.getD_some]
    unfold rowD cells
    simp only [loR, hiR]
    rw [map_gUp (good_sorted h t[k] (List.getElem_mem hk))]
    simp
theorem gUp_boxes (t : T) (hi c : Int) : ∀ b ∈ boxes (mapT (gUp hi c) t), b ∈ ((boxes t).filter fun b => decide (hi < b.2.2)).map (fun b => (b.1, b.2.1, b.2.2 + c)) ∨ b ∈ boxes t := by
  intro b m
  rw [boxes_mapT] at m
  obtain ⟨b0, m0, rfl⟩ := List.mem_map.mp m
  by_cases q : b0.2.2 ≤ hi
  · right
    unfold gUp
    rw [if_pos q]
    exact m0
  · left
    refine List.mem_map.mpr ⟨b0, List.mem_filter.mpr ⟨m0, by simp; omega⟩, ?_⟩
    unfold gUp
    rw [if_neg q]
theorem put_gUp (t : T) (hi c : Int) : putC (t.map cells) (((boxes t).filter fun b => decide (hi < b.2.2)).map (fun b => (b.1, b.2.1, b.2.2 + c))) = (mapT (gUp hi c) t).map cells := by
  refine put_eq (mapT_shape _ t) (fun b m => ?_) (gUp_boxes t hi c)
  obtain ⟨b0, m0, rfl⟩ := List.mem_map.mp m
  obtain ⟨m0, q⟩ := List.mem_filter.mp m0
  rw [boxes_mapT]
  refine List.mem_map.mpr ⟨b0, m0, ?_⟩
  have : hi < b0.2.2 := by simpa using q
  unfold gUp
  rw [if_neg (by omega)]
end K80
namespace K80
open PySem PySem.Spec PyProof.Rows L2 Py
theorem mxs_perm {x : Int} {l l' : List Int} (h : l.Perm l') : mxs x l = mxs x l' := by
  have go : ∀ {l l' : List Int}, l.Perm l' → mxs x l ≤ mxs x l' := fun {l l'} h => by
    obtain ⟨h1, h2⟩ := mxs_ge l' x
    rcases List.mem_cons.mp (mxs_mem l x) with e | m
    · omega
    · exact h2 _ (h.mem_iff.mp m)
  exact Int.le_antisymm (go h) (go h.symm)
def gL (t : T) : Int := mxs 0 ((boxes t).map fun b => b.2.2)
theorem gL_max (t : T) {f : Fl} : fMaxL (.lst f (.int 0 :: (boxes t).map fun b => D.int b.2.2)) = some (.int (gL t)) := by
  have : (boxes t).map (fun b => D.int b.2.2) = ((boxes t).map fun b => b.2.2).map .int := by rw [List.map_map]; rfl
  rw [this]
  exact fMaxL_ints
theorem gL_eq (t : T) : gL t = mxs 0 (rwd t) := by
  unfold gL
  rw [← boxesR_let (t := t) (k := 0)]
  exact mxs_perm (boxesR_perm.map _).symm
theorem kNe_tnil {xs : List D} (h : fits 59 xs = true) : kNe (.tup xs) (.tup []) = some (.bl !xs.isEmpty) := by
  have h' : D.fit 60 (.tup xs) = true := h
  have h2 : D.fit 60 (.tup []) = true := rfl
  rw [kNe, if_pos ⟨h', h2⟩]
  cases xs <;> rfl
theorem kNe_lints {f g : Fl} (a b : List Int) : kNe (.lst f (a.map .int)) (.lst g (b.map .int)) = some (.bl (!decide (a = b))) := by
  have h' : D.fit 60 (.lst f (a.map .int)) = true := fits_ints
  have h2 : D.fit 60 (.lst g (b.map .int)) = true := fits_ints
  rw [kNe, if_pos ⟨h', h2⟩]
  show some (D.bl !(deqs (a.map .int) (b.map .int))) = _
  rw [deqs_ints]
theorem fits_ok {l : List D} (h : ∀ d ∈ l, okB d) : fits 59 l = true := fits_all fun y m => by
  rcases h y m with rfl | ⟨i, rfl⟩
  · exact fit_non
  · exact fit_int
theorem bd_part {t : T} {f : Nat × List Int → Nat × List Int} (hb : Bd t) (h : ∀ r ∈ t, wid (f r) ≤ 1000) : Bd (partT f t) := by
  refine ⟨?_, fun r m => ?_⟩
  · unfold partT
    have := List.length_filter_le (fun r => decide (0 < wid r)) (t.map f)
    rw [List.length_map] at this
    have := hb.1
    omega
  · obtain ⟨m, _⟩ := List.mem_filter.mp m
    obtain ⟨r0, m0, rfl⟩ := List.mem_map.mp m
    exact h r0 m0
theorem pl_tupI {x : D} (h : okB x) : Pl 4 x := by
  rcases h with rfl | ⟨i, rfl⟩ <;> trivial
theorem pl_partD {t : T} (hb : Bd t) (lo hi : Int) : Pl 5 (partD t lo hi) := by
  refine ⟨?_, pls_of fun x m => ?_⟩
  · have := List.length_filter_le (fun l : List D => !l.isEmpty) (t.map (partR lo hi))
    rw [List.length_map] at this
    have := hb.1
    rw [List.length_map]
    omega
  · obtain ⟨l, m1, rfl⟩ := List.mem_map.mp m
    obtain ⟨r, hr, rfl⟩ := List.mem_map.mp (List.mem_filter.mp m1).1
    refine ⟨?_, pls_of fun x m => ?_⟩
    · unfold partR keptR
      rw [List.length_map]
      have := List.length_filter_le (keepB hi) (cells r)
      rw [cells_len] at this
      have := hb.row hr
      omega
    · rcases part_ok m with rfl | ⟨i, rfl⟩ <;> trivial
theorem val_up {t : T} {hi c : Int} : ∀ b ∈ ((boxes t).filter fun b => decide (hi < b.2.2)).map (fun b => (b.1, b.2.1, b.2.2 + c)), Val (t.map cells) b := fun b m => by
  obtain ⟨b0, m0, rfl⟩ := List.mem_map.mp m
  have h := val_box (List.mem_filter.mp m0).1
  exact ⟨h.1, h.2⟩
/-- the rows of a part, as the law makes them -/
theorem wS_partRows {t : T} {lo hi : Int} {x0 x2 x3 : D} (hb : Bd t) {o8 o9 o10 : Option D} {m : MS}
    (hm : m = sFor (some 1) (iTake 1) (gNameM 8) (sSeq (sSet 9 (mUp (mA kLst aNil)))
    (sSeq (sFor (some 8) (iTake 8) (gNameM 10) (sIf (tOrM (Py.tB (m2 kIsN (mVar 10) (mC .non))) (Py.tB (m2 kLe (mVar 10) (mVar 6)))) (sSeq (sAppN 9 (mFrz 10))
    (sIf (tAndM (Py.tB (m2 kNotN (mVar 10) (mC .non))) (Py.tB (m2 kLt (mVar 10) (mVar 5)))) (sAsg (mC .non) (gSubM 9 (pRoot 9) (m1 fNeg (mC (.int 1))))) sNil)) sNil))
    (sAppN 7 (mUp (mA (k1 fTuple) (aCons (mVar 9) aNil))))))) :
    wS m [some x0, some (tabD t), some x2, some x3, none, some (.int lo), some (.int hi), some (.lst .own []), o8, o9, o10, none, none, none, none, none, none, none]
      fun f σ => f = .nx ∧ ∃ o8 o9 o10, σ = [some x0, some (tabD t), some x2, some x3, none, some (.int lo), some (.int hi), some (.lst .own ((t.map (partR lo hi)).map .tup)), o8, o9, o10, none, none, none, none, none, none, none] := by
  subst hm
  rw [wS_for]
  refine wI_tabD rfl ?_
  refine wL_typ (P := fun (l : T) σ => ∃ pre o8 o9 o10, pre ++ l = t ∧ σ = [some x0, some (tabD t), some x2, some x3, none, some (.int lo), some (.int hi), some (.lst .own ((pre.map (partR lo hi)).map .tup)), o8, o9, o10, none, none, none, none, none, none, none]) rowD ?_ ?_ ⟨[], o8, o9, o10, rfl, rfl⟩
  · rintro σ ⟨pre, o8, o9, o10, e, rfl⟩
    simp at e
    subst e
    exact ⟨rfl, o8, o9, o10, rfl⟩
  rintro r l σ ⟨pre, o8, o9, o10, e, rfl⟩
  have hw : wid r ≤ 1000 := hb.row (by rw [← e]; simp)
  have hpl : pre.length ≤ 1000 := by
    have := hb.1
    rw [← e] at this
    simp at this
    omega
  refine wG_name.mpr ⟨by simp, ?_⟩
  simp only [List.set_cons_succ, List.set_cons_zero]
  refine wS_cut (fun σ => σ = [some x0, some (tabD t), some x2, some x3, none, some (.int lo), some (.int hi), some (.lst .own ((pre.map (partR lo hi)).map .tup)), some (rowD r), some (.lst .own []), o10, none, none, none, none, none, none, none]) (by simp) ?_
  rintro σ rfl
  refine wS_cut (fun σ => ∃ o10, σ = [some x0, some (tabD t), some x2, some x3, none, some (.int lo), some (.int hi), some (.lst .own ((pre.map (partR lo hi)).map .tup)), some (rowD r), some (.lst .own (partR lo hi r)), o10, none, none, none, none, none, none, none]) ?_ ?_
  · rw [wS_for]
    refine wI_rowD rfl ?_
    generalize (pre.map (partR lo hi)).map D.tup = Z
    refine wL_ind (P := fun (l : List D) σ => ∃ pre o10, pre ++ l = cells r ∧ σ = [some x0, some (tabD t), some x2, some x3, none, some (.int lo), some (.int hi), some (.lst .own Z), some (rowD r), some (.lst .own ((pre.filter (keepB hi)).map (maskB lo))), o10, none, none, none, none, none, none, none]) ?_ ?_ ⟨[], o10, rfl, rfl⟩
    · rintro σ ⟨pre, o10, e, rfl⟩
      simp at e
      subst e
      exact ⟨rfl, o10, rfl⟩
    · rintro d l σ ⟨pre, o10, e, rfl⟩
      have hd : okB d := cells_ok (by rw [← e]; simp)
      have hsz : ((pre.filter (keepB hi)).map (maskB lo)).length < 16777216 := by
        have h1 := List.length_filter_le (keepB hi) pre
        have h2 := congrArg List.length e
        rw [cells_len, List.length_append] at h2
        rw [List.length_map]
        omega
      have hap : pre ++ [d] ++ l = cells r := by rw [← e]; simp
      have hnew : (((pre ++ [d]).filter (keepB hi)).map (maskB lo)) = ((pre.filter (keepB hi)).map (maskB lo)) ++ (if keepB hi d = true then [maskB lo d] else []) := by
        rw [List.filter_append, List.map_append]
        congr 1
        cases hk : keepB hi d <;> simp [List.filter_cons, hk]
      refine wG_name.mpr ⟨by simp, ?_⟩
      simp only [List.set_cons_succ, List.set_cons_zero]
      refine wS_mono (Q := fun f σ => f = .nx ∧ σ = [some x0, some (tabD t), some x2, some x3, none, some (.int lo), some (.int hi), some (.lst .own Z), some (rowD r), some (.lst .own (((pre.filter (keepB hi)).map (maskB lo)) ++ (if keepB hi d = true then [maskB lo d] else []))), some d, none, none, none, none, none, none, none]) ?_ ?_
      · generalize (pre.filter (keepB hi)).map (maskB lo) = A at hsz
        have hlast : ixN (A.length + 1) (-1) = some A.length := ixN_last (by omega)
        have hset : ∀ x y : D, (A ++ [x]).set A.length y = A ++ [y] := fun x y => by simp
        rcases hd with rfl | ⟨i, rfl⟩
        · simp [keepB, maskB, hsz]
        · by_cases h1 : i ≤ hi
          · by_cases h2 : i < lo
            · simp [keepB, maskB, hsz, h1, h2, hlast, hset]
            · simp [keepB, maskB, hsz, h1, h2]
          · simp [keepB, maskB, hsz, h1]
      · rintro f σ ⟨rfl, rfl⟩
        exact ⟨pre ++ [d], some d, hap, by rw [hnew]⟩
  rintro σ ⟨o10, rfl⟩
  have hgr : Grs (partR lo hi r) := grs_ok fun d m => part_ok m
  have hv : views (partR lo hi r) = partR lo hi r := views_of hgr.1
  have ht : fTuple (.lst .vw (partR lo hi r)) = some (.tup (partR lo hi r)) := fTuple_lst hgr.1
  have hnv := hgr.2
  refine wS_mono (Q := fun f σ => f = .nx ∧ σ = [some x0, some (tabD t), some x2, some x3, none, some (.int lo), some (.int hi), some (.lst .own ((pre.map (partR lo hi)).map .tup ++ [.tup (partR lo hi r)])), some (rowD r), some (.lst .own (partR lo hi r)), o10, none, none, none, none, none, none, none]) ?_ ?_
  · have hzl : ((pre.map (partR lo hi)).map D.tup).length < 16777216 := by simp; omega
    generalize (pre.map (partR lo hi)).map D.tup = Z at hzl
    generalize partR lo hi r = Y at hv ht hnv
    simp [hv, ht, hnv, hzl]
  · rintro f σ ⟨rfl, rfl⟩
    exact ⟨pre ++ [r], some (rowD r), some (.lst .own (partR lo hi r)), o10, by rw [← e]; simp, by simp⟩
end K80
namespace K80
open PySem PySem.Spec PyProof.Rows L2 Py
theorem joined_no : ret fn_joined [.tup [.tup [.int 1]], .tup [.tup [.non, .non, .int 2]]] = some .non := by
  have h := ret_joined [(0, [1])] [(2, [2])] ⟨by simp, fun r m => by simp at m; subst m; decide⟩ ⟨by simp, fun r m => by simp at m; subst m; decide⟩
  exact h
theorem wF_parts {t : T} {st : D} {Q : D → Sg → Prop} (hb : Bd t) (hg : GoodF none t) (hl : ∀ r ∈ t, ∀ x ∈ r.2, x ≤ (900 : Int)) (hs : St st) (hQ : ∀ st' r, St st' → Q (.bl true) (some st' :: r)) : wF fn__law_parts [st, tabD t] Q := by
  unfold fn__law_parts m__law_parts
  rw [wF_D]
  have hno := hs.no
  have hB := ret_boxes t hb
  have hbl := boxes_len hb
  have hnb : noOwns ((boxes t).map boxD) = true := noOwns_box _
  have hvb : views ((boxes t).map boxD) = (boxes t).map boxD := views_of hnb
  have hG : 0 ≤ gL t ∧ gL t ≤ 900 := by
    refine ⟨(mxs_ge _ 0).1, ?_⟩
    rcases List.mem_cons.mp (mxs_mem ((boxes t).map fun b => b.2.2) 0) with e | m
    · unfold gL; omega
    · obtain ⟨b, hbm, e⟩ := List.mem_map.mp m
      have hx := box_letter hbm
      obtain ⟨r, hr, hx⟩ := List.mem_flatMap.mp hx
      have := hl r (List.mem_reverse.mp hr) _ hx
      unfold gL
      omega
  have hlG : ∀ r ∈ t, ∀ x ∈ r.2, x ≤ gL t := fun r m x hx => by
    rw [gL_eq]
    exact (mxs_ge (rwd t) 0).2 x (List.mem_flatMap.mpr ⟨r, List.mem_reverse.mpr m, hx⟩)
  refine wS_cut (fun σ => σ = [some st, some (tabD t), some (.lst .own ((boxes t).map boxD)), none, none, none, none, none, none, none, none, none, none, none, none, none, none, none]) ?_ ?_
  · simp [wF_ret hB]
  rintro σ rfl
  refine wS_cut (fun σ => σ = [some st, some (tabD t), some (.lst .own ((boxes t).map boxD)), some (.int (gL t)), none, none, none, none, none, none, none, none, none, none, none, none, none, none]) ?_ ?_
  · simp only [wS_set, wE_A, wA_cons, wA_nil, wE_m2, wE_Up, wE_C, kLst_one, Option.some.injEq, exists_eq_left', noVw_own, noVws_cons, noVw_int, noVws_nil, Bool.and_self, true_and, wE_Lc]
    rw [wI_take]
    refine ⟨_, rfl, ?_⟩
    simp only [hnb, if_true, List.set_cons_succ, List.set_cons_zero]
    refine wC_map (boxes t) boxD (fun b => .int b.2.2) (fun b m => ?_) fun σ' w => ?_
    · have h1 : (boxD b).view = boxD b := rfl
      have h2 : kIx (boxD b) (.int 2) = some (.int b.2.2) := rfl
      simp [wipeD, h1, h2]
    · have hadd : kAdd (.lst .own [.int 0]) (.lst .own ((boxes t).map fun b => D.int b.2.2)) = some (.lst .own (.int 0 :: (boxes t).map fun b => D.int b.2.2)) := kAdd_lst (by decide) (by decide) (by simp; omega)
      simp only [w, unwipe_wipe, gB_ss, hadd, Option.some.injEq, exists_eq_left', k1_one, gL_max t, List.set_cons_succ, List.set_cons_zero]
      exact ⟨by simp; omega, by simp⟩
  rintro σ rfl
  refine wS_cut (fun σ => ∃ (st' : D) (lo : Int), St st' ∧ σ = [some st', some (tabD t), some (.lst .own ((boxes t).map boxD)), some (.int (gL t)), none, some (.int lo), none, none, none, none, none, none, none, none, none, none, none, none]) ?_ ?_
  · rw [wS_set, wE_m2, wE_C]
    refine wE_pick (l := gL t + 1) rfl hs (by simp) (by omega) (by omega) fun r st1 r0 r1 hs1 => ?_
    exact ⟨_, kAdd_int, by simp, rfl, st1, 1 + r, hs1, rfl⟩
  clear hs hno st
  rintro σ ⟨st, lo, hs, rfl⟩
  refine wS_cut (fun σ => ∃ (st' : D) (hi : Int), St st' ∧ σ = [some st', some (tabD t), some (.lst .own ((boxes t).map boxD)), some (.int (gL t)), none, some (.int lo), some (.int hi), none, none, none, none, none, none, none, none, none, none, none]) ?_ ?_
  · rw [wS_set]
    refine wE_pick (l := gL t + 2) rfl hs (by simp) (by omega) (by omega) fun r st1 r0 r1 hs1 => ?_
    exact ⟨by simp, rfl, st1, r, hs1, rfl⟩
  clear hs st
  rintro σ ⟨st, hi, hs, rfl⟩
  refine wS_cut (fun σ => σ = [some st, some (tabD t), some (.lst .own ((boxes t).map boxD)), some (.int (gL t)), none, some (.int lo), some (.int hi), some (.lst .own []), none, none, none, none, none, none, none, none, none, none]) (by simp) ?_
  rintro σ rfl
  refine wS_cut (fun σ => ∃ o8 o9 o10, σ = [some st, some (tabD t), some (.lst .own ((boxes t).map boxD)), some (.int (gL t)), none, some (.int lo), some (.int hi), some (.lst .own ((t.map (partR lo hi)).map .tup)), o8, o9, o10, none, none, none, none, none, none, none]) (wS_partRows hb rfl) ?_
  rintro σ ⟨o8, o9, o10, rfl⟩
  have hp := ret_part t hb lo hi
  have hps := same_refl (pl_partD hb lo hi)
  have hgp : ∀ l ∈ t.map (partR lo hi), Grs l := fun l m => by
    obtain ⟨r, _, rfl⟩ := List.mem_map.mp m
    exact grs_ok fun d m => part_ok m
  have hnp := (noOwns_tups hgp).1
  refine wS_cut (fun σ => ∃ o7, σ = [some st, some (tabD t), some (.lst .own ((boxes t).map boxD)), some (.int (gL t)), none, some (.int lo), some (.int hi), some o7, o8, o9, o10, none, none, none, none, none, none, none]) ?_ ?_
  · simp only [wS_if, wT_not, wT_val, wE_Call, wA_cons, wE_lend, wA_nil, List.getElem?_cons_succ, List.getElem?_cons_zero, Option.some.injEq, exists_eq_left', noOwn_tabD, noOwn_int, if_true]
    refine wF_any hp fun σc => ?_
    rw [putB_id]
    rotate_left
    · rfl
    rw [wE_A, wA_cons, wE_Lc, wI_take]
    refine ⟨_, rfl, ?_⟩
    simp only [hnp, if_true, List.set_cons_succ, List.set_cons_zero]
    refine wC_typ (t.map (partR lo hi)) D.tup (fun l => !l.isEmpty) D.tup (fun l hm => ?_) fun σ' w => ?_
    · have hf : fits 59 l = true := by
        obtain ⟨r, _, rfl⟩ := List.mem_map.mp hm
        exact fits_ok fun d m => part_ok m
      simp [wipeD, kNe_tnil hf]
      exact Classical.em _
    · have hsz : (((t.map (partR lo hi)).filter fun l => !l.isEmpty).map D.tup).length ≤ 16777216 := by
        have := List.length_filter_le (fun l : List D => !l.isEmpty) (t.map (partR lo hi))
        rw [List.length_map] at this
        have := hb.1
        rw [List.length_map]
        omega
      have hno2 : noOwns (((t.map (partR lo hi)).filter fun l => !l.isEmpty).map D.tup) = true := (noOwns_tups fun l m => hgp l (List.mem_filter.mp m).1).1
      have htt : fTuple (.lst .own (((t.map (partR lo hi)).filter fun l => !l.isEmpty).map D.tup)) = some (partD t lo hi) := fTuple_lst hno2
      simp only [w, unwipe_wipe, gB_ss, List.set_cons_succ, List.set_cons_zero, wA_nil, k1_one, htt, Option.some.injEq, exists_eq_left']
      refine ⟨hsz, wF_any hps fun σc => ?_⟩
      rw [putB_id]
      rotate_left
      · rfl
      simp only [dTru_bl, Option.some.injEq, exists_eq_left', Bool.not_true, Bool.false_eq_true, if_false]
      exact wS_nil.mpr ⟨rfl, _, rfl⟩
  rintro σ ⟨o7, rfl⟩
  have hgs := good_sorted hg
  have hF : ret fn_part [tabD t, .int 1, .int hi] = some (tabD (partT (loR hi) t)) := by
    rw [ret_part t hb 1 hi]
    have : ∀ r ∈ t, partR 1 hi r = cells (loR hi r) := fun r m => part_lo (good_letters hg r m)
    rw [partD_eq this]
  have hS : ret fn_part [tabD t, .int (hi + 1), .int (gL t)] = some (tabD (partT (hiR hi) t)) := by
    rw [ret_part t hb (hi + 1) (gL t)]
    have : ∀ r ∈ t, partR (hi + 1) (gL t) r = cells (hiR hi r) := fun r m => part_hi (hlG r m) (hgs r m)
    rw [partD_eq this]
  have hbF : Bd (partT (loR hi) t) := bd_part hb fun r m => by
    have h1 := hb.row m
    have h2 := List.length_filter_le (fun x => decide (x ≤ hi)) r.2
    unfold wid at h1
    show r.1 + (r.2.filter fun x => decide (x ≤ hi)).length ≤ 1000
    omega
  have hbS : Bd (partT (hiR hi) t) := bd_part hb fun r m => by
    rw [hi_wid (hgs r m)]
    exact hb.row m
  obtain ⟨F, hFF⟩ : ∃ F, F = partT (loR hi) t := ⟨_, rfl⟩
  obtain ⟨S, hSS⟩ : ∃ S, S = partT (hiR hi) t := ⟨_, rfl⟩
  have hjo := ret_joined F S (hFF ▸ hbF) (hSS ▸ hbS)
  have hjp := join_parts (hi := hi) hg
  have hoi := outer_inner (hi := hi) t hg
  have hSw : ∀ r ∈ S, 0 < wid r := fun r m => by
    rw [hSS] at m
    simpa using (List.mem_filter.mp m).2
  rw [← hFF] at hF hbF hjp hoi
  rw [← hSS] at hS hbS hjp hoi
  rw [hjp] at hjo
  refine wS_cut (fun σ => σ = [some st, some (tabD t), some (.lst .own ((boxes t).map boxD)), some (.int (gL t)), none, some (.int lo), some (.int hi), some o7, o8, o9, o10, some (tabD F), none, none, none, none, none, none]) ?_ ?_
  · simp [wF_ret hF]
  rintro σ rfl
  refine wS_cut (fun σ => σ = [some st, some (tabD t), some (.lst .own ((boxes t).map boxD)), some (.int (gL t)), none, some (.int lo), some (.int hi), some o7, o8, o9, o10, some (tabD F), some (tabD S), none, none, none, none, none]) ?_ ?_
  · simp [wF_ret hS]
  rintro σ rfl
  have hBF := ret_boxes F hbF
  refine wS_cut (fun σ => σ = [some st, some (tabD t), some (.lst .own ((boxes t).map boxD)), some (.int (gL t)), none, some (.int lo), some (.int hi), some o7, o8, o9, o10, some (tabD F), some (tabD S), some (.int (gL F)), none, none, none, none]) ?_ ?_
  · simp only [wS_set, wE_A, wA_cons, wA_nil, wE_m2, wE_Up, wE_C, kLst_one, Option.some.injEq, exists_eq_left', noVw_own, noVws_cons, noVw_int, noVws_nil, Bool.and_self, true_and, wE_Lc, wI_seq, wE_Call, wE_lend, List.getElem?_cons_succ, List.getElem?_cons_zero, noOwn_tabD, if_true]
    refine wF_any hBF fun σc => ?_
    rw [putB_id]
    rotate_left
    · rfl
    have hfz : frzs ((boxes F).map boxD) = (boxes F).map boxD := frzs_of (noOwns_box _)
    simp only [items_own, hfz, Option.some.injEq, exists_eq_left']
    have hblF := boxes_len hbF
    refine wC_map (boxes F) boxD (fun b => .int b.2.2) (fun b m => ?_) fun σ' w => ?_
    · have h1 : (boxD b).view = boxD b := rfl
      have h2 : kIx (boxD b) (.int 2) = some (.int b.2.2) := rfl
      simp [wipeD, h1, h2]
    · have hadd : kAdd (.lst .own [.int 0]) (.lst .own ((boxes F).map fun b => D.int b.2.2)) = some (.lst .own (.int 0 :: (boxes F).map fun b => D.int b.2.2)) := kAdd_lst (by decide) (by decide) (by simp; omega)
      simp only [w, unwipe_wipe, gB_n, hadd, Option.some.injEq, exists_eq_left', k1_one, gL_max F, List.set_cons_succ, List.set_cons_zero]
      exact ⟨by simp; omega, by simp⟩
  rintro σ rfl
  rw [← gL_eq F] at hjo
  have hput := ret_put t hb _ (val_up (t := t) (hi := hi) (c := gL F))
  rw [put_gUp] at hput
  have hout : (((mapT (gUp hi (gL F)) t).map cells).map D.tup) = (mapT (gUp hi (gL F)) t).map rowD := by rw [List.map_map]; rfl
  rw [hout] at hput
  have hbU : Bd (mapT (gUp hi (gL F)) t) := bd_of hb (mapT_shape _ t)
  refine wS_cut (fun σ => σ = [some st, some (tabD t), some (.lst .own ((boxes t).map boxD)), some (.int (gL t)), none, some (.int lo), some (.int hi), some o7, o8, o9, o10, some (tabD F), some (tabD S), some (.int (gL F)), some (tabD (mapT (gUp hi (gL F)) t)), none, none, none]) ?_ ?_
  · simp only [wS_set, wE_Call, wA_cons, wE_lend, List.getElem?_cons_succ, List.getElem?_cons_zero, Option.some.injEq, exists_eq_left', noOwn_tabD, if_true, wE_Lc]
    rw [wI_take]
    refine ⟨_, rfl, ?_⟩
    simp only [hnb, if_true, List.set_cons_succ, List.set_cons_zero]
    refine wC_typ (boxes t) boxD (fun b => decide (hi < b.2.2)) (fun b => boxD (b.1, b.2.1, b.2.2 + gL F)) (fun b hbm => ?_) fun σ' w => ?_
    · by_cases q : hi < b.2.2 <;> simp [wipeD, boxD, wGs_cc, -wGs_cons, q]
    · have e : ((boxes t).filter fun b => decide (hi < b.2.2)).map (fun b => boxD (b.1, b.2.1, b.2.2 + gL F)) = (((boxes t).filter fun b => decide (hi < b.2.2)).map (fun b => (b.1, b.2.1, b.2.2 + gL F))).map boxD := by rw [List.map_map]; rfl
      have hsz := List.length_filter_le (fun b : Bx => decide (hi < b.2.2)) (boxes t)
      simp only [w, unwipe_wipe, gB_ss, List.set_cons_succ, List.set_cons_zero, wA_nil]
      refine ⟨by rw [List.length_map]; omega, ?_⟩
      rw [e]
      refine wF_any hput fun σc => ?_
      rw [putB_id]
      rotate_left
      · rfl
      exact ⟨by simp, by simp; rfl⟩
  rintro σ rfl
  refine wS_cut (fun σ => σ = [some st, some (tabD t), some (.lst .own ((boxes t).map boxD)), some (.int (gL t)), none, some (.int lo), some (.int hi), some o7, o8, o9, o10, some (tabD F), some (tabD S), some (.int (gL F)), some (tabD (mapT (gUp hi (gL F)) t)), none, none, none]) ?_ ?_
  · generalize tabD (mapT (gUp hi (gL F)) t) = U
    simp only [wS_if, wT_B, wE_m2, wE_Lc]
    refine wI_tabD rfl ?_
    have hFl := hbF.1
    have hSl := hbS.1
    refine wC_map F rowD (fun r => .int (wid r)) (fun r hr => by simp [wipeD]) fun σ' w => ?_
    simp only [gB_sn, w, unwipe_wipe]
    refine ⟨by rw [List.length_map]; omega, ?_⟩
    refine wI_tabD rfl ?_
    refine wC_typ S rowD (fun r => decide (0 < r.1)) (fun r => .int r.1) (fun r hr => ?_) fun σ2 w2 => ?_
    · have hw := hSw r hr
      have hwr := hbS.row hr
      refine wG_name.mpr ⟨by simp [wipeD], ?_⟩
      by_cases q : 0 < r.1
      · have ex : atI (cells r) 0 = some .non := atI_at (k := 0) rfl (cell_lt q)
        simp only [wipeD, List.set_cons_succ, List.set_cons_zero, wT_B, wE_m2, wE_var, wE_C, List.getElem?_cons_succ, List.getElem?_cons_zero, Option.some.injEq, exists_eq_left', view_rowD, kIx_rowD, ex, kIsN_non, isN_non, D.bl.injEq, q, decide_true, true_and, if_true, wE_A, wA_cons, wE_Lc]
        refine wI_rowD rfl ?_
        refine wC_pure D.isN (fun _ => .int 1) (fun d m => ?_) fun σ3 w3 => ?_
        · rcases cells_ok m with rfl | ⟨i, rfl⟩ <;> simp [wipeD]
        · have hcnt : ((cells r).filter D.isN).length = r.1 := by
            unfold cells
            rw [List.filter_append]
            have h1 : (List.replicate r.1 D.non).filter D.isN = List.replicate r.1 D.non := List.filter_eq_self.mpr fun d m => by rw [(List.mem_replicate.mp m).2]; rfl
            have h2 : (r.2.map D.int).filter D.isN = [] := List.filter_eq_nil_iff.mpr fun d m => by
              obtain ⟨x, _, rfl⟩ := List.mem_map.mp m
              simp
            rw [h1, h2]
            simp
          have hri : r.1 ≤ 1000 := by unfold wid at hwr; omega
          have e3 := unwipe_wipe [some st, some (tabD t), some (.lst .own ((boxes t).map boxD)), some (.int (gL t)), none, some (.int lo), some (.int hi), some o7, some (rowD r), o9, o10, some (tabD F), some (tabD S), some (.int (gL F)), some U, none, none, none] [10]
          rw [← w3] at e3
          simp only [wipeD] at e3
          simp [e3, hcnt]
          omega
      · have ex : ∃ i, atI (cells r) 0 = some (.int i) := by
          have h0 : r.1 = 0 := by omega
          have hlen : 0 < r.2.length := by unfold wid at hw; omega
          exact ⟨r.2[0], atI_at (k := 0) rfl (by rw [cell_ge (by omega), h0]; simp [hlen])⟩
        obtain ⟨i, ex⟩ := ex
        simp [wipeD, ex, q]
    · have e1 : (F.map fun r => D.int (wid r)) = (outerL F).map .int := by unfold outerL; rw [List.map_map]; rfl
      have e2 : ((S.filter fun r => decide (0 < r.1)).map fun r => D.int r.1) = (innerL S).map .int := by unfold innerL; rw [List.map_map]; rfl
      have hsz := List.length_filter_le (fun r : Nat × List Int => decide (0 < r.1)) S
      simp only [gB_sn, w2, unwipe_wipe]
      refine ⟨by rw [List.length_map]; omega, ?_⟩
      rw [e1, e2]
      refine ⟨_, kNe_lints _ _, _, rfl, ?_⟩
      rw [hoi]
      simp
  rintro σ rfl
  have hsame := same_refl (pl_tab hbU)
  have hjn := joined_no
  generalize mapT (gUp hi (gL F)) t = U at hjo hsame ⊢
  have k1 : kTup [.tup [.int 1]] = some (.tup [.tup [.int 1]]) := kTup_one rfl
  have k2 : kTup [.non, .non, .int 2] = some (.tup [.non, .non, .int 2]) := kTup_three rfl rfl rfl
  have k3 : kTup [.tup [.non, .non, .int 2]] = some (.tup [.tup [.non, .non, .int 2]]) := kTup_one rfl
  simp [wF_ret hjo, wF_ret hsame, k1, k2, k3]
  refine wF_any hjn fun σc => ?_
  exact hQ _ _ hs
end K80
namespace K80
open PySem PySem.Spec PyProof.Rows L2 Py
theorem good_snoc : ∀ {t : T} {p : Option (Nat × List Int)} {r : Nat × List Int}, GoodF p t → Und (t.getLast?.or p) r → GoodF p (t ++ [r])
  | [], p, r, _, h => ⟨by simpa using h, trivial⟩
  | a :: t, p, r, hg, h => by
    refine ⟨hg.1, good_snoc hg.2 ?_⟩
    have e : (a :: t).getLast?.or p = t.getLast?.or (some a) := by
      cases t with
      | nil => rfl
      | cons b t =>
        have : ((b :: t).getLast?).isSome = true := by simp
        obtain ⟨z, hz⟩ := Option.isSome_iff_exists.mp this
        rw [List.getLast?_cons_cons, hz]
        rfl
    rw [e] at h
    exact h
def flAt (fl : List Int) (k : Nat) : Nat := (fl.getD k 0).toNat
def RowOk (sh fl : List Int) (k : Nat) (r : Nat × List Int) : Prop := (wid r : Int) = sh.getD k 0 ∧ r.1 = flAt fl k ∧ ∀ (i : Nat) (x : Int), r.2[i]? = some x → 1 ≤ x ∧ x ≤ 6 * ((k : Int) + r.1 + i + 1)
def FillOk (sh fl : List Int) (t : T) : Prop := t.length = sh.length ∧ GoodF none t ∧ ∀ (k : Nat) (r : Nat × List Int), t[k]? = some r → RowOk sh fl k r
theorem flAt_ok {sh fl : List Int} (h : FlOk sh fl) {k : Nat} (hk : k < sh.length) : (flAt fl k : Int) ≤ sh[k] ∨ sh[k] < 0 := by
  obtain ⟨h1, h2, h3, h4⟩ := h
  unfold flAt
  by_cases q : k < fl.length
  · left
    have a := h4 k fl[k] sh[k] (by simp [q]) (by simp [hk])
    have b := h3 _ (List.getElem_mem q)
    simp [q]
    omega
  · simp [q]
    omega
theorem flAt_mono {sh fl : List Int} (h : FlOk sh fl) (k : Nat) : flAt fl (k + 1) ≤ flAt fl k := by
  obtain ⟨h1, h2, h3, h4⟩ := h
  unfold flAt
  by_cases q : k + 1 < fl.length
  · have := List.pairwise_iff_getElem.mp h2 k (k + 1) (by omega) q (by omega)
    have q' : k < fl.length := by omega
    simp [q, q']
    omega
  · simp [q]
def rowsF (t : T) : List D := t.map fun r => D.lst .frz (cells r)
theorem noOwns_rowsF (t : T) : noOwns (rowsF t) = true := by
  unfold rowsF
  rw [noOwns_all, List.all_eq_true]
  intro d m
  obtain ⟨r, _, rfl⟩ := List.mem_map.mp m
  exact (grs_cells r).1
theorem noVws_rowsF (t : T) : noVws (rowsF t) = true := by
  unfold rowsF
  rw [noVws_all, List.all_eq_true]
  intro d m
  obtain ⟨r, _, rfl⟩ := List.mem_map.mp m
  exact (grs_cells r).2
def addL : List D := [.int 0, .int 0, .int 1, .int 0, .int 2, .int 1, .int 5]
theorem addL_at {r : Int} (h0 : 0 ≤ r) (h1 : r < 7) : ∃ e : Int, atI addL r = some (.int e) ∧ 0 ≤ e ∧ e ≤ 5 := by
  have h : r = 0 ∨ r = 1 ∨ r = 2 ∨ r = 3 ∨ r = 4 ∨ r = 5 ∨ r = 6 := by omega
  rcases h with rfl | rfl | rfl | rfl | rfl | rfl | rfl
  · exact ⟨0, rfl, by decide, by decide⟩
  · exact ⟨0, rfl, by decide, by decide⟩
  · exact ⟨1, rfl, by decide, by decide⟩
  · exact ⟨0, rfl, by decide, by decide⟩
  · exact ⟨2, rfl, by decide, by decide⟩
  · exact ⟨1, rfl, by decide, by decide⟩
  · exact ⟨5, rfl, by decide, by decide⟩
/-- the row so far, under the last row -/
def RowSo (t : T) (k lw : Nat) (ls : List Int) : Prop := ls.Pairwise (· ≤ ·) ∧ (∀ (i : Nat) (x : Int), ls[i]? = some x → 1 ≤ x ∧ x ≤ 6 * ((k : Int) + lw + i + 1)) ∧
  ∀ a, t.getLast? = some a → ∀ (i : Nat) (x y : Int), a.1 ≤ lw + i → a.2[lw + i - a.1]? = some x → ls[i]? = some y → x < y
theorem RowSo.snoc {t : T} {k lw : Nat} {ls : List Int} {y : Int} (h : RowSo t k lw ls) (h1 : 1 ≤ y) (h2 : ∀ x ∈ ls, x ≤ y) (h3 : y ≤ 6 * ((k : Int) + lw + ls.length + 1))
    (h4 : ∀ a, t.getLast? = some a → ∀ x, a.1 ≤ lw + ls.length → a.2[lw + ls.length - a.1]? = some x → x < y) : RowSo t k lw (ls ++ [y]) := by
  obtain ⟨g1, g2, g3⟩ := h
  have split : ∀ (i : Nat) (x : Int), (ls ++ [y])[i]? = some x → (ls[i]? = some x) ∨ (i = ls.length ∧ x = y) := fun i x hx => by
    by_cases q : i < ls.length
    · rw [List.getElem?_append_left q] at hx
      exact .inl hx
    · by_cases q2 : i = ls.length
      · subst q2
        have hx : y = x := by simpa using hx
        exact .inr ⟨rfl, hx.symm⟩
      · rw [List.getElem?_eq_none (by simp; omega)] at hx
        cases hx
  refine ⟨List.pairwise_append.mpr ⟨g1, List.pairwise_singleton _ _, fun a ha b hb => ?_⟩, fun i x hx => ?_, fun a ha i x z h5 h6 hz => ?_⟩
  · have := List.mem_singleton.mp hb
    have := h2 a ha
    omega
  · rcases split i x hx with hx | ⟨rfl, rfl⟩
    · exact g2 i x hx
    · exact ⟨h1, h3⟩
  · rcases split i z hz with hz | ⟨rfl, rfl⟩
    · exact g3 a ha i x z h5 h6 hz
    · exact h4 a ha x h5 h6
def leastM : MS := (sSeq (sSet 8 (mC (.int 1)))
    (sSeq (sIf (Py.tB (m2 kGt (mVar 7) (mVar 5))) (sSet 8 (mUp (m2 kIx (mVar 6) (m2 kSub (mVar 7) (mC (.int 1)))))) sNil)
    (sSeq (sIf (tAndM (Py.tB (m2 kGt (mVar 4) (mC (.int 0)))) (Py.tB (m2 kNotN (m2 kIx (m2 kIx (mVar 3) (m2 kSub (mVar 4) (mC (.int 1)))) (mVar 7)) (mC .non)))) (sSet 8 (mUp (mA (k2 fMax2) (aCons (mVar 8) (aCons (m2 kAdd (m2 kIx (m2 kIx (mVar 3) (m2 kSub (mVar 4) (mC (.int 1)))) (mVar 7)) (mC (.int 1))) aNil))))) sNil)
    (sAppN 6 (m2 kAdd (mFrz 8) (m2 kIx (mUp (mA kLst (aCons (mC (.int 0)) (aCons (mC (.int 0)) (aCons (mC (.int 1)) (aCons (mC (.int 0)) (aCons (mC (.int 2)) (aCons (mC (.int 1)) (aCons (mC (.int 5)) aNil))))))))) (mCall [2, 3] [some 0, none] fn__law_pick (aCons (mLend 0) (aCons (mC (.int 7)) aNil)))))))))
theorem wS_least {t : T} {st x1 x2 : D} {k lw : Nat} {ls : List Int} {o8 : Option D} (hs : St st) (hk : t.length = k) (hso : RowSo t k lw ls) (hsz : lw + ls.length < 1000)
    (hlast : ∀ a, t.getLast? = some a → lw + ls.length < wid a ∧ ∀ (i : Nat) (x : Int), a.2[i]? = some x → x ≤ 6 * ((k : Int) + a.1 + i)) :
    wS leastM [some st, some x1, some x2, some (.lst .own (rowsF t)), some (.int k), some (.int lw), some (.lst .own (cells (lw, ls))), some (.int (lw + ls.length : Nat)), o8]
      fun f σ => f = .nx ∧ ∃ (st' : D) (y : Int) (o8 : Option D), St st' ∧ RowSo t k lw (ls ++ [y]) ∧ σ = [some st', some x1, some x2, some (.lst .own (rowsF t)), some (.int k), some (.int lw), some (.lst .own (cells (lw, ls ++ [y]))), some (.int (lw + ls.length : Nat)), o8] := by
  unfold leastM
  have hvc : views (cells (lw, ls)) = cells (lw, ls) := views_of (grs_cells _).1
  have hvr : views (rowsF t) = rowsF t := views_of (noOwns_rowsF t)
  obtain ⟨g1, g2, g3⟩ := hso
  refine wS_cut (fun σ => σ = [some st, some x1, some x2, some (.lst .own (rowsF t)), some (.int k), some (.int lw), some (.lst .own (cells (lw, ls))), some (.int (lw + ls.length : Nat)), some (.int 1)]) (by simp) ?_
  rintro σ rfl
  refine wS_cut (fun σ => ∃ y : Int, 1 ≤ y ∧ (∀ x ∈ ls, x ≤ y) ∧ y ≤ 6 * ((k : Int) + lw + ls.length) + 1 ∧ σ = [some st, some x1, some x2, some (.lst .own (rowsF t)), some (.int k), some (.int lw), some (.lst .own (cells (lw, ls))), some (.int (lw + ls.length : Nat)), some (.int y)]) ?_ ?_
  · refine wS_if.mpr ?_
    simp only [wT_B, wE_m2, wE_var, List.getElem?_cons_succ, List.getElem?_cons_zero, Option.some.injEq, exists_eq_left', view_int, kGt_int, D.bl.injEq]
    by_cases q : 0 < ls.length
    · have q1 : (lw : Int) < ((lw + ls.length : Nat) : Int) := by omega
      have hx : ls.length - 1 < ls.length := by omega
      have ex : atI (cells (lw, ls)) (((lw + ls.length : Nat) : Int) - 1) = some (.int ls[ls.length - 1]) := atI_at (k := lw + ls.length - 1) (by omega) (by
        rw [cell_ge (show (lw, ls).1 ≤ _ by simp; omega)]
        have : lw + ls.length - 1 - lw = ls.length - 1 := by omega
        simp only [this]
        rw [List.getElem?_eq_getElem hx]
        rfl)
      simp only [q1, decide_true, if_true]
      refine wS_mono (Q := fun f σ => f = .nx ∧ σ = [some st, some x1, some x2, some (.lst .own (rowsF t)), some (.int k), some (.int lw), some (.lst .own (cells (lw, ls))), some (.int (lw + ls.length : Nat)), some (.int ls[ls.length - 1])]) ?_ ?_
      · generalize ((lw + ls.length : Nat) : Int) = jj at ex ⊢
        simp [hvc, ex]
      · rintro f σ ⟨rfl, rfl⟩
        have hb := g2 (ls.length - 1) ls[ls.length - 1] (by simp [hx])
        refine ⟨rfl, _, hb.1, fun x m => ?_, by omega, rfl⟩
        obtain ⟨i, hi, rfl⟩ := List.mem_iff_getElem.mp m
        by_cases e : i = ls.length - 1
        · subst e; exact Int.le_refl _
        · exact List.pairwise_iff_getElem.mp g1 i (ls.length - 1) hi hx (by omega)
    · have q1 : ¬ (lw : Int) < ((lw + ls.length : Nat) : Int) := by omega
      have hnil : ls = [] := List.eq_nil_of_length_eq_zero (by omega)
      simp only [q1, decide_false, Bool.false_eq_true, if_false]
      exact wS_nil.mpr ⟨rfl, 1, Int.le_refl 1, fun x m => absurd m (by rw [hnil]; simp), by omega, rfl⟩
  rintro σ ⟨y, y1, y2, y3, rfl⟩
  refine wS_cut (fun σ => ∃ y : Int, 1 ≤ y ∧ (∀ x ∈ ls, x ≤ y) ∧ y ≤ 6 * ((k : Int) + lw + ls.length) + 1 ∧ (∀ a, t.getLast? = some a → ∀ x, a.1 ≤ lw + ls.length → a.2[lw + ls.length - a.1]? = some x → x < y) ∧ σ = [some st, some x1, some x2, some (.lst .own (rowsF t)), some (.int k), some (.int lw), some (.lst .own (cells (lw, ls))), some (.int (lw + ls.length : Nat)), some (.int y)]) ?_ ?_
  · refine wS_if.mpr ?_
    cases hla : t.getLast? with
    | none =>
      have ht : t = [] := List.getLast?_eq_none_iff.mp hla
      have hk0 : k = 0 := by rw [← hk, ht]; rfl
      subst hk0
      simp
      exact ⟨y, y1, y2, by omega, rfl⟩
    | some a =>
      obtain ⟨h5, h6⟩ := hlast a hla
      have hk1 : 0 < k := by
        rw [← hk]
        cases t with
        | nil => cases hla
        | cons b t => simp
      have er : atI (rowsF t) ((k : Int) - 1) = some (.lst .frz (cells a)) := atI_at (k := k - 1) (by omega) (by
        unfold rowsF
        rw [List.getElem?_map, ← hk, ← List.getLast?_eq_getElem?, hla]
        rfl)
      by_cases q : a.1 ≤ lw + ls.length
      · have hin : lw + ls.length - a.1 < a.2.length := by unfold wid at h5; omega
        have ec : atI (cells a) ((lw + ls.length : Nat) : Int) = some (.int (a.2[lw + ls.length - a.1])) := atI_at rfl (by rw [cell_ge q, List.getElem?_eq_getElem hin]; rfl)
        have hb := h6 _ _ (List.getElem?_eq_getElem hin)
        refine (?_ : wT _ _ _)
        have hk2 : (0 : Int) < (k : Int) := by omega
        have key : wS (sSet 8 (mUp (mA (k2 fMax2) (aCons (mVar 8) (aCons (m2 kAdd (m2 kIx (m2 kIx (mVar 3) (m2 kSub (mVar 4) (mC (.int 1)))) (mVar 7)) (mC (.int 1))) aNil))))) [some st, some x1, some x2, some (.lst .own (rowsF t)), some (.int k), some (.int lw), some (.lst .own (cells (lw, ls))), some (.int (lw + ls.length : Nat)), some (.int y)] fun f σ => f = .nx ∧ σ = [some st, some x1, some x2, some (.lst .own (rowsF t)), some (.int k), some (.int lw), some (.lst .own (cells (lw, ls))), some (.int (lw + ls.length : Nat)), some (.int (max y (a.2[lw + ls.length - a.1] + 1)))] := by
          generalize ((lw + ls.length : Nat) : Int) = jj at ec ⊢
          generalize (k : Int) = kk at er ⊢
          simp [hvr, er, ec]
        have hT : ∀ {QT : Bool → Sg → Prop}, QT true [some st, some x1, some x2, some (.lst .own (rowsF t)), some (.int k), some (.int lw), some (.lst .own (cells (lw, ls))), some (.int (lw + ls.length : Nat)), some (.int y)] → wT (tAndM (Py.tB (m2 kGt (mVar 4) (mC (.int 0)))) (Py.tB (m2 kNotN (m2 kIx (m2 kIx (mVar 3) (m2 kSub (mVar 4) (mC (.int 1)))) (mVar 7)) (mC .non)))) [some st, some x1, some x2, some (.lst .own (rowsF t)), some (.int k), some (.int lw), some (.lst .own (cells (lw, ls))), some (.int (lw + ls.length : Nat)), some (.int y)] QT := fun {QT} hq => by
          generalize ((lw + ls.length : Nat) : Int) = jj at ec hq ⊢
          generalize (k : Int) = kk at er hk2 hq ⊢
          simp [hvr, er, ec, hk2]
          exact hq
        refine hT ?_
        simp only [if_true]
        refine wS_mono key ?_
        rintro f σ ⟨rfl, rfl⟩
        refine ⟨rfl, _, by omega, fun x m => by have := y2 x m; omega, by omega, fun a' ha x hx1 hx2 => ?_, rfl⟩
        cases ha
        rw [List.getElem?_eq_getElem hin] at hx2
        cases hx2
        omega
      · have ec : atI (cells a) ((lw + ls.length : Nat) : Int) = some .non := atI_at rfl (cell_lt (by omega))
        have hk2 : (0 : Int) < (k : Int) := by omega
        have hT : ∀ {QT : Bool → Sg → Prop}, QT false [some st, some x1, some x2, some (.lst .own (rowsF t)), some (.int k), some (.int lw), some (.lst .own (cells (lw, ls))), some (.int (lw + ls.length : Nat)), some (.int y)] → wT (tAndM (Py.tB (m2 kGt (mVar 4) (mC (.int 0)))) (Py.tB (m2 kNotN (m2 kIx (m2 kIx (mVar 3) (m2 kSub (mVar 4) (mC (.int 1)))) (mVar 7)) (mC .non)))) [some st, some x1, some x2, some (.lst .own (rowsF t)), some (.int k), some (.int lw), some (.lst .own (cells (lw, ls))), some (.int (lw + ls.length : Nat)), some (.int y)] QT := fun {QT} hq => by
          generalize ((lw + ls.length : Nat) : Int) = jj at ec hq ⊢
          generalize (k : Int) = kk at er hk2 hq ⊢
          simp [hvr, er, ec, hk2]
          exact hq
        refine hT ?_
        simp only [Bool.false_eq_true, if_false]
        refine wS_nil.mpr ⟨rfl, y, y1, y2, y3, fun a' ha x hx1 hx2 => ?_, rfl⟩
        cases ha
        exact absurd hx1 q
  rintro σ ⟨y, y1, y2, y3, y4, rfl⟩
  rw [wS_app]
  refine ⟨_, rfl, ?_⟩
  have hadL : ∀ {Q : D → Sg → Prop} {σ : Sg}, Q (.lst .own addL) σ → wE (mUp (mA kLst (aCons (mC (.int 0)) (aCons (mC (.int 0)) (aCons (mC (.int 1)) (aCons (mC (.int 0)) (aCons (mC (.int 2)) (aCons (mC (.int 1)) (aCons (mC (.int 5)) aNil))))))))) σ Q := fun {Q σ} h => by
    have hk : kLst addL = some (.lst .own addL) := kLst_ok (by decide)
    unfold addL at hk h
    simp [hk]
    exact h
  rw [wE_m2, wE_frz]
  refine ⟨_, rfl, ?_⟩
  simp only [frz_int, List.set_cons_succ, List.set_cons_zero]
  rw [wE_m2]
  refine hadL ?_
  refine wE_pick (l := 7) rfl hs (by simp) (by decide) (by decide) fun r st1 r0 r1 hs1 => ?_
  obtain ⟨e, he, e0, e5⟩ := addL_at r0 r1
  refine ⟨_, (kIx_lst).trans he, _, kAdd_int, ?_⟩
  simp only [List.set_cons_zero]
  refine ⟨_, _, rfl, rfl, by simp [wid]; omega, ?_⟩
  refine ⟨trivial, st1, y + e, some (.int y), hs1, RowSo.snoc ⟨g1, g2, g3⟩ (by omega) (fun x m => by have := y2 x m; omega) (by omega) (fun a ha x h1 h2 => by have := y4 a ha x h1 h2; omega), ?_⟩
  unfold cells
  simp
end K80
namespace K80
open PySem PySem.Spec PyProof.Rows L2 Py
def FInv (sh fl : List Int) (k : Nat) (t : T) : Prop := t.length = k ∧ GoodF none t ∧ ∀ (i : Nat) (r : Nat × List Int), t[i]? = some r → RowOk sh fl i r
theorem FInv.last {sh fl : List Int} {k : Nat} {t : T} (h : FInv sh fl k t) {a : Nat × List Int} (ha : t.getLast? = some a) : 0 < k ∧ RowOk sh fl (k - 1) a := by
  obtain ⟨h1, h2, h3⟩ := h
  rw [List.getLast?_eq_getElem?] at ha
  refine ⟨?_, h3 _ a (by rw [← h1]; exact ha)⟩
  have := (List.getElem?_eq_some_iff.mp ha).1
  omega
theorem FInv.snoc {sh fl : List Int} {k : Nat} {t : T} {ls : List Int} (hsh : ShOk sh) (hfl : FlOk sh fl) (hk : k < sh.length) (h : FInv sh fl k t) (hr : RowSo t k (flAt fl k) ls) (hw : (flAt fl k : Int) + ls.length = sh[k]) : FInv sh fl (k + 1) (t ++ [(flAt fl k, ls)]) := by
  obtain ⟨g1, g2, g3⟩ := hr
  have hs1 := hsh.2.2 _ (List.getElem_mem hk)
  have hrow : RowOk sh fl k (flAt fl k, ls) := ⟨by
    have : sh.getD k 0 = sh[k] := by simp [hk]
    rw [this]
    unfold wid
    simp only
    omega, rfl, g2⟩
  refine ⟨by simp [h.1], good_snoc h.2.1 ⟨by unfold wid; simp only; omega, g1, fun x m => ?_, fun a ha => ?_⟩, fun i r hi => ?_⟩
  · obtain ⟨i, hi, rfl⟩ := List.mem_iff_getElem.mp m
    exact (g2 i ls[i] (by simp [hi])).1
  · have ha : t.getLast? = some a := by simpa using ha
    obtain ⟨k0, ra⟩ := h.last ha
    have hmono := flAt_mono hfl (k - 1)
    have e : k - 1 + 1 = k := by omega
    rw [e] at hmono
    have hsm : sh[k] ≤ sh[k - 1] := List.pairwise_iff_getElem.mp hsh.2.1 (k - 1) k (by omega) hk (by omega)
    have hwa := ra.1
    have hg : sh.getD (k - 1) 0 = sh[k - 1] := by simp [show k - 1 < sh.length by omega]
    rw [hg] at hwa
    refine ⟨by unfold wid at hwa ⊢; simp only at hwa ⊢; omega, by have := ra.2.1; simp only; omega, fun j x y h5 h6 h7 => ?_⟩
    have h8 : flAt fl k ≤ j := by have := ra.2.1; omega
    refine g3 a ha (j - flAt fl k) x y (by omega) ?_ h7
    have : flAt fl k + (j - flAt fl k) = j := by omega
    rw [this]
    exact h6
  · by_cases q : i < t.length
    · rw [List.getElem?_append_left q] at hi
      exact h.2.2 i r hi
    · have hik : i = t.length := by
        by_cases q2 : i = t.length
        · exact q2
        · rw [List.getElem?_eq_none (by simp; omega)] at hi
          cases hi
      subst hik
      have hi : (flAt fl k, ls) = r := by simpa using hi
      subst hi
      rw [h.1]
      exact hrow
theorem wF_filled {sh fl : List Int} {st : D} {Q : D → Sg → Prop} (hsh : ShOk sh) (hfl : FlOk sh fl) (hs : St st) (hQ : ∀ st' t r, St st' → FillOk sh fl t → Q (tabD t) (some st' :: r)) : wF fn__law_filled [st, .tup (sh.map .int), .tup (fl.map .int)] Q := by
  unfold fn__law_filled m__law_filled
  rw [wF_D]
  have hok : okR (sh.length : Int) = true := okR_len (by have := hsh.1; omega)
  refine wS_cut (fun σ => σ = [some st, some (.tup (sh.map .int)), some (.tup (fl.map .int)), some (.lst .own []), none, none, none, none, none]) (by simp) ?_
  rintro σ rfl
  refine wS_cut (fun σ => ∃ (st' : D) (t : T) (o4 o5 o6 o7 o8 : Option D), St st' ∧ FInv sh fl sh.length t ∧ σ = [some st', some (.tup (sh.map .int)), some (.tup (fl.map .int)), some (.lst .own (rowsF t)), o4, o5, o6, o7, o8]) ?_ ?_
  · simp only [wS_for, wI_rng1, wE_Up, wE_A, wA_cons, wA_nil, wE_var, List.getElem?_cons_succ, List.getElem?_cons_zero, Option.some.injEq, exists_eq_left', view_tup, k1_one, fLen_tup, List.length_map, noVw_int, true_and, D.int.injEq, hok, Int.toNat_natCast]
    refine wL_rng (P := fun k σ => ∃ (st' : D) (t : T) (o4 o5 o6 o7 o8 : Option D), St st' ∧ FInv sh fl k t ∧ σ = [some st', some (.tup (sh.map .int)), some (.tup (fl.map .int)), some (.lst .own (rowsF t)), o4, o5, o6, o7, o8]) ⟨st, [], none, none, none, none, none, hs, ⟨rfl, trivial, fun i r h => by simp at h⟩, rfl⟩ ?_ ?_
    · rintro σ ⟨st', t, o4, o5, o6, o7, o8, h1, h2, rfl⟩
      exact ⟨rfl, st', t, o4, o5, o6, o7, o8, h1, h2, rfl⟩
    clear hs st
    rintro k σ hk ⟨st, t, o4, o5, o6, o7, o8, hs, hI, rfl⟩
    have hshk := hsh.2.2 _ (List.getElem_mem hk)
    have e0 : (0 : Int) + (k : Int) = k := by omega
    rw [e0]
    refine wG_name.mpr ⟨by simp, ?_⟩
    simp only [List.set_cons_succ, List.set_cons_zero]
    refine wS_cut (fun σ => σ = [some st, some (.tup (sh.map .int)), some (.tup (fl.map .int)), some (.lst .own (rowsF t)), some (.int k), some (.int 0), o6, o7, o8]) (by simp) ?_
    rintro σ rfl
    have hfk := flAt_ok hfl hk
    refine wS_cut (fun σ => σ = [some st, some (.tup (sh.map .int)), some (.tup (fl.map .int)), some (.lst .own (rowsF t)), some (.int k), some (.int (flAt fl k)), o6, o7, o8]) ?_ ?_
    · by_cases q : k < fl.length
      · have q' : (k : Int) < (fl.length : Int) := by omega
        have hp := hfl.2.2.1 _ (List.getElem_mem q)
        have ex : atI (fl.map D.int) (k : Int) = some (.int (flAt fl k)) := atI_at rfl (by
          unfold flAt
          simp [q]
          omega)
        simp [q', ex, q]
      · have hz : flAt fl k = 0 := by unfold flAt; simp [q]
        rw [hz]
        simp [q]
    rintro σ rfl
    obtain ⟨lw, hlw⟩ : ∃ lw, lw = flAt fl k := ⟨_, rfl⟩
    rw [← hlw] at hfk ⊢
    have hok2 : okR (lw : Int) = true := okR_len (by omega)
    refine wS_cut (fun σ => σ = [some st, some (.tup (sh.map .int)), some (.tup (fl.map .int)), some (.lst .own (rowsF t)), some (.int k), some (.int lw), some (.lst .own (cells (lw, []))), o7, o8]) ?_ ?_
    · simp only [wS_set, wE_Lc, wI_rng1, wE_frz, List.getElem?_cons_succ, List.getElem?_cons_zero, Option.some.injEq, exists_eq_left', frz_int, List.set_cons_succ, List.set_cons_zero, D.int.injEq, hok2, true_and, Int.toNat_natCast]
      rw [up_range]
      refine wC_map (List.range lw) (fun i => .int (0 + (i : Nat))) (fun _ => .non) (fun x hx => by simp [wipeD]) fun σ' w => ?_
      have e : (List.range lw).map (fun _ => D.non) = cells (lw, []) := by
        rw [List.map_const', List.length_range]
        simp [cells]
      rw [e]
      simp only [w, unwipe_wipe, gB_n]
      exact ⟨by simp [wid]; omega, by simp, rfl⟩
    rintro σ rfl
    have ex : atI (sh.map D.int) (k : Int) = some (.int sh[k]) := atI_at rfl (by simp [hk])
    have hok3 : okR sh[k] = true := by
      obtain ⟨n, hn⟩ := Int.eq_ofNat_of_zero_le (show 0 ≤ sh[k] by omega)
      rw [hn]
      exact okR_len (by omega)
    refine wS_cut (fun σ => ∃ (st' : D) (ls : List Int) (o7 o8 : Option D), St st' ∧ RowSo t k lw ls ∧ (lw : Int) + ls.length = sh[k] ∧ σ = [some st', some (.tup (sh.map .int)), some (.tup (fl.map .int)), some (.lst .own (rowsF t)), some (.int k), some (.int lw), some (.lst .own (cells (lw, ls))), o7, o8]) ?_ ?_
    · simp only [wS_for, wI_rng2, wE_frz, wE_Up, wE_m2, wE_var, List.getElem?_cons_succ, List.getElem?_cons_zero, Option.some.injEq, exists_eq_left', frz_int, List.set_cons_succ, List.set_cons_zero, view_tup, view_int, kIx_tup, ex, noVw_int, true_and, D.int.injEq]
      refine ⟨_, _, rfl, rfl, hok2, hok3, ?_⟩
      refine wL_rng (P := fun i σ => ∃ (st' : D) (ls : List Int) (o7 o8 : Option D), St st' ∧ RowSo t k lw ls ∧ ls.length = i ∧ σ = [some st', some (.tup (sh.map .int)), some (.tup (fl.map .int)), some (.lst .own (rowsF t)), some (.int k), some (.int lw), some (.lst .own (cells (lw, ls))), o7, o8]) ⟨st, [], o7, o8, hs, ⟨.nil, fun i x h => by simp at h, fun a ha i x y _ _ h => by simp at h⟩, rfl, rfl⟩ ?_ ?_
      · rintro σ ⟨st', ls, o7, o8, h1, h2, h3, rfl⟩
        exact ⟨rfl, st', ls, o7, o8, h1, h2, by omega, rfl⟩
      · clear hs st
        rintro i σ hi ⟨st, ls, o7, o8, hs, hso, hli, rfl⟩
        refine wG_name.mpr ⟨by simp, ?_⟩
        simp only [List.set_cons_succ, List.set_cons_zero]
        have ej : (lw : Int) + (i : Int) = ((lw + ls.length : Nat) : Int) := by omega
        rw [ej]
        refine wS_mono (wS_least hs hI.1 hso (by omega) fun a ha => ?_) ?_
        · obtain ⟨k0, ra⟩ := hI.last ha
          have hsm : sh[k] ≤ sh[k - 1] := List.pairwise_iff_getElem.mp hsh.2.1 (k - 1) k (by omega) hk (by omega)
          have hwa := ra.1
          have hg : sh.getD (k - 1) 0 = sh[k - 1] := by simp [show k - 1 < sh.length by omega]
          rw [hg] at hwa
          refine ⟨by omega, fun i x hx => ?_⟩
          have := (ra.2.2 i x hx).2
          omega
        · rintro f σ ⟨rfl, st', y, o8, hs', hso', rfl⟩
          exact ⟨st', ls ++ [y], some _, o8, hs', hso', by simp [hli], rfl⟩
    clear hs st
    rintro σ ⟨st, ls, o7, o8, hs, hso, hw, rfl⟩
    have hfz : frzs (cells (lw, ls)) = cells (lw, ls) := frzs_of (grs_cells _).1
    have hI2 := FInv.snoc hsh hfl hk hI (hlw ▸ hso) (hlw ▸ hw)
    rw [← hlw] at hI2
    refine wS_mono (Q := fun f σ => f = .nx ∧ σ = [some st, some (.tup (sh.map .int)), some (.tup (fl.map .int)), some (.lst .own (rowsF t ++ [.lst .frz (cells (lw, ls))])), some (.int k), some (.int lw), some (.lst .frz (cells (lw, ls))), o7, o8]) ?_ ?_
    · have hzl : (rowsF t).length < 16777216 := by
        have h1 := hI.1
        have h2 := hsh.1
        unfold rowsF
        rw [List.length_map]
        omega
      generalize rowsF t = Z at hzl
      simp [hfz, hzl]
    · rintro f σ ⟨rfl, rfl⟩
      refine ⟨st, t ++ [(lw, ls)], some (.int k), some (.int lw), some (.lst .frz (cells (lw, ls))), o7, o8, hs, hI2, ?_⟩
      unfold rowsF
      rw [List.map_append]
      rfl
  clear hs st
  rintro σ ⟨st, t, o4, o5, o6, o7, o8, hs, hI, rfl⟩
  have hfill : FillOk sh fl t := hI
  have hq := hQ st t
  simp only [wS_ret, wE_A, wA_cons, wA_nil, wE_Lc]
  rw [wI_take]
  refine ⟨_, rfl, ?_⟩
  simp only [noOwns_rowsF, if_true, List.set_cons_succ, List.set_cons_zero]
  unfold rowsF
  refine wC_map t (fun r => .lst .frz (cells r)) rowD (fun r hr => ?_) fun σ' w => ?_
  · have ht : fTuple (.lst .frz (cells r)) = some (rowD r) := fTuple_lst (grs_cells r).1
    simp [wipeD, ht]
  · have ht : fTuple (.lst .own (t.map rowD)) = some (tabD t) := fTuple_lst (grs_rows t).1
    simp only [w, unwipe_wipe, gB_ss, k1_one, ht, Option.some.injEq, exists_eq_left', List.set_cons_succ, List.set_cons_zero]
    refine ⟨by rw [List.length_map]; have := hI.1; have := hsh.1; omega, ?_⟩
    exact hq _ hs hfill
end K80
namespace K80
open PySem PySem.Spec PyProof.Rows L2 Py
theorem wS_swap {r a b : Nat} {σ : Sg} {Q : Fo → Sg → Prop} {xs : List D} {i j : Int} {p q : Nat} {dp dq : D} (h1 : σ[r]? = some (some (.lst .own xs))) (h2 : σ[a]? = some (some (.int i))) (h3 : σ[b]? = some (some (.int j)))
    (hp : ixN xs.length i = some p) (hq : ixN xs.length j = some q) (hdp : xs[p]? = some dp) (hdq : xs[q]? = some dq) (hQ : Q .nx (σ.set r (some (.lst .own ((xs.set p dq).set q dp))))) : wS (sSwap r a b) σ Q := by
  unfold wS sSwap
  rw [h1, h2, h3]
  simp only [swapL, hp, hq, hdp, hdq]
  exact ⟨_, rfl, hQ⟩
/-- rows of data, of at most n each -/
def RB (n : Nat) (R : Rs) : Prop := R.length ≤ 10 ∧ ∀ row ∈ R, Grs row ∧ row.length ≤ n ∧ ∀ i, D.int i ∈ row → i ≤ 1000000
theorem RB.mono {n m : Nat} {R : Rs} (h : RB n R) (hm : n ≤ m) : RB m R := ⟨h.1, fun row hr => ⟨(h.2 row hr).1, by have := (h.2 row hr).2.1; omega, (h.2 row hr).2.2⟩⟩
theorem RB.put {n : Nat} {R : Rs} {k : Nat} {row : List D} (h : RB n R) (hr : Grs row ∧ row.length ≤ n ∧ ∀ i, D.int i ∈ row → i ≤ 1000000) : RB n (R.set k row) := ⟨by rw [List.length_set]; exact h.1, fun r m => by
  rcases List.mem_or_eq_of_mem_set m with m | rfl
  · exact h.2 r m
  · exact hr⟩
theorem RB.bv {R : Rs} (h : RB 1000 R) : BV (.tup (R.map D.tup)) := ⟨grs_iff.mpr fun d m => by
  obtain ⟨row, hr, rfl⟩ := List.mem_map.mp m
  exact (h.2 row hr).1, by rw [List.length_map]; have := h.1; omega, fun r m => by
  obtain ⟨row, hr, rfl⟩ := List.mem_map.mp m
  exact ⟨(h.2 row hr).2.1, (h.2 row hr).2.2⟩⟩
theorem RB.cells {t : T} (h1 : t.length ≤ 5) (h2 : ∀ r ∈ t, wid r ≤ 7 ∧ ∀ x ∈ r.2, x ≤ (1000000 : Int)) : RB 7 (t.map cells) := ⟨by rw [List.length_map]; omega, fun row m => by
  obtain ⟨r, hr, rfl⟩ := List.mem_map.mp m
  refine ⟨grs_cells r, by rw [cells_len]; exact (h2 r hr).1, fun i hi => ?_⟩
  unfold K80.cells at hi
  rcases List.mem_append.mp hi with hi | hi
  · have := (List.mem_replicate.mp hi).2
    cases this
  · obtain ⟨x, hx, e⟩ := List.mem_map.mp hi
    cases e
    exact (h2 r hr).2 i hx⟩
theorem views_ownR {R : Rs} (h : ∀ row ∈ R, Grs row) : views (R.map ownR) = R.map (.lst .vw) := by
  rw [views_map, List.map_map]
  apply List.map_congr_left
  intro row m
  show D.lst .vw (views row) = _
  rw [views_of (h row m).1]
theorem frzs_ownR {R : Rs} (h : ∀ row ∈ R, Grs row) : frzs (R.map ownR) = R.map (.lst .frz) := by
  rw [frzs_map, List.map_map]
  apply List.map_congr_left
  intro row m
  show D.lst .frz (frzs row) = _
  rw [frzs_of (h row m).1]
/-- the rows made to a tuple of tuples -/
theorem wE_tupRows {R : Rs} {n : Nat} (h : RB n R) {x0 x1 : D} {o3 o4 o5 o6 o7 : Option D} {Q : D → Sg → Prop} (hQ : ∀ r, Q (.tup (R.map .tup)) (some x0 :: r)) :
    wE (mA (k1 fTuple) (aCons (mLc (some 2) (iTake 2) (gNameM 3) tYesM (mUp (mA (k1 fTuple) (aCons (mVar 3) aNil))) [3]) aNil)) [some x0, some x1, some (rowsD R), o3, o4, o5, o6, o7] Q := by
  have hgr : ∀ row ∈ R, Grs row := fun row m => (h.2 row m).1
  have hno : noOwns (R.map D.tup) = true := (noOwns_tups hgr).1
  have ht : fTuple (.lst .own (R.map D.tup)) = some (.tup (R.map .tup)) := fTuple_lst hno
  have hl := h.1
  simp only [wE_A, wA_cons, wA_nil, wE_Lc]
  rw [wI_take]
  refine ⟨_, rfl, ?_⟩
  unfold rowsD
  by_cases hn : noOwns (R.map ownR) = true
  · have hnil : R = [] := by
      cases R with
      | nil => rfl
      | cons a l => simp [ownR] at hn
    subst hnil
    simp only [hn, if_true, List.set_cons_succ, List.set_cons_zero]
    refine wC_nil.mpr ?_
    simp only [unwipe_wipe, gB_ss, k1_one]
    exact ⟨by simp, _, ht, hQ _⟩
  · simp only [hn, Bool.false_eq_true, if_false, frzs_ownR hgr, List.set_cons_succ, List.set_cons_zero]
    refine wC_map R (.lst .frz) D.tup (fun row m => ?_) fun σ' w => ?_
    · have h3 : fTuple (.lst .frz row) = some (.tup row) := fTuple_lst (hgr row m).1
      have h4 := (hgr row m).2
      simp [wipeD, h3, h4]
    · simp only [w, unwipe_wipe, gB_sn, k1_one]
      exact ⟨by rw [List.length_map]; omega, _, ht, hQ _⟩
def bentL : List D := [.lst .own [], .tup [], .tup [.tup [.int 1], .tup []], .str "1", .non, .tup [.tup [.int 1, .int 2], .tup [.int 3, .int 4, .int 5]], .tup [.tup [.str "1"]], .tup [.tup [.non, .non, .int 1], .tup [.non, .int 2, .int 2]]]
theorem bent_kinds {v : D} (h : v ∈ bentL) : ret fn__law_kinds [v] = some (.bl true) := by
  have bv : ∀ R : Rs, R.length ≤ 10 → (∀ row ∈ R, Grs row ∧ row.length ≤ 1000 ∧ ∀ i, D.int i ∈ row → i ≤ 1000000) → ret fn__law_kinds [.tup (R.map D.tup)] = some (.bl true) := fun R h1 h2 => ret_kinds (RB.bv ⟨h1, h2⟩)
  simp only [bentL, List.mem_cons, List.not_mem_nil, or_false] at h
  rcases h with rfl | rfl | rfl | rfl | rfl | rfl | rfl | rfl
  · exact ret_kinds_nil
  · exact bv [] (by simp) (by simp)
  · exact bv [[.int 1], []] (by simp) (by simp [Grs])
  · exact ret_kinds (v := .str "1") trivial
  · exact ret_kinds (v := .non) trivial
  · exact bv [[.int 1, .int 2], [.int 3, .int 4, .int 5]] (by simp) (by simp [Grs])
  · exact bv [[.str "1"]] (by simp) (by simp [Grs])
  · exact bv [[.non, .non, .int 1], [.non, .int 2, .int 2]] (by simp) (by simp [Grs])
def newL : List D := [.non, .int 0, .int (-1), .bl true, .str "a", .int 1, .int 2, .int 3, .int 9]
theorem newL_at {r : Int} (h0 : 0 ≤ r) (h1 : r < 9) : ∃ e : D, atI newL r = some e ∧ Gr e ∧ ∀ i, e = .int i → i ≤ 1000000 := by
  obtain ⟨k, rfl⟩ := Int.eq_ofNat_of_zero_le h0
  have hk : k < newL.length := by
    have : newL.length = 9 := rfl
    omega
  refine ⟨newL[k], atI_nat hk, ?_⟩
  have hm : newL[k] ∈ newL := List.getElem_mem hk
  have hall : ∀ d ∈ newL, Gr d ∧ ∀ i, d = D.int i → i ≤ 1000000 := by
    simp [newL, Gr]
  exact hall _ hm
theorem bentL_at {r : Int} (h0 : 0 ≤ r) (h1 : r < 8) : ∃ e ∈ bentL, atI bentL r = some e := by
  obtain ⟨k, rfl⟩ := Int.eq_ofNat_of_zero_le h0
  have hk : k < bentL.length := by
    have : bentL.length = 8 := rfl
    omega
  exact ⟨bentL[k], List.getElem_mem hk, atI_nat hk⟩
end K80
namespace K80
open PySem PySem.Spec PyProof.Rows L2 Py
theorem wF_bent {t : T} {st : D} {Q : D → Sg → Prop} (hb1 : t.length ≤ 5) (hb2 : ∀ r ∈ t, 0 < wid r ∧ wid r ≤ 7 ∧ ∀ x ∈ r.2, x ≤ (1000000 : Int)) (hs : St st) (hQ : ∀ st' v r, St st' → ret fn__law_kinds [v] = some (.bl true) → Q v (some st' :: r)) : wF fn__law_bent [st, tabD t] Q := by
  unfold fn__law_bent m__law_bent
  rw [wF_D]
  have hRB : RB 7 (t.map cells) := RB.cells hb1 fun r m => (hb2 r m).2
  refine wS_cut (fun σ => σ = [some st, some (tabD t), some (rowsD (t.map cells)), none, none, none, none, none]) ?_ ?_
  · simp only [wS_set, wE_Lc]
    refine wI_tabD rfl ?_
    refine wC_map t rowD (fun r => ownR (cells r)) (fun r hr => ?_) fun σ' w => ?_
    · have h : fList (rowD r) = some (ownR (cells r)) := rfl
      have h2 : (ownR (cells r)).noVw = true := (grs_cells r).2
      simp [wipeD, h, h2]
    · simp only [w, unwipe_wipe, gB_sn]
      refine ⟨by rw [List.length_map]; omega, by simp, trivial, ?_⟩
      have e : rowsD (t.map cells) = .lst .own (t.map fun r => ownR (cells r)) := by
        unfold rowsD
        rw [List.map_map]
        rfl
      rw [e]
      rfl
  rintro σ rfl
  refine wS_cut (fun σ => ∃ (st' : D) (turn : Int), St st' ∧ 0 ≤ turn ∧ turn < 8 ∧ σ = [some st', some (tabD t), some (rowsD (t.map cells)), none, some (.int turn), none, none, none]) ?_ ?_
  · rw [wS_set]
    refine wE_pick (l := 8) rfl hs (by simp) (by decide) (by decide) fun r st1 r0 r1 hs1 => ?_
    exact ⟨by simp, rfl, st1, r, hs1, r0, r1, rfl⟩
  clear hs st
  rintro σ ⟨st, turn, hs, t0, t8, rfl⟩
  have hgr : ∀ row ∈ t.map cells, Grs row := fun row m => (hRB.2 row m).1
  obtain ⟨R, hR⟩ : ∃ R, R = t.map cells := ⟨_, rfl⟩
  rw [← hR] at hRB hgr ⊢
  have hRl : R.length = t.length := by rw [hR, List.length_map]
  have hvR : views (R.map ownR) = R.map (.lst .vw) := views_ownR hgr
  have hkE : kEq (.lst .vw (R.map (.lst .vw))) (.lst .own []) = some (.bl R.isEmpty) := by
    rw [kEq_lnil (fits_all fun y m => by
      obtain ⟨row, hr, rfl⟩ := List.mem_map.mp m
      rw [hR] at hr
      obtain ⟨r, _, rfl⟩ := List.mem_map.mp hr
      show fits 58 (cells r) = true
      exact fits_all fun d m => by rcases cells_ok m with rfl | ⟨i, rfl⟩ <;> simp)]
    cases R <;> rfl
  rw [wS_seq]
  refine wS_if.mpr ?_
  have hT : ∀ {QT : Bool → Sg → Prop}, QT (R.isEmpty || turn == 0) [some st, some (tabD t), some (rowsD R), none, some (.int turn), none, none, none] → wT (tOrM (Py.tB (m2 kEq (mVar 2) (mA kLst aNil))) (Py.tB (m2 kEq (mVar 4) (mC (.int 0))))) [some st, some (tabD t), some (rowsD R), none, some (.int turn), none, none, none] QT := fun {QT} hq => by
    unfold rowsD at hq ⊢
    simp only [wT_or, wT_B, wE_m2, wE_var, List.getElem?_cons_succ, List.getElem?_cons_zero, Option.some.injEq, exists_eq_left', view_own, hvR, wE_A, wA_nil, kLst_nil, hkE, D.bl.injEq, wE_C, view_int, kEq_int]
    cases hx : R.isEmpty
    · rw [hx] at hq
      simpa using hq
    · rw [hx] at hq
      simpa using hq
  refine hT ?_
  cases hc : (R.isEmpty || turn == 0) with
  | true =>
    simp only [if_true]
    rw [wS_ret, wE_m2]
    have hbl : ∀ {Q : D → Sg → Prop} {σ : Sg}, Q (.lst .own bentL) σ → wE (mA kLst (aCons (mUp (mA kLst aNil)) (aCons (mUp (mA kTup aNil)) (aCons (mA kTup (aCons (mUp (mA kTup (aCons (mC (.int 1)) aNil))) (aCons (mUp (mA kTup aNil)) aNil))) (aCons (mC (.str "1")) (aCons (mC .non) (aCons (mA kTup (aCons (mUp (mA kTup (aCons (mC (.int 1)) (aCons (mC (.int 2)) aNil)))) (aCons (mUp (mA kTup (aCons (mC (.int 3)) (aCons (mC (.int 4)) (aCons (mC (.int 5)) aNil))))) aNil))) (aCons (mA kTup (aCons (mUp (mA kTup (aCons (mC (.str "1")) aNil))) aNil)) (aCons (mA kTup (aCons (mUp (mA kTup (aCons (mC .non) (aCons (mC .non) (aCons (mC (.int 1)) aNil))))) (aCons (mUp (mA kTup (aCons (mC .non) (aCons (mC (.int 2)) (aCons (mC (.int 2)) aNil))))) aNil))) aNil))))))))) σ Q := fun {Q σ} h => by
      have hk : kLst bentL = some (.lst .own bentL) := kLst_ok (by decide)
      unfold bentL at hk h
      have k1 : kTup [.tup [.int 1], .tup []] = some (.tup [.tup [.int 1], .tup []]) := kTup_two rfl rfl
      have k2 : kTup [.tup [.int 1, .int 2], .tup [.int 3, .int 4, .int 5]] = some (.tup [.tup [.int 1, .int 2], .tup [.int 3, .int 4, .int 5]]) := kTup_two rfl rfl
      have k3 : kTup [.tup [.str "1"]] = some (.tup [.tup [.str "1"]]) := kTup_one rfl
      have k4 : kTup [.str "1"] = some (.tup [.str "1"]) := kTup_one rfl
      have k5 : kTup [.non, .non, .int 1] = some (.tup [.non, .non, .int 1]) := kTup_three rfl rfl rfl
      have k6 : kTup [.non, .int 2, .int 2] = some (.tup [.non, .int 2, .int 2]) := kTup_three rfl rfl rfl
      have k7 : kTup [.tup [.non, .non, .int 1], .tup [.non, .int 2, .int 2]] = some (.tup [.tup [.non, .non, .int 1], .tup [.non, .int 2, .int 2]]) := kTup_two rfl rfl
      simp [hk, k1, k2, k3, k4, k5, k6, k7]
      exact h
    refine hbl ?_
    refine wE_pick (l := 8) rfl hs (by simp) (by decide) (by decide) fun r st1 r0 r1 hs1 => ?_
    obtain ⟨e, he, hat⟩ := bentL_at r0 r1
    exact ⟨e, (kIx_lst).trans hat, hQ _ _ _ hs1 (bent_kinds he)⟩
  | false =>
    simp only [Bool.false_eq_true, if_false]
    rw [wS_nil, kS_nx]
    have hRe : 0 < R.length := by
      cases R with
      | nil => simp at hc
      | cons a l => simp
    have hRlen := hRB.1
    refine wS_cut (fun σ => ∃ (st' : D) (k : Nat), St st' ∧ k < R.length ∧ σ = [some st', some (tabD t), some (rowsD R), none, some (.int turn), some (.int k), none, none]) ?_ ?_
    · rw [wS_set]
      refine wE_pick (l := R.length) rfl hs (by unfold rowsD; simp [hvR]) (by omega) (by omega) fun r st1 r0 r1 hs1 => ?_
      obtain ⟨k, rfl⟩ := Int.eq_ofNat_of_zero_le r0
      exact ⟨by simp, rfl, st1, k, hs1, by omega, rfl⟩
    clear hs st hT
    rintro σ ⟨st, k, hs, hk, rfl⟩
    obtain ⟨row, hrow⟩ : ∃ row, row = R[k] := ⟨_, rfl⟩
    have hrm : row ∈ R := by rw [hrow]; exact List.getElem_mem hk
    have hrow' : R[k]? = some row := by rw [hrow]; simp [hk]
    have hrb := hRB.2 row hrm
    have hr0 : 0 < row.length := by
      rw [hR] at hrm
      obtain ⟨r, hr, rfl⟩ := List.mem_map.mp hrm
      rw [cells_len]
      exact (hb2 r hr).1
    have exv : atI (R.map (D.lst .vw)) (k : Int) = some (.lst .vw row) := atI_at rfl (by simp [hrow'])
    refine wS_cut (fun σ => ∃ (st' : D) (j : Nat), St st' ∧ j < row.length ∧ σ = [some st', some (tabD t), some (rowsD R), none, some (.int turn), some (.int k), some (.int j), none]) ?_ ?_
    · rw [wS_set]
      refine wE_pick (l := row.length) rfl hs (by unfold rowsD; simp [hvR, exv]) (by omega) (by omega) fun r st1 r0 r1 hs1 => ?_
      obtain ⟨j, rfl⟩ := Int.eq_ofNat_of_zero_le r0
      exact ⟨by simp, rfl, st1, j, hs1, by omega, rfl⟩
    clear hs st
    rintro σ ⟨st, j, hs, hj, rfl⟩
    have hfin : ∀ (R' : Rs) (st' : D) (o7 : Option D), RB 1000 R' → St st' → wS (sRet (mA (k1 fTuple) (aCons (mLc (some 2) (iTake 2) (gNameM 3) tYesM (mUp (mA (k1 fTuple) (aCons (mVar 3) aNil))) [3]) aNil))) [some st', some (tabD t), some (rowsD R'), none, some (.int turn), some (.int k), some (.int j), o7] (kF Q) := fun R' st' o7 h1 h2 => by
      rw [wS_ret]
      exact wE_tupRows h1 fun r => hQ _ _ _ h2 (ret_kinds h1.bv)
    have hmap : (R.map ownR)[k]? = some (ownR row) := by simp [hrow']
    have hdA : dAt (.lst .own (R.map ownR)) [k] = some (ownR row) := by rw [dAt_cons hmap]; exact dAt_nil
    have hdP : ∀ z : D, dPut (.lst .own (R.map ownR)) [k] z = .lst .own ((R.map ownR).set k z) := fun z => by rw [dPut_cons hmap, dPut_nil]
    have hixk : ixN R.length (k : Int) = some k := ixN_nat hk
    have hixj : ixN row.length (j : Int) = some j := ixN_nat hj
    have hput : ∀ row' : List D, (R.map ownR).set k (ownR row') = (R.set k row').map ownR := fun row' => by rw [List.map_set]
    rw [wS_seq]
    refine wS_if.mpr ?_
    simp only [wT_B, wE_m2, wE_var, List.getElem?_cons_succ, List.getElem?_cons_zero, Option.some.injEq, exists_eq_left', view_int, wE_C, kLt_int, D.bl.injEq]
    by_cases c1 : turn < 4
    · simp only [c1, decide_true, if_true]
      have hnl : ∀ {Q : D → Sg → Prop} {σ : Sg}, Q (.lst .own newL) σ → wE (mUp (mA kLst (aCons (mC .non) (aCons (mC (.int 0)) (aCons (m1 fNeg (mC (.int 1))) (aCons (mC (.bl true)) (aCons (mC (.str "a")) (aCons (mC (.int 1)) (aCons (mC (.int 2)) (aCons (mC (.int 3)) (aCons (mC (.int 9)) aNil))))))))))) σ Q := fun {Q σ} h => by
        have hk : kLst newL = some (.lst .own newL) := kLst_ok (by decide)
        unfold newL at hk h
        simp [hk]
        exact h
      rw [wS_asg, wE_m2]
      refine hnl ?_
      refine wE_pick (l := 9) rfl hs (by simp) (by decide) (by decide) fun r st1 r0 r1 hs1 => ?_
      obtain ⟨e, hat, he, hei⟩ := newL_at r0 r1
      refine ⟨e, (kIx_lst).trans hat, ?_⟩
      simp only [List.set_cons_zero]
      have hset : RB 1000 (R.set k (row.set j e)) := (hRB.mono (by omega)).put ⟨grs_iff.mpr fun d m => by
        rcases List.mem_or_eq_of_mem_set m with m | rfl
        · exact grs_iff.mp hrb.1 d m
        · exact he, by rw [List.length_set]; omega, fun i m => by
        rcases List.mem_or_eq_of_mem_set m with m | e'
        · exact hrb.2.2 i m
        · exact hei i e'.symm⟩
      have hgo : wG (gSubM 2 (pIx 2 (pRoot 2) (mVar 5)) (mVar 6)) e [some st1, some (tabD t), some (rowsD R), none, some (.int turn), some (.int k), some (.int j), none] fun σ => σ = [some st1, some (tabD t), some (rowsD (R.set k (row.set j e))), none, some (.int turn), some (.int k), some (.int j), none] := by
        unfold rowsD
        rw [← hput]
        generalize R.map ownR = Z at hmap hdA hdP
        have hl : ixN Z.length (k : Int) = some k := by
          have := (List.getElem?_eq_some_iff.mp hmap).1
          exact ixN_nat this
        simp [hl, hdA, hdP]
        exact ⟨row, rfl, j, hixj, rfl⟩
      obtain ⟨σ2, e2, rfl⟩ := hgo
      exact ⟨_, e2, hfin _ st1 none hset hs1⟩
    · simp only [c1, decide_false, Bool.false_eq_true, if_false]
      refine wS_if.mpr ?_
      simp only [wT_B, wE_m2, wE_var, List.getElem?_cons_succ, List.getElem?_cons_zero, Option.some.injEq, exists_eq_left', view_int, wE_C, kEq_int, D.bl.injEq]
      by_cases c2 : turn = 4
      · have c2' : (turn == 4) = true := by simp [c2]
        simp only [c2', if_true]
        have hset : RB 1000 (R.set k (row ++ [.int 99])) := (hRB.mono (by omega)).put ⟨grs_iff.mpr fun d m => by
          rcases List.mem_append.mp m with m | m
          · exact grs_iff.mp hrb.1 d m
          · rw [List.mem_singleton.mp m]; exact gr_int, by simp; omega, fun i m => by
          rcases List.mem_append.mp m with m | m
          · exact hrb.2.2 i m
          · have := List.mem_singleton.mp m
            cases this
            decide⟩
        refine wS_mono (Q := fun f σ => f = .nx ∧ σ = [some st, some (tabD t), some (rowsD (R.set k (row ++ [.int 99]))), none, some (.int turn), some (.int k), some (.int j), none]) ?_ ?_
        · unfold rowsD
          rw [← hput]
          generalize R.map ownR = Z at hmap hdA hdP
          have hl : ixN Z.length (k : Int) = some k := by
            have := (List.getElem?_eq_some_iff.mp hmap).1
            exact ixN_nat this
          simp [hl, hdA, hdP]
          exact ⟨row, rfl, by omega, rfl⟩
        · rintro f σ ⟨rfl, rfl⟩
          exact hfin _ st none hset hs
      · have c2' : (turn == 4) = false := by simp [c2]
        simp only [c2', Bool.false_eq_true, if_false]
        refine wS_if.mpr ?_
        simp only [wT_B, wE_m2, wE_var, List.getElem?_cons_succ, List.getElem?_cons_zero, Option.some.injEq, exists_eq_left', view_int, wE_C, kEq_int, D.bl.injEq]
        by_cases c3 : turn = 5
        · have c3' : (turn == 5) = true := by simp [c3]
          simp only [c3', if_true]
          have hset : RB 1000 (R.set k row.dropLast) := (hRB.mono (by omega)).put ⟨grs_iff.mpr fun d m => grs_iff.mp hrb.1 d (List.dropLast_subset _ m), by simp; omega, fun i m => hrb.2.2 i (List.dropLast_subset _ m)⟩
          have hne : row ≠ [] := by intro e; rw [e] at hr0; simp at hr0
          refine wS_mono (Q := fun f σ => f = .nx ∧ σ = [some st, some (tabD t), some (rowsD (R.set k row.dropLast)), none, some (.int turn), some (.int k), some (.int j), none]) ?_ ?_
          · unfold rowsD
            rw [← hput]
            generalize R.map ownR = Z at hmap hdA hdP
            have hl : ixN Z.length (k : Int) = some k := by
              have := (List.getElem?_eq_some_iff.mp hmap).1
              exact ixN_nat this
            simp [hl, hdA, hdP]
            exact ⟨row, rfl, hne, rfl⟩
          · rintro f σ ⟨rfl, rfl⟩
            exact hfin _ st none hset hs
        · have c3' : (turn == 5) = false := by simp [c3]
          simp only [c3', Bool.false_eq_true, if_false]
          refine wS_if.mpr ?_
          simp only [wT_B, wE_m2, wE_var, List.getElem?_cons_succ, List.getElem?_cons_zero, Option.some.injEq, exists_eq_left', view_int, wE_C, kEq_int, D.bl.injEq]
          by_cases c4 : turn = 6
          · have c4' : (turn == 6) = true := by simp [c4]
            simp only [c4', if_true]
            have hfz : frzs (R.map ownR) = R.map (.lst .frz) := frzs_ownR hgr
            have hcut : cutD (R.map (D.lst .frz)) none (some (k : Int)) = (R.take k).map (D.lst .frz) := by rw [cutD_to (by rw [List.length_map]; omega), List.map_take]
            have hix : atI (R.map (D.lst .frz)) (k : Int) = some (.lst .frz row) := atI_at rfl (by simp [hrow'])
            have htk : ∀ r ∈ R.take k, r ∈ R := fun r m => List.mem_of_mem_take m
            have hno : noOwns ((R.take k).map D.tup) = true := (noOwns_tups fun r m => hgr r (htk r m)).1
            have ht : fTuple (.lst .own ((R.take k).map D.tup)) = some (.tup ((R.take k).map .tup)) := fTuple_lst hno
            have hone : kTup [.lst .frz row] = some (.tup [.lst .frz row]) := kTup_one hrb.1.1
            have hadd : kAdd (.tup ((R.take k).map D.tup)) (.tup [.lst .frz row]) = some (.tup ((R.take k).map .tup ++ [.lst .frz row])) := kAdd_tup (by simp; omega)
            have hbv : BV (.tup ((R.take k).map D.tup ++ [.lst .frz row])) := ⟨grs_iff.mpr fun d m => by
              rcases List.mem_append.mp m with m | m
              · obtain ⟨r, hr, rfl⟩ := List.mem_map.mp m
                exact hgr r (htk r hr)
              · rw [List.mem_singleton.mp m]
                exact hrb.1, by simp; omega, fun r m => by
              rcases List.mem_append.mp m with m | m
              · obtain ⟨r, hr, rfl⟩ := List.mem_map.mp m
                have := hRB.2 r (htk r hr)
                exact ⟨by omega, this.2.2⟩
              · rw [List.mem_singleton.mp m]
                trivial⟩
            have hq := hQ st _ [some (tabD t), some (.lst .frz (R.map (.lst .frz))), none, some (.int turn), some (.int k), some (.int j), none] hs (ret_kinds hbv)
            unfold rowsD
            simp only [wS_ret, wE_m2, wE_A, wA_cons, wA_nil, wE_Lc, wI_seq, wE_Sl, wE_frz, List.getElem?_cons_succ, List.getElem?_cons_zero, Option.some.injEq, exists_eq_left', frz_own, hfz, List.set_cons_succ, List.set_cons_zero, wO_none, wO_some, frz_int, D.int.injEq, kSl_lst, hcut, items_own]
            have hfz2 : frzs ((R.take k).map (D.lst .frz)) = (R.take k).map (D.lst .frz) := frzs_of (by
              rw [noOwns_all, List.all_eq_true]
              intro d m
              obtain ⟨r, hr, rfl⟩ := List.mem_map.mp m
              exact (hgr r (htk r hr)).1)
            rw [hfz2]
            refine wC_map (R.take k) (.lst .frz) D.tup (fun r m => ?_) fun σ' w => ?_
            · have h3 : fTuple (.lst .frz r) = some (.tup r) := fTuple_lst (hgr r (htk r m)).1
              have h4 := (hgr r (htk r m)).2
              simp [wipeD, h3, h4]
            · simp only [w, unwipe_wipe, gB_n, k1_one, ht, Option.some.injEq, exists_eq_left', List.getElem?_cons_succ, List.getElem?_cons_zero, frz_frz, frz_int, List.set_cons_succ, List.set_cons_zero, kIx_lst, hix, hone, hadd]
              exact ⟨by rw [List.length_map, List.length_take]; omega, hq⟩
          · have c4' : (turn == 6) = false := by simp [c4]
            simp only [c4', Bool.false_eq_true, if_false]
            refine wS_cut (fun σ => ∃ (st' : D) (q : Nat), St st' ∧ q < R.length ∧ σ = [some st', some (tabD t), some (rowsD R), none, some (.int turn), some (.int k), some (.int j), some (.int q)]) ?_ ?_
            · rw [wS_set]
              refine wE_pick (l := R.length) rfl hs (by unfold rowsD; simp [hvR]) (by omega) (by omega) fun r st1 r0 r1 hs1 => ?_
              obtain ⟨q, rfl⟩ := Int.eq_ofNat_of_zero_le r0
              exact ⟨by simp, rfl, st1, q, hs1, by omega, rfl⟩
            clear hs st
            rintro σ ⟨st, q, hs, hq, rfl⟩
            have hixq : ixN R.length (q : Int) = some q := ixN_nat hq
            have hqm : R[q] ∈ R := List.getElem_mem hq
            have hset : RB 1000 ((R.set k R[q]).set q row) := ((hRB.mono (by omega)).put ⟨(hRB.2 _ hqm).1, by have := (hRB.2 _ hqm).2.1; omega, (hRB.2 _ hqm).2.2⟩).put ⟨hrb.1, by omega, hrb.2.2⟩
            have hf := hfin _ st (some (.int q)) hset hs
            unfold rowsD at hf ⊢
            refine wS_swap (xs := R.map ownR) (p := k) (q := q) (dp := ownR row) (dq := ownR R[q]) rfl rfl rfl (by simpa using hixk) (by simpa using hixq) hmap (by simp [hq]) ?_
            rw [hput, ← List.map_set]
            exact hf
end K80
namespace K80
open PySem PySem.Spec PyProof.Rows L2 Py
theorem wE_st {ws : List Nat} {ld : List (Option Nat)} {fn : Fn} {i : Nat} {σ : Sg} {st : D} {ma : MA} {as : List D} {Q : D → Sg → Prop} (P : D → D → Prop) (h : σ[i]? = some (some st)) (hno : st.noOwn = false)
    (hm : wA ma (σ.set i none) fun ds τ => ds = as ∧ τ = σ.set i none) (h0 : 0 ∉ ws) (hal : ∀ st', alive ld (σ.set i (some st')) = true)
    (hf : wF fn (st :: as) fun v σc => ∃ st' r, σc = some st' :: r ∧ P v st') (hQ : ∀ v st', P v st' → Q v (σ.set i (some st'))) :
    wE (mCall ws (some i :: ld) fn (aCons (mLend i) ma)) σ Q := by
  rw [wE_Call, wA_cons, wE_lend]
  refine ⟨st, h, ?_⟩
  rw [if_neg (by rw [hno]; decide)]
  obtain ⟨⟨ds, τ⟩, e, e1, e2⟩ := hm
  simp only at e1 e2
  subst e1 e2
  refine ⟨_, e, ?_⟩
  simp only
  refine wF_mono hf ?_
  rintro v σc ⟨st', r, rfl, hp⟩
  have hi := (List.getElem?_eq_some_iff.mp h).1
  have e1 : (σ.set i none)[i]? = some none := by rw [List.getElem?_set_self hi]
  have e2 : putB ws 0 (some i :: ld) (some st' :: r) (σ.set i none) = σ.set i (some st') := by
    simp only [putB]
    rw [if_neg h0]
    simp only [e1, List.set_set]
    exact putB_id (hal st')
  rw [e2]
  exact hQ v st' hp
theorem fill_facts {sh fl : List Int} {t : T} (hsh : ShOk sh) (h : FillOk sh fl t) : t.length ≤ 5 ∧ GoodF none t ∧ (∀ r ∈ t, 0 < wid r ∧ wid r ≤ 7 ∧ ∀ x ∈ r.2, 1 ≤ x ∧ x ≤ (100 : Int)) := by
  obtain ⟨h1, h2, h3⟩ := h
  have hl := hsh.1
  refine ⟨by omega, h2, fun r m => ?_⟩
  obtain ⟨k, hk, rfl⟩ := List.mem_iff_getElem.mp m
  obtain ⟨a, b, c⟩ := h3 k t[k] (by simp [hk])
  have hks : k < sh.length := by omega
  have hs := hsh.2.2 _ (List.getElem_mem hks)
  have e : sh.getD k 0 = sh[k] := by simp [hks]
  rw [e] at a
  refine ⟨by omega, by omega, fun x mx => ?_⟩
  obtain ⟨i, hi, rfl⟩ := List.mem_iff_getElem.mp mx
  have := c i _ (List.getElem?_eq_getElem hi)
  have hw : t[k].1 + t[k].2.length ≤ 7 := by unfold wid at a; omega
  exact ⟨this.1, by omega⟩
theorem fill_bd {sh fl : List Int} {t : T} (hsh : ShOk sh) (h : FillOk sh fl t) : Bd t ∧ lets t ≤ 1000 := by
  obtain ⟨h1, h2, h3⟩ := fill_facts hsh h
  refine ⟨⟨by omega, fun r m => by have := (h3 r m).2.1; omega⟩, ?_⟩
  unfold lets
  have := sum_le (l := t.map fun r => r.2.length) (n := 7) fun x m => by
    obtain ⟨r, hr, rfl⟩ := List.mem_map.mp m
    have := (h3 r hr).2.1
    unfold wid at this
    omega
  rw [List.length_map] at this
  omega
theorem fill_outer {sh fl : List Int} {t : T} (h : FillOk sh fl t) : (t.map fun r => D.int (wid r)) = sh.map .int := by
  apply List.ext_getElem
  · simp [h.1]
  · intro k h1 h2
    have hk : k < t.length := by simpa using h1
    have hk2 : k < sh.length := by simpa using h2
    have := (h.2.2 k t[k] (by simp [hk])).1
    simp [hk2] at this
    simp [this]
theorem fill_inner {sh fl : List Int} {t : T} (hfl : FlOk sh fl) (h : FillOk sh fl t) : innerL t = fl := by
  have e : (t.map fun r => (r.1 : Int)) = fl ++ List.replicate (t.length - fl.length) 0 := by
    have hle := hfl.1
    rw [← h.1] at hle
    apply List.ext_getElem
    · simp; omega
    · intro k h1 h2
      have hk : k < t.length := by simpa using h1
      have := (h.2.2 k t[k] (by simp [hk])).2.1
      unfold flAt at this
      by_cases q : k < fl.length
      · have hp := hfl.2.2.1 _ (List.getElem_mem q)
        simp [q] at this
        simp [q, this]
        omega
      · simp [q] at this
        rw [List.getElem_append_right (by omega)]
        simp [this]
  have e2 : innerL t = (t.map fun r => (r.1 : Int)).filter fun x => decide (0 < x) := by
    unfold innerL
    rw [List.filter_map]
    congr 1
    apply List.filter_congr
    intro r _
    simp [Function.comp]
  rw [e2, e, List.filter_append]
  have h1 : fl.filter (fun x => decide (0 < x)) = fl := List.filter_eq_self.mpr fun x m => by
    have := hfl.2.2.1 x m
    simp; omega
  have h2 : (List.replicate (t.length - fl.length) (0 : Int)).filter (fun x => decide (0 < x)) = [] := List.filter_eq_nil_iff.mpr fun x m => by
    rw [(List.mem_replicate.mp m).2]
    simp
  rw [h1, h2, List.append_nil]
theorem bv_tab {t : T} (hb : Bd t) (hl : ∀ r ∈ t, ∀ x ∈ r.2, x ≤ (1000000 : Int)) : BV (tabD t) := ⟨grs_rows t, by rw [List.length_map]; exact hb.1, fun r m => by
  obtain ⟨r, hr, rfl⟩ := List.mem_map.mp m
  refine ⟨by rw [cells_len]; exact hb.row hr, fun i hi => ?_⟩
  unfold cells at hi
  rcases List.mem_append.mp hi with hi | hi
  · have := (List.mem_replicate.mp hi).2
    cases this
  · obtain ⟨x, hx, e⟩ := List.mem_map.mp hi
    cases e
    exact hl r hr i hx⟩
theorem pl_ints {n : Nat} {l : List Int} (h : l.length ≤ 1000000) : Pl (n + 1) (.tup (l.map .int)) := ⟨by rw [List.length_map]; exact h, pls_of fun x m => by
  obtain ⟨i, _, rfl⟩ := List.mem_map.mp m
  cases n <;> trivial⟩
theorem start_ret (ns : List Int) : ret fn__law_start [.lst .scr (ns.map .int)] = some (.lst .own [.lst .scr (ns.map .int), .int 0, .int 0, .int 7]) := by
  apply ret_of
  unfold fn__law_start m__law_start
  rw [wF_D]
  have h : kLst [.lst .scr (ns.map .int), .int 0, .int 0, .int 7] = some (.lst .own [.lst .scr (ns.map .int), .int 0, .int 0, .int 7]) := kLst_ok (by simp)
  simp [h]
theorem st_start (ns : List Int) : St (.lst .own [.lst .scr (ns.map .int), .int 0, .int 0, .int 7]) := ⟨ns, 0, 0, 7, rfl, by decide, by decide, by decide, by decide⟩
end K80
namespace K80
open PySem PySem.Spec PyProof.Rows L2 Py
theorem law_true : ∀ ns : List Int, ns.length ≤ 63 → ∃ σ, fn_law [.lst .scr (ns.map D.int)] = some (.bl true, σ) := by
  intro ns hns
  suffices h : wF fn_law [.lst .scr (ns.map D.int)] fun v _ => v = .bl true by
    obtain ⟨⟨v, σ⟩, e, h⟩ := h
    simp only at h
    subst h
    exact ⟨σ, e⟩
  unfold fn_law m_law
  rw [wF_D]
  obtain ⟨sc, hsc⟩ : ∃ sc, sc = D.lst .scr (ns.map .int) := ⟨_, rfl⟩
  have hscn : sc.noOwn = true := by rw [hsc]; exact noOwns_ints ns
  have hst := start_ret ns
  have hs0 := st_start ns
  rw [← hsc] at hst hs0 ⊢
  generalize D.lst .own [sc, .int 0, .int 0, .int 7] = st at hst hs0
  refine wS_cut (fun σ => σ = [some sc, some st, none, none, none, none, none, none, none, none, none, none]) ?_ ?_
  · simp [hscn]
    refine (wF_ret hst).mpr ?_
    rfl
  rintro σ rfl
  refine wS_cut (fun σ => ∃ (st : D) (sh : List Int), St st ∧ ShOk sh ∧ σ = [some sc, some st, some (.tup (sh.map .int)), none, none, none, none, none, none, none, none, none]) ?_ ?_
  · rw [wS_set]
    refine wE_st (as := [.int 5, .int 7]) (fun v st' => ∃ sh, v = .tup (sh.map .int) ∧ ShOk sh ∧ St st') rfl hs0.no (by simp) (by decide) (fun st' => by simp) (wF_shape hs0 fun st' sh r hs' hsh => ⟨st', r, rfl, sh, rfl, hsh, hs'⟩) ?_
    rintro v st' ⟨sh, rfl, hsh, hs'⟩
    exact ⟨by simp, rfl, st', sh, hs', hsh, rfl⟩
  clear hs0 hst st hscn hsc
  rintro σ ⟨st, sh, hs, hsh, rfl⟩
  refine wS_cut (fun σ => σ = [some sc, some st, some (.tup (sh.map .int)), some (.tup []), none, none, none, none, none, none, none, none]) (by simp) ?_
  rintro σ rfl
  refine wS_cut (fun σ => ∃ (st : D) (fl : List Int), St st ∧ FlOk sh fl ∧ σ = [some sc, some st, some (.tup (sh.map .int)), some (.tup (fl.map .int)), none, none, none, none, none, none, none, none]) ?_ ?_
  · refine wS_if.mpr ?_
    rw [wT_B, wE_m2]
    refine wE_pick (l := 2) rfl hs (by simp) (by decide) (by decide) fun r st1 r0 r1 hs1 => ?_
    simp only [wE_C, kEq_int, Option.some.injEq, exists_eq_left', D.bl.injEq, List.set_cons_zero, List.set_cons_succ]
    by_cases hr : r = 0
    · simp only [hr, beq_self_eq_true, if_true]
      rw [wS_set]
      refine wE_st (as := [.tup (sh.map .int)]) (fun v st' => ∃ fl, v = .tup (fl.map .int) ∧ FlOk sh fl ∧ St st') rfl hs1.no (by simp [noOwns_ints]) (by decide) (fun st' => by simp) (wF_within hs1 hsh fun st' fl r hs' hfl => ⟨st', r, rfl, fl, rfl, hfl, hs'⟩) ?_
      rintro v st' ⟨fl, rfl, hfl, hs'⟩
      exact ⟨by simp, rfl, st', fl, hs', hfl, rfl⟩
    · have hb0 : (r == 0) = false := by simpa using hr
      simp only [hb0, Bool.false_eq_true, if_false]
      exact wS_nil.mpr ⟨rfl, st1, [], hs1, ⟨by simp, .nil, by simp, by simp⟩, rfl⟩
  clear hs st
  rintro σ ⟨st, fl, hs, hfl, rfl⟩
  obtain ⟨SH, hSH⟩ : ∃ SH, SH = D.tup (sh.map .int) := ⟨_, rfl⟩
  obtain ⟨FL, hFL⟩ : ∃ FL, FL = D.tup (fl.map .int) := ⟨_, rfl⟩
  have hSHn : SH.noOwn = true := by rw [hSH]; exact noOwns_ints sh
  have hFLn : FL.noOwn = true := by rw [hFL]; exact noOwns_ints fl
  rw [← hSH, ← hFL]
  refine wS_cut (fun σ => ∃ (st : D) (t : T), St st ∧ FillOk sh fl t ∧ σ = [some sc, some st, some SH, some FL, some (tabD t), none, none, none, none, none, none, none]) ?_ ?_
  · rw [wS_set]
    refine wE_st (as := [SH, FL]) (fun v st' => ∃ t, v = tabD t ∧ FillOk sh fl t ∧ St st') rfl hs.no (by simp [hSHn, hFLn]) (by decide) (fun st' => by simp) (by rw [hSH, hFL]; exact wF_filled hsh hfl hs fun st' t r hs' ht => ⟨st', r, rfl, t, rfl, ht, hs'⟩) ?_
    rintro v st' ⟨t, rfl, ht, hs'⟩
    exact ⟨by simp, rfl, st', t, hs', ht, rfl⟩
  clear hs st
  rintro σ ⟨st, t, hs, ht, rfl⟩
  obtain ⟨hlen, hg, hrows⟩ := fill_facts hsh ht
  obtain ⟨hb, hlets⟩ := fill_bd hsh ht
  have hbv := bv_tab hb fun r m x hx => by have := ((hrows r m).2.2 x hx).2; omega
  have hkt := ret_kinds hbv
  refine wS_cut (fun σ => ∃ st, St st ∧ σ = [some sc, some st, some SH, some FL, some (tabD t), none, none, none, none, none, none, none]) ?_ ?_
  · have hbent : ∀ {st : D}, St st → ∀ {Q : D → Sg → Prop}, (∀ v st', St st' → ret fn__law_kinds [v] = some (.bl true) → Q v [some sc, some st', some SH, some FL, some (tabD t), none, none, none, none, none, none, none]) → wE (mCall [2, 4, 5, 6, 7] [some 1, some 4] fn__law_bent (aCons (mLend 1) (aCons (mLend 4) aNil))) [some sc, some st, some SH, some FL, some (tabD t), none, none, none, none, none, none, none] Q := fun {st} hs {Q} hQ => by
      refine wE_st (as := [tabD t]) (fun v st' => ret fn__law_kinds [v] = some (.bl true) ∧ St st') rfl hs.no (by simp) (by decide) (fun st' => by simp) (wF_bent hlen (fun r m => ⟨(hrows r m).1, (hrows r m).2.1, fun x hx => by have := ((hrows r m).2.2 x hx).2; omega⟩) hs fun st' v r hs' hv => ⟨st', r, rfl, hv, hs'⟩) ?_
      rintro v st' ⟨hv, hs'⟩
      exact hQ v st' hs' hv
    have hkb : ∀ {st : D}, St st → ∀ {QT : Bool → Sg → Prop}, (∀ st', St st' → QT true [some sc, some st', some SH, some FL, some (tabD t), none, none, none, none, none, none, none]) → wT (tVal (mCall [1, 2, 3, 4] [none] fn__law_kinds (aCons (mCall [2, 4, 5, 6, 7] [some 1, some 4] fn__law_bent (aCons (mLend 1) (aCons (mLend 4) aNil))) aNil))) [some sc, some st, some SH, some FL, some (tabD t), none, none, none, none, none, none, none] QT := fun {st} hs {QT} hQ => by
      rw [wT_val, wE_Call, wA_cons]
      refine hbent hs fun v st' hs' hv => ?_
      rw [wA_nil]
      refine wF_any hv fun σc => ?_
      rw [putB_id]
      rotate_left
      · rfl
      exact ⟨true, rfl, hQ st' hs'⟩
    refine wS_if.mpr ?_
    rw [wT_or, wT_not, wT_val, wE_Call, wA_cons, wE_lend]
    refine ⟨_, rfl, ?_⟩
    rw [if_pos noOwn_tabD, wA_nil]
    refine wF_any hkt fun σc => ?_
    rw [putB_id]
    rotate_left
    · rfl
    refine ⟨true, rfl, ?_⟩
    simp only [Bool.not_true, Bool.false_eq_true, if_false]
    rw [wT_or, wT_not]
    refine hkb hs fun st1 hs1 => ?_
    simp only [Bool.not_true, Bool.false_eq_true, if_false]
    rw [wT_not]
    refine hkb hs1 fun st2 hs2 => ?_
    simp only [Bool.not_true, Bool.false_eq_true, if_false]
    exact wS_nil.mpr ⟨rfl, st2, hs2, rfl⟩
  clear hs st
  rintro σ ⟨st, hs, rfl⟩
  have hB := ret_boxes t hb
  have hbl := boxes_len hb
  have hwl := rwd_len hb
  have hnb : noOwns ((boxes t).map boxD) = true := noOwns_box _
  obtain ⟨BX, hBX⟩ : ∃ BX, BX = D.lst .own ((boxes t).map boxD) := ⟨_, rfl⟩
  obtain ⟨W, hW⟩ : ∃ W, W = D.tup ((rwd t).map .int) := ⟨_, rfl⟩
  have hWn : W.noOwn = true := by rw [hW]; exact noOwns_ints _
  have hBXn : BX.noOwn = false := by rw [hBX]; rfl
  refine wS_cut (fun σ => σ = [some sc, some st, some SH, some FL, some (tabD t), some BX, none, none, none, none, none, none]) ?_ ?_
  · rw [← hBX] at hB
    simp [wF_ret hB]
  rintro σ rfl
  have hword : ∀ {b : Bool} {w : List Int} {ys : List Bx}, ys.Perm (boxes t) → (ys.map (keyL b)).Pairwise (· ≤ ·) → ys.map (fun x => x.2.2) = w → ∀ {o6 : Option D} {Q : D → Sg → Prop}, Q (.tup (w.map .int)) [some sc, some st, some SH, some FL, some (tabD t), some BX, o6, none, none, none, none, none] → wE (mCall [2, 3, 4, 5] [some 5, none] fn__law_word (aCons (mLend 5) (aCons (mC (.bl b)) aNil))) [some sc, some st, some SH, some FL, some (tabD t), some BX, o6, none, none, none, none, none] Q := fun {b w ys} hp hs hw {o6 Q} hQ => by
    refine wE_st (as := [.bl b]) (fun v st' => v = .tup (w.map .int) ∧ st' = BX) rfl hBXn (by simp) (by decide) (fun st' => by simp) ?_ ?_
    · rw [hBX]
      refine wF_mono (wF_word hp hs hbl) ?_
      rintro v σ ⟨rfl, o1, o2, o3, o4, o5, o6, rfl⟩
      exact ⟨_, _, rfl, by rw [hw], rfl⟩
    · rintro v st' ⟨rfl, rfl⟩
      exact hQ
  refine wS_cut (fun σ => σ = [some sc, some st, some SH, some FL, some (tabD t), some BX, some W, none, none, none, none, none]) ?_ ?_
  · rw [wS_set]
    refine hword boxesR_perm (sorted_row t) boxesR_let ?_
    rw [← hW]
    exact ⟨by simp, rfl, rfl⟩
  rintro σ rfl
  have hou := ret_outer t hb
  rw [fill_outer ht, ← hSH] at hou
  have hin := ret_inner t hb
  rw [fill_inner hfl ht, ← hFL] at hin
  have hsSH : ret fn__law_same [SH, SH] = some (.bl true) := same_refl (by rw [hSH]; exact pl_ints (by have := hsh.1; omega))
  have hsFL : ret fn__law_same [FL, FL] = some (.bl true) := same_refl (by rw [hFL]; exact pl_ints (by have := hsh.1; have := hfl.1; omega))
  refine wS_cut (fun σ => σ = [some sc, some st, some SH, some FL, some (tabD t), some BX, some W, none, none, none, none, none]) ?_ ?_
  · simp [wF_ret hou, hSHn]
    refine (wF_ret hsSH).mpr ?_
    simp [wF_ret hin, hFLn]
    refine (wF_ret hsFL).mpr ?_
    simp
  rintro σ rfl
  have hrw := ret_row_word t hb
  rw [← hW] at hrw
  have hsW : ret fn__law_same [W, W] = some (.bl true) := same_refl (by rw [hW]; exact pl_ints hwl)
  obtain ⟨n, hn, hcw⟩ := ret_column_word t hb
  have hcl := cwd_len hb hn
  have hsC : ret fn__law_same [.tup ((cwd n t).map .int), .tup ((cwd n t).map .int)] = some (.bl true) := same_refl (pl_ints hcl)
  refine wS_cut (fun σ => σ = [some sc, some st, some SH, some FL, some (tabD t), some BX, some W, none, none, none, none, none]) ?_ ?_
  · refine wS_if.mpr ?_
    rw [wT_or, wT_not, wT_val, wE_Call, wA_cons, wE_Call, wA_cons, wE_lend]
    refine ⟨_, rfl, ?_⟩
    rw [if_pos noOwn_tabD, wA_nil]
    refine wF_any hrw fun σc => ?_
    rw [putB_id]
    rotate_left
    · rfl
    rw [wA_cons, wE_lend]
    refine ⟨_, rfl, ?_⟩
    rw [if_pos hWn, wA_nil]
    refine wF_any hsW fun σc => ?_
    rw [putB_id]
    rotate_left
    · rfl
    refine ⟨true, rfl, ?_⟩
    simp only [Bool.not_true, Bool.false_eq_true, if_false]
    rw [wT_not, wT_val, wE_Call, wA_cons, wE_Call, wA_cons, wE_lend]
    refine ⟨_, rfl, ?_⟩
    rw [if_pos noOwn_tabD, wA_nil]
    refine wF_any hcw fun σc => ?_
    rw [putB_id]
    rotate_left
    · rfl
    rw [wA_cons]
    refine hword (ysCol_perm hn) (sorted_col n t) rfl ?_
    rw [wA_nil]
    refine wF_any hsC fun σc => ?_
    rw [putB_id]
    rotate_left
    · rfl
    refine ⟨true, rfl, ?_⟩
    simp only [Bool.not_true, Bool.false_eq_true, if_false]
    exact wS_nil.mpr ⟨rfl, rfl⟩
  rintro σ rfl
  have hlw : ∀ x ∈ rwd t, 1 ≤ x ∧ x ≤ 100 := fun x m => by
    obtain ⟨r, hr, hx⟩ := List.mem_flatMap.mp m
    exact (hrows r (List.mem_reverse.mp hr)).2.2 x hx
  have hrk := ret_ranks (rwd t) hwl
  have hlrk := ret_law_ranks (rwd t) hwl
  have hco := ret_content (rwd t) hwl fun x m => by have := hlw x m; omega
  have hlco := ret_counts (rwd t) hwl fun x m => by have := hlw x m; omega
  rw [← hW] at hrk hlrk hco hlco
  have hsR : ret fn__law_same [.tup ((rkL (rwd t)).map .int), .tup ((rkL (rwd t)).map .int)] = some (.bl true) := same_refl (pl_ints (by rw [rkL_len]; exact hwl))
  have hsN : ret fn__law_same [.tup ((cntL (mxs 0 (rwd t)).toNat (rwd t)).map .int), .tup ((cntL (mxs 0 (rwd t)).toNat (rwd t)).map .int)] = some (.bl true) := same_refl (pl_ints (by
    simp only [cntL, List.length_map, List.length_range]
    rcases List.mem_cons.mp (mxs_mem (rwd t) 0) with e | m
    · omega
    · have := hlw _ m; omega))
  refine wS_cut (fun σ => σ = [some sc, some st, some SH, some FL, some (tabD t), some BX, some W, none, none, none, none, none]) ?_ ?_
  · generalize D.tup ((rkL (rwd t)).map .int) = A at hrk hlrk hsR
    generalize D.tup ((cntL (mxs 0 (rwd t)).toNat (rwd t)).map .int) = B at hco hlco hsN
    simp [hWn, wF_ret hrk, wF_ret hlrk]
    refine (wF_ret hsR).mpr ?_
    simp [hWn, wF_ret hco, wF_ret hlco]
    refine (wF_ret hsN).mpr ?_
    simp
  rintro σ rfl
  have hranked := ret_ranked t hb
  have hsd : fillT t (rkL (rwd t)) = stdT t := rfl
  rw [hsd] at hranked
  have hbs : Bd (stdT t) := bd_of hb (std_shape t)
  refine wS_cut (fun σ => σ = [some sc, some st, some SH, some FL, some (tabD t), some BX, some W, some (tabD (stdT t)), none, none, none, none]) ?_ ?_
  · simp [wF_ret hranked]
  rintro σ rfl
  have hstdl : ∀ r ∈ stdT t, ∀ x ∈ r.2, x ≤ (1000000 : Int) := fun r m x hx => by
    have h1 := (std_letters t x (List.mem_flatMap.mpr ⟨r, List.mem_reverse.mpr m, hx⟩)).2
    have h2 : lets (stdT t) = lets t := lets_of (std_shape t)
    omega
  have hkS := ret_kinds (bv_tab hbs hstdl)
  have hstd := ret_standardized t hb
  have hsS := same_refl (pl_tab hbs)
  rw [hsd] at hstd
  refine wS_cut (fun σ => σ = [some sc, some st, some SH, some FL, some (tabD t), some BX, some W, some (tabD (stdT t)), none, none, none, none]) ?_ ?_
  · simp
    refine (wF_ret hkS).mpr ?_
    simp [wF_ret hstd]
    refine (wF_ret hsS).mpr ?_
    simp
  rintro σ rfl
  obtain ⟨m, hm, htr⟩ := ret_transposed (stdT t) hbs
  have hmw := mw_le hbs
  refine wS_cut (fun σ => σ = [some sc, some st, some SH, some FL, some (tabD t), some BX, some W, some (tabD (stdT t)), some (.int m), none, none, none]) ?_ ?_
  · simp only [wS_set, wE_A, wA_cons, wA_nil, wE_m2, wE_Up, wE_C, kLst_one, Option.some.injEq, exists_eq_left', noVw_own, noVws_cons, noVw_int, noVws_nil, Bool.and_self, true_and, wE_Lc]
    refine wI_tabD rfl ?_
    refine wC_map (stdT t) rowD (fun r => .int (wid r)) (fun r hr => by simp [wipeD]) fun σ' w => ?_
    have hsl := hbs.1
    have hadd : kAdd (.lst .own [.int 0]) (.lst .own ((stdT t).map fun r => D.int (wid r))) = some (.lst .own (.int 0 :: (stdT t).map fun r => D.int (wid r))) := kAdd_lst (by decide) (by decide) (by simp; omega)
    simp only [w, unwipe_wipe, gB_sn, hadd, Option.some.injEq, exists_eq_left', k1_one, maxOuter, hm, List.set_cons_succ, List.set_cons_zero]
    exact ⟨by rw [List.length_map]; omega, by simp⟩
  rintro σ rfl
  obtain ⟨TD, hTD⟩ : ∃ TD, TD = D.tup ((List.range m).map fun c => D.tup (((stdT t).filter fun r => decide (c < wid r)).map fun r => (cells r).getD c .non)) := ⟨_, rfl⟩
  rw [← hTD] at htr
  have hcol : ∀ c, Grs (((stdT t).filter fun r => decide (c < wid r)).map fun r => (cells r).getD c .non) := fun c => grs_ok fun d hd => by
    obtain ⟨r, hr, rfl⟩ := List.mem_map.mp hd
    by_cases q : c < (cells r).length
    · rw [List.getD_eq_getElem?_getD, List.getElem?_eq_getElem q]
      exact cells_ok (List.getElem_mem q)
    · rw [List.getD_eq_getElem?_getD, List.getElem?_eq_none (by omega)]
      exact .inl rfl
  have hpT : Pl 5 TD := by
    rw [hTD]
    refine ⟨by simp; omega, pls_of fun x hx => ?_⟩
    obtain ⟨c, _, rfl⟩ := List.mem_map.mp hx
    refine ⟨?_, pls_of fun d hd => ?_⟩
    · rw [List.length_map]
      have := List.length_filter_le (fun r => decide (c < wid r)) (stdT t)
      have := hbs.1
      omega
    · obtain ⟨r, hr, rfl⟩ := List.mem_map.mp hd
      by_cases q : c < (cells r).length
      · rw [List.getD_eq_getElem?_getD, List.getElem?_eq_getElem q]
        rcases cells_ok (List.getElem_mem q) with e | ⟨i, e⟩ <;> rw [Option.getD_some, e] <;> trivial
      · rw [List.getD_eq_getElem?_getD, List.getElem?_eq_none (by omega)]
        trivial
  have hTDn : TD.noOwn = true := (Pl.gr hpT).1
  refine wS_cut (fun σ => σ = [some sc, some st, some SH, some FL, some (tabD t), some BX, some W, some (tabD (stdT t)), some (.int m), none, some TD, none]) ?_ ?_
  · have hokm : okR (m : Int) = true := okR_len (by omega)
    simp only [wS_set, wE_A, wA_cons, wA_nil, wE_Lc, wI_rng1, wE_frz, List.getElem?_cons_succ, List.getElem?_cons_zero, Option.some.injEq, exists_eq_left', frz_int, List.set_cons_succ, List.set_cons_zero, D.int.injEq, hokm, true_and, Int.toNat_natCast]
    rw [up_range]
    refine wC_map (List.range m) (fun i => .int (0 + (i : Nat))) (fun c => D.tup (((stdT t).filter fun r => decide (c < wid r)).map fun r => (cells r).getD c .non)) (fun c hc => ?_) fun σ' w => ?_
    · refine wG_name.mpr ⟨by simp [wipeD], ?_⟩
      have e0 : (0 : Int) + ((c : Nat) : Int) = c := by omega
      rw [e0]
      simp only [wipeD, List.set_cons_succ, List.set_cons_zero, wE_A, wA_cons, wA_nil, wE_Lc]
      refine wI_tabD rfl ?_
      refine wC_typ (stdT t) rowD (fun r => decide (c < wid r)) (fun r => (cells r).getD c .non) (fun r hr => ?_) fun σ2 w2 => ?_
      · by_cases q : c < wid r
        · have hq : c < (cells r).length := by rw [cells_len]; exact q
          have ex : atI (cells r) (c : Int) = some ((cells r).getD c .non) := atI_at rfl (by rw [List.getD_eq_getElem?_getD, List.getElem?_eq_getElem hq]; rfl)
          have hnv : ((cells r).getD c .non).noVw = true := by
            rw [List.getD_eq_getElem?_getD, List.getElem?_eq_getElem hq]
            exact (grs_iff.mp (grs_cells r) _ (List.getElem_mem hq)).2
          have hvw : ((cells r).getD c .non).view = (cells r).getD c .non := by
            rw [List.getD_eq_getElem?_getD, List.getElem?_eq_getElem hq]
            exact view_of (grs_iff.mp (grs_cells r) _ (List.getElem_mem hq)).1
          generalize (cells r).getD c .non = z at ex hnv hvw ⊢
          simp [wipeD, q, ex, hnv]
        · simp [wipeD, q]
      · have hlf := List.length_filter_le (fun r => decide (c < wid r)) (stdT t)
        have hsl := hbs.1
        have htt : fTuple (.lst .own (((stdT t).filter fun r => decide (c < wid r)).map fun r => (cells r).getD c .non)) = some (D.tup (((stdT t).filter fun r => decide (c < wid r)).map fun r => (cells r).getD c .non)) := fTuple_lst (hcol c).1
        have e3 := unwipe_wipe [some sc, some st, some SH, some FL, some (tabD t), some BX, some W, some (tabD (stdT t)), some (.int m), none, none, some (.int c)] [9]
        rw [← w2] at e3
        simp only [wipeD] at e3
        simp only [e3, gB_sn, k1_one, htt, Option.some.injEq, exists_eq_left', List.set_cons_succ, List.set_cons_zero]
        exact ⟨by rw [List.length_map]; omega, by simp⟩
    · have hno : noOwns ((List.range m).map fun c => D.tup (((stdT t).filter fun r => decide (c < wid r)).map fun r => (cells r).getD c .non)) = true := by
        rw [noOwns_all, List.all_eq_true]
        intro d hd
        obtain ⟨c, _, rfl⟩ := List.mem_map.mp hd
        exact (hcol c).1
      have htt : fTuple (.lst .own ((List.range m).map fun c => D.tup (((stdT t).filter fun r => decide (c < wid r)).map fun r => (cells r).getD c .non))) = some TD := by rw [hTD]; exact fTuple_lst hno
      simp only [w, unwipe_wipe, gB_n, k1_one, htt, Option.some.injEq, exists_eq_left', List.set_cons_succ, List.set_cons_zero]
      exact ⟨by rw [List.length_map, List.length_range]; omega, by simp⟩
  rintro σ rfl
  have hsT := same_refl hpT
  refine wS_cut (fun σ => σ = [some sc, some st, some SH, some FL, some (tabD t), some BX, some W, some (tabD (stdT t)), some (.int m), none, some TD, none]) ?_ ?_
  · simp [wF_ret htr, hTDn]
    refine (wF_ret hsT).mpr ?_
    simp
  rintro σ rfl
  rw [wS_ret, wE_AndV]
  have hl9 : ∀ r ∈ t, ∀ x ∈ r.2, x ≤ (900 : Int) := fun r m x hx => by have := ((hrows r m).2.2 x hx).2; omega
  refine wE_st (as := [tabD t]) (fun v st' => v = .bl true ∧ St st') rfl hs.no (by simp) (by decide) (fun st' => by simp) (wF_parts hb hg hl9 hs fun st' r hs' => ⟨st', r, rfl, rfl, hs'⟩) ?_
  rintro v st1 ⟨rfl, hs1⟩
  refine ⟨true, rfl, ?_⟩
  simp only [if_true, List.set_cons_succ, List.set_cons_zero]
  rw [wE_AndV, wE_Call, wA_late]
  refine ⟨⟨_, rfl⟩, ?_⟩
  rw [wA_cons]
  have hfl0 : FlOk sh [] := ⟨by simp, .nil, by simp, by simp⟩
  refine wE_st (as := [SH, .tup []]) (fun v st' => ∃ t, v = tabD t ∧ FillOk sh [] t ∧ St st') rfl hs1.no (by simp [hSHn]) (by decide) (fun st' => by simp) (by rw [hSH]; exact wF_filled (fl := []) hsh hfl0 hs1 fun st' t r hs' ht => ⟨st', r, rfl, t, rfl, ht, hs'⟩) ?_
  rintro v st2 ⟨t2, rfl, ht2, hs2⟩
  obtain ⟨hb2, hlets2⟩ := fill_bd hsh ht2
  rw [wA_nil, wE_lend]
  refine ⟨_, rfl, ?_⟩
  rw [if_neg (by rw [hs2.no]; decide)]
  simp only [List.set_cons_succ, List.set_cons_zero]
  refine wF_from_word hb2 (by rw [rwd_lets]; omega) hs2 fun st3 r hs3 => ?_
  refine ⟨true, rfl, ?_⟩
  simp only [if_true]
  have e : putB [2, 3, 4, 5] 0 [some 1, none] (some st3 :: r) [some sc, none, some SH, some FL, some (tabD t), some BX, some W, some (tabD (stdT t)), some (.int m), none, some TD, none] = [some sc, some st3, some SH, some FL, some (tabD t), some BX, some W, some (tabD (stdT t)), some (.int m), none, some TD, none] := by
    simp only [putB]
    rw [if_neg (by decide)]
    exact putB_id (by simp)
  rw [e]
  refine wE_st (as := [tabD t]) (fun v st' => v = .bl true) rfl hs3.no (by simp) (by decide) (fun st' => by simp) (wF_contents hb hg hl9 hlets hs3 fun st' r hs' => ⟨st', r, rfl, rfl⟩) ?_
  rintro v st4 rfl
  rfl
end K80
namespace K80
open PySem PySem.Spec PyProof.Rows L2 Py
def top (i : Nat) : Stmt := PySem.Challenge.pw_hivewright_k80_tableaux_and_their_words.main.body.getD i (.Pass ⟨0, 0, 0, 0⟩)
def DD (x : Str) (i : Nat) : He.DefD := ⟨(x, none), x, x, defArgs (top i), defBody (top i), defScope (top i), [], []⟩
def dds : List He.DefD := [DD "is_letter" 1, DD "outer" 2, DD "left_out" 3, DD "inner" 4, DD "is_bad_box" 5, DD "fault" 6, DD "is_tableau" 7, DD "is_straight" 8, DD "row_word" 9, DD "column_word" 10, DD "content" 11, DD "is_standard" 12, DD "from_row_word" 13, DD "ranks" 14, DD "filled" 15, DD "standardized" 16, DD "with_content" 17, DD "part" 18, DD "joined" 19, DD "transposed" 20, DD "_law_start" 22, DD "_law_pick" 23, DD "_law_same" 24, DD "_law_shape" 25, DD "_law_within" 26, DD "_law_filled" 27, DD "_law_boxes" 28, DD "_law_word" 29, DD "_law_ranks" 30, DD "_law_put" 31, DD "_law_ranked" 32, DD "_law_fault" 33, DD "_law_bent" 34, DD "_law_counts" 35, DD "_law_kinds" 36, DD "_law_parts" 37, DD "_law_from_word" 38, DD "_law_contents" 39, DD "law" 40]
def fas : List He.Fa := [.glo "is_letter", .glo "outer", .glo "left_out", .glo "inner", .glo "is_bad_box", .glo "fault", .glo "is_tableau", .glo "is_straight", .glo "row_word", .glo "column_word", .glo "content", .glo "is_standard", .glo "from_row_word", .glo "ranks", .glo "filled", .glo "standardized", .glo "with_content", .glo "part", .glo "joined", .glo "transposed", .glo "_law_start", .glo "_law_pick", .glo "_law_same", .glo "_law_shape", .glo "_law_within", .glo "_law_filled", .glo "_law_boxes", .glo "_law_word", .glo "_law_ranks", .glo "_law_put", .glo "_law_ranked", .glo "_law_fault", .glo "_law_bent", .glo "_law_counts", .glo "_law_kinds", .glo "_law_parts", .glo "_law_from_word", .glo "_law_contents", .glo "law", .free "int", .free "len", .free "abs", .free "sorted", .free "tuple", .free "range", .free "max", .free "list", .free "min", .free "isinstance", .free "str", .free "bool", .free "reversed", .free "all", .free "sum"]
abbrev Says (K : PySem.W.Frag) (mg : Str → Option Value) : Prop := SaysIn fas dds K mg
section
variable {P : Program} {w : PySem.World} {K : PySem.W.Frag} {mg : Str → Option Value} {base : Heap}
theorem sc__law_start : FnScope ["script"] ["script"] (defScope (top 22)) := ⟨rfl, rfl, rfl, by decide +kernel, rfl, by decide +kernel, by decide +kernel⟩
theorem fk__law_start (Y : Says K mg) {f : Addr} {fd : FuncData} (F : FnP K "_law_start" (top 22) f fd) : FnOk P w K mg base CX0 1 f fd ["script"] (spOf K 1 [] fn__law_start) := by
  have S := sc__law_start
  refine fn_ok F S fun cdv A outer s H E hr => ?_
  have d : SSs (cxOf CX0 P w K mg base ["script"] "_law_start" (defScope (top 22)) f cdv A outer s H E).nox (defBody (top 22)) _ m__law_start := (sss_one (ss_ret (se_lst (sa_cons (se_frz (i := 0)) (sa_cons se_int (sa_cons se_int (sa_cons se_int sa_nil)))))))
  exact d.mono (by decide)
theorem ok__law_start (Y : Says K mg) : UF P w K mg base "_law_start" 1 ["script"] [] fn__law_start := by
  obtain ⟨f, fd, gf, F⟩ := Y.def_ 20 (x := "_law_start") (st := top 22) rfl rfl
  exact ⟨f, fd, gf, F.kp, F.bindsN fun _ _ _ _ _ _ us hl => match us, hl with | [_], _ => rfl, fk__law_start Y F⟩
theorem sc__law_pick : FnScope ["state", "limit", "cell", "drawn"] ["state", "limit"] (defScope (top 23)) := ⟨rfl, rfl, rfl, by decide +kernel, rfl, by decide +kernel, by decide +kernel⟩
theorem fk__law_pick (Y : Says K mg) {f : Addr} {fd : FuncData} (F : FnP K "_law_pick" (top 23) f fd) : FnOk P w K mg base CX0 1 f fd ["state", "limit"] (spOf K 2 [2, 3] fn__law_pick) := by
  have g_int := Y.free 39 (x := "int") rfl
  have g_len := Y.free 40 (x := "len") rfl
  have g_abs := Y.free 41 (x := "abs") rfl
  have S := sc__law_pick
  refine fn_ok F S fun cdv A outer s H E hr => ?_
  have d : SSs (cxOf CX0 P w K mg base ["state", "limit", "cell", "drawn"] "_law_pick" (defScope (top 23)) f cdv A outer s H E).nox (defBody (top 23)) _ m__law_pick := (sss_cons (ss_if (st_up (st_w (sw_and (st_cmp (op_eqD hr.units) o_eq (se_ix ix_seq o_ix (se_name (i := 0)) se_int) se_int) (sw_and1 (st_cmp op_lt o_lt (se_ix ix_seq o_ix (se_name (i := 0)) se_int) (se_callB (call_len) o_len rfl g_len rfl (sa_cons (se_ix ix_seq o_ix (se_name (i := 0)) se_int) sa_nil))))))) (sss_cons (ss_set (i := 2) S.nd (se_up (se_callB (call_abs) o_abs rfl g_abs rfl (sa_cons (se_ix ix_seq o_ix (se_ix ix_seq o_ix (se_name (i := 0)) se_int) (se_ix ix_seq o_ix (se_name (i := 0)) se_int)) sa_nil))))
    (sss_cons (ss_asg (se_up (se_op op_addA o_add (se_ix ix_seq o_ix (se_name (i := 0)) se_int) se_int)) (sg_sub (sp_name (r := 0)) se_int))
    (sss_one (ss_if (st_up (st_cmp op_ge o_ge (se_name (i := 2)) (se_op op_pow o_pow se_int se_int))) (sss_one (ss_asg (se_frz (i := 2)) (sg_sub (sp_name (r := 0)) se_int))) (sss_one (ss_asg (se_up (se_op op_addA o_add (se_op op_mod o_mod (se_callTy (call_int1) o_int1 rfl g_int rfl (sa_cons (se_op op_addA o_add (se_op op_mulA o_mul (se_ix ix_seq o_ix (se_name (i := 0)) se_int) se_int) (se_name (i := 2))) sa_nil)) se_int) se_int)) (sg_sub (sp_name (r := 0)) se_int))))))) sss_nil)
    (sss_cons (ss_if (st_up (st_cmp op_gt o_gt (se_ix ix_seq o_ix (se_name (i := 0)) se_int) se_int)) (sss_cons (ss_set (i := 3) S.nd (se_up (se_op op_mod o_mod (se_callTy (call_int1) o_int1 rfl g_int rfl (sa_cons (se_ix ix_seq o_ix (se_name (i := 0)) se_int) sa_nil)) (se_name (i := 1)))))
    (sss_cons (ss_asg (se_up (se_op op_fdiv o_div (se_ix ix_seq o_ix (se_name (i := 0)) se_int) (se_name (i := 1)))) (sg_sub (sp_name (r := 0)) se_int))
    (sss_one (ss_ret (se_move (i := 3)))))) sss_nil)
    (sss_cons (ss_asg (se_up (se_op op_mod o_mod (se_callTy (call_int1) o_int1 rfl g_int rfl (sa_cons (se_op op_mulA o_mul (se_ix ix_seq o_ix (se_name (i := 0)) se_int) se_int) sa_nil)) se_int)) (sg_sub (sp_name (r := 0)) se_int))
    (sss_one (ss_ret (se_up (se_op op_mod o_mod (se_callTy (call_int1) o_int1 rfl g_int rfl (sa_cons (se_op op_addA o_add (se_op op_fdiv o_div (se_ix ix_seq o_ix (se_name (i := 0)) se_int) se_int) (se_op op_mod o_mod (se_callTy (call_int1) o_int1 rfl g_int rfl (sa_cons (se_op op_mulA o_mul (se_ix ix_seq o_ix (se_name (i := 0)) se_int) (se_ix ix_seq o_ix (se_name (i := 0)) se_int)) sa_nil)) se_int)) sa_nil)) (se_name (i := 1)))))))))
  exact d.mono (by decide)
theorem ok__law_pick (Y : Says K mg) : UF P w K mg base "_law_pick" 1 ["state", "limit"] [2, 3] fn__law_pick := by
  obtain ⟨f, fd, gf, F⟩ := Y.def_ 21 (x := "_law_pick") (st := top 23) rfl rfl
  exact ⟨f, fd, gf, F.kp, F.bindsN fun _ _ _ _ _ _ us hl => match us, hl with | [_, _], _ => rfl, fk__law_pick Y F⟩
theorem sc__law_shape : FnScope ["state", "rows", "wide", "found", "left", "k"] ["state", "rows", "wide"] (defScope (top 25)) := ⟨rfl, rfl, rfl, by decide +kernel, rfl, by decide +kernel, by decide +kernel⟩
theorem fk__law_shape (Y : Says K mg) {f : Addr} {fd : FuncData} (F : FnP K "_law_shape" (top 25) f fd) : FnOk P w K mg base CX0 2 f fd ["state", "rows", "wide"] (spOf K 3 [3, 4, 5] fn__law_shape) := by
  obtain ⟨f__law_pick, fd__law_pick, g__law_pick, k__law_pick, b__law_pick, F__law_pick⟩ := ok__law_pick (P := P) (w := w) (base := base) Y
  have g_sorted := Y.free 42 (x := "sorted") rfl
  have g_tuple := Y.free 43 (x := "tuple") rfl
  have g_range := Y.free 44 (x := "range") rfl
  have S := sc__law_shape
  refine fn_ok F S fun cdv A outer s H E hr => ?_
  have d : SSs (cxOf CX0 P w K mg base ["state", "rows", "wide", "found", "left", "k"] "_law_shape" (defScope (top 25)) f cdv A outer s H E).nox (defBody (top 25)) _ m__law_shape := (sss_cons (ss_set (i := 3) S.nd (se_up (se_lst sa_nil)))
    (sss_cons (ss_set (i := 4) S.nd (se_frz (i := 2)))
    (sss_cons (ss_for PassesOwn.never rfl (si_range1 rfl g_range (se_call (ws := [2, 3]) (fn := fn__law_pick) (ld := [some 0, none]) F__law_pick (hr.mono (by omega)) rfl g__law_pick k__law_pick b__law_pick (sl_lend (i := 0) (sl_val (se_up (se_op op_addA o_add (se_name (i := 1)) se_int)) sl_nil)))) (sg_name (i := 5) S.nd) (sss_cons (ss_set (i := 4) S.nd (se_op op_sub o_sub (se_frz (i := 4)) (se_op op_mulA o_mul (se_call (ws := [2, 3]) (fn := fn__law_pick) (ld := [some 0, none]) F__law_pick (hr.mono (by omega)) rfl g__law_pick k__law_pick b__law_pick (sl_lend (i := 0) (sl_val se_int sl_nil))) (se_call (ws := [2, 3]) (fn := fn__law_pick) (ld := [some 0, none]) F__law_pick (hr.mono (by omega)) rfl g__law_pick k__law_pick b__law_pick (sl_lend (i := 0) (sl_val se_int sl_nil))))))
    (sss_one (ss_if (st_up (st_cmp op_gt o_gt (se_name (i := 4)) se_int)) (sss_one (ss_app (r := 3) (se_op op_addA o_add se_int (se_call (ws := [2, 3]) (fn := fn__law_pick) (ld := [some 0, some 4]) F__law_pick (hr.mono (by omega)) rfl g__law_pick k__law_pick b__law_pick (sl_lend (i := 0) (sl_lend (i := 4) sl_nil)))))) sss_nil))))
    (sss_one (ss_ret (se_up (se_callTy (call_tuple_of) o_tuple rfl g_tuple rfl (sa_cons (se_sortR hr.units rfl rfl g_sorted rfl (sa_cons (se_name (i := 3)) sa_nil)) sa_nil))))))))
  exact d.mono (by decide)
theorem ok__law_shape (Y : Says K mg) : UF P w K mg base "_law_shape" 2 ["state", "rows", "wide"] [3, 4, 5] fn__law_shape := by
  obtain ⟨f, fd, gf, F⟩ := Y.def_ 23 (x := "_law_shape") (st := top 25) rfl rfl
  exact ⟨f, fd, gf, F.kp, F.bindsN fun _ _ _ _ _ _ us hl => match us, hl with | [_, _, _], _ => rfl, fk__law_shape Y F⟩
theorem sc__law_filled : FnScope ["state", "shape", "floor", "rows", "k", "low", "row", "j", "least"] ["state", "shape", "floor"] (defScope (top 27)) := ⟨rfl, rfl, rfl, by decide +kernel, rfl, by decide +kernel, by decide +kernel⟩
theorem fk__law_filled (Y : Says K mg) {f : Addr} {fd : FuncData} (F : FnP K "_law_filled" (top 27) f fd) : FnOk P w K mg base CX0 2 f fd ["state", "shape", "floor"] (spOf K 3 [3, 4, 5, 6, 7, 8] fn__law_filled) := by
  obtain ⟨f__law_pick, fd__law_pick, g__law_pick, k__law_pick, b__law_pick, F__law_pick⟩ := ok__law_pick (P := P) (w := w) (base := base) Y
  have g_tuple := Y.free 43 (x := "tuple") rfl
  have g_len := Y.free 40 (x := "len") rfl
  have g_range := Y.free 44 (x := "range") rfl
  have g_max := Y.free 45 (x := "max") rfl
  have S := sc__law_filled
  refine fn_ok F S fun cdv A outer s H E hr => ?_
  have d : SSs (cxOf CX0 P w K mg base ["state", "shape", "floor", "rows", "k", "low", "row", "j", "least"] "_law_filled" (defScope (top 27)) f cdv A outer s H E).nox (defBody (top 27)) _ m__law_filled := (sss_cons (ss_set (i := 3) S.nd (se_up (se_lst sa_nil)))
    (sss_cons (ss_for PassesOwn.never rfl (si_range1 rfl g_range (se_up (se_callB (call_len) o_len rfl g_len rfl (sa_cons (se_name (i := 1)) sa_nil)))) (sg_name (i := 4) S.nd) (sss_cons (ss_set (i := 5) S.nd se_int)
    (sss_cons (ss_if (st_up (st_cmp op_lt o_lt (se_name (i := 4)) (se_callB (call_len) o_len rfl g_len rfl (sa_cons (se_name (i := 2)) sa_nil)))) (sss_one (ss_set (i := 5) S.nd (se_up (se_ix ix_seq o_ix (se_name (i := 2)) (se_name (i := 4)))))) sss_nil)
    (sss_cons (ss_setLc (i := 6) rfl S.nd (own := [("j", 7)]) (L2.blkOk_by (by rfl)) (si_range1 rfl g_range (se_frz (i := 5))) (fun s0 H0 C0 cl0 fp0 => (sg_name (i := 7) S.nd)) (fun s0 H0 C0 cl0 fp0 => sts_nil) (fun s0 H0 C0 cl0 fp0 => se_non) (hsw := by rfl))
    (sss_cons (ss_for PassesOwn.never rfl (si_range2 rfl g_range (se_frz (i := 5)) (se_up (se_ix ix_seq o_ix (se_name (i := 1)) (se_name (i := 4))))) (sg_name (i := 7) S.nd) (sss_cons (ss_set (i := 8) S.nd se_int)
    (sss_cons (ss_if (st_up (st_cmp op_gt o_gt (se_name (i := 7)) (se_name (i := 5)))) (sss_one (ss_set (i := 8) S.nd (se_up (se_ix ix_seq o_ix (se_name (i := 6)) (se_op op_sub o_sub (se_name (i := 7)) se_int))))) sss_nil)
    (sss_cons (ss_if (st_up (st_w (sw_and (st_cmp op_gt o_gt (se_name (i := 4)) se_int) (sw_and1 (st_cmp op_notN o_notN (se_ix ix_seq o_ix (se_ix ix_seq o_ix (se_name (i := 3)) (se_op op_sub o_sub (se_name (i := 4)) se_int)) (se_name (i := 7))) se_non))))) (sss_one (ss_set (i := 8) S.nd (se_up (se_callB ((call_max2 rfl)) o_max2 rfl g_max rfl (sa_cons (se_name (i := 8)) (sa_cons (se_op op_addA o_add (se_ix ix_seq o_ix (se_ix ix_seq o_ix (se_name (i := 3)) (se_op op_sub o_sub (se_name (i := 4)) se_int)) (se_name (i := 7))) se_int) sa_nil)))))) sss_nil)
    (sss_one (ss_app (r := 6) (se_op op_addA o_add (se_frz (i := 8)) (se_ix ix_seq o_ix (se_up (se_lst (sa_cons se_int (sa_cons se_int (sa_cons se_int (sa_cons se_int (sa_cons se_int (sa_cons se_int (sa_cons se_int sa_nil))))))))) (se_call (ws := [2, 3]) (fn := fn__law_pick) (ld := [some 0, none]) F__law_pick (hr.mono (by omega)) rfl g__law_pick k__law_pick b__law_pick (sl_lend (i := 0) (sl_val se_int sl_nil)))))))))))
    (sss_one (ss_app (r := 3) (se_frz (i := 6)))))))))
    (sss_one (ss_ret (se_callTy (call_tuple_of) o_tuple rfl g_tuple rfl (sa_cons (se_lc rfl S.nd (own := [("row", 6)]) (L2.blkOk_by (by rfl)) (si_take (i := 3)) (fun s0 H0 C0 cl0 fp0 => (sg_name (i := 6) S.nd)) (fun s0 H0 C0 cl0 fp0 => sts_nil) (fun s0 H0 C0 cl0 fp0 => (se_up (se_callTy (call_tuple_of) o_tuple rfl g_tuple rfl (sa_cons (se_name (i := 6)) sa_nil))))) sa_nil))))))
  exact d.mono (by decide)
theorem ok__law_filled (Y : Says K mg) : UF P w K mg base "_law_filled" 2 ["state", "shape", "floor"] [3, 4, 5, 6, 7, 8] fn__law_filled := by
  obtain ⟨f, fd, gf, F⟩ := Y.def_ 25 (x := "_law_filled") (st := top 27) rfl rfl
  exact ⟨f, fd, gf, F.kp, F.bindsN fun _ _ _ _ _ _ us hl => match us, hl with | [_, _, _], _ => rfl, fk__law_filled Y F⟩
theorem sc__law_boxes : FnScope ["tableau", "found", "k", "j"] ["tableau"] (defScope (top 28)) := ⟨rfl, rfl, rfl, by decide +kernel, rfl, by decide +kernel, by decide +kernel⟩
theorem fk__law_boxes (Y : Says K mg) {f : Addr} {fd : FuncData} (F : FnP K "_law_boxes" (top 28) f fd) : FnOk P w K mg base CX0 1 f fd ["tableau"] (spOf K 1 [1, 2] fn__law_boxes) := by
  have g_len := Y.free 40 (x := "len") rfl
  have g_range := Y.free 44 (x := "range") rfl
  have S := sc__law_boxes
  refine fn_ok F S fun cdv A outer s H E hr => ?_
  have d : SSs (cxOf CX0 P w K mg base ["tableau", "found", "k", "j"] "_law_boxes" (defScope (top 28)) f cdv A outer s H E).nox (defBody (top 28)) _ m__law_boxes := (sss_cons (ss_set (i := 1) S.nd (se_up (se_lst sa_nil)))
    (sss_cons (ss_for PassesOwn.never rfl (si_range1 rfl g_range (se_up (se_callB (call_len) o_len rfl g_len rfl (sa_cons (se_name (i := 0)) sa_nil)))) (sg_name (i := 2) S.nd) (sss_one (ss_set (i := 1) S.nd (se_op op_addA o_add (se_frz (i := 1)) (se_lc rfl S.nd (own := [("j", 3)]) (L2.blkOk_by (by rfl)) (si_range1 rfl g_range (se_up (se_callB (call_len) o_len rfl g_len rfl (sa_cons (se_ix ix_seq o_ix (se_name (i := 0)) (se_name (i := 2))) sa_nil)))) (fun s0 H0 C0 cl0 fp0 => (sg_name (i := 3) S.nd)) (fun s0 H0 C0 cl0 fp0 => (sts_one (st_up (st_cmp op_notN o_notN (se_ix ix_seq o_ix (se_ix ix_seq o_ix (se_name (i := 0)) (se_name (i := 2))) (se_name (i := 3))) se_non)))) (fun s0 H0 C0 cl0 fp0 => (se_tup (sa_cons (se_frz (i := 2)) (sa_cons (se_frz (i := 3)) (sa_cons (se_up (se_ix ix_seq o_ix (se_ix ix_seq o_ix (se_name (i := 0)) (se_name (i := 2))) (se_name (i := 3)))) sa_nil))))))))))
    (sss_one (ss_ret (se_move (i := 1))))))
  exact d.mono (by decide)
theorem ok__law_boxes (Y : Says K mg) : UF P w K mg base "_law_boxes" 1 ["tableau"] [1, 2] fn__law_boxes := by
  obtain ⟨f, fd, gf, F⟩ := Y.def_ 26 (x := "_law_boxes") (st := top 28) rfl rfl
  exact ⟨f, fd, gf, F.kp, F.bindsN fun _ _ _ _ _ _ us hl => match us, hl with | [_], _ => rfl, fk__law_boxes Y F⟩
theorem sc__law_word : FnScope ["boxes", "is_by_rows", "keys", "k", "j", "letter", "key"] ["boxes", "is_by_rows"] (defScope (top 29)) := ⟨rfl, rfl, rfl, by decide +kernel, rfl, by decide +kernel, by decide +kernel⟩
theorem fk__law_word (Y : Says K mg) {f : Addr} {fd : FuncData} (F : FnP K "_law_word" (top 29) f fd) : FnOk P w K mg base CX0 1 f fd ["boxes", "is_by_rows"] (spOf K 2 [2, 3, 4, 5] fn__law_word) := by
  have g_sorted := Y.free 42 (x := "sorted") rfl
  have g_tuple := Y.free 43 (x := "tuple") rfl
  have S := sc__law_word
  refine fn_ok F S fun cdv A outer s H E hr => ?_
  have d : SSs (cxOf CX0 P w K mg base ["boxes", "is_by_rows", "keys", "k", "j", "letter", "key"] "_law_word" (defScope (top 29)) f cdv A outer s H E).nox (defBody (top 29)) _ m__law_word := (sss_cons (ss_set (i := 2) S.nd (se_up (se_lst sa_nil)))
    (sss_cons (ss_for PassesOwn.never rfl (si_take (i := 0)) (sg_tup rfl (sgs_cons (sg_name (i := 3) S.nd) (sgs_cons (sg_name (i := 4) S.nd) (sgs_cons (sg_name (i := 5) S.nd) sgs_nil)))) (sss_one (ss_if (st_up (st_val (se_name (i := 1)))) (sss_one (ss_app (r := 2) (se_tup (sa_cons (se_up (se_op op_sub o_sub se_int (se_name (i := 3)))) (sa_cons (se_frz (i := 4)) (sa_cons (se_frz (i := 5)) sa_nil)))))) (sss_one (ss_app (r := 2) (se_tup (sa_cons (se_frz (i := 4)) (sa_cons (se_up (se_op op_sub o_sub se_int (se_name (i := 3)))) (sa_cons (se_frz (i := 5)) sa_nil)))))))) (hw := fun i e => by cases e; decide))
    (sss_one (ss_ret (se_callTy (call_tuple_of) o_tuple rfl g_tuple rfl (sa_cons (se_lc rfl S.nd (own := [("key", 6)]) (L2.blkOk_by (by rfl)) (si_seq (se_up (se_callB (cr_sortA hr.units) o_sort rfl g_sorted rfl (sa_cons (se_name (i := 2)) sa_nil)))) (fun s0 H0 C0 cl0 fp0 => (sg_name (i := 6) S.nd)) (fun s0 H0 C0 cl0 fp0 => sts_nil) (fun s0 H0 C0 cl0 fp0 => (se_up (se_ix ix_seq o_ix (se_name (i := 6)) se_int)))) sa_nil))))))
  exact d.mono (by decide)
theorem ok__law_word (Y : Says K mg) : UF P w K mg base "_law_word" 1 ["boxes", "is_by_rows"] [2, 3, 4, 5] fn__law_word := by
  obtain ⟨f, fd, gf, F⟩ := Y.def_ 27 (x := "_law_word") (st := top 29) rfl rfl
  exact ⟨f, fd, gf, F.kp, F.bindsN fun _ _ _ _ _ _ us hl => match us, hl with | [_, _], _ => rfl, fk__law_word Y F⟩
theorem sc__law_ranks : FnScope ["word", "found", "k", "less", "letter"] ["word"] (defScope (top 30)) := ⟨rfl, rfl, rfl, by decide +kernel, rfl, by decide +kernel, by decide +kernel⟩
theorem fk__law_ranks (Y : Says K mg) {f : Addr} {fd : FuncData} (F : FnP K "_law_ranks" (top 30) f fd) : FnOk P w K mg base CX0 1 f fd ["word"] (spOf K 1 [1, 2, 3] fn__law_ranks) := by
  have g_tuple := Y.free 43 (x := "tuple") rfl
  have g_len := Y.free 40 (x := "len") rfl
  have g_range := Y.free 44 (x := "range") rfl
  have S := sc__law_ranks
  refine fn_ok F S fun cdv A outer s H E hr => ?_
  have d : SSs (cxOf CX0 P w K mg base ["word", "found", "k", "less", "letter"] "_law_ranks" (defScope (top 30)) f cdv A outer s H E).nox (defBody (top 30)) _ m__law_ranks := (sss_cons (ss_set (i := 1) S.nd (se_up (se_lst sa_nil)))
    (sss_cons (ss_for PassesOwn.never rfl (si_range1 rfl g_range (se_up (se_callB (call_len) o_len rfl g_len rfl (sa_cons (se_name (i := 0)) sa_nil)))) (sg_name (i := 2) S.nd) (sss_cons (ss_set (i := 3) S.nd (se_callB (call_len) o_len rfl g_len rfl (sa_cons (se_lc rfl S.nd (own := [("letter", 4)]) (L2.blkOk_by (by rfl)) (si_seq (se_frz (i := 0))) (fun s0 H0 C0 cl0 fp0 => (sg_name (i := 4) S.nd)) (fun s0 H0 C0 cl0 fp0 => (sts_one (st_up (st_cmp op_lt o_lt (se_name (i := 4)) (se_ix ix_seq o_ix (se_name (i := 0)) (se_name (i := 2))))))) (fun s0 H0 C0 cl0 fp0 => se_int)) sa_nil)))
    (sss_one (ss_app (r := 1) (se_op op_addA o_add (se_up (se_op op_addA o_add se_int (se_name (i := 3)))) (se_callB (call_len) o_len rfl g_len rfl (sa_cons (se_lc rfl S.nd (own := [("letter", 4)]) (L2.blkOk_by (by rfl)) (si_seq (se_up (se_slice sl_all o_sl (se_name (i := 0)) so_none (so_some (se_name (i := 2)))))) (fun s0 H0 C0 cl0 fp0 => (sg_name (i := 4) S.nd)) (fun s0 H0 C0 cl0 fp0 => (sts_one (st_up (st_cmp (op_eqD hr.units) o_eq (se_name (i := 4)) (se_ix ix_seq o_ix (se_name (i := 0)) (se_name (i := 2))))))) (fun s0 H0 C0 cl0 fp0 => se_int)) sa_nil)))))))
    (sss_one (ss_ret (se_up (se_callTy (call_tuple_of) o_tuple rfl g_tuple rfl (sa_cons (se_name (i := 1)) sa_nil)))))))
  exact d.mono (by decide)
theorem ok__law_ranks (Y : Says K mg) : UF P w K mg base "_law_ranks" 1 ["word"] [1, 2, 3] fn__law_ranks := by
  obtain ⟨f, fd, gf, F⟩ := Y.def_ 28 (x := "_law_ranks") (st := top 30) rfl rfl
  exact ⟨f, fd, gf, F.kp, F.bindsN fun _ _ _ _ _ _ us hl => match us, hl with | [_], _ => rfl, fk__law_ranks Y F⟩
theorem sc__law_put : FnScope ["tableau", "letters", "rows", "row", "k", "j", "letter"] ["tableau", "letters"] (defScope (top 31)) := ⟨rfl, rfl, rfl, by decide +kernel, rfl, by decide +kernel, by decide +kernel⟩
theorem fk__law_put (Y : Says K mg) {f : Addr} {fd : FuncData} (F : FnP K "_law_put" (top 31) f fd) : FnOk P w K mg base CX0 1 f fd ["tableau", "letters"] (spOf K 2 [2, 4, 5, 6] fn__law_put) := by
  have g_tuple := Y.free 43 (x := "tuple") rfl
  have g_list := Y.free 46 (x := "list") rfl
  have S := sc__law_put
  refine fn_ok F S fun cdv A outer s H E hr => ?_
  have d : SSs (cxOf CX0 P w K mg base ["tableau", "letters", "rows", "row", "k", "j", "letter"] "_law_put" (defScope (top 31)) f cdv A outer s H E).nox (defBody (top 31)) _ m__law_put := (sss_cons (ss_setLc (i := 2) rfl S.nd (own := [("row", 3)]) (L2.blkOk_by (by rfl)) (si_take (i := 0)) (fun s0 H0 C0 cl0 fp0 => (sg_name (i := 3) S.nd)) (fun s0 H0 C0 cl0 fp0 => sts_nil) (fun s0 H0 C0 cl0 fp0 => (se_up (se_callTy (call_list_of) o_list rfl g_list rfl (sa_cons (se_name (i := 3)) sa_nil)))) (hsw := by rfl))
    (sss_cons (ss_for PassesOwn.never rfl (si_take (i := 1)) (sg_tup rfl (sgs_cons (sg_name (i := 4) S.nd) (sgs_cons (sg_name (i := 5) S.nd) (sgs_cons (sg_name (i := 6) S.nd) sgs_nil)))) (sss_one (ss_asg (se_frz (i := 6)) (sg_sub (sp_ix (sp_name (r := 2)) (se_name (i := 4))) (se_name (i := 5))))) (hw := fun i e => by cases e; decide))
    (sss_one (ss_ret (se_callTy (call_tuple_of) o_tuple rfl g_tuple rfl (sa_cons (se_lc rfl S.nd (own := [("row", 3)]) (L2.blkOk_by (by rfl)) (si_take (i := 2)) (fun s0 H0 C0 cl0 fp0 => (sg_name (i := 3) S.nd)) (fun s0 H0 C0 cl0 fp0 => sts_nil) (fun s0 H0 C0 cl0 fp0 => (se_up (se_callTy (call_tuple_of) o_tuple rfl g_tuple rfl (sa_cons (se_name (i := 3)) sa_nil))))) sa_nil))))))
  exact d.mono (by decide)
theorem ok__law_put (Y : Says K mg) : UF P w K mg base "_law_put" 1 ["tableau", "letters"] [2, 4, 5, 6] fn__law_put := by
  obtain ⟨f, fd, gf, F⟩ := Y.def_ 29 (x := "_law_put") (st := top 31) rfl rfl
  exact ⟨f, fd, gf, F.kp, F.bindsN fun _ _ _ _ _ _ us hl => match us, hl with | [_, _], _ => rfl, fk__law_put Y F⟩
theorem sc__law_ranked : FnScope ["tableau", "boxes", "k", "j", "letter", "told", "box"] ["tableau"] (defScope (top 32)) := ⟨rfl, rfl, rfl, by decide +kernel, rfl, by decide +kernel, by decide +kernel⟩
theorem fk__law_ranked (Y : Says K mg) {f : Addr} {fd : FuncData} (F : FnP K "_law_ranked" (top 32) f fd) : FnOk P w K mg base CX0 2 f fd ["tableau"] (spOf K 1 [1, 5] fn__law_ranked) := by
  obtain ⟨f__law_put, fd__law_put, g__law_put, k__law_put, b__law_put, F__law_put⟩ := ok__law_put (P := P) (w := w) (base := base) Y
  obtain ⟨f__law_ranks, fd__law_ranks, g__law_ranks, k__law_ranks, b__law_ranks, F__law_ranks⟩ := ok__law_ranks (P := P) (w := w) (base := base) Y
  obtain ⟨f__law_boxes, fd__law_boxes, g__law_boxes, k__law_boxes, b__law_boxes, F__law_boxes⟩ := ok__law_boxes (P := P) (w := w) (base := base) Y
  have g_len := Y.free 40 (x := "len") rfl
  have g_range := Y.free 44 (x := "range") rfl
  have g_sorted := Y.free 42 (x := "sorted") rfl
  have S := sc__law_ranked
  refine fn_ok F S fun cdv A outer s H E hr => ?_
  have d : SSs (cxOf CX0 P w K mg base ["tableau", "boxes", "k", "j", "letter", "told", "box"] "_law_ranked" (defScope (top 32)) f cdv A outer s H E).nox (defBody (top 32)) _ m__law_ranked := (sss_cons (ss_set (i := 1) S.nd (se_callB (cr_sortA hr.units) o_sort rfl g_sorted rfl (sa_cons (se_lc rfl S.nd (own := [("k", 2), ("j", 3), ("letter", 4)]) (L2.blkOk_by (by rfl)) (si_seq (se_call (ws := [1, 2]) (fn := fn__law_boxes) (ld := [some 0]) F__law_boxes (hr.mono (by omega)) rfl g__law_boxes k__law_boxes b__law_boxes (sl_lend (i := 0) sl_nil))) (fun s0 H0 C0 cl0 fp0 => (sg_tup rfl (sgs_cons (sg_name (i := 2) S.nd) (sgs_cons (sg_name (i := 3) S.nd) (sgs_cons (sg_name (i := 4) S.nd) sgs_nil))))) (fun s0 H0 C0 cl0 fp0 => sts_nil) (fun s0 H0 C0 cl0 fp0 => (se_tup (sa_cons (se_up (se_op op_sub o_sub se_int (se_name (i := 2)))) (sa_cons (se_frz (i := 3)) (sa_cons (se_frz (i := 4)) sa_nil)))))) sa_nil)))
    (sss_cons (ss_set (i := 5) S.nd (se_call (ws := [1, 2, 3]) (fn := fn__law_ranks) (ld := [none]) F__law_ranks (hr.mono (by omega)) rfl g__law_ranks k__law_ranks b__law_ranks (sl_val (se_lc rfl S.nd (own := [("box", 6)]) (L2.blkOk_by (by rfl)) (si_take (i := 1)) (fun s0 H0 C0 cl0 fp0 => (sg_name (i := 6) S.nd)) (fun s0 H0 C0 cl0 fp0 => sts_nil) (fun s0 H0 C0 cl0 fp0 => (se_up (se_ix ix_seq o_ix (se_name (i := 6)) se_int)))) sl_nil)))
    (sss_one (ss_ret (se_call (ws := [2, 4, 5, 6]) (fn := fn__law_put) (ld := [some 0, none]) F__law_put (hr.mono (by omega)) rfl g__law_put k__law_put b__law_put (sl_lend (i := 0) (sl_val (se_lc rfl S.nd (own := [("k", 2)]) (L2.blkOk_by (by rfl)) (si_range1 rfl g_range (se_up (se_callB (call_len) o_len rfl g_len rfl (sa_cons (se_name (i := 1)) sa_nil)))) (fun s0 H0 C0 cl0 fp0 => (sg_name (i := 2) S.nd)) (fun s0 H0 C0 cl0 fp0 => sts_nil) (fun s0 H0 C0 cl0 fp0 => (se_up (se_tup (sa_cons (se_op op_sub o_sub se_int (se_ix ix_seq o_ix (se_ix ix_seq o_ix (se_name (i := 1)) (se_name (i := 2))) se_int)) (sa_cons (se_ix ix_seq o_ix (se_ix ix_seq o_ix (se_name (i := 1)) (se_name (i := 2))) se_int) (sa_cons (se_ix ix_seq o_ix (se_name (i := 5)) (se_name (i := 2))) sa_nil))))))) sl_nil)))))))
  exact d.mono (by decide)
theorem ok__law_ranked (Y : Says K mg) : UF P w K mg base "_law_ranked" 2 ["tableau"] [1, 5] fn__law_ranked := by
  obtain ⟨f, fd, gf, F⟩ := Y.def_ 30 (x := "_law_ranked") (st := top 32) rfl rfl
  exact ⟨f, fd, gf, F.kp, F.bindsN fun _ _ _ _ _ _ us hl => match us, hl with | [_], _ => rfl, fk__law_ranked Y F⟩
theorem sc__law_within : FnScope ["state", "shape", "found", "left", "many"] ["state", "shape"] (defScope (top 26)) := ⟨rfl, rfl, rfl, by decide +kernel, rfl, by decide +kernel, by decide +kernel⟩
theorem fk__law_within (Y : Says K mg) {f : Addr} {fd : FuncData} (F : FnP K "_law_within" (top 26) f fd) : FnOk P w K mg base CX0 2 f fd ["state", "shape"] (spOf K 2 [2, 3, 4] fn__law_within) := by
  obtain ⟨f__law_pick, fd__law_pick, g__law_pick, k__law_pick, b__law_pick, F__law_pick⟩ := ok__law_pick (P := P) (w := w) (base := base) Y
  have g_tuple := Y.free 43 (x := "tuple") rfl
  have g_min := Y.free 47 (x := "min") rfl
  have S := sc__law_within
  refine fn_ok F S fun cdv A outer s H E hr => ?_
  have d : SSs (cxOf CX0 P w K mg base ["state", "shape", "found", "left", "many"] "_law_within" (defScope (top 26)) f cdv A outer s H E).nox (defBody (top 26)) _ m__law_within := (sss_cons (ss_set (i := 2) S.nd (se_up (se_lst sa_nil)))
    (sss_cons (ss_set (i := 3) S.nd se_int)
    (sss_cons (ss_for PassesOwn.never rfl (si_take (i := 1)) (sg_name (i := 4) S.nd) (sss_cons (ss_set (i := 3) S.nd (se_callB ((call_min3Nu rfl)) o_min3 rfl g_min rfl (sa_cons (se_frz (i := 3)) (sa_cons (se_frz (i := 4)) (sa_cons (se_call (ws := [2, 3]) (fn := fn__law_pick) (ld := [some 0, none]) F__law_pick (hr.mono (by omega)) rfl g__law_pick k__law_pick b__law_pick (sl_lend (i := 0) (sl_val (se_up (se_op op_addA o_add (se_name (i := 4)) se_int)) sl_nil))) sa_nil)))))
    (sss_one (ss_if (st_up (st_cmp op_gt o_gt (se_name (i := 3)) se_int)) (sss_one (ss_app (r := 2) (se_frz (i := 3)))) sss_nil))) (hw := fun i e => by cases e; decide))
    (sss_one (ss_ret (se_up (se_callTy (call_tuple_of) o_tuple rfl g_tuple rfl (sa_cons (se_name (i := 2)) sa_nil))))))))
  exact d.mono (by decide)
theorem ok__law_within (Y : Says K mg) : UF P w K mg base "_law_within" 2 ["state", "shape"] [2, 3, 4] fn__law_within := by
  obtain ⟨f, fd, gf, F⟩ := Y.def_ 24 (x := "_law_within") (st := top 26) rfl rfl
  exact ⟨f, fd, gf, F.kp, F.bindsN fun _ _ _ _ _ _ us hl => match us, hl with | [_, _], _ => rfl, fk__law_within Y F⟩
theorem sc__law_same : FnScope ["told", "due", "k"] ["told", "due"] (defScope (top 24)) := ⟨rfl, rfl, rfl, by decide +kernel, rfl, by decide +kernel, by decide +kernel⟩
theorem fk__law_same (Y : Says K mg) {f : Addr} {fd : FuncData} (F : FnP K "_law_same" (top 24) f fd) {fn_self : Fn} {k_ : Nat} (hk : 0 ≤ k_) (Z : UF P w K mg base "_law_same" k_ ["told", "due"] [] fn_self) : FnOk P w K mg base CX0 (k_ + 1) f fd ["told", "due"] (spOf K 2 [] (fnD 3 (m__law_same fn_self))) := by
  obtain ⟨f__law_same, fd__law_same, g__law_same, k__law_same, b__law_same, F__law_same⟩ := Z
  have g_len := Y.free 40 (x := "len") rfl
  have g_range := Y.free 44 (x := "range") rfl
  have g_isinstance := Y.free 48 (x := "isinstance") rfl
  have g_list := Y.free 46 (x := "list") rfl
  have g_tuple := Y.free 43 (x := "tuple") rfl
  have g_str := Y.free 49 (x := "str") rfl
  have g_int := Y.free 39 (x := "int") rfl
  have g_bool := Y.free 50 (x := "bool") rfl
  have S := sc__law_same
  refine fn_ok F S fun cdv A outer s H E hr => ?_
  have d : SSs (cxOf CX0 P w K mg base ["told", "due", "k"] "_law_same" (defScope (top 24)) f cdv A outer s H E).nox (defBody (top 24)) _ (m__law_same fn_self) := (sss_cons (ss_if (st_up (st_cmp op_isN o_isN (se_name (i := 1)) se_non)) (sss_one (ss_ret (se_up (se_cmp op_isN o_isN (se_name (i := 0)) se_non)))) sss_nil)
    (sss_cons (ss_if (st_up (st_val (se_isa (T := Ty.bool) rfl rfl g_isinstance rfl rfl g_bool rfl (se_name (i := 1))))) (sss_one (ss_ret (se_up (se_and (se_isa (T := Ty.bool) rfl rfl g_isinstance rfl rfl g_bool rfl (se_name (i := 0))) (se_one (se_cmp (op_eqD hr.units) o_eq (se_name (i := 0)) (se_name (i := 1)))))))) sss_nil)
    (sss_cons (ss_if (st_up (st_val (se_isa (T := Ty.int) rfl rfl g_isinstance rfl rfl g_int rfl (se_name (i := 1))))) (sss_one (ss_ret (se_up (se_and (se_isa (T := Ty.int) rfl rfl g_isinstance rfl rfl g_int rfl (se_name (i := 0))) (se_and (se_not (se_isa (T := Ty.bool) rfl rfl g_isinstance rfl rfl g_bool rfl (se_name (i := 0)))) (se_one (se_cmp (op_eqD hr.units) o_eq (se_name (i := 0)) (se_name (i := 1))))))))) sss_nil)
    (sss_cons (ss_if (st_up (st_val (se_isa (T := Ty.str) rfl rfl g_isinstance rfl rfl g_str rfl (se_name (i := 1))))) (sss_one (ss_ret (se_up (se_and (se_isa (T := Ty.str) rfl rfl g_isinstance rfl rfl g_str rfl (se_name (i := 0))) (se_one (se_cmp (op_eqD hr.units) o_eq (se_name (i := 0)) (se_name (i := 1)))))))) sss_nil)
    (sss_cons (ss_if (st_up (st_w (sw_or (st_w (sw_and (st_val (se_isa (T := Ty.list) rfl rfl g_isinstance rfl rfl g_list rfl (se_name (i := 1)))) (sw_and1 (st_not (st_val (se_isa (T := Ty.list) rfl rfl g_isinstance rfl rfl g_list rfl (se_name (i := 0)))))))) (sw_or1 (st_w (sw_and (st_val (se_isa (T := Ty.tuple) rfl rfl g_isinstance rfl rfl g_tuple rfl (se_name (i := 1)))) (sw_and1 (st_not (st_val (se_isa (T := Ty.tuple) rfl rfl g_isinstance rfl rfl g_tuple rfl (se_name (i := 0)))))))))))) (sss_one (ss_ret se_bl)) sss_nil)
    (sss_one (ss_ret (se_and (se_up (se_cmp (op_eqD hr.units) o_eq (se_callB (call_len) o_len rfl g_len rfl (sa_cons (se_name (i := 0)) sa_nil)) (se_callB (call_len) o_len rfl g_len rfl (sa_cons (se_name (i := 1)) sa_nil)))) (se_one (se_cmp (op_eqD hr.units) o_eq (se_lc rfl S.nd (own := [("k", 2)]) (L2.blkOk_by (by rfl)) (si_range1 rfl g_range (se_up (se_callB (call_len) o_len rfl g_len rfl (sa_cons (se_name (i := 1)) sa_nil)))) (fun s0 H0 C0 cl0 fp0 => (sg_name (i := 2) S.nd)) (fun s0 H0 C0 cl0 fp0 => (sts_one (st_not (st_val (se_call (ws := []) (fn := fn_self) (ld := [none, none]) F__law_same (hr.mono (by omega)) rfl g__law_same k__law_same b__law_same (sl_val (se_up (se_ix ix_seq o_ix (se_name (i := 0)) (se_name (i := 2)))) (sl_val (se_up (se_ix ix_seq o_ix (se_name (i := 1)) (se_name (i := 2)))) sl_nil))))))) (fun s0 H0 C0 cl0 fp0 => se_int)) (se_up (se_lst sa_nil))))))))))))
  exact d.mono (by decide)
theorem ok__law_same (Y : Says K mg) : UF P w K mg base "_law_same" 6 ["told", "due"] [] fn__law_same := by
  obtain ⟨f, fd, gf, F⟩ := Y.def_ 22 (x := "_law_same") (st := top 24) rfl rfl
  have go : ∀ n, UF P w K mg base "_law_same" (n + 0) ["told", "due"] [] (fnR 3 m__law_same n) := fun n => by
    induction n with
    | zero => exact ⟨f, fd, gf, F.kp, F.bindsN fun _ _ _ _ _ _ us hl => match us, hl with | [_, _], _ => rfl, fn_none rfl⟩
    | succ n ih => exact ⟨f, fd, gf, F.kp, F.bindsN fun _ _ _ _ _ _ us hl => match us, hl with | [_, _], _ => rfl, (fk__law_same Y F (by omega) ih).mono (by omega)⟩
  exact go 6
theorem sc_part : FnScope ["tableau", "low", "high", "rows", "row", "kept", "one"] ["tableau", "low", "high"] (defScope (top 18)) := ⟨rfl, rfl, rfl, by decide +kernel, rfl, by decide +kernel, by decide +kernel⟩
theorem fk_part (Y : Says K mg) {f : Addr} {fd : FuncData} (F : FnP K "part" (top 18) f fd) : FnOk P w K mg base CX0 1 f fd ["tableau", "low", "high"] (spOf K 3 [3, 4, 5] fn_part) := by
  have g_tuple := Y.free 43 (x := "tuple") rfl
  have g_len := Y.free 40 (x := "len") rfl
  have S := sc_part
  refine fn_ok F S fun cdv A outer s H E hr => ?_
  have d : SSs (cxOf CX0 P w K mg base ["tableau", "low", "high", "rows", "row", "kept", "one"] "part" (defScope (top 18)) f cdv A outer s H E).nox (defBody (top 18)) _ m_part := (sss_cons (ss_set (i := 3) S.nd (se_up (se_lst sa_nil)))
    (sss_cons (ss_for PassesOwn.never rfl (si_take (i := 0)) (sg_name (i := 4) S.nd) (sss_cons (ss_setLc (i := 5) rfl S.nd (own := [("one", 6)]) (L2.blkOk_by (by rfl)) (si_take (i := 4)) (fun s0 H0 C0 cl0 fp0 => (sg_name (i := 6) S.nd)) (fun s0 H0 C0 cl0 fp0 => (sts_one (st_up (st_w (sw_or (st_cmp op_isN o_isN (se_name (i := 6)) se_non) (sw_or1 (st_cmp op_le o_le (se_name (i := 6)) (se_name (i := 2))))))))) (fun s0 H0 C0 cl0 fp0 => (se_frz (i := 6))) (hsw := by rfl))
    (sss_one (ss_if (st_up (st_cmp op_gt o_gt (se_callB (call_len) o_len rfl g_len rfl (sa_cons (se_name (i := 5)) sa_nil)) se_int)) (sss_one (ss_app (r := 3) (se_callTy (call_tuple_of) o_tuple rfl g_tuple rfl (sa_cons (se_lc rfl S.nd (own := [("one", 6)]) (L2.blkOk_by (by rfl)) (si_take (i := 5)) (fun s0 H0 C0 cl0 fp0 => (sg_name (i := 6) S.nd)) (fun s0 H0 C0 cl0 fp0 => sts_nil) (fun s0 H0 C0 cl0 fp0 => (se_if (st_up (st_w (sw_or (st_cmp op_isN o_isN (se_name (i := 6)) se_non) (sw_or1 (st_cmp op_lt o_lt (se_name (i := 6)) (se_name (i := 1))))))) se_non (se_frz (i := 6))))) sa_nil)))) sss_nil))) (hw := fun i e => by cases e; decide))
    (sss_one (ss_ret (se_up (se_callTy (call_tuple_of) o_tuple rfl g_tuple rfl (sa_cons (se_name (i := 3)) sa_nil)))))))
  exact d.mono (by decide)
theorem ok_part (Y : Says K mg) : UF P w K mg base "part" 1 ["tableau", "low", "high"] [3, 4, 5] fn_part := by
  obtain ⟨f, fd, gf, F⟩ := Y.def_ 17 (x := "part") (st := top 18) rfl rfl
  exact ⟨f, fd, gf, F.kp, F.bindsN fun _ _ _ _ _ _ us hl => match us, hl with | [_, _, _], _ => rfl, fk_part Y F⟩
theorem sc_outer : FnScope ["tableau", "row"] ["tableau"] (defScope (top 2)) := ⟨rfl, rfl, rfl, by decide +kernel, rfl, by decide +kernel, by decide +kernel⟩
theorem fk_outer (Y : Says K mg) {f : Addr} {fd : FuncData} (F : FnP K "outer" (top 2) f fd) : FnOk P w K mg base CX0 1 f fd ["tableau"] (spOf K 1 [] fn_outer) := by
  have g_len := Y.free 40 (x := "len") rfl
  have g_tuple := Y.free 43 (x := "tuple") rfl
  have S := sc_outer
  refine fn_ok F S fun cdv A outer s H E hr => ?_
  have d : SSs (cxOf CX0 P w K mg base ["tableau", "row"] "outer" (defScope (top 2)) f cdv A outer s H E).nox (defBody (top 2)) _ m_outer := (sss_one (ss_ret (se_callTy (call_tuple_of) o_tuple rfl g_tuple rfl (sa_cons (se_lc rfl S.nd (own := [("row", 1)]) (L2.blkOk_by (by rfl)) (si_take (i := 0)) (fun s0 H0 C0 cl0 fp0 => (sg_name (i := 1) S.nd)) (fun s0 H0 C0 cl0 fp0 => sts_nil) (fun s0 H0 C0 cl0 fp0 => (se_up (se_callB (call_len) o_len rfl g_len rfl (sa_cons (se_name (i := 1)) sa_nil))))) sa_nil))))
  exact d.mono (by decide)
theorem ok_outer (Y : Says K mg) : UF P w K mg base "outer" 1 ["tableau"] [] fn_outer := by
  obtain ⟨f, fd, gf, F⟩ := Y.def_ 1 (x := "outer") (st := top 2) rfl rfl
  exact ⟨f, fd, gf, F.kp, F.bindsN fun _ _ _ _ _ _ us hl => match us, hl with | [_], _ => rfl, fk_outer Y F⟩
theorem sc_left_out : FnScope ["row", "many"] ["row"] (defScope (top 3)) := ⟨rfl, rfl, rfl, by decide +kernel, rfl, by decide +kernel, by decide +kernel⟩
theorem fk_left_out (Y : Says K mg) {f : Addr} {fd : FuncData} (F : FnP K "left_out" (top 3) f fd) : FnOk P w K mg base CX0 1 f fd ["row"] (spOf K 1 [1] fn_left_out) := by
  have g_len := Y.free 40 (x := "len") rfl
  have S := sc_left_out
  refine fn_ok F S fun cdv A outer s H E hr => ?_
  have d : SSs (cxOf CX0 P w K mg base ["row", "many"] "left_out" (defScope (top 3)) f cdv A outer s H E).nox (defBody (top 3)) _ m_left_out := (sss_cons (ss_set (i := 1) S.nd se_int)
    (sss_cons (ss_while PassesOwn.never (st_up (st_w (sw_and (st_cmp op_lt o_lt (se_name (i := 1)) (se_callB (call_len) o_len rfl g_len rfl (sa_cons (se_name (i := 0)) sa_nil))) (sw_and1 (st_cmp op_isN o_isN (se_ix ix_seq o_ix (se_name (i := 0)) (se_name (i := 1))) se_non))))) (sss_one (ss_aug (i := 1) S.nd se_int ip_add)))
    (sss_one (ss_ret (se_move (i := 1))))))
  exact d.mono (by decide)
theorem ok_left_out (Y : Says K mg) : UF P w K mg base "left_out" 1 ["row"] [1] fn_left_out := by
  obtain ⟨f, fd, gf, F⟩ := Y.def_ 2 (x := "left_out") (st := top 3) rfl rfl
  exact ⟨f, fd, gf, F.kp, F.bindsN fun _ _ _ _ _ _ us hl => match us, hl with | [_], _ => rfl, fk_left_out Y F⟩
theorem sc_inner : FnScope ["tableau", "row"] ["tableau"] (defScope (top 4)) := ⟨rfl, rfl, rfl, by decide +kernel, rfl, by decide +kernel, by decide +kernel⟩
theorem fk_inner (Y : Says K mg) {f : Addr} {fd : FuncData} (F : FnP K "inner" (top 4) f fd) : FnOk P w K mg base CX0 2 f fd ["tableau"] (spOf K 1 [] fn_inner) := by
  obtain ⟨f_left_out, fd_left_out, g_left_out, k_left_out, b_left_out, F_left_out⟩ := ok_left_out (P := P) (w := w) (base := base) Y
  have g_tuple := Y.free 43 (x := "tuple") rfl
  have S := sc_inner
  refine fn_ok F S fun cdv A outer s H E hr => ?_
  have d : SSs (cxOf CX0 P w K mg base ["tableau", "row"] "inner" (defScope (top 4)) f cdv A outer s H E).nox (defBody (top 4)) _ m_inner := (sss_one (ss_ret (se_callTy (call_tuple_of) o_tuple rfl g_tuple rfl (sa_cons (se_lc rfl S.nd (own := [("row", 1)]) (L2.blkOk_by (by rfl)) (si_take (i := 0)) (fun s0 H0 C0 cl0 fp0 => (sg_name (i := 1) S.nd)) (fun s0 H0 C0 cl0 fp0 => (sts_one (st_cmp op_gt o_gt (se_call (ws := [1]) (fn := fn_left_out) (ld := [some 1]) F_left_out (hr.mono (by omega)) rfl g_left_out k_left_out b_left_out (sl_lend (i := 1) sl_nil)) se_int))) (fun s0 H0 C0 cl0 fp0 => (se_call (ws := [1]) (fn := fn_left_out) (ld := [some 1]) F_left_out (hr.mono (by omega)) rfl g_left_out k_left_out b_left_out (sl_lend (i := 1) sl_nil)))) sa_nil))))
  exact d.mono (by decide)
theorem ok_inner (Y : Says K mg) : UF P w K mg base "inner" 2 ["tableau"] [] fn_inner := by
  obtain ⟨f, fd, gf, F⟩ := Y.def_ 3 (x := "inner") (st := top 4) rfl rfl
  exact ⟨f, fd, gf, F.kp, F.bindsN fun _ _ _ _ _ _ us hl => match us, hl with | [_], _ => rfl, fk_inner Y F⟩
theorem sc_row_word : FnScope ["tableau", "found", "row"] ["tableau"] (defScope (top 9)) := ⟨rfl, rfl, rfl, by decide +kernel, rfl, by decide +kernel, by decide +kernel⟩
theorem fk_row_word (Y : Says K mg) {f : Addr} {fd : FuncData} (F : FnP K "row_word" (top 9) f fd) : FnOk P w K mg base CX0 2 f fd ["tableau"] (spOf K 1 [1, 2] fn_row_word) := by
  obtain ⟨f_left_out, fd_left_out, g_left_out, k_left_out, b_left_out, F_left_out⟩ := ok_left_out (P := P) (w := w) (base := base) Y
  have g_tuple := Y.free 43 (x := "tuple") rfl
  have g_reversed := Y.free 51 (x := "reversed") rfl
  have g_list := Y.free 46 (x := "list") rfl
  have S := sc_row_word
  refine fn_ok F S fun cdv A outer s H E hr => ?_
  have d : SSs (cxOf CX0 P w K mg base ["tableau", "found", "row"] "row_word" (defScope (top 9)) f cdv A outer s H E).nox (defBody (top 9)) _ m_row_word := (sss_cons (ss_set (i := 1) S.nd (se_up (se_lst sa_nil)))
    (sss_cons (ss_for PassesOwn.never rfl (si_rev rfl g_reversed (se_frz (i := 0))) (sg_name (i := 2) S.nd) (sss_one (ss_set (i := 1) S.nd (se_op op_addA o_add (se_frz (i := 1)) (se_callTy (call_list_of) o_list rfl g_list rfl (sa_cons (se_slice sl_all o_sl (se_frz (i := 2)) (so_some (se_call (ws := [1]) (fn := fn_left_out) (ld := [some 2]) F_left_out (hr.mono (by omega)) rfl g_left_out k_left_out b_left_out (sl_lend (i := 2) sl_nil))) so_none) sa_nil))))))
    (sss_one (ss_ret (se_up (se_callTy (call_tuple_of) o_tuple rfl g_tuple rfl (sa_cons (se_name (i := 1)) sa_nil)))))))
  exact d.mono (by decide)
theorem ok_row_word (Y : Says K mg) : UF P w K mg base "row_word" 2 ["tableau"] [1, 2] fn_row_word := by
  obtain ⟨f, fd, gf, F⟩ := Y.def_ 8 (x := "row_word") (st := top 9) rfl rfl
  exact ⟨f, fd, gf, F.kp, F.bindsN fun _ _ _ _ _ _ us hl => match us, hl with | [_], _ => rfl, fk_row_word Y F⟩
theorem sc_joined : FnScope ["first", "second", "raised", "rows", "k", "row", "head", "one"] ["first", "second"] (defScope (top 19)) := ⟨rfl, rfl, rfl, by decide +kernel, rfl, by decide +kernel, by decide +kernel⟩
theorem fk_joined (Y : Says K mg) {f : Addr} {fd : FuncData} (F : FnP K "joined" (top 19) f fd) : FnOk P w K mg base CX0 3 f fd ["first", "second"] (spOf K 2 [2, 3, 4, 5, 6] fn_joined) := by
  obtain ⟨f_left_out, fd_left_out, g_left_out, k_left_out, b_left_out, F_left_out⟩ := ok_left_out (P := P) (w := w) (base := base) Y
  obtain ⟨f_row_word, fd_row_word, g_row_word, k_row_word, b_row_word, F_row_word⟩ := ok_row_word (P := P) (w := w) (base := base) Y
  obtain ⟨f_outer, fd_outer, g_outer, k_outer, b_outer, F_outer⟩ := ok_outer (P := P) (w := w) (base := base) Y
  obtain ⟨f_inner, fd_inner, g_inner, k_inner, b_inner, F_inner⟩ := ok_inner (P := P) (w := w) (base := base) Y
  have g_tuple := Y.free 43 (x := "tuple") rfl
  have g_len := Y.free 40 (x := "len") rfl
  have g_range := Y.free 44 (x := "range") rfl
  have g_list := Y.free 46 (x := "list") rfl
  have g_max := Y.free 45 (x := "max") rfl
  have S := sc_joined
  refine fn_ok F S fun cdv A outer s H E hr => ?_
  have d : SSs (cxOf CX0 P w K mg base ["first", "second", "raised", "rows", "k", "row", "head", "one"] "joined" (defScope (top 19)) f cdv A outer s H E).nox (defBody (top 19)) _ m_joined := (sss_cons (ss_if (st_cmp (op_neD hr.units) o_ne (se_call (ws := []) (fn := fn_outer) (ld := [some 0]) F_outer (hr.mono (by omega)) rfl g_outer k_outer b_outer (sl_lend (i := 0) sl_nil)) (se_call (ws := []) (fn := fn_inner) (ld := [some 1]) F_inner (hr.mono (by omega)) rfl g_inner k_inner b_inner (sl_lend (i := 1) sl_nil))) (sss_one (ss_ret se_non)) sss_nil)
    (sss_cons (ss_set (i := 2) S.nd (se_callB ((cr_max rfl)) o_maxL rfl g_max rfl (sa_cons (se_op op_addA o_add (se_up (se_lst (sa_cons se_int sa_nil))) (se_callTy (call_list_of) o_list rfl g_list rfl (sa_cons (se_call (ws := [1, 2]) (fn := fn_row_word) (ld := [some 0]) F_row_word (hr.mono (by omega)) rfl g_row_word k_row_word b_row_word (sl_lend (i := 0) sl_nil)) sa_nil))) sa_nil)))
    (sss_cons (ss_set (i := 3) S.nd (se_up (se_lst sa_nil)))
    (sss_cons (ss_for PassesOwn.never rfl (si_range1 rfl g_range (se_up (se_callB (call_len) o_len rfl g_len rfl (sa_cons (se_name (i := 1)) sa_nil)))) (sg_name (i := 4) S.nd) (sss_cons (ss_set (i := 5) S.nd (se_up (se_ix ix_seq o_ix (se_name (i := 1)) (se_name (i := 4)))))
    (sss_cons (ss_set (i := 6) S.nd (se_if (st_up (st_cmp op_lt o_lt (se_name (i := 4)) (se_callB (call_len) o_len rfl g_len rfl (sa_cons (se_name (i := 0)) sa_nil)))) (se_up (se_ix ix_seq o_ix (se_name (i := 0)) (se_name (i := 4)))) (se_up (se_tup sa_nil))))
    (sss_one (ss_app (r := 3) (se_op op_addA o_add (se_frz (i := 6)) (se_callTy (call_tuple_of) o_tuple rfl g_tuple rfl (sa_cons (se_lc rfl S.nd (own := [("one", 7)]) (L2.blkOk_by (by rfl)) (si_seq (se_slice sl_all o_sl (se_frz (i := 5)) (so_some (se_call (ws := [1]) (fn := fn_left_out) (ld := [some 5]) F_left_out (hr.mono (by omega)) rfl g_left_out k_left_out b_left_out (sl_lend (i := 5) sl_nil))) so_none)) (fun s0 H0 C0 cl0 fp0 => (sg_name (i := 7) S.nd)) (fun s0 H0 C0 cl0 fp0 => sts_nil) (fun s0 H0 C0 cl0 fp0 => (se_up (se_op op_addA o_add (se_name (i := 7)) (se_name (i := 2)))))) sa_nil))))))))
    (sss_one (ss_ret (se_up (se_callTy (call_tuple_of) o_tuple rfl g_tuple rfl (sa_cons (se_name (i := 3)) sa_nil)))))))))
  exact d.mono (by decide)
theorem ok_joined (Y : Says K mg) : UF P w K mg base "joined" 3 ["first", "second"] [2, 3, 4, 5, 6] fn_joined := by
  obtain ⟨f, fd, gf, F⟩ := Y.def_ 18 (x := "joined") (st := top 19) rfl rfl
  exact ⟨f, fd, gf, F.kp, F.bindsN fun _ _ _ _ _ _ us hl => match us, hl with | [_, _], _ => rfl, fk_joined Y F⟩
theorem sc__law_parts : FnScope ["state", "tableau", "boxes", "greatest", "box", "low", "high", "rows", "row", "kept", "one", "first", "second", "raised", "due", "k", "j", "letter"] ["state", "tableau"] (defScope (top 37)) := ⟨rfl, rfl, rfl, by decide +kernel, rfl, by decide +kernel, by decide +kernel⟩
theorem fk__law_parts (Y : Says K mg) {f : Addr} {fd : FuncData} (F : FnP K "_law_parts" (top 37) f fd) : FnOk P w K mg base CX0 7 f fd ["state", "tableau"] (spOf K 2 [2, 3, 5, 6, 7, 8, 9, 10, 11, 12, 13, 14] fn__law_parts) := by
  obtain ⟨f__law_same, fd__law_same, g__law_same, k__law_same, b__law_same, F__law_same⟩ := ok__law_same (P := P) (w := w) (base := base) Y
  obtain ⟨f_joined, fd_joined, g_joined, k_joined, b_joined, F_joined⟩ := ok_joined (P := P) (w := w) (base := base) Y
  obtain ⟨f__law_put, fd__law_put, g__law_put, k__law_put, b__law_put, F__law_put⟩ := ok__law_put (P := P) (w := w) (base := base) Y
  obtain ⟨f__law_boxes, fd__law_boxes, g__law_boxes, k__law_boxes, b__law_boxes, F__law_boxes⟩ := ok__law_boxes (P := P) (w := w) (base := base) Y
  obtain ⟨f_part, fd_part, g_part, k_part, b_part, F_part⟩ := ok_part (P := P) (w := w) (base := base) Y
  obtain ⟨f__law_pick, fd__law_pick, g__law_pick, k__law_pick, b__law_pick, F__law_pick⟩ := ok__law_pick (P := P) (w := w) (base := base) Y
  have g_len := Y.free 40 (x := "len") rfl
  have g_max := Y.free 45 (x := "max") rfl
  have g_tuple := Y.free 43 (x := "tuple") rfl
  have S := sc__law_parts
  refine fn_ok F S fun cdv A outer s H E hr => ?_
  have d : SSs (cxOf CX0 P w K mg base ["state", "tableau", "boxes", "greatest", "box", "low", "high", "rows", "row", "kept", "one", "first", "second", "raised", "due", "k", "j", "letter"] "_law_parts" (defScope (top 37)) f cdv A outer s H E).nox (defBody (top 37)) _ m__law_parts := (sss_cons (ss_set (i := 2) S.nd (se_call (ws := [1, 2]) (fn := fn__law_boxes) (ld := [some 1]) F__law_boxes (hr.mono (by omega)) rfl g__law_boxes k__law_boxes b__law_boxes (sl_lend (i := 1) sl_nil)))
    (sss_cons (ss_set (i := 3) S.nd (se_callB ((cr_max rfl)) o_maxL rfl g_max rfl (sa_cons (se_op op_addA o_add (se_up (se_lst (sa_cons se_int sa_nil))) (se_lc rfl S.nd (own := [("box", 4)]) (L2.blkOk_by (by rfl)) (si_take (i := 2)) (fun s0 H0 C0 cl0 fp0 => (sg_name (i := 4) S.nd)) (fun s0 H0 C0 cl0 fp0 => sts_nil) (fun s0 H0 C0 cl0 fp0 => (se_up (se_ix ix_seq o_ix (se_name (i := 4)) se_int))))) sa_nil)))
    (sss_cons (ss_set (i := 5) S.nd (se_op op_addA o_add se_int (se_call (ws := [2, 3]) (fn := fn__law_pick) (ld := [some 0, none]) F__law_pick (hr.mono (by omega)) rfl g__law_pick k__law_pick b__law_pick (sl_lend (i := 0) (sl_val (se_up (se_op op_addA o_add (se_name (i := 3)) se_int)) sl_nil)))))
    (sss_cons (ss_set (i := 6) S.nd (se_call (ws := [2, 3]) (fn := fn__law_pick) (ld := [some 0, none]) F__law_pick (hr.mono (by omega)) rfl g__law_pick k__law_pick b__law_pick (sl_lend (i := 0) (sl_val (se_up (se_op op_addA o_add (se_name (i := 3)) se_int)) sl_nil))))
    (sss_cons (ss_set (i := 7) S.nd (se_up (se_lst sa_nil)))
    (sss_cons (ss_for PassesOwn.never rfl (si_take (i := 1)) (sg_name (i := 8) S.nd) (sss_cons (ss_set (i := 9) S.nd (se_up (se_lst sa_nil)))
    (sss_cons (ss_for PassesOwn.never rfl (si_take (i := 8)) (sg_name (i := 10) S.nd) (sss_one (ss_if (st_up (st_w (sw_or (st_cmp op_isN o_isN (se_name (i := 10)) se_non) (sw_or1 (st_cmp op_le o_le (se_name (i := 10)) (se_name (i := 6))))))) (sss_cons (ss_app (r := 9) (se_frz (i := 10)))
    (sss_one (ss_if (st_up (st_w (sw_and (st_cmp op_notN o_notN (se_name (i := 10)) se_non) (sw_and1 (st_cmp op_lt o_lt (se_name (i := 10)) (se_name (i := 5))))))) (sss_one (ss_asg se_non (sg_sub (sp_name (r := 9)) (se_un un_neg o_neg se_int)))) sss_nil))) sss_nil)) (hw := fun i e => by cases e; decide))
    (sss_one (ss_app (r := 7) (se_up (se_callTy (call_tuple_of) o_tuple rfl g_tuple rfl (sa_cons (se_name (i := 9)) sa_nil))))))) (hw := fun i e => by cases e; decide))
    (sss_cons (ss_if (st_not (st_val (se_call (ws := []) (fn := fn__law_same) (ld := [none, none]) F__law_same (hr.mono (by omega)) rfl g__law_same k__law_same b__law_same (sl_val (se_call (ws := [3, 4, 5]) (fn := fn_part) (ld := [some 1, some 5, some 6]) F_part (hr.mono (by omega)) rfl g_part k_part b_part (sl_lend (i := 1) (sl_lend (i := 5) (sl_lend (i := 6) sl_nil)))) (sl_val (se_callTy (call_tuple_of) o_tuple rfl g_tuple rfl (sa_cons (se_lc rfl S.nd (own := [("row", 8)]) (L2.blkOk_by (by rfl)) (si_take (i := 7)) (fun s0 H0 C0 cl0 fp0 => (sg_name (i := 8) S.nd)) (fun s0 H0 C0 cl0 fp0 => (sts_one (st_up (st_cmp (op_neD hr.units) o_ne (se_name (i := 8)) (se_tup sa_nil))))) (fun s0 H0 C0 cl0 fp0 => (se_frz (i := 8)))) sa_nil)) sl_nil))))) (sss_one (ss_ret se_bl)) sss_nil)
    (sss_cons (ss_set (i := 11) S.nd (se_call (ws := [3, 4, 5]) (fn := fn_part) (ld := [some 1, none, some 6]) F_part (hr.mono (by omega)) rfl g_part k_part b_part (sl_lend (i := 1) (sl_val se_int (sl_lend (i := 6) sl_nil)))))
    (sss_cons (ss_set (i := 12) S.nd (se_call (ws := [3, 4, 5]) (fn := fn_part) (ld := [some 1, none, some 3]) F_part (hr.mono (by omega)) rfl g_part k_part b_part (sl_lend (i := 1) (sl_val (se_up (se_op op_addA o_add (se_name (i := 6)) se_int)) (sl_lend (i := 3) sl_nil)))))
    (sss_cons (ss_set (i := 13) S.nd (se_callB ((cr_max rfl)) o_maxL rfl g_max rfl (sa_cons (se_op op_addA o_add (se_up (se_lst (sa_cons se_int sa_nil))) (se_lc rfl S.nd (own := [("box", 4)]) (L2.blkOk_by (by rfl)) (si_seq (se_call (ws := [1, 2]) (fn := fn__law_boxes) (ld := [some 11]) F__law_boxes (hr.mono (by omega)) rfl g__law_boxes k__law_boxes b__law_boxes (sl_lend (i := 11) sl_nil))) (fun s0 H0 C0 cl0 fp0 => (sg_name (i := 4) S.nd)) (fun s0 H0 C0 cl0 fp0 => sts_nil) (fun s0 H0 C0 cl0 fp0 => (se_up (se_ix ix_seq o_ix (se_name (i := 4)) se_int))))) sa_nil)))
    (sss_cons (ss_set (i := 14) S.nd (se_call (ws := [2, 4, 5, 6]) (fn := fn__law_put) (ld := [some 1, none]) F__law_put (hr.mono (by omega)) rfl g__law_put k__law_put b__law_put (sl_lend (i := 1) (sl_val (se_lc rfl S.nd (own := [("k", 15), ("j", 16), ("letter", 17)]) (L2.blkOk_by (by rfl)) (si_take (i := 2)) (fun s0 H0 C0 cl0 fp0 => (sg_tup rfl (sgs_cons (sg_name (i := 15) S.nd) (sgs_cons (sg_name (i := 16) S.nd) (sgs_cons (sg_name (i := 17) S.nd) sgs_nil))))) (fun s0 H0 C0 cl0 fp0 => (sts_one (st_up (st_cmp op_gt o_gt (se_name (i := 17)) (se_name (i := 6)))))) (fun s0 H0 C0 cl0 fp0 => (se_tup (sa_cons (se_frz (i := 15)) (sa_cons (se_frz (i := 16)) (sa_cons (se_up (se_op op_addA o_add (se_name (i := 17)) (se_name (i := 13)))) sa_nil)))))) sl_nil))))
    (sss_cons (ss_if (st_cmp (op_neD hr.units) o_ne (se_lc rfl S.nd (own := [("row", 8)]) (L2.blkOk_by (by rfl)) (si_take (i := 11)) (fun s0 H0 C0 cl0 fp0 => (sg_name (i := 8) S.nd)) (fun s0 H0 C0 cl0 fp0 => sts_nil) (fun s0 H0 C0 cl0 fp0 => (se_up (se_callB (call_len) o_len rfl g_len rfl (sa_cons (se_name (i := 8)) sa_nil))))) (se_lc rfl S.nd (own := [("row", 8)]) (L2.blkOk_by (by rfl)) (si_take (i := 12)) (fun s0 H0 C0 cl0 fp0 => (sg_name (i := 8) S.nd)) (fun s0 H0 C0 cl0 fp0 => (sts_one (st_up (st_cmp op_isN o_isN (se_ix ix_seq o_ix (se_name (i := 8)) se_int) se_non)))) (fun s0 H0 C0 cl0 fp0 => (se_callB (call_len) o_len rfl g_len rfl (sa_cons (se_lc rfl S.nd (own := [("one", 10)]) (L2.blkOk_by (by rfl)) (si_take (i := 8)) (fun s0 H0 C0 cl0 fp0 => (sg_name (i := 10) S.nd)) (fun s0 H0 C0 cl0 fp0 => (sts_one (st_up (st_cmp op_isN o_isN (se_name (i := 10)) se_non)))) (fun s0 H0 C0 cl0 fp0 => se_int)) sa_nil))))) (sss_one (ss_set (i := 14) S.nd se_non)) sss_nil)
    (sss_one (ss_ret (se_and (se_call (ws := []) (fn := fn__law_same) (ld := [none, some 14]) F__law_same (hr.mono (by omega)) rfl g__law_same k__law_same b__law_same (sl_val (se_call (ws := [2, 3, 4, 5, 6]) (fn := fn_joined) (ld := [some 11, some 12]) F_joined (hr.mono (by omega)) rfl g_joined k_joined b_joined (sl_lend (i := 11) (sl_lend (i := 12) sl_nil))) (sl_lend (i := 14) sl_nil))) (se_one (se_cmp op_isN o_isN (se_call (ws := [2, 3, 4, 5, 6]) (fn := fn_joined) (ld := [none, none]) F_joined (hr.mono (by omega)) rfl g_joined k_joined b_joined (sl_val (se_tup (sa_cons (se_up (se_tup (sa_cons se_int sa_nil))) sa_nil)) (sl_val (se_tup (sa_cons (se_up (se_tup (sa_cons se_non (sa_cons se_non (sa_cons se_int sa_nil))))) sa_nil)) sl_nil))) se_non)))))))))))))))))
  exact d.mono (by decide)
theorem ok__law_parts (Y : Says K mg) : UF P w K mg base "_law_parts" 7 ["state", "tableau"] [2, 3, 5, 6, 7, 8, 9, 10, 11, 12, 13, 14] fn__law_parts := by
  obtain ⟨f, fd, gf, F⟩ := Y.def_ 35 (x := "_law_parts") (st := top 37) rfl rfl
  exact ⟨f, fd, gf, F.kp, F.bindsN fun _ _ _ _ _ _ us hl => match us, hl with | [_, _], _ => rfl, fk__law_parts Y F⟩
theorem sc__law_fault : FnScope ["value", "k", "j", "one", "near", "other", "more"] ["value"] (defScope (top 33)) := ⟨rfl, rfl, rfl, by decide +kernel, rfl, by decide +kernel, by decide +kernel⟩
theorem fk__law_fault (Y : Says K mg) {f : Addr} {fd : FuncData} (F : FnP K "_law_fault" (top 33) f fd) : FnOk P w K mg base CX0 1 f fd ["value"] (spOf K 1 [1, 2, 3, 4] fn__law_fault) := by
  have g_len := Y.free 40 (x := "len") rfl
  have g_range := Y.free 44 (x := "range") rfl
  have g_isinstance := Y.free 48 (x := "isinstance") rfl
  have g_int := Y.free 39 (x := "int") rfl
  have g_bool := Y.free 50 (x := "bool") rfl
  have g_tuple := Y.free 43 (x := "tuple") rfl
  have S := sc__law_fault
  refine fn_ok F S fun cdv A outer s H E hr => ?_
  have d : SSs (cxOf CX0 P w K mg base ["value", "k", "j", "one", "near", "other", "more"] "_law_fault" (defScope (top 33)) f cdv A outer s H E).nox (defBody (top 33)) _ m__law_fault := (sss_cons (ss_if (st_up (st_not (st_val (se_isa (T := Ty.tuple) rfl rfl g_isinstance rfl rfl g_tuple rfl (se_name (i := 0)))))) (sss_one (ss_ret (se_up (se_tup sa_nil)))) sss_nil)
    (sss_cons (ss_for PassesOwn.never rfl (si_range1 rfl g_range (se_up (se_callB (call_len) o_len rfl g_len rfl (sa_cons (se_name (i := 0)) sa_nil)))) (sg_name (i := 1) S.nd) (sss_cons (ss_if (st_up (st_w (sw_or (st_not (st_val (se_isa (T := Ty.tuple) rfl rfl g_isinstance rfl rfl g_tuple rfl (se_ix ix_seq o_ix (se_name (i := 0)) (se_name (i := 1)))))) (sw_or (st_cmp (op_eqD hr.units) o_eq (se_callB (call_len) o_len rfl g_len rfl (sa_cons (se_ix ix_seq o_ix (se_name (i := 0)) (se_name (i := 1))) sa_nil)) se_int) (sw_or1 (st_w (sw_and (st_cmp op_gt o_gt (se_name (i := 1)) se_int) (sw_and1 (st_cmp op_gt o_gt (se_callB (call_len) o_len rfl g_len rfl (sa_cons (se_ix ix_seq o_ix (se_name (i := 0)) (se_name (i := 1))) sa_nil)) (se_callB (call_len) o_len rfl g_len rfl (sa_cons (se_ix ix_seq o_ix (se_name (i := 0)) (se_op op_sub o_sub (se_name (i := 1)) se_int)) sa_nil))))))))))) (sss_one (ss_ret (se_tup (sa_cons (se_frz (i := 1)) sa_nil)))) sss_nil)
    (sss_one (ss_for PassesOwn.never rfl (si_range1 rfl g_range (se_up (se_callB (call_len) o_len rfl g_len rfl (sa_cons (se_ix ix_seq o_ix (se_name (i := 0)) (se_name (i := 1))) sa_nil)))) (sg_name (i := 2) S.nd) (sss_cons (ss_set (i := 3) S.nd (se_up (se_ix ix_seq o_ix (se_ix ix_seq o_ix (se_name (i := 0)) (se_name (i := 1))) (se_name (i := 2)))))
    (sss_cons (ss_set (i := 4) S.nd (se_up (se_lst sa_nil)))
    (sss_cons (ss_if (st_up (st_cmp op_gt o_gt (se_name (i := 2)) se_int)) (sss_one (ss_app (r := 4) (se_up (se_tup (sa_cons (se_ix ix_seq o_ix (se_ix ix_seq o_ix (se_name (i := 0)) (se_name (i := 1))) (se_op op_sub o_sub (se_name (i := 2)) se_int)) (sa_cons se_int sa_nil)))))) sss_nil)
    (sss_cons (ss_if (st_up (st_cmp op_gt o_gt (se_name (i := 1)) se_int)) (sss_one (ss_app (r := 4) (se_up (se_tup (sa_cons (se_ix ix_seq o_ix (se_ix ix_seq o_ix (se_name (i := 0)) (se_op op_sub o_sub (se_name (i := 1)) se_int)) (se_name (i := 2))) (sa_cons se_int sa_nil)))))) sss_nil)
    (sss_one (ss_if (st_up (st_cmp op_isN o_isN (se_name (i := 3)) se_non)) (sss_one (ss_if (st_cmp (op_neD hr.units) o_ne (se_lc rfl S.nd (own := [("other", 5), ("more", 6)]) (L2.blkOk_by (by rfl)) (si_take (i := 4)) (fun s0 H0 C0 cl0 fp0 => (sg_tup rfl (sgs_cons (sg_name (i := 5) S.nd) (sgs_cons (sg_name (i := 6) S.nd) sgs_nil)))) (fun s0 H0 C0 cl0 fp0 => (sts_one (st_up (st_cmp op_notN o_notN (se_name (i := 5)) se_non)))) (fun s0 H0 C0 cl0 fp0 => se_int)) (se_up (se_lst sa_nil))) (sss_one (ss_ret (se_tup (sa_cons (se_frz (i := 1)) (sa_cons (se_frz (i := 2)) sa_nil))))) sss_nil)) (sss_one (ss_if (st_up (st_w (sw_or (st_not (st_val (se_isa (T := Ty.int) rfl rfl g_isinstance rfl rfl g_int rfl (se_name (i := 3))))) (sw_or (st_val (se_isa (T := Ty.bool) rfl rfl g_isinstance rfl rfl g_bool rfl (se_name (i := 3)))) (sw_or1 (st_cmp op_lt o_lt (se_name (i := 3)) se_int)))))) (sss_one (ss_ret (se_tup (sa_cons (se_frz (i := 1)) (sa_cons (se_frz (i := 2)) sa_nil))))) (sss_one (ss_if (st_cmp (op_neD hr.units) o_ne (se_lc rfl S.nd (own := [("other", 5), ("more", 6)]) (L2.blkOk_by (by rfl)) (si_take (i := 4)) (fun s0 H0 C0 cl0 fp0 => (sg_tup rfl (sgs_cons (sg_name (i := 5) S.nd) (sgs_cons (sg_name (i := 6) S.nd) sgs_nil)))) (fun s0 H0 C0 cl0 fp0 => (sts_one (st_up (st_w (sw_and (st_cmp op_notN o_notN (se_name (i := 5)) se_non) (sw_and1 (st_cmp op_gt o_gt (se_op op_addA o_add (se_name (i := 5)) (se_name (i := 6))) (se_name (i := 3))))))))) (fun s0 H0 C0 cl0 fp0 => se_int)) (se_up (se_lst sa_nil))) (sss_one (ss_ret (se_tup (sa_cons (se_frz (i := 1)) (sa_cons (se_frz (i := 2)) sa_nil))))) sss_nil))))))))))))))
    (sss_one (ss_ret se_non))))
  exact d.mono (by decide)
theorem ok__law_fault (Y : Says K mg) : UF P w K mg base "_law_fault" 1 ["value"] [1, 2, 3, 4] fn__law_fault := by
  obtain ⟨f, fd, gf, F⟩ := Y.def_ 31 (x := "_law_fault") (st := top 33) rfl rfl
  exact ⟨f, fd, gf, F.kp, F.bindsN fun _ _ _ _ _ _ us hl => match us, hl with | [_], _ => rfl, fk__law_fault Y F⟩
theorem sc_is_letter : FnScope ["value"] ["value"] (defScope (top 1)) := ⟨rfl, rfl, rfl, by decide +kernel, rfl, by decide +kernel, by decide +kernel⟩
theorem fk_is_letter (Y : Says K mg) {f : Addr} {fd : FuncData} (F : FnP K "is_letter" (top 1) f fd) : FnOk P w K mg base CX0 1 f fd ["value"] (spOf K 1 [] fn_is_letter) := by
  have g_isinstance := Y.free 48 (x := "isinstance") rfl
  have g_int := Y.free 39 (x := "int") rfl
  have g_bool := Y.free 50 (x := "bool") rfl
  have S := sc_is_letter
  refine fn_ok F S fun cdv A outer s H E hr => ?_
  have d : SSs (cxOf CX0 P w K mg base ["value"] "is_letter" (defScope (top 1)) f cdv A outer s H E).nox (defBody (top 1)) _ m_is_letter := (sss_one (ss_ret (se_up (se_and (se_isa (T := Ty.int) rfl rfl g_isinstance rfl rfl g_int rfl (se_name (i := 0))) (se_and (se_not (se_isa (T := Ty.bool) rfl rfl g_isinstance rfl rfl g_bool rfl (se_name (i := 0)))) (se_one (se_cmp op_ge o_ge (se_name (i := 0)) se_int)))))))
  exact d.mono (by decide)
theorem ok_is_letter (Y : Says K mg) : UF P w K mg base "is_letter" 1 ["value"] [] fn_is_letter := by
  obtain ⟨f, fd, gf, F⟩ := Y.def_ 0 (x := "is_letter") (st := top 1) rfl rfl
  exact ⟨f, fd, gf, F.kp, F.bindsN fun _ _ _ _ _ _ us hl => match us, hl with | [_], _ => rfl, fk_is_letter Y F⟩
theorem sc_is_bad_box : FnScope ["above", "row", "column", "one", "upper"] ["above", "row", "column"] (defScope (top 5)) := ⟨rfl, rfl, rfl, by decide +kernel, rfl, by decide +kernel, by decide +kernel⟩
theorem fk_is_bad_box (Y : Says K mg) {f : Addr} {fd : FuncData} (F : FnP K "is_bad_box" (top 5) f fd) : FnOk P w K mg base CX0 2 f fd ["above", "row", "column"] (spOf K 3 [3, 4] fn_is_bad_box) := by
  obtain ⟨f_is_letter, fd_is_letter, g_is_letter, k_is_letter, b_is_letter, F_is_letter⟩ := ok_is_letter (P := P) (w := w) (base := base) Y
  have S := sc_is_bad_box
  refine fn_ok F S fun cdv A outer s H E hr => ?_
  have d : SSs (cxOf CX0 P w K mg base ["above", "row", "column", "one", "upper"] "is_bad_box" (defScope (top 5)) f cdv A outer s H E).nox (defBody (top 5)) _ m_is_bad_box := (sss_cons (ss_set (i := 3) S.nd (se_up (se_ix ix_seq o_ix (se_name (i := 1)) (se_name (i := 2)))))
    (sss_cons (ss_set (i := 4) S.nd (se_if (st_up (st_cmp op_isN o_isN (se_name (i := 0)) se_non)) se_non (se_up (se_ix ix_seq o_ix (se_name (i := 0)) (se_name (i := 2))))))
    (sss_cons (ss_if (st_up (st_cmp op_isN o_isN (se_name (i := 3)) se_non)) (sss_one (ss_ret (se_up (se_or (se_cmp op_notN o_notN (se_name (i := 4)) se_non) (se_one (se_and (se_cmp op_gt o_gt (se_name (i := 2)) se_int) (se_one (se_cmp op_notN o_notN (se_ix ix_seq o_ix (se_name (i := 1)) (se_op op_sub o_sub (se_name (i := 2)) se_int)) se_non)))))))) sss_nil)
    (sss_cons (ss_if (st_not (st_val (se_call (ws := []) (fn := fn_is_letter) (ld := [some 3]) F_is_letter (hr.mono (by omega)) rfl g_is_letter k_is_letter b_is_letter (sl_lend (i := 3) sl_nil)))) (sss_one (ss_ret se_bl)) sss_nil)
    (sss_cons (ss_if (st_up (st_w (sw_and (st_cmp op_gt o_gt (se_name (i := 2)) se_int) (sw_and (st_cmp op_notN o_notN (se_ix ix_seq o_ix (se_name (i := 1)) (se_op op_sub o_sub (se_name (i := 2)) se_int)) se_non) (sw_and1 (st_cmp op_gt o_gt (se_ix ix_seq o_ix (se_name (i := 1)) (se_op op_sub o_sub (se_name (i := 2)) se_int)) (se_name (i := 3)))))))) (sss_one (ss_ret se_bl)) sss_nil)
    (sss_one (ss_ret (se_up (se_and (se_cmp op_notN o_notN (se_name (i := 4)) se_non) (se_one (se_cmp op_ge o_ge (se_name (i := 4)) (se_name (i := 3)))))))))))))
  exact d.mono (by decide)
theorem ok_is_bad_box (Y : Says K mg) : UF P w K mg base "is_bad_box" 2 ["above", "row", "column"] [3, 4] fn_is_bad_box := by
  obtain ⟨f, fd, gf, F⟩ := Y.def_ 4 (x := "is_bad_box") (st := top 5) rfl rfl
  exact ⟨f, fd, gf, F.kp, F.bindsN fun _ _ _ _ _ _ us hl => match us, hl with | [_, _, _], _ => rfl, fk_is_bad_box Y F⟩
theorem sc_fault : FnScope ["value", "above", "k", "row", "column"] ["value"] (defScope (top 6)) := ⟨rfl, rfl, rfl, by decide +kernel, rfl, by decide +kernel, by decide +kernel⟩
theorem fk_fault (Y : Says K mg) {f : Addr} {fd : FuncData} (F : FnP K "fault" (top 6) f fd) : FnOk P w K mg base CX0 3 f fd ["value"] (spOf K 1 [1, 2, 3, 4] fn_fault) := by
  obtain ⟨f_is_bad_box, fd_is_bad_box, g_is_bad_box, k_is_bad_box, b_is_bad_box, F_is_bad_box⟩ := ok_is_bad_box (P := P) (w := w) (base := base) Y
  have g_len := Y.free 40 (x := "len") rfl
  have g_range := Y.free 44 (x := "range") rfl
  have g_isinstance := Y.free 48 (x := "isinstance") rfl
  have g_tuple := Y.free 43 (x := "tuple") rfl
  have S := sc_fault
  refine fn_ok F S fun cdv A outer s H E hr => ?_
  have d : SSs (cxOf CX0 P w K mg base ["value", "above", "k", "row", "column"] "fault" (defScope (top 6)) f cdv A outer s H E).nox (defBody (top 6)) _ m_fault := (sss_cons (ss_if (st_up (st_not (st_val (se_isa (T := Ty.tuple) rfl rfl g_isinstance rfl rfl g_tuple rfl (se_name (i := 0)))))) (sss_one (ss_ret (se_up (se_tup sa_nil)))) sss_nil)
    (sss_cons (ss_set (i := 1) S.nd se_non)
    (sss_cons (ss_for PassesOwn.never rfl (si_range1 rfl g_range (se_up (se_callB (call_len) o_len rfl g_len rfl (sa_cons (se_name (i := 0)) sa_nil)))) (sg_name (i := 2) S.nd) (sss_cons (ss_set (i := 3) S.nd (se_up (se_ix ix_seq o_ix (se_name (i := 0)) (se_name (i := 2)))))
    (sss_cons (ss_if (st_up (st_w (sw_or (st_not (st_val (se_isa (T := Ty.tuple) rfl rfl g_isinstance rfl rfl g_tuple rfl (se_name (i := 3))))) (sw_or (st_cmp (op_eqD hr.units) o_eq (se_callB (call_len) o_len rfl g_len rfl (sa_cons (se_name (i := 3)) sa_nil)) se_int) (sw_or1 (st_w (sw_and (st_cmp op_notN o_notN (se_name (i := 1)) se_non) (sw_and1 (st_cmp op_gt o_gt (se_callB (call_len) o_len rfl g_len rfl (sa_cons (se_name (i := 3)) sa_nil)) (se_callB (call_len) o_len rfl g_len rfl (sa_cons (se_name (i := 1)) sa_nil))))))))))) (sss_one (ss_ret (se_tup (sa_cons (se_frz (i := 2)) sa_nil)))) sss_nil)
    (sss_cons (ss_for PassesOwn.never rfl (si_range1 rfl g_range (se_up (se_callB (call_len) o_len rfl g_len rfl (sa_cons (se_name (i := 3)) sa_nil)))) (sg_name (i := 4) S.nd) (sss_one (ss_if (st_val (se_call (ws := [3, 4]) (fn := fn_is_bad_box) (ld := [some 1, some 3, some 4]) F_is_bad_box (hr.mono (by omega)) rfl g_is_bad_box k_is_bad_box b_is_bad_box (sl_lend (i := 1) (sl_lend (i := 3) (sl_lend (i := 4) sl_nil))))) (sss_one (ss_ret (se_tup (sa_cons (se_frz (i := 2)) (sa_cons (se_frz (i := 4)) sa_nil))))) sss_nil)))
    (sss_one (ss_set (i := 1) S.nd (se_frz (i := 3))))))))
    (sss_one (ss_ret se_non)))))
  exact d.mono (by decide)
theorem ok_fault (Y : Says K mg) : UF P w K mg base "fault" 3 ["value"] [1, 2, 3, 4] fn_fault := by
  obtain ⟨f, fd, gf, F⟩ := Y.def_ 5 (x := "fault") (st := top 6) rfl rfl
  exact ⟨f, fd, gf, F.kp, F.bindsN fun _ _ _ _ _ _ us hl => match us, hl with | [_], _ => rfl, fk_fault Y F⟩
theorem sc_from_row_word : FnScope ["word", "rows", "k", "found", "row"] ["word"] (defScope (top 13)) := ⟨rfl, rfl, rfl, by decide +kernel, rfl, by decide +kernel, by decide +kernel⟩
theorem fk_from_row_word (Y : Says K mg) {f : Addr} {fd : FuncData} (F : FnP K "from_row_word" (top 13) f fd) : FnOk P w K mg base CX0 4 f fd ["word"] (spOf K 1 [1, 2, 3] fn_from_row_word) := by
  obtain ⟨f_fault, fd_fault, g_fault, k_fault, b_fault, F_fault⟩ := ok_fault (P := P) (w := w) (base := base) Y
  have g_reversed := Y.free 51 (x := "reversed") rfl
  have g_tuple := Y.free 43 (x := "tuple") rfl
  have g_len := Y.free 40 (x := "len") rfl
  have g_range := Y.free 44 (x := "range") rfl
  have S := sc_from_row_word
  refine fn_ok F S fun cdv A outer s H E hr => ?_
  have d : SSs (cxOf CX0 P w K mg base ["word", "rows", "k", "found", "row"] "from_row_word" (defScope (top 13)) f cdv A outer s H E).nox (defBody (top 13)) _ m_from_row_word := (sss_cons (ss_set (i := 1) S.nd (se_up (se_lst sa_nil)))
    (sss_cons (ss_for PassesOwn.never rfl (si_range1 rfl g_range (se_up (se_callB (call_len) o_len rfl g_len rfl (sa_cons (se_name (i := 0)) sa_nil)))) (sg_name (i := 2) S.nd) (sss_one (ss_if (st_up (st_w (sw_and (st_cmp op_gt o_gt (se_name (i := 2)) se_int) (sw_and1 (st_cmp op_le o_le (se_ix ix_seq o_ix (se_name (i := 0)) (se_op op_sub o_sub (se_name (i := 2)) se_int)) (se_ix ix_seq o_ix (se_name (i := 0)) (se_name (i := 2)))))))) (sss_one (ss_appP (sp_ix (sp_name (r := 1)) (se_un un_neg o_neg se_int)) (se_ix ix_seq o_ix (se_name (i := 0)) (se_name (i := 2))))) (sss_one (ss_app (r := 1) (se_up (se_lst (sa_cons (se_ix ix_seq o_ix (se_name (i := 0)) (se_name (i := 2))) sa_nil))))))))
    (sss_cons (ss_set (i := 3) S.nd (se_callTy (call_tuple_of) o_tuple rfl g_tuple rfl (sa_cons (se_lc rfl S.nd (own := [("row", 4)]) (L2.blkOk_by (by rfl)) (si_rev rfl g_reversed (se_frz (i := 1))) (fun s0 H0 C0 cl0 fp0 => (sg_name (i := 4) S.nd)) (fun s0 H0 C0 cl0 fp0 => sts_nil) (fun s0 H0 C0 cl0 fp0 => (se_up (se_callTy (call_tuple_of) o_tuple rfl g_tuple rfl (sa_cons (se_name (i := 4)) sa_nil))))) sa_nil)))
    (sss_one (ss_ret (se_if (st_cmp op_isN o_isN (se_call (ws := [1, 2, 3, 4]) (fn := fn_fault) (ld := [some 3]) F_fault (hr.mono (by omega)) rfl g_fault k_fault b_fault (sl_lend (i := 3) sl_nil)) se_non) (se_frz (i := 3)) se_non))))))
  exact d.mono (by decide)
theorem ok_from_row_word (Y : Says K mg) : UF P w K mg base "from_row_word" 4 ["word"] [1, 2, 3] fn_from_row_word := by
  obtain ⟨f, fd, gf, F⟩ := Y.def_ 12 (x := "from_row_word") (st := top 13) rfl rfl
  exact ⟨f, fd, gf, F.kp, F.bindsN fun _ _ _ _ _ _ us hl => match us, hl with | [_], _ => rfl, fk_from_row_word Y F⟩
theorem sc__law_from_word : FnScope ["state", "tableau", "word", "k", "rows", "due", "row"] ["state", "tableau"] (defScope (top 38)) := ⟨rfl, rfl, rfl, by decide +kernel, rfl, by decide +kernel, by decide +kernel⟩
theorem fk__law_from_word (Y : Says K mg) {f : Addr} {fd : FuncData} (F : FnP K "_law_from_word" (top 38) f fd) : FnOk P w K mg base CX0 7 f fd ["state", "tableau"] (spOf K 2 [2, 3, 4, 5] fn__law_from_word) := by
  obtain ⟨f__law_same, fd__law_same, g__law_same, k__law_same, b__law_same, F__law_same⟩ := ok__law_same (P := P) (w := w) (base := base) Y
  obtain ⟨f_from_row_word, fd_from_row_word, g_from_row_word, k_from_row_word, b_from_row_word, F_from_row_word⟩ := ok_from_row_word (P := P) (w := w) (base := base) Y
  obtain ⟨f__law_fault, fd__law_fault, g__law_fault, k__law_fault, b__law_fault, F__law_fault⟩ := ok__law_fault (P := P) (w := w) (base := base) Y
  obtain ⟨f__law_pick, fd__law_pick, g__law_pick, k__law_pick, b__law_pick, F__law_pick⟩ := ok__law_pick (P := P) (w := w) (base := base) Y
  obtain ⟨f_row_word, fd_row_word, g_row_word, k_row_word, b_row_word, F_row_word⟩ := ok_row_word (P := P) (w := w) (base := base) Y
  have g_tuple := Y.free 43 (x := "tuple") rfl
  have g_len := Y.free 40 (x := "len") rfl
  have g_range := Y.free 44 (x := "range") rfl
  have S := sc__law_from_word
  refine fn_ok F S fun cdv A outer s H E hr => ?_
  have d : SSs (cxOf CX0 P w K mg base ["state", "tableau", "word", "k", "rows", "due", "row"] "_law_from_word" (defScope (top 38)) f cdv A outer s H E).nox (defBody (top 38)) _ m__law_from_word := (sss_cons (ss_set (i := 2) S.nd (se_call (ws := [1, 2]) (fn := fn_row_word) (ld := [some 1]) F_row_word (hr.mono (by omega)) rfl g_row_word k_row_word b_row_word (sl_lend (i := 1) sl_nil)))
    (sss_cons (ss_if (st_cmp (op_eqD hr.units) o_eq (se_call (ws := [2, 3]) (fn := fn__law_pick) (ld := [some 0, none]) F__law_pick (hr.mono (by omega)) rfl g__law_pick k__law_pick b__law_pick (sl_lend (i := 0) (sl_val se_int sl_nil))) se_int) (sss_one (ss_set (i := 2) S.nd (se_callTy (call_tuple_of) o_tuple rfl g_tuple rfl (sa_cons (se_lc rfl S.nd (own := [("k", 3)]) (L2.blkOk_by (by rfl)) (si_range1 rfl g_range (se_call (ws := [2, 3]) (fn := fn__law_pick) (ld := [some 0, none]) F__law_pick (hr.mono (by omega)) rfl g__law_pick k__law_pick b__law_pick (sl_lend (i := 0) (sl_val se_int sl_nil)))) (fun s0 H0 C0 cl0 fp0 => (sg_name (i := 3) S.nd)) (fun s0 H0 C0 cl0 fp0 => sts_nil) (fun s0 H0 C0 cl0 fp0 => (se_op op_addA o_add se_int (se_call (ws := [2, 3]) (fn := fn__law_pick) (ld := [some 0, none]) F__law_pick (hr.mono (by omega)) rfl g__law_pick k__law_pick b__law_pick (sl_lend (i := 0) (sl_val se_int sl_nil)))))) sa_nil)))) sss_nil)
    (sss_cons (ss_set (i := 4) S.nd (se_up (se_lst sa_nil)))
    (sss_cons (ss_for PassesOwn.never rfl (si_range1 rfl g_range (se_up (se_callB (call_len) o_len rfl g_len rfl (sa_cons (se_name (i := 2)) sa_nil)))) (sg_name (i := 3) S.nd) (sss_cons (ss_if (st_up (st_w (sw_or (st_cmp (op_eqD hr.units) o_eq (se_name (i := 3)) se_int) (sw_or1 (st_cmp op_gt o_gt (se_ix ix_seq o_ix (se_name (i := 2)) (se_op op_sub o_sub (se_name (i := 3)) se_int)) (se_ix ix_seq o_ix (se_name (i := 2)) (se_name (i := 3)))))))) (sss_one (ss_set (i := 4) S.nd (se_op op_addA o_add (se_lst (sa_cons (se_up (se_lst sa_nil)) sa_nil)) (se_move (i := 4))))) sss_nil)
    (sss_one (ss_appP (sp_ix (sp_name (r := 4)) se_int) (se_ix ix_seq o_ix (se_name (i := 2)) (se_name (i := 3)))))))
    (sss_cons (ss_set (i := 5) S.nd (se_callTy (call_tuple_of) o_tuple rfl g_tuple rfl (sa_cons (se_lc rfl S.nd (own := [("row", 6)]) (L2.blkOk_by (by rfl)) (si_take (i := 4)) (fun s0 H0 C0 cl0 fp0 => (sg_name (i := 6) S.nd)) (fun s0 H0 C0 cl0 fp0 => sts_nil) (fun s0 H0 C0 cl0 fp0 => (se_up (se_callTy (call_tuple_of) o_tuple rfl g_tuple rfl (sa_cons (se_name (i := 6)) sa_nil))))) sa_nil)))
    (sss_cons (ss_if (st_cmp op_notN o_notN (se_call (ws := [1, 2, 3, 4]) (fn := fn__law_fault) (ld := [some 5]) F__law_fault (hr.mono (by omega)) rfl g__law_fault k__law_fault b__law_fault (sl_lend (i := 5) sl_nil)) se_non) (sss_one (ss_set (i := 5) S.nd se_non)) sss_nil)
    (sss_one (ss_ret (se_call (ws := []) (fn := fn__law_same) (ld := [none, some 5]) F__law_same (hr.mono (by omega)) rfl g__law_same k__law_same b__law_same (sl_val (se_call (ws := [1, 2, 3]) (fn := fn_from_row_word) (ld := [some 2]) F_from_row_word (hr.mono (by omega)) rfl g_from_row_word k_from_row_word b_from_row_word (sl_lend (i := 2) sl_nil)) (sl_lend (i := 5) sl_nil)))))))))))
  exact d.mono (by decide)
theorem ok__law_from_word (Y : Says K mg) : UF P w K mg base "_law_from_word" 7 ["state", "tableau"] [2, 3, 4, 5] fn__law_from_word := by
  obtain ⟨f, fd, gf, F⟩ := Y.def_ 36 (x := "_law_from_word") (st := top 38) rfl rfl
  exact ⟨f, fd, gf, F.kp, F.bindsN fun _ _ _ _ _ _ us hl => match us, hl with | [_, _], _ => rfl, fk__law_from_word Y F⟩
theorem sc__law_counts : FnScope ["word", "one", "letter"] ["word"] (defScope (top 35)) := ⟨rfl, rfl, rfl, by decide +kernel, rfl, by decide +kernel, by decide +kernel⟩
theorem fk__law_counts (Y : Says K mg) {f : Addr} {fd : FuncData} (F : FnP K "_law_counts" (top 35) f fd) : FnOk P w K mg base CX0 1 f fd ["word"] (spOf K 1 [] fn__law_counts) := by
  have g_list := Y.free 46 (x := "list") rfl
  have g_max := Y.free 45 (x := "max") rfl
  have g_range := Y.free 44 (x := "range") rfl
  have g_len := Y.free 40 (x := "len") rfl
  have g_tuple := Y.free 43 (x := "tuple") rfl
  have S := sc__law_counts
  refine fn_ok F S fun cdv A outer s H E hr => ?_
  have d : SSs (cxOf CX0 P w K mg base ["word", "one", "letter"] "_law_counts" (defScope (top 35)) f cdv A outer s H E).nox (defBody (top 35)) _ m__law_counts := (sss_one (ss_ret (se_callTy (call_tuple_of) o_tuple rfl g_tuple rfl (sa_cons (se_lc rfl S.nd (own := [("letter", 2)]) (L2.blkOk_by (by rfl)) (si_range2 rfl g_range se_int (se_up (se_op op_addA o_add (se_callB ((cr_max rfl)) o_maxL rfl g_max rfl (sa_cons (se_op op_addA o_add (se_lst (sa_cons se_int sa_nil)) (se_callTy (call_list_of) o_list rfl g_list rfl (sa_cons (se_name (i := 0)) sa_nil))) sa_nil)) se_int))) (fun s0 H0 C0 cl0 fp0 => (sg_name (i := 2) S.nd)) (fun s0 H0 C0 cl0 fp0 => sts_nil) (fun s0 H0 C0 cl0 fp0 => (se_callB (call_len) o_len rfl g_len rfl (sa_cons (se_lc rfl S.nd (own := [("one", 1)]) (L2.blkOk_by (by rfl)) (si_take (i := 0)) (fun s0 H0 C0 cl0 fp0 => (sg_name (i := 1) S.nd)) (fun s0 H0 C0 cl0 fp0 => (sts_one (st_up (st_cmp (op_eqD hr.units) o_eq (se_name (i := 1)) (se_name (i := 2)))))) (fun s0 H0 C0 cl0 fp0 => se_int)) sa_nil)))) sa_nil))))
  exact d.mono (by decide)
theorem ok__law_counts (Y : Says K mg) : UF P w K mg base "_law_counts" 1 ["word"] [] fn__law_counts := by
  obtain ⟨f, fd, gf, F⟩ := Y.def_ 33 (x := "_law_counts") (st := top 35) rfl rfl
  exact ⟨f, fd, gf, F.kp, F.bindsN fun _ _ _ _ _ _ us hl => match us, hl with | [_], _ => rfl, fk__law_counts Y F⟩
theorem sc_filled : FnScope ["tableau", "letters", "rows", "at", "row", "many"] ["tableau", "letters"] (defScope (top 15)) := ⟨rfl, rfl, rfl, by decide +kernel, rfl, by decide +kernel, by decide +kernel⟩
theorem fk_filled (Y : Says K mg) {f : Addr} {fd : FuncData} (F : FnP K "filled" (top 15) f fd) : FnOk P w K mg base CX0 2 f fd ["tableau", "letters"] (spOf K 2 [2, 3, 4, 5] fn_filled) := by
  obtain ⟨f_left_out, fd_left_out, g_left_out, k_left_out, b_left_out, F_left_out⟩ := ok_left_out (P := P) (w := w) (base := base) Y
  have g_tuple := Y.free 43 (x := "tuple") rfl
  have g_len := Y.free 40 (x := "len") rfl
  have S := sc_filled
  refine fn_ok F S fun cdv A outer s H E hr => ?_
  have d : SSs (cxOf CX0 P w K mg base ["tableau", "letters", "rows", "at", "row", "many"] "filled" (defScope (top 15)) f cdv A outer s H E).nox (defBody (top 15)) _ m_filled := (sss_cons (ss_set (i := 2) S.nd (se_up (se_lst sa_nil)))
    (sss_cons (ss_set (i := 3) S.nd (se_up (se_callB (call_len) o_len rfl g_len rfl (sa_cons (se_name (i := 1)) sa_nil))))
    (sss_cons (ss_for PassesOwn.never rfl (si_take (i := 0)) (sg_name (i := 4) S.nd) (sss_cons (ss_set (i := 5) S.nd (se_op op_sub o_sub (se_up (se_callB (call_len) o_len rfl g_len rfl (sa_cons (se_name (i := 4)) sa_nil))) (se_call (ws := [1]) (fn := fn_left_out) (ld := [some 4]) F_left_out (hr.mono (by omega)) rfl g_left_out k_left_out b_left_out (sl_lend (i := 4) sl_nil))))
    (sss_cons (ss_app (r := 2) (se_op op_addA o_add (se_slice sl_all o_sl (se_frz (i := 4)) so_none (so_some (se_call (ws := [1]) (fn := fn_left_out) (ld := [some 4]) F_left_out (hr.mono (by omega)) rfl g_left_out k_left_out b_left_out (sl_lend (i := 4) sl_nil)))) (se_up (se_callTy (call_tuple_of) o_tuple rfl g_tuple rfl (sa_cons (se_slice sl_all o_sl (se_name (i := 1)) (so_some (se_op op_sub o_sub (se_name (i := 3)) (se_name (i := 5)))) (so_some (se_name (i := 3)))) sa_nil)))))
    (sss_one (ss_aug (i := 3) S.nd (se_frz (i := 5)) ip_sub)))) (hw := fun i e => by cases e; decide))
    (sss_one (ss_ret (se_up (se_callTy (call_tuple_of) o_tuple rfl g_tuple rfl (sa_cons (se_name (i := 2)) sa_nil))))))))
  exact d.mono (by decide)
theorem ok_filled (Y : Says K mg) : UF P w K mg base "filled" 2 ["tableau", "letters"] [2, 3, 4, 5] fn_filled := by
  obtain ⟨f, fd, gf, F⟩ := Y.def_ 14 (x := "filled") (st := top 15) rfl rfl
  exact ⟨f, fd, gf, F.kp, F.bindsN fun _ _ _ _ _ _ us hl => match us, hl with | [_, _], _ => rfl, fk_filled Y F⟩
theorem sc_ranks : FnScope ["word", "order", "k", "found", "number"] ["word"] (defScope (top 14)) := ⟨rfl, rfl, rfl, by decide +kernel, rfl, by decide +kernel, by decide +kernel⟩
theorem fk_ranks (Y : Says K mg) {f : Addr} {fd : FuncData} (F : FnP K "ranks" (top 14) f fd) : FnOk P w K mg base CX0 1 f fd ["word"] (spOf K 1 [1, 3, 4] fn_ranks) := by
  have g_tuple := Y.free 43 (x := "tuple") rfl
  have g_len := Y.free 40 (x := "len") rfl
  have g_range := Y.free 44 (x := "range") rfl
  have g_sorted := Y.free 42 (x := "sorted") rfl
  have S := sc_ranks
  refine fn_ok F S fun cdv A outer s H E hr => ?_
  have d : SSs (cxOf CX0 P w K mg base ["word", "order", "k", "found", "number"] "ranks" (defScope (top 14)) f cdv A outer s H E).nox (defBody (top 14)) _ m_ranks := (sss_cons (ss_set (i := 1) S.nd (se_callB (cr_sortA hr.units) o_sort rfl g_sorted rfl (sa_cons (se_lc rfl S.nd (own := [("k", 2)]) (L2.blkOk_by (by rfl)) (si_range1 rfl g_range (se_up (se_callB (call_len) o_len rfl g_len rfl (sa_cons (se_name (i := 0)) sa_nil)))) (fun s0 H0 C0 cl0 fp0 => (sg_name (i := 2) S.nd)) (fun s0 H0 C0 cl0 fp0 => sts_nil) (fun s0 H0 C0 cl0 fp0 => (se_tup (sa_cons (se_up (se_ix ix_seq o_ix (se_name (i := 0)) (se_name (i := 2)))) (sa_cons (se_frz (i := 2)) sa_nil))))) sa_nil)))
    (sss_cons (ss_set (i := 3) S.nd (se_up (se_op op_mulA o_mul (se_lst (sa_cons se_int sa_nil)) (se_callB (call_len) o_len rfl g_len rfl (sa_cons (se_name (i := 0)) sa_nil)))))
    (sss_cons (ss_for PassesOwn.never rfl (si_range1 rfl g_range (se_up (se_callB (call_len) o_len rfl g_len rfl (sa_cons (se_name (i := 1)) sa_nil)))) (sg_name (i := 4) S.nd) (sss_one (ss_asg (se_up (se_op op_addA o_add (se_name (i := 4)) se_int)) (sg_sub (sp_name (r := 3)) (se_ix ix_seq o_ix (se_ix ix_seq o_ix (se_name (i := 1)) (se_name (i := 4))) se_int)))))
    (sss_one (ss_ret (se_up (se_callTy (call_tuple_of) o_tuple rfl g_tuple rfl (sa_cons (se_name (i := 3)) sa_nil))))))))
  exact d.mono (by decide)
theorem ok_ranks (Y : Says K mg) : UF P w K mg base "ranks" 1 ["word"] [1, 3, 4] fn_ranks := by
  obtain ⟨f, fd, gf, F⟩ := Y.def_ 13 (x := "ranks") (st := top 14) rfl rfl
  exact ⟨f, fd, gf, F.kp, F.bindsN fun _ _ _ _ _ _ us hl => match us, hl with | [_], _ => rfl, fk_ranks Y F⟩
theorem sc_standardized : FnScope ["tableau"] ["tableau"] (defScope (top 16)) := ⟨rfl, rfl, rfl, by decide +kernel, rfl, by decide +kernel, by decide +kernel⟩
theorem fk_standardized (Y : Says K mg) {f : Addr} {fd : FuncData} (F : FnP K "standardized" (top 16) f fd) : FnOk P w K mg base CX0 3 f fd ["tableau"] (spOf K 1 [] fn_standardized) := by
  obtain ⟨f_filled, fd_filled, g_filled, k_filled, b_filled, F_filled⟩ := ok_filled (P := P) (w := w) (base := base) Y
  obtain ⟨f_ranks, fd_ranks, g_ranks, k_ranks, b_ranks, F_ranks⟩ := ok_ranks (P := P) (w := w) (base := base) Y
  obtain ⟨f_row_word, fd_row_word, g_row_word, k_row_word, b_row_word, F_row_word⟩ := ok_row_word (P := P) (w := w) (base := base) Y
  have S := sc_standardized
  refine fn_ok F S fun cdv A outer s H E hr => ?_
  have d : SSs (cxOf CX0 P w K mg base ["tableau"] "standardized" (defScope (top 16)) f cdv A outer s H E).nox (defBody (top 16)) _ m_standardized := (sss_one (ss_ret (se_call (ws := [2, 3, 4, 5]) (fn := fn_filled) (ld := [some 0, none]) F_filled (hr.mono (by omega)) rfl g_filled k_filled b_filled (sl_late (i := 0) (sl_val (se_call (ws := [1, 3, 4]) (fn := fn_ranks) (ld := [none]) F_ranks (hr.mono (by omega)) rfl g_ranks k_ranks b_ranks (sl_val (se_call (ws := [1, 2]) (fn := fn_row_word) (ld := [some 0]) F_row_word (hr.mono (by omega)) rfl g_row_word k_row_word b_row_word (sl_lend (i := 0) sl_nil)) sl_nil)) sl_nil)))))
  exact d.mono (by decide)
theorem ok_standardized (Y : Says K mg) : UF P w K mg base "standardized" 3 ["tableau"] [] fn_standardized := by
  obtain ⟨f, fd, gf, F⟩ := Y.def_ 15 (x := "standardized") (st := top 16) rfl rfl
  exact ⟨f, fd, gf, F.kp, F.bindsN fun _ _ _ _ _ _ us hl => match us, hl with | [_], _ => rfl, fk_standardized Y F⟩
theorem sc_with_content : FnScope ["standard", "counts", "letters", "k", "word", "found", "one"] ["standard", "counts"] (defScope (top 17)) := ⟨rfl, rfl, rfl, by decide +kernel, rfl, by decide +kernel, by decide +kernel⟩
theorem fk_with_content (Y : Says K mg) {f : Addr} {fd : FuncData} (F : FnP K "with_content" (top 17) f fd) : FnOk P w K mg base CX0 4 f fd ["standard", "counts"] (spOf K 2 [2, 3, 4, 5] fn_with_content) := by
  obtain ⟨f_fault, fd_fault, g_fault, k_fault, b_fault, F_fault⟩ := ok_fault (P := P) (w := w) (base := base) Y
  obtain ⟨f_standardized, fd_standardized, g_standardized, k_standardized, b_standardized, F_standardized⟩ := ok_standardized (P := P) (w := w) (base := base) Y
  obtain ⟨f_filled, fd_filled, g_filled, k_filled, b_filled, F_filled⟩ := ok_filled (P := P) (w := w) (base := base) Y
  obtain ⟨f_row_word, fd_row_word, g_row_word, k_row_word, b_row_word, F_row_word⟩ := ok_row_word (P := P) (w := w) (base := base) Y
  have g_len := Y.free 40 (x := "len") rfl
  have g_range := Y.free 44 (x := "range") rfl
  have S := sc_with_content
  refine fn_ok F S fun cdv A outer s H E hr => ?_
  have d : SSs (cxOf CX0 P w K mg base ["standard", "counts", "letters", "k", "word", "found", "one"] "with_content" (defScope (top 17)) f cdv A outer s H E).nox (defBody (top 17)) _ m_with_content := (sss_cons (ss_set (i := 2) S.nd (se_up (se_lst sa_nil)))
    (sss_cons (ss_for PassesOwn.never rfl (si_range1 rfl g_range (se_up (se_callB (call_len) o_len rfl g_len rfl (sa_cons (se_name (i := 1)) sa_nil)))) (sg_name (i := 3) S.nd) (sss_one (ss_set (i := 2) S.nd (se_up (se_op op_addA o_add (se_name (i := 2)) (se_op op_mulA o_mul (se_lst (sa_cons (se_op op_addA o_add (se_name (i := 3)) se_int) sa_nil)) (se_ix ix_seq o_ix (se_name (i := 1)) (se_name (i := 3)))))))))
    (sss_cons (ss_set (i := 4) S.nd (se_call (ws := [1, 2]) (fn := fn_row_word) (ld := [some 0]) F_row_word (hr.mono (by omega)) rfl g_row_word k_row_word b_row_word (sl_lend (i := 0) sl_nil)))
    (sss_cons (ss_if (st_up (st_cmp (op_neD hr.units) o_ne (se_callB (call_len) o_len rfl g_len rfl (sa_cons (se_name (i := 2)) sa_nil)) (se_callB (call_len) o_len rfl g_len rfl (sa_cons (se_name (i := 4)) sa_nil)))) (sss_one (ss_ret se_non)) sss_nil)
    (sss_cons (ss_set (i := 5) S.nd (se_call (ws := [2, 3, 4, 5]) (fn := fn_filled) (ld := [some 0, none]) F_filled (hr.mono (by omega)) rfl g_filled k_filled b_filled (sl_lend (i := 0) (sl_val (se_lc rfl S.nd (own := [("one", 6)]) (L2.blkOk_by (by rfl)) (si_take (i := 4)) (fun s0 H0 C0 cl0 fp0 => (sg_name (i := 6) S.nd)) (fun s0 H0 C0 cl0 fp0 => sts_nil) (fun s0 H0 C0 cl0 fp0 => (se_up (se_ix ix_seq o_ix (se_name (i := 2)) (se_op op_sub o_sub (se_name (i := 6)) se_int))))) sl_nil))))
    (sss_one (ss_ret (se_if (st_w (sw_and (st_cmp op_isN o_isN (se_call (ws := [1, 2, 3, 4]) (fn := fn_fault) (ld := [some 5]) F_fault (hr.mono (by omega)) rfl g_fault k_fault b_fault (sl_lend (i := 5) sl_nil)) se_non) (sw_and1 (st_cmp (op_eqD hr.units) o_eq (se_call (ws := []) (fn := fn_standardized) (ld := [some 5]) F_standardized (hr.mono (by omega)) rfl g_standardized k_standardized b_standardized (sl_lend (i := 5) sl_nil)) (se_frz (i := 0)))))) (se_frz (i := 5)) se_non))))))))
  exact d.mono (by decide)
theorem ok_with_content (Y : Says K mg) : UF P w K mg base "with_content" 4 ["standard", "counts"] [2, 3, 4, 5] fn_with_content := by
  obtain ⟨f, fd, gf, F⟩ := Y.def_ 16 (x := "with_content") (st := top 17) rfl rfl
  exact ⟨f, fd, gf, F.kp, F.bindsN fun _ _ _ _ _ _ us hl => match us, hl with | [_, _], _ => rfl, fk_with_content Y F⟩
theorem sc__law_contents : FnScope ["state", "tableau", "standard", "word", "counts", "at", "letters", "k", "j", "due", "boxes", "one"] ["state", "tableau"] (defScope (top 39)) := ⟨rfl, rfl, rfl, by decide +kernel, rfl, by decide +kernel, by decide +kernel⟩
theorem fk__law_contents (Y : Says K mg) {f : Addr} {fd : FuncData} (F : FnP K "_law_contents" (top 39) f fd) : FnOk P w K mg base CX0 7 f fd ["state", "tableau"] (spOf K 2 [2, 3, 4, 5, 6, 7, 9, 10] fn__law_contents) := by
  obtain ⟨f__law_same, fd__law_same, g__law_same, k__law_same, b__law_same, F__law_same⟩ := ok__law_same (P := P) (w := w) (base := base) Y
  obtain ⟨f_with_content, fd_with_content, g_with_content, k_with_content, b_with_content, F_with_content⟩ := ok_with_content (P := P) (w := w) (base := base) Y
  obtain ⟨f__law_fault, fd__law_fault, g__law_fault, k__law_fault, b__law_fault, F__law_fault⟩ := ok__law_fault (P := P) (w := w) (base := base) Y
  obtain ⟨f__law_ranked, fd__law_ranked, g__law_ranked, k__law_ranked, b__law_ranked, F__law_ranked⟩ := ok__law_ranked (P := P) (w := w) (base := base) Y
  obtain ⟨f__law_put, fd__law_put, g__law_put, k__law_put, b__law_put, F__law_put⟩ := ok__law_put (P := P) (w := w) (base := base) Y
  obtain ⟨f__law_boxes, fd__law_boxes, g__law_boxes, k__law_boxes, b__law_boxes, F__law_boxes⟩ := ok__law_boxes (P := P) (w := w) (base := base) Y
  obtain ⟨f__law_pick, fd__law_pick, g__law_pick, k__law_pick, b__law_pick, F__law_pick⟩ := ok__law_pick (P := P) (w := w) (base := base) Y
  obtain ⟨f__law_counts, fd__law_counts, g__law_counts, k__law_counts, b__law_counts, F__law_counts⟩ := ok__law_counts (P := P) (w := w) (base := base) Y
  obtain ⟨f__law_word, fd__law_word, g__law_word, k__law_word, b__law_word, F__law_word⟩ := ok__law_word (P := P) (w := w) (base := base) Y
  have g_tuple := Y.free 43 (x := "tuple") rfl
  have g_len := Y.free 40 (x := "len") rfl
  have g_range := Y.free 44 (x := "range") rfl
  have g_list := Y.free 46 (x := "list") rfl
  have S := sc__law_contents
  refine fn_ok F S fun cdv A outer s H E hr => ?_
  have d : SSs (cxOf CX0 P w K mg base ["state", "tableau", "standard", "word", "counts", "at", "letters", "k", "j", "due", "boxes", "one"] "_law_contents" (defScope (top 39)) f cdv A outer s H E).nox (defBody (top 39)) _ m__law_contents := (sss_cons (ss_set (i := 2) S.nd (se_call (ws := [1, 5]) (fn := fn__law_ranked) (ld := [some 1]) F__law_ranked (hr.mono (by omega)) rfl g__law_ranked k__law_ranked b__law_ranked (sl_lend (i := 1) sl_nil)))
    (sss_cons (ss_set (i := 3) S.nd (se_call (ws := [2, 3, 4, 5]) (fn := fn__law_word) (ld := [none, none]) F__law_word (hr.mono (by omega)) rfl g__law_word k__law_word b__law_word (sl_val (se_call (ws := [1, 2]) (fn := fn__law_boxes) (ld := [some 1]) F__law_boxes (hr.mono (by omega)) rfl g__law_boxes k__law_boxes b__law_boxes (sl_lend (i := 1) sl_nil)) (sl_val se_bl sl_nil))))
    (sss_cons (ss_set (i := 4) S.nd (se_callTy (call_list_of) o_list rfl g_list rfl (sa_cons (se_call (ws := []) (fn := fn__law_counts) (ld := [some 3]) F__law_counts (hr.mono (by omega)) rfl g__law_counts k__law_counts b__law_counts (sl_lend (i := 3) sl_nil)) sa_nil)))
    (sss_cons (ss_if (st_not (st_val (se_call (ws := []) (fn := fn__law_same) (ld := [none, some 1]) F__law_same (hr.mono (by omega)) rfl g__law_same k__law_same b__law_same (sl_val (se_call (ws := [2, 3, 4, 5]) (fn := fn_with_content) (ld := [some 2, none]) F_with_content (hr.mono (by omega)) rfl g_with_content k_with_content b_with_content (sl_lend (i := 2) (sl_val (se_up (se_callTy (call_tuple_of) o_tuple rfl g_tuple rfl (sa_cons (se_name (i := 4)) sa_nil))) sl_nil))) (sl_lend (i := 1) sl_nil))))) (sss_one (ss_ret se_bl)) sss_nil)
    (sss_cons (ss_if (st_up (st_cmp op_gt o_gt (se_callB (call_len) o_len rfl g_len rfl (sa_cons (se_name (i := 4)) sa_nil)) se_int)) (sss_cons (ss_set (i := 5) S.nd (se_call (ws := [2, 3]) (fn := fn__law_pick) (ld := [some 0, none]) F__law_pick (hr.mono (by omega)) rfl g__law_pick k__law_pick b__law_pick (sl_lend (i := 0) (sl_val (se_up (se_op op_sub o_sub (se_callB (call_len) o_len rfl g_len rfl (sa_cons (se_name (i := 4)) sa_nil)) se_int)) sl_nil))))
    (sss_one (ss_asg (se_tup (sa_cons (se_op op_addA o_add (se_up (se_ix ix_seq o_ix (se_name (i := 4)) (se_op op_addA o_add (se_name (i := 5)) se_int))) (se_call (ws := [2, 3]) (fn := fn__law_pick) (ld := [some 0, none]) F__law_pick (hr.mono (by omega)) rfl g__law_pick k__law_pick b__law_pick (sl_lend (i := 0) (sl_val se_int sl_nil)))) (sa_cons (se_up (se_ix ix_seq o_ix (se_name (i := 4)) (se_name (i := 5)))) sa_nil))) (sg_tup rfl (sgs_cons (sg_sub (sp_name (r := 4)) (se_name (i := 5))) (sgs_cons (sg_sub (sp_name (r := 4)) (se_op op_addA o_add (se_name (i := 5)) se_int)) sgs_nil)))))) sss_nil)
    (sss_cons (ss_set (i := 6) S.nd (se_up (se_lst sa_nil)))
    (sss_cons (ss_for PassesOwn.never rfl (si_range1 rfl g_range (se_up (se_callB (call_len) o_len rfl g_len rfl (sa_cons (se_name (i := 4)) sa_nil)))) (sg_name (i := 7) S.nd) (sss_one (ss_set (i := 6) S.nd (se_op op_addA o_add (se_frz (i := 6)) (se_lc rfl S.nd (own := [("j", 8)]) (L2.blkOk_by (by rfl)) (si_range1 rfl g_range (se_up (se_ix ix_seq o_ix (se_name (i := 4)) (se_name (i := 7))))) (fun s0 H0 C0 cl0 fp0 => (sg_name (i := 8) S.nd)) (fun s0 H0 C0 cl0 fp0 => sts_nil) (fun s0 H0 C0 cl0 fp0 => (se_up (se_op op_addA o_add (se_name (i := 7)) se_int))))))))
    (sss_cons (ss_set (i := 9) S.nd se_non)
    (sss_cons (ss_set (i := 10) S.nd (se_call (ws := [1, 2]) (fn := fn__law_boxes) (ld := [some 2]) F__law_boxes (hr.mono (by omega)) rfl g__law_boxes k__law_boxes b__law_boxes (sl_lend (i := 2) sl_nil)))
    (sss_cons (ss_if (st_up (st_cmp (op_eqD hr.units) o_eq (se_callB (call_len) o_len rfl g_len rfl (sa_cons (se_name (i := 6)) sa_nil)) (se_callB (call_len) o_len rfl g_len rfl (sa_cons (se_name (i := 10)) sa_nil)))) (sss_cons (ss_set (i := 9) S.nd (se_call (ws := [2, 4, 5, 6]) (fn := fn__law_put) (ld := [some 2, none]) F__law_put (hr.mono (by omega)) rfl g__law_put k__law_put b__law_put (sl_lend (i := 2) (sl_val (se_lc rfl S.nd (own := [("k", 7), ("j", 8), ("one", 11)]) (L2.blkOk_by (by rfl)) (si_take (i := 10)) (fun s0 H0 C0 cl0 fp0 => (sg_tup rfl (sgs_cons (sg_name (i := 7) S.nd) (sgs_cons (sg_name (i := 8) S.nd) (sgs_cons (sg_name (i := 11) S.nd) sgs_nil))))) (fun s0 H0 C0 cl0 fp0 => sts_nil) (fun s0 H0 C0 cl0 fp0 => (se_tup (sa_cons (se_frz (i := 7)) (sa_cons (se_frz (i := 8)) (sa_cons (se_up (se_ix ix_seq o_ix (se_name (i := 6)) (se_op op_sub o_sub (se_name (i := 11)) se_int))) sa_nil)))))) sl_nil))))
    (sss_one (ss_if (st_w (sw_or (st_cmp op_notN o_notN (se_call (ws := [1, 2, 3, 4]) (fn := fn__law_fault) (ld := [some 9]) F__law_fault (hr.mono (by omega)) rfl g__law_fault k__law_fault b__law_fault (sl_lend (i := 9) sl_nil)) se_non) (sw_or1 (st_cmp (op_neD hr.units) o_ne (se_call (ws := [1, 5]) (fn := fn__law_ranked) (ld := [some 9]) F__law_ranked (hr.mono (by omega)) rfl g__law_ranked k__law_ranked b__law_ranked (sl_lend (i := 9) sl_nil)) (se_frz (i := 2)))))) (sss_one (ss_set (i := 9) S.nd se_non)) sss_nil))) sss_nil)
    (sss_one (ss_ret (se_call (ws := []) (fn := fn__law_same) (ld := [none, some 9]) F__law_same (hr.mono (by omega)) rfl g__law_same k__law_same b__law_same (sl_val (se_call (ws := [2, 3, 4, 5]) (fn := fn_with_content) (ld := [some 2, none]) F_with_content (hr.mono (by omega)) rfl g_with_content k_with_content b_with_content (sl_lend (i := 2) (sl_val (se_up (se_callTy (call_tuple_of) o_tuple rfl g_tuple rfl (sa_cons (se_name (i := 4)) sa_nil))) sl_nil))) (sl_lend (i := 9) sl_nil)))))))))))))))
  exact d.mono (by decide)
theorem ok__law_contents (Y : Says K mg) : UF P w K mg base "_law_contents" 7 ["state", "tableau"] [2, 3, 4, 5, 6, 7, 9, 10] fn__law_contents := by
  obtain ⟨f, fd, gf, F⟩ := Y.def_ 37 (x := "_law_contents") (st := top 39) rfl rfl
  exact ⟨f, fd, gf, F.kp, F.bindsN fun _ _ _ _ _ _ us hl => match us, hl with | [_, _], _ => rfl, fk__law_contents Y F⟩
theorem sc_is_straight : FnScope ["value"] ["value"] (defScope (top 8)) := ⟨rfl, rfl, rfl, by decide +kernel, rfl, by decide +kernel, by decide +kernel⟩
theorem fk_is_straight (Y : Says K mg) {f : Addr} {fd : FuncData} (F : FnP K "is_straight" (top 8) f fd) : FnOk P w K mg base CX0 4 f fd ["value"] (spOf K 1 [] fn_is_straight) := by
  obtain ⟨f_fault, fd_fault, g_fault, k_fault, b_fault, F_fault⟩ := ok_fault (P := P) (w := w) (base := base) Y
  obtain ⟨f_inner, fd_inner, g_inner, k_inner, b_inner, F_inner⟩ := ok_inner (P := P) (w := w) (base := base) Y
  have g_len := Y.free 40 (x := "len") rfl
  have S := sc_is_straight
  refine fn_ok F S fun cdv A outer s H E hr => ?_
  have d : SSs (cxOf CX0 P w K mg base ["value"] "is_straight" (defScope (top 8)) f cdv A outer s H E).nox (defBody (top 8)) _ m_is_straight := (sss_one (ss_ret (se_and (se_cmp op_isN o_isN (se_call (ws := [1, 2, 3, 4]) (fn := fn_fault) (ld := [some 0]) F_fault (hr.mono (by omega)) rfl g_fault k_fault b_fault (sl_lend (i := 0) sl_nil)) se_non) (se_one (se_cmp (op_eqD hr.units) o_eq (se_callB (call_len) o_len rfl g_len rfl (sa_cons (se_call (ws := []) (fn := fn_inner) (ld := [some 0]) F_inner (hr.mono (by omega)) rfl g_inner k_inner b_inner (sl_lend (i := 0) sl_nil)) sa_nil)) se_int)))))
  exact d.mono (by decide)
theorem ok_is_straight (Y : Says K mg) : UF P w K mg base "is_straight" 4 ["value"] [] fn_is_straight := by
  obtain ⟨f, fd, gf, F⟩ := Y.def_ 7 (x := "is_straight") (st := top 8) rfl rfl
  exact ⟨f, fd, gf, F.kp, F.bindsN fun _ _ _ _ _ _ us hl => match us, hl with | [_], _ => rfl, fk_is_straight Y F⟩
theorem sc_content : FnScope ["word", "found", "letter"] ["word"] (defScope (top 11)) := ⟨rfl, rfl, rfl, by decide +kernel, rfl, by decide +kernel, by decide +kernel⟩
theorem fk_content (Y : Says K mg) {f : Addr} {fd : FuncData} (F : FnP K "content" (top 11) f fd) : FnOk P w K mg base CX0 1 f fd ["word"] (spOf K 1 [1, 2] fn_content) := by
  have g_tuple := Y.free 43 (x := "tuple") rfl
  have g_list := Y.free 46 (x := "list") rfl
  have g_max := Y.free 45 (x := "max") rfl
  have S := sc_content
  refine fn_ok F S fun cdv A outer s H E hr => ?_
  have d : SSs (cxOf CX0 P w K mg base ["word", "found", "letter"] "content" (defScope (top 11)) f cdv A outer s H E).nox (defBody (top 11)) _ m_content := (sss_cons (ss_set (i := 1) S.nd (se_up (se_op op_mulA o_mul (se_lst (sa_cons se_int sa_nil)) (se_callB ((cr_max rfl)) o_maxL rfl g_max rfl (sa_cons (se_op op_addA o_add (se_lst (sa_cons se_int sa_nil)) (se_callTy (call_list_of) o_list rfl g_list rfl (sa_cons (se_name (i := 0)) sa_nil))) sa_nil)))))
    (sss_cons (ss_for PassesOwn.never rfl (si_take (i := 0)) (sg_name (i := 2) S.nd) (sss_one (ss_augP (sp_name (r := 1)) (se_op op_sub o_sub (se_name (i := 2)) se_int) se_int ip_add)) (hw := fun i e => by cases e; decide))
    (sss_one (ss_ret (se_up (se_callTy (call_tuple_of) o_tuple rfl g_tuple rfl (sa_cons (se_name (i := 1)) sa_nil)))))))
  exact d.mono (by decide)
theorem ok_content (Y : Says K mg) : UF P w K mg base "content" 1 ["word"] [1, 2] fn_content := by
  obtain ⟨f, fd, gf, F⟩ := Y.def_ 10 (x := "content") (st := top 11) rfl rfl
  exact ⟨f, fd, gf, F.kp, F.bindsN fun _ _ _ _ _ _ us hl => match us, hl with | [_], _ => rfl, fk_content Y F⟩
theorem sc_is_standard : FnScope ["value", "many"] ["value"] (defScope (top 12)) := ⟨rfl, rfl, rfl, by decide +kernel, rfl, by decide +kernel, by decide +kernel⟩
theorem fk_is_standard (Y : Says K mg) {f : Addr} {fd : FuncData} (F : FnP K "is_standard" (top 12) f fd) : FnOk P w K mg base CX0 4 f fd ["value"] (spOf K 1 [] fn_is_standard) := by
  obtain ⟨f_content, fd_content, g_content, k_content, b_content, F_content⟩ := ok_content (P := P) (w := w) (base := base) Y
  obtain ⟨f_row_word, fd_row_word, g_row_word, k_row_word, b_row_word, F_row_word⟩ := ok_row_word (P := P) (w := w) (base := base) Y
  obtain ⟨f_fault, fd_fault, g_fault, k_fault, b_fault, F_fault⟩ := ok_fault (P := P) (w := w) (base := base) Y
  have g_all := Y.free 52 (x := "all") rfl
  have S := sc_is_standard
  refine fn_ok F S fun cdv A outer s H E hr => ?_
  have d : SSs (cxOf CX0 P w K mg base ["value", "many"] "is_standard" (defScope (top 12)) f cdv A outer s H E).nox (defBody (top 12)) _ m_is_standard := (sss_cons (ss_if (st_cmp op_notN o_notN (se_call (ws := [1, 2, 3, 4]) (fn := fn_fault) (ld := [some 0]) F_fault (hr.mono (by omega)) rfl g_fault k_fault b_fault (sl_lend (i := 0) sl_nil)) se_non) (sss_one (ss_ret se_bl)) sss_nil)
    (sss_one (ss_ret (se_callB ((cr_all rfl)) o_all rfl g_all rfl (sa_cons (se_lc rfl S.nd (own := [("many", 1)]) (L2.blkOk_by (by rfl)) (si_seq (se_call (ws := [1, 2]) (fn := fn_content) (ld := [none]) F_content (hr.mono (by omega)) rfl g_content k_content b_content (sl_val (se_call (ws := [1, 2]) (fn := fn_row_word) (ld := [some 0]) F_row_word (hr.mono (by omega)) rfl g_row_word k_row_word b_row_word (sl_lend (i := 0) sl_nil)) sl_nil))) (fun s0 H0 C0 cl0 fp0 => (sg_name (i := 1) S.nd)) (fun s0 H0 C0 cl0 fp0 => sts_nil) (fun s0 H0 C0 cl0 fp0 => (se_up (se_cmp (op_eqD hr.units) o_eq (se_name (i := 1)) se_int)))) sa_nil)))))
  exact d.mono (by decide)
theorem ok_is_standard (Y : Says K mg) : UF P w K mg base "is_standard" 4 ["value"] [] fn_is_standard := by
  obtain ⟨f, fd, gf, F⟩ := Y.def_ 11 (x := "is_standard") (st := top 12) rfl rfl
  exact ⟨f, fd, gf, F.kp, F.bindsN fun _ _ _ _ _ _ us hl => match us, hl with | [_], _ => rfl, fk_is_standard Y F⟩
theorem sc_is_tableau : FnScope ["value"] ["value"] (defScope (top 7)) := ⟨rfl, rfl, rfl, by decide +kernel, rfl, by decide +kernel, by decide +kernel⟩
theorem fk_is_tableau (Y : Says K mg) {f : Addr} {fd : FuncData} (F : FnP K "is_tableau" (top 7) f fd) : FnOk P w K mg base CX0 4 f fd ["value"] (spOf K 1 [] fn_is_tableau) := by
  obtain ⟨f_fault, fd_fault, g_fault, k_fault, b_fault, F_fault⟩ := ok_fault (P := P) (w := w) (base := base) Y
  have S := sc_is_tableau
  refine fn_ok F S fun cdv A outer s H E hr => ?_
  have d : SSs (cxOf CX0 P w K mg base ["value"] "is_tableau" (defScope (top 7)) f cdv A outer s H E).nox (defBody (top 7)) _ m_is_tableau := (sss_one (ss_ret (se_cmp op_isN o_isN (se_call (ws := [1, 2, 3, 4]) (fn := fn_fault) (ld := [some 0]) F_fault (hr.mono (by omega)) rfl g_fault k_fault b_fault (sl_lend (i := 0) sl_nil)) se_non)))
  exact d.mono (by decide)
theorem ok_is_tableau (Y : Says K mg) : UF P w K mg base "is_tableau" 4 ["value"] [] fn_is_tableau := by
  obtain ⟨f, fd, gf, F⟩ := Y.def_ 6 (x := "is_tableau") (st := top 7) rfl rfl
  exact ⟨f, fd, gf, F.kp, F.bindsN fun _ _ _ _ _ _ us hl => match us, hl with | [_], _ => rfl, fk_is_tableau Y F⟩
theorem sc__law_kinds : FnScope ["value", "right", "straight", "standard", "letters", "box", "row"] ["value"] (defScope (top 36)) := ⟨rfl, rfl, rfl, by decide +kernel, rfl, by decide +kernel, by decide +kernel⟩
theorem fk__law_kinds (Y : Says K mg) {f : Addr} {fd : FuncData} (F : FnP K "_law_kinds" (top 36) f fd) : FnOk P w K mg base CX0 7 f fd ["value"] (spOf K 1 [1, 2, 3, 4] fn__law_kinds) := by
  obtain ⟨f__law_same, fd__law_same, g__law_same, k__law_same, b__law_same, F__law_same⟩ := ok__law_same (P := P) (w := w) (base := base) Y
  obtain ⟨f_is_straight, fd_is_straight, g_is_straight, k_is_straight, b_is_straight, F_is_straight⟩ := ok_is_straight (P := P) (w := w) (base := base) Y
  obtain ⟨f_is_standard, fd_is_standard, g_is_standard, k_is_standard, b_is_standard, F_is_standard⟩ := ok_is_standard (P := P) (w := w) (base := base) Y
  obtain ⟨f__law_boxes, fd__law_boxes, g__law_boxes, k__law_boxes, b__law_boxes, F__law_boxes⟩ := ok__law_boxes (P := P) (w := w) (base := base) Y
  obtain ⟨f__law_fault, fd__law_fault, g__law_fault, k__law_fault, b__law_fault, F__law_fault⟩ := ok__law_fault (P := P) (w := w) (base := base) Y
  obtain ⟨f_fault, fd_fault, g_fault, k_fault, b_fault, F_fault⟩ := ok_fault (P := P) (w := w) (base := base) Y
  obtain ⟨f_is_tableau, fd_is_tableau, g_is_tableau, k_is_tableau, b_is_tableau, F_is_tableau⟩ := ok_is_tableau (P := P) (w := w) (base := base) Y
  have g_sorted := Y.free 42 (x := "sorted") rfl
  have g_len := Y.free 40 (x := "len") rfl
  have g_list := Y.free 46 (x := "list") rfl
  have g_range := Y.free 44 (x := "range") rfl
  have g_sum := Y.free 53 (x := "sum") rfl
  have S := sc__law_kinds
  refine fn_ok F S fun cdv A outer s H E hr => ?_
  have d : SSs (cxOf CX0 P w K mg base ["value", "right", "straight", "standard", "letters", "box", "row"] "_law_kinds" (defScope (top 36)) f cdv A outer s H E).nox (defBody (top 36)) _ m__law_kinds := (sss_cons (ss_set (i := 1) S.nd (se_cmp op_isN o_isN (se_call (ws := [1, 2, 3, 4]) (fn := fn__law_fault) (ld := [some 0]) F__law_fault (hr.mono (by omega)) rfl g__law_fault k__law_fault b__law_fault (sl_lend (i := 0) sl_nil)) se_non))
    (sss_cons (ss_if (st_w (sw_or (st_not (st_val (se_call (ws := []) (fn := fn__law_same) (ld := [none, none]) F__law_same (hr.mono (by omega)) rfl g__law_same k__law_same b__law_same (sl_val (se_call (ws := [1, 2, 3, 4]) (fn := fn_fault) (ld := [some 0]) F_fault (hr.mono (by omega)) rfl g_fault k_fault b_fault (sl_lend (i := 0) sl_nil)) (sl_val (se_call (ws := [1, 2, 3, 4]) (fn := fn__law_fault) (ld := [some 0]) F__law_fault (hr.mono (by omega)) rfl g__law_fault k__law_fault b__law_fault (sl_lend (i := 0) sl_nil)) sl_nil))))) (sw_or1 (st_not (st_val (se_call (ws := []) (fn := fn__law_same) (ld := [none, some 1]) F__law_same (hr.mono (by omega)) rfl g__law_same k__law_same b__law_same (sl_val (se_call (ws := []) (fn := fn_is_tableau) (ld := [some 0]) F_is_tableau (hr.mono (by omega)) rfl g_is_tableau k_is_tableau b_is_tableau (sl_lend (i := 0) sl_nil)) (sl_lend (i := 1) sl_nil)))))))) (sss_one (ss_ret se_bl)) sss_nil)
    (sss_cons (ss_set (i := 2) S.nd se_bl)
    (sss_cons (ss_set (i := 3) S.nd se_bl)
    (sss_cons (ss_if (st_up (st_val (se_name (i := 1)))) (sss_cons (ss_setLc (i := 4) rfl S.nd (own := [("box", 5)]) (L2.blkOk_by (by rfl)) (si_seq (se_call (ws := [1, 2]) (fn := fn__law_boxes) (ld := [some 0]) F__law_boxes (hr.mono (by omega)) rfl g__law_boxes k__law_boxes b__law_boxes (sl_lend (i := 0) sl_nil))) (fun s0 H0 C0 cl0 fp0 => (sg_name (i := 5) S.nd)) (fun s0 H0 C0 cl0 fp0 => sts_nil) (fun s0 H0 C0 cl0 fp0 => (se_up (se_ix ix_seq o_ix (se_name (i := 5)) se_int))) (hsw := by rfl))
    (sss_cons (ss_set (i := 2) S.nd (se_cmp (op_eqD hr.units) o_eq (se_up (se_callB (call_len) o_len rfl g_len rfl (sa_cons (se_name (i := 4)) sa_nil))) (se_callB ((cr_sum rfl)) o_sum rfl g_sum rfl (sa_cons (se_lc rfl S.nd (own := [("row", 6)]) (L2.blkOk_by (by rfl)) (si_take (i := 0)) (fun s0 H0 C0 cl0 fp0 => (sg_name (i := 6) S.nd)) (fun s0 H0 C0 cl0 fp0 => sts_nil) (fun s0 H0 C0 cl0 fp0 => (se_up (se_callB (call_len) o_len rfl g_len rfl (sa_cons (se_name (i := 6)) sa_nil))))) sa_nil))))
    (sss_one (ss_set (i := 3) S.nd (se_up (se_cmp (op_eqD hr.units) o_eq (se_callB (cr_sortA hr.units) o_sort rfl g_sorted rfl (sa_cons (se_name (i := 4)) sa_nil)) (se_listRg2 rfl rfl g_list rfl g_range se_int (se_op op_addA o_add (se_callB (call_len) o_len rfl g_len rfl (sa_cons (se_name (i := 4)) sa_nil)) se_int)))))))) sss_nil)
    (sss_one (ss_ret (se_and (se_call (ws := []) (fn := fn__law_same) (ld := [none, some 2]) F__law_same (hr.mono (by omega)) rfl g__law_same k__law_same b__law_same (sl_val (se_call (ws := []) (fn := fn_is_straight) (ld := [some 0]) F_is_straight (hr.mono (by omega)) rfl g_is_straight k_is_straight b_is_straight (sl_lend (i := 0) sl_nil)) (sl_lend (i := 2) sl_nil))) (se_one (se_call (ws := []) (fn := fn__law_same) (ld := [none, some 3]) F__law_same (hr.mono (by omega)) rfl g__law_same k__law_same b__law_same (sl_val (se_call (ws := []) (fn := fn_is_standard) (ld := [some 0]) F_is_standard (hr.mono (by omega)) rfl g_is_standard k_is_standard b_is_standard (sl_lend (i := 0) sl_nil)) (sl_lend (i := 3) sl_nil))))))))))))
  exact d.mono (by decide)
theorem ok__law_kinds (Y : Says K mg) : UF P w K mg base "_law_kinds" 7 ["value"] [1, 2, 3, 4] fn__law_kinds := by
  obtain ⟨f, fd, gf, F⟩ := Y.def_ 34 (x := "_law_kinds") (st := top 36) rfl rfl
  exact ⟨f, fd, gf, F.kp, F.bindsN fun _ _ _ _ _ _ us hl => match us, hl with | [_], _ => rfl, fk__law_kinds Y F⟩
theorem sc_transposed : FnScope ["tableau", "found", "column", "row"] ["tableau"] (defScope (top 20)) := ⟨rfl, rfl, rfl, by decide +kernel, rfl, by decide +kernel, by decide +kernel⟩
theorem fk_transposed (Y : Says K mg) {f : Addr} {fd : FuncData} (F : FnP K "transposed" (top 20) f fd) : FnOk P w K mg base CX0 2 f fd ["tableau"] (spOf K 1 [1, 2] fn_transposed) := by
  obtain ⟨f_outer, fd_outer, g_outer, k_outer, b_outer, F_outer⟩ := ok_outer (P := P) (w := w) (base := base) Y
  have g_tuple := Y.free 43 (x := "tuple") rfl
  have g_list := Y.free 46 (x := "list") rfl
  have g_max := Y.free 45 (x := "max") rfl
  have g_range := Y.free 44 (x := "range") rfl
  have g_len := Y.free 40 (x := "len") rfl
  have S := sc_transposed
  refine fn_ok F S fun cdv A outer s H E hr => ?_
  have d : SSs (cxOf CX0 P w K mg base ["tableau", "found", "column", "row"] "transposed" (defScope (top 20)) f cdv A outer s H E).nox (defBody (top 20)) _ m_transposed := (sss_cons (ss_set (i := 1) S.nd (se_up (se_lst sa_nil)))
    (sss_cons (ss_for PassesOwn.never rfl (si_range1 rfl g_range (se_callB ((cr_max rfl)) o_maxL rfl g_max rfl (sa_cons (se_op op_addA o_add (se_up (se_lst (sa_cons se_int sa_nil))) (se_callTy (call_list_of) o_list rfl g_list rfl (sa_cons (se_call (ws := []) (fn := fn_outer) (ld := [some 0]) F_outer (hr.mono (by omega)) rfl g_outer k_outer b_outer (sl_lend (i := 0) sl_nil)) sa_nil))) sa_nil))) (sg_name (i := 2) S.nd) (sss_one (ss_app (r := 1) (se_callTy (call_tuple_of) o_tuple rfl g_tuple rfl (sa_cons (se_lc rfl S.nd (own := [("row", 3)]) (L2.blkOk_by (by rfl)) (si_take (i := 0)) (fun s0 H0 C0 cl0 fp0 => (sg_name (i := 3) S.nd)) (fun s0 H0 C0 cl0 fp0 => (sts_one (st_up (st_cmp op_gt o_gt (se_callB (call_len) o_len rfl g_len rfl (sa_cons (se_name (i := 3)) sa_nil)) (se_name (i := 2)))))) (fun s0 H0 C0 cl0 fp0 => (se_up (se_ix ix_seq o_ix (se_name (i := 3)) (se_name (i := 2)))))) sa_nil)))))
    (sss_one (ss_ret (se_up (se_callTy (call_tuple_of) o_tuple rfl g_tuple rfl (sa_cons (se_name (i := 1)) sa_nil)))))))
  exact d.mono (by decide)
theorem ok_transposed (Y : Says K mg) : UF P w K mg base "transposed" 2 ["tableau"] [1, 2] fn_transposed := by
  obtain ⟨f, fd, gf, F⟩ := Y.def_ 19 (x := "transposed") (st := top 20) rfl rfl
  exact ⟨f, fd, gf, F.kp, F.bindsN fun _ _ _ _ _ _ us hl => match us, hl with | [_], _ => rfl, fk_transposed Y F⟩
theorem sc__law_bent : FnScope ["state", "tableau", "rows", "row", "turn", "k", "j", "other"] ["state", "tableau"] (defScope (top 34)) := ⟨rfl, rfl, rfl, by decide +kernel, rfl, by decide +kernel, by decide +kernel⟩
theorem fk__law_bent (Y : Says K mg) {f : Addr} {fd : FuncData} (F : FnP K "_law_bent" (top 34) f fd) : FnOk P w K mg base CX0 2 f fd ["state", "tableau"] (spOf K 2 [2, 4, 5, 6, 7] fn__law_bent) := by
  obtain ⟨f__law_pick, fd__law_pick, g__law_pick, k__law_pick, b__law_pick, F__law_pick⟩ := ok__law_pick (P := P) (w := w) (base := base) Y
  have g_tuple := Y.free 43 (x := "tuple") rfl
  have g_len := Y.free 40 (x := "len") rfl
  have g_list := Y.free 46 (x := "list") rfl
  have S := sc__law_bent
  refine fn_ok F S fun cdv A outer s H E hr => ?_
  have d : SSs (cxOf CX0 P w K mg base ["state", "tableau", "rows", "row", "turn", "k", "j", "other"] "_law_bent" (defScope (top 34)) f cdv A outer s H E).nox (defBody (top 34)) _ m__law_bent := (sss_cons (ss_setLc (i := 2) rfl S.nd (own := [("row", 3)]) (L2.blkOk_by (by rfl)) (si_take (i := 1)) (fun s0 H0 C0 cl0 fp0 => (sg_name (i := 3) S.nd)) (fun s0 H0 C0 cl0 fp0 => sts_nil) (fun s0 H0 C0 cl0 fp0 => (se_up (se_callTy (call_list_of) o_list rfl g_list rfl (sa_cons (se_name (i := 3)) sa_nil)))) (hsw := by rfl))
    (sss_cons (ss_set (i := 4) S.nd (se_call (ws := [2, 3]) (fn := fn__law_pick) (ld := [some 0, none]) F__law_pick (hr.mono (by omega)) rfl g__law_pick k__law_pick b__law_pick (sl_lend (i := 0) (sl_val se_int sl_nil))))
    (sss_cons (ss_if (st_up (st_w (sw_or (st_cmp (op_eqD hr.units) o_eq (se_name (i := 2)) (se_lst sa_nil)) (sw_or1 (st_cmp (op_eqD hr.units) o_eq (se_name (i := 4)) se_int))))) (sss_one (ss_ret (se_ix ix_seq o_ix (se_lst (sa_cons (se_up (se_lst sa_nil)) (sa_cons (se_up (se_tup sa_nil)) (sa_cons (se_tup (sa_cons (se_up (se_tup (sa_cons se_int sa_nil))) (sa_cons (se_up (se_tup sa_nil)) sa_nil))) (sa_cons se_str (sa_cons se_non (sa_cons (se_tup (sa_cons (se_up (se_tup (sa_cons se_int (sa_cons se_int sa_nil)))) (sa_cons (se_up (se_tup (sa_cons se_int (sa_cons se_int (sa_cons se_int sa_nil))))) sa_nil))) (sa_cons (se_tup (sa_cons (se_up (se_tup (sa_cons se_str sa_nil))) sa_nil)) (sa_cons (se_tup (sa_cons (se_up (se_tup (sa_cons se_non (sa_cons se_non (sa_cons se_int sa_nil))))) (sa_cons (se_up (se_tup (sa_cons se_non (sa_cons se_int (sa_cons se_int sa_nil))))) sa_nil))) sa_nil))))))))) (se_call (ws := [2, 3]) (fn := fn__law_pick) (ld := [some 0, none]) F__law_pick (hr.mono (by omega)) rfl g__law_pick k__law_pick b__law_pick (sl_lend (i := 0) (sl_val se_int sl_nil)))))) sss_nil)
    (sss_cons (ss_set (i := 5) S.nd (se_call (ws := [2, 3]) (fn := fn__law_pick) (ld := [some 0, none]) F__law_pick (hr.mono (by omega)) rfl g__law_pick k__law_pick b__law_pick (sl_lend (i := 0) (sl_val (se_up (se_callB (call_len) o_len rfl g_len rfl (sa_cons (se_name (i := 2)) sa_nil))) sl_nil))))
    (sss_cons (ss_set (i := 6) S.nd (se_call (ws := [2, 3]) (fn := fn__law_pick) (ld := [some 0, none]) F__law_pick (hr.mono (by omega)) rfl g__law_pick k__law_pick b__law_pick (sl_lend (i := 0) (sl_val (se_up (se_callB (call_len) o_len rfl g_len rfl (sa_cons (se_ix ix_seq o_ix (se_name (i := 2)) (se_name (i := 5))) sa_nil))) sl_nil))))
    (sss_cons (ss_if (st_up (st_cmp op_lt o_lt (se_name (i := 4)) se_int)) (sss_one (ss_asg (se_ix ix_seq o_ix (se_up (se_lst (sa_cons se_non (sa_cons se_int (sa_cons (se_un un_neg o_neg se_int) (sa_cons se_bl (sa_cons se_str (sa_cons se_int (sa_cons se_int (sa_cons se_int (sa_cons se_int sa_nil))))))))))) (se_call (ws := [2, 3]) (fn := fn__law_pick) (ld := [some 0, none]) F__law_pick (hr.mono (by omega)) rfl g__law_pick k__law_pick b__law_pick (sl_lend (i := 0) (sl_val se_int sl_nil)))) (sg_sub (sp_ix (sp_name (r := 2)) (se_name (i := 5))) (se_name (i := 6))))) (sss_one (ss_if (st_up (st_cmp (op_eqD hr.units) o_eq (se_name (i := 4)) se_int)) (sss_one (ss_appP (sp_ix (sp_name (r := 2)) (se_name (i := 5))) se_int)) (sss_one (ss_if (st_up (st_cmp (op_eqD hr.units) o_eq (se_name (i := 4)) se_int)) (sss_one (ss_popP (sp_ix (sp_name (r := 2)) (se_name (i := 5))))) (sss_one (ss_if (st_up (st_cmp (op_eqD hr.units) o_eq (se_name (i := 4)) se_int)) (sss_one (ss_ret (se_op op_addA o_add (se_callTy (call_tuple_of) o_tuple rfl g_tuple rfl (sa_cons (se_lc rfl S.nd (own := [("row", 3)]) (L2.blkOk_by (by rfl)) (si_seq (se_slice sl_all o_sl (se_frz (i := 2)) so_none (so_some (se_frz (i := 5))))) (fun s0 H0 C0 cl0 fp0 => (sg_name (i := 3) S.nd)) (fun s0 H0 C0 cl0 fp0 => sts_nil) (fun s0 H0 C0 cl0 fp0 => (se_up (se_callTy (call_tuple_of) o_tuple rfl g_tuple rfl (sa_cons (se_name (i := 3)) sa_nil))))) sa_nil)) (se_tup (sa_cons (se_ix ix_seq o_ix (se_frz (i := 2)) (se_frz (i := 5))) sa_nil))))) (sss_cons (ss_set (i := 7) S.nd (se_call (ws := [2, 3]) (fn := fn__law_pick) (ld := [some 0, none]) F__law_pick (hr.mono (by omega)) rfl g__law_pick k__law_pick b__law_pick (sl_lend (i := 0) (sl_val (se_up (se_callB (call_len) o_len rfl g_len rfl (sa_cons (se_name (i := 2)) sa_nil))) sl_nil))))
    (sss_one (ss_swap (r := 2) (a := 5) (b := 7) rfl))))))))))
    (sss_one (ss_ret (se_callTy (call_tuple_of) o_tuple rfl g_tuple rfl (sa_cons (se_lc rfl S.nd (own := [("row", 3)]) (L2.blkOk_by (by rfl)) (si_take (i := 2)) (fun s0 H0 C0 cl0 fp0 => (sg_name (i := 3) S.nd)) (fun s0 H0 C0 cl0 fp0 => sts_nil) (fun s0 H0 C0 cl0 fp0 => (se_up (se_callTy (call_tuple_of) o_tuple rfl g_tuple rfl (sa_cons (se_name (i := 3)) sa_nil))))) sa_nil))))))))))
  exact d.mono (by decide)
theorem ok__law_bent (Y : Says K mg) : UF P w K mg base "_law_bent" 2 ["state", "tableau"] [2, 4, 5, 6, 7] fn__law_bent := by
  obtain ⟨f, fd, gf, F⟩ := Y.def_ 32 (x := "_law_bent") (st := top 34) rfl rfl
  exact ⟨f, fd, gf, F.kp, F.bindsN fun _ _ _ _ _ _ us hl => match us, hl with | [_, _], _ => rfl, fk__law_bent Y F⟩
theorem sc_column_word : FnScope ["tableau", "found", "column", "row"] ["tableau"] (defScope (top 10)) := ⟨rfl, rfl, rfl, by decide +kernel, rfl, by decide +kernel, by decide +kernel⟩
theorem fk_column_word (Y : Says K mg) {f : Addr} {fd : FuncData} (F : FnP K "column_word" (top 10) f fd) : FnOk P w K mg base CX0 2 f fd ["tableau"] (spOf K 1 [1, 2, 3] fn_column_word) := by
  obtain ⟨f_outer, fd_outer, g_outer, k_outer, b_outer, F_outer⟩ := ok_outer (P := P) (w := w) (base := base) Y
  have g_tuple := Y.free 43 (x := "tuple") rfl
  have g_list := Y.free 46 (x := "list") rfl
  have g_max := Y.free 45 (x := "max") rfl
  have g_range := Y.free 44 (x := "range") rfl
  have g_reversed := Y.free 51 (x := "reversed") rfl
  have g_len := Y.free 40 (x := "len") rfl
  have S := sc_column_word
  refine fn_ok F S fun cdv A outer s H E hr => ?_
  have d : SSs (cxOf CX0 P w K mg base ["tableau", "found", "column", "row"] "column_word" (defScope (top 10)) f cdv A outer s H E).nox (defBody (top 10)) _ m_column_word := (sss_cons (ss_set (i := 1) S.nd (se_up (se_lst sa_nil)))
    (sss_cons (ss_for PassesOwn.never rfl (si_range1 rfl g_range (se_callB ((cr_max rfl)) o_maxL rfl g_max rfl (sa_cons (se_op op_addA o_add (se_up (se_lst (sa_cons se_int sa_nil))) (se_callTy (call_list_of) o_list rfl g_list rfl (sa_cons (se_call (ws := []) (fn := fn_outer) (ld := [some 0]) F_outer (hr.mono (by omega)) rfl g_outer k_outer b_outer (sl_lend (i := 0) sl_nil)) sa_nil))) sa_nil))) (sg_name (i := 2) S.nd) (sss_one (ss_for PassesOwn.never rfl (si_rev rfl g_reversed (se_frz (i := 0))) (sg_name (i := 3) S.nd) (sss_one (ss_if (st_up (st_w (sw_and (st_cmp op_lt o_lt (se_name (i := 2)) (se_callB (call_len) o_len rfl g_len rfl (sa_cons (se_name (i := 3)) sa_nil))) (sw_and1 (st_cmp op_notN o_notN (se_ix ix_seq o_ix (se_name (i := 3)) (se_name (i := 2))) se_non))))) (sss_one (ss_app (r := 1) (se_up (se_ix ix_seq o_ix (se_name (i := 3)) (se_name (i := 2)))))) sss_nil)))))
    (sss_one (ss_ret (se_up (se_callTy (call_tuple_of) o_tuple rfl g_tuple rfl (sa_cons (se_name (i := 1)) sa_nil)))))))
  exact d.mono (by decide)
theorem ok_column_word (Y : Says K mg) : UF P w K mg base "column_word" 2 ["tableau"] [1, 2, 3] fn_column_word := by
  obtain ⟨f, fd, gf, F⟩ := Y.def_ 9 (x := "column_word") (st := top 10) rfl rfl
  exact ⟨f, fd, gf, F.kp, F.bindsN fun _ _ _ _ _ _ us hl => match us, hl with | [_], _ => rfl, fk_column_word Y F⟩
def ws_law : List Nat := [1, 2, 3, 4, 5, 6, 7, 8, 10]
theorem sc_law : FnScope ["script", "state", "shape", "floor", "tableau", "boxes", "word", "standard", "wide", "row", "turned", "j"] ["script"] (defScope (top 40)) := ⟨rfl, rfl, rfl, by decide +kernel, rfl, by decide +kernel, by decide +kernel⟩
theorem fk_law (Y : Says K mg) {f : Addr} {fd : FuncData} (F : FnP K "law" (top 40) f fd) : FnOk P w K mg base CX0 8 f fd ["script"] (spOf K 1 [1, 2, 3, 4, 5, 6, 7, 8, 10] fn_law) := by
  obtain ⟨f__law_parts, fd__law_parts, g__law_parts, k__law_parts, b__law_parts, F__law_parts⟩ := ok__law_parts (P := P) (w := w) (base := base) Y
  obtain ⟨f__law_from_word, fd__law_from_word, g__law_from_word, k__law_from_word, b__law_from_word, F__law_from_word⟩ := ok__law_from_word (P := P) (w := w) (base := base) Y
  obtain ⟨f__law_filled, fd__law_filled, g__law_filled, k__law_filled, b__law_filled, F__law_filled⟩ := ok__law_filled (P := P) (w := w) (base := base) Y
  obtain ⟨f__law_contents, fd__law_contents, g__law_contents, k__law_contents, b__law_contents, F__law_contents⟩ := ok__law_contents (P := P) (w := w) (base := base) Y
  obtain ⟨f__law_same, fd__law_same, g__law_same, k__law_same, b__law_same, F__law_same⟩ := ok__law_same (P := P) (w := w) (base := base) Y
  obtain ⟨f_transposed, fd_transposed, g_transposed, k_transposed, b_transposed, F_transposed⟩ := ok_transposed (P := P) (w := w) (base := base) Y
  obtain ⟨f__law_kinds, fd__law_kinds, g__law_kinds, k__law_kinds, b__law_kinds, F__law_kinds⟩ := ok__law_kinds (P := P) (w := w) (base := base) Y
  obtain ⟨f_standardized, fd_standardized, g_standardized, k_standardized, b_standardized, F_standardized⟩ := ok_standardized (P := P) (w := w) (base := base) Y
  obtain ⟨f__law_ranked, fd__law_ranked, g__law_ranked, k__law_ranked, b__law_ranked, F__law_ranked⟩ := ok__law_ranked (P := P) (w := w) (base := base) Y
  obtain ⟨f__law_ranks, fd__law_ranks, g__law_ranks, k__law_ranks, b__law_ranks, F__law_ranks⟩ := ok__law_ranks (P := P) (w := w) (base := base) Y
  obtain ⟨f_ranks, fd_ranks, g_ranks, k_ranks, b_ranks, F_ranks⟩ := ok_ranks (P := P) (w := w) (base := base) Y
  obtain ⟨f__law_counts, fd__law_counts, g__law_counts, k__law_counts, b__law_counts, F__law_counts⟩ := ok__law_counts (P := P) (w := w) (base := base) Y
  obtain ⟨f_content, fd_content, g_content, k_content, b_content, F_content⟩ := ok_content (P := P) (w := w) (base := base) Y
  obtain ⟨f_row_word, fd_row_word, g_row_word, k_row_word, b_row_word, F_row_word⟩ := ok_row_word (P := P) (w := w) (base := base) Y
  obtain ⟨f__law_word, fd__law_word, g__law_word, k__law_word, b__law_word, F__law_word⟩ := ok__law_word (P := P) (w := w) (base := base) Y
  obtain ⟨f_column_word, fd_column_word, g_column_word, k_column_word, b_column_word, F_column_word⟩ := ok_column_word (P := P) (w := w) (base := base) Y
  obtain ⟨f_outer, fd_outer, g_outer, k_outer, b_outer, F_outer⟩ := ok_outer (P := P) (w := w) (base := base) Y
  obtain ⟨f_inner, fd_inner, g_inner, k_inner, b_inner, F_inner⟩ := ok_inner (P := P) (w := w) (base := base) Y
  obtain ⟨f__law_boxes, fd__law_boxes, g__law_boxes, k__law_boxes, b__law_boxes, F__law_boxes⟩ := ok__law_boxes (P := P) (w := w) (base := base) Y
  obtain ⟨f__law_bent, fd__law_bent, g__law_bent, k__law_bent, b__law_bent, F__law_bent⟩ := ok__law_bent (P := P) (w := w) (base := base) Y
  obtain ⟨f__law_pick, fd__law_pick, g__law_pick, k__law_pick, b__law_pick, F__law_pick⟩ := ok__law_pick (P := P) (w := w) (base := base) Y
  obtain ⟨f__law_within, fd__law_within, g__law_within, k__law_within, b__law_within, F__law_within⟩ := ok__law_within (P := P) (w := w) (base := base) Y
  obtain ⟨f__law_shape, fd__law_shape, g__law_shape, k__law_shape, b__law_shape, F__law_shape⟩ := ok__law_shape (P := P) (w := w) (base := base) Y
  obtain ⟨f__law_start, fd__law_start, g__law_start, k__law_start, b__law_start, F__law_start⟩ := ok__law_start (P := P) (w := w) (base := base) Y
  have g_range := Y.free 44 (x := "range") rfl
  have g_len := Y.free 40 (x := "len") rfl
  have g_tuple := Y.free 43 (x := "tuple") rfl
  have g_max := Y.free 45 (x := "max") rfl
  have S := sc_law
  refine fn_ok F S fun cdv A outer s H E hr => ?_
  have d : SSs (cxOf CX0 P w K mg base ["script", "state", "shape", "floor", "tableau", "boxes", "word", "standard", "wide", "row", "turned", "j"] "law" (defScope (top 40)) f cdv A outer s H E).nox (defBody (top 40)) _ m_law := (sss_cons (ss_set (i := 1) S.nd (se_call (ws := []) (fn := fn__law_start) (ld := [some 0]) F__law_start (hr.mono (by omega)) rfl g__law_start k__law_start b__law_start (sl_lend (i := 0) sl_nil)))
    (sss_cons (ss_set (i := 2) S.nd (se_call (ws := [3, 4, 5]) (fn := fn__law_shape) (ld := [some 1, none, none]) F__law_shape (hr.mono (by omega)) rfl g__law_shape k__law_shape b__law_shape (sl_lend (i := 1) (sl_val se_int (sl_val se_int sl_nil)))))
    (sss_cons (ss_set (i := 3) S.nd (se_up (se_tup sa_nil)))
    (sss_cons (ss_if (st_cmp (op_eqD hr.units) o_eq (se_call (ws := [2, 3]) (fn := fn__law_pick) (ld := [some 1, none]) F__law_pick (hr.mono (by omega)) rfl g__law_pick k__law_pick b__law_pick (sl_lend (i := 1) (sl_val se_int sl_nil))) se_int) (sss_one (ss_set (i := 3) S.nd (se_call (ws := [2, 3, 4]) (fn := fn__law_within) (ld := [some 1, some 2]) F__law_within (hr.mono (by omega)) rfl g__law_within k__law_within b__law_within (sl_lend (i := 1) (sl_lend (i := 2) sl_nil))))) sss_nil)
    (sss_cons (ss_set (i := 4) S.nd (se_call (ws := [3, 4, 5, 6, 7, 8]) (fn := fn__law_filled) (ld := [some 1, some 2, some 3]) F__law_filled (hr.mono (by omega)) rfl g__law_filled k__law_filled b__law_filled (sl_lend (i := 1) (sl_lend (i := 2) (sl_lend (i := 3) sl_nil)))))
    (sss_cons (ss_if (st_w (sw_or (st_not (st_val (se_call (ws := [1, 2, 3, 4]) (fn := fn__law_kinds) (ld := [some 4]) F__law_kinds (hr.mono (by omega)) rfl g__law_kinds k__law_kinds b__law_kinds (sl_lend (i := 4) sl_nil)))) (sw_or (st_not (st_val (se_call (ws := [1, 2, 3, 4]) (fn := fn__law_kinds) (ld := [none]) F__law_kinds (hr.mono (by omega)) rfl g__law_kinds k__law_kinds b__law_kinds (sl_val (se_call (ws := [2, 4, 5, 6, 7]) (fn := fn__law_bent) (ld := [some 1, some 4]) F__law_bent (hr.mono (by omega)) rfl g__law_bent k__law_bent b__law_bent (sl_lend (i := 1) (sl_lend (i := 4) sl_nil))) sl_nil)))) (sw_or1 (st_not (st_val (se_call (ws := [1, 2, 3, 4]) (fn := fn__law_kinds) (ld := [none]) F__law_kinds (hr.mono (by omega)) rfl g__law_kinds k__law_kinds b__law_kinds (sl_val (se_call (ws := [2, 4, 5, 6, 7]) (fn := fn__law_bent) (ld := [some 1, some 4]) F__law_bent (hr.mono (by omega)) rfl g__law_bent k__law_bent b__law_bent (sl_lend (i := 1) (sl_lend (i := 4) sl_nil))) sl_nil)))))))) (sss_one (ss_ret se_bl)) sss_nil)
    (sss_cons (ss_set (i := 5) S.nd (se_call (ws := [1, 2]) (fn := fn__law_boxes) (ld := [some 4]) F__law_boxes (hr.mono (by omega)) rfl g__law_boxes k__law_boxes b__law_boxes (sl_lend (i := 4) sl_nil)))
    (sss_cons (ss_set (i := 6) S.nd (se_call (ws := [2, 3, 4, 5]) (fn := fn__law_word) (ld := [some 5, none]) F__law_word (hr.mono (by omega)) rfl g__law_word k__law_word b__law_word (sl_lend (i := 5) (sl_val se_bl sl_nil))))
    (sss_cons (ss_if (st_w (sw_or (st_not (st_val (se_call (ws := []) (fn := fn__law_same) (ld := [none, some 2]) F__law_same (hr.mono (by omega)) rfl g__law_same k__law_same b__law_same (sl_val (se_call (ws := []) (fn := fn_outer) (ld := [some 4]) F_outer (hr.mono (by omega)) rfl g_outer k_outer b_outer (sl_lend (i := 4) sl_nil)) (sl_lend (i := 2) sl_nil))))) (sw_or1 (st_not (st_val (se_call (ws := []) (fn := fn__law_same) (ld := [none, some 3]) F__law_same (hr.mono (by omega)) rfl g__law_same k__law_same b__law_same (sl_val (se_call (ws := []) (fn := fn_inner) (ld := [some 4]) F_inner (hr.mono (by omega)) rfl g_inner k_inner b_inner (sl_lend (i := 4) sl_nil)) (sl_lend (i := 3) sl_nil)))))))) (sss_one (ss_ret se_bl)) sss_nil)
    (sss_cons (ss_if (st_w (sw_or (st_not (st_val (se_call (ws := []) (fn := fn__law_same) (ld := [none, some 6]) F__law_same (hr.mono (by omega)) rfl g__law_same k__law_same b__law_same (sl_val (se_call (ws := [1, 2]) (fn := fn_row_word) (ld := [some 4]) F_row_word (hr.mono (by omega)) rfl g_row_word k_row_word b_row_word (sl_lend (i := 4) sl_nil)) (sl_lend (i := 6) sl_nil))))) (sw_or1 (st_not (st_val (se_call (ws := []) (fn := fn__law_same) (ld := [none, none]) F__law_same (hr.mono (by omega)) rfl g__law_same k__law_same b__law_same (sl_val (se_call (ws := [1, 2, 3]) (fn := fn_column_word) (ld := [some 4]) F_column_word (hr.mono (by omega)) rfl g_column_word k_column_word b_column_word (sl_lend (i := 4) sl_nil)) (sl_val (se_call (ws := [2, 3, 4, 5]) (fn := fn__law_word) (ld := [some 5, none]) F__law_word (hr.mono (by omega)) rfl g__law_word k__law_word b__law_word (sl_lend (i := 5) (sl_val se_bl sl_nil))) sl_nil)))))))) (sss_one (ss_ret se_bl)) sss_nil)
    (sss_cons (ss_if (st_w (sw_or (st_not (st_val (se_call (ws := []) (fn := fn__law_same) (ld := [none, none]) F__law_same (hr.mono (by omega)) rfl g__law_same k__law_same b__law_same (sl_val (se_call (ws := [1, 3, 4]) (fn := fn_ranks) (ld := [some 6]) F_ranks (hr.mono (by omega)) rfl g_ranks k_ranks b_ranks (sl_lend (i := 6) sl_nil)) (sl_val (se_call (ws := [1, 2, 3]) (fn := fn__law_ranks) (ld := [some 6]) F__law_ranks (hr.mono (by omega)) rfl g__law_ranks k__law_ranks b__law_ranks (sl_lend (i := 6) sl_nil)) sl_nil))))) (sw_or1 (st_not (st_val (se_call (ws := []) (fn := fn__law_same) (ld := [none, none]) F__law_same (hr.mono (by omega)) rfl g__law_same k__law_same b__law_same (sl_val (se_call (ws := [1, 2]) (fn := fn_content) (ld := [some 6]) F_content (hr.mono (by omega)) rfl g_content k_content b_content (sl_lend (i := 6) sl_nil)) (sl_val (se_call (ws := []) (fn := fn__law_counts) (ld := [some 6]) F__law_counts (hr.mono (by omega)) rfl g__law_counts k__law_counts b__law_counts (sl_lend (i := 6) sl_nil)) sl_nil)))))))) (sss_one (ss_ret se_bl)) sss_nil)
    (sss_cons (ss_set (i := 7) S.nd (se_call (ws := [1, 5]) (fn := fn__law_ranked) (ld := [some 4]) F__law_ranked (hr.mono (by omega)) rfl g__law_ranked k__law_ranked b__law_ranked (sl_lend (i := 4) sl_nil)))
    (sss_cons (ss_if (st_w (sw_or (st_not (st_val (se_call (ws := [1, 2, 3, 4]) (fn := fn__law_kinds) (ld := [some 7]) F__law_kinds (hr.mono (by omega)) rfl g__law_kinds k__law_kinds b__law_kinds (sl_lend (i := 7) sl_nil)))) (sw_or1 (st_not (st_val (se_call (ws := []) (fn := fn__law_same) (ld := [none, some 7]) F__law_same (hr.mono (by omega)) rfl g__law_same k__law_same b__law_same (sl_val (se_call (ws := []) (fn := fn_standardized) (ld := [some 4]) F_standardized (hr.mono (by omega)) rfl g_standardized k_standardized b_standardized (sl_lend (i := 4) sl_nil)) (sl_lend (i := 7) sl_nil)))))))) (sss_one (ss_ret se_bl)) sss_nil)
    (sss_cons (ss_set (i := 8) S.nd (se_callB ((cr_max rfl)) o_maxL rfl g_max rfl (sa_cons (se_op op_addA o_add (se_up (se_lst (sa_cons se_int sa_nil))) (se_lc rfl S.nd (own := [("row", 9)]) (L2.blkOk_by (by rfl)) (si_take (i := 7)) (fun s0 H0 C0 cl0 fp0 => (sg_name (i := 9) S.nd)) (fun s0 H0 C0 cl0 fp0 => sts_nil) (fun s0 H0 C0 cl0 fp0 => (se_up (se_callB (call_len) o_len rfl g_len rfl (sa_cons (se_name (i := 9)) sa_nil)))))) sa_nil)))
    (sss_cons (ss_set (i := 10) S.nd (se_callTy (call_tuple_of) o_tuple rfl g_tuple rfl (sa_cons (se_lc rfl S.nd (own := [("j", 11)]) (L2.blkOk_by (by rfl)) (si_range1 rfl g_range (se_frz (i := 8))) (fun s0 H0 C0 cl0 fp0 => (sg_name (i := 11) S.nd)) (fun s0 H0 C0 cl0 fp0 => sts_nil) (fun s0 H0 C0 cl0 fp0 => (se_callTy (call_tuple_of) o_tuple rfl g_tuple rfl (sa_cons (se_lc rfl S.nd (own := [("row", 9)]) (L2.blkOk_by (by rfl)) (si_take (i := 7)) (fun s0 H0 C0 cl0 fp0 => (sg_name (i := 9) S.nd)) (fun s0 H0 C0 cl0 fp0 => (sts_one (st_up (st_cmp op_gt o_gt (se_callB (call_len) o_len rfl g_len rfl (sa_cons (se_name (i := 9)) sa_nil)) (se_name (i := 11)))))) (fun s0 H0 C0 cl0 fp0 => (se_up (se_ix ix_seq o_ix (se_name (i := 9)) (se_name (i := 11)))))) sa_nil)))) sa_nil)))
    (sss_cons (ss_if (st_not (st_val (se_call (ws := []) (fn := fn__law_same) (ld := [none, some 10]) F__law_same (hr.mono (by omega)) rfl g__law_same k__law_same b__law_same (sl_val (se_call (ws := [1, 2]) (fn := fn_transposed) (ld := [some 7]) F_transposed (hr.mono (by omega)) rfl g_transposed k_transposed b_transposed (sl_lend (i := 7) sl_nil)) (sl_lend (i := 10) sl_nil))))) (sss_one (ss_ret se_bl)) sss_nil)
    (sss_one (ss_ret (se_and (se_call (ws := [2, 3, 5, 6, 7, 8, 9, 10, 11, 12, 13, 14]) (fn := fn__law_parts) (ld := [some 1, some 4]) F__law_parts (hr.mono (by omega)) rfl g__law_parts k__law_parts b__law_parts (sl_lend (i := 1) (sl_lend (i := 4) sl_nil))) (se_and (se_call (ws := [2, 3, 4, 5]) (fn := fn__law_from_word) (ld := [some 1, none]) F__law_from_word (hr.mono (by omega)) rfl g__law_from_word k__law_from_word b__law_from_word (sl_late (i := 1) (sl_val (se_call (ws := [3, 4, 5, 6, 7, 8]) (fn := fn__law_filled) (ld := [some 1, some 2, none]) F__law_filled (hr.mono (by omega)) rfl g__law_filled k__law_filled b__law_filled (sl_lend (i := 1) (sl_lend (i := 2) (sl_val (se_up (se_tup sa_nil)) sl_nil)))) sl_nil))) (se_one (se_call (ws := [2, 3, 4, 5, 6, 7, 9, 10]) (fn := fn__law_contents) (ld := [some 1, some 4]) F__law_contents (hr.mono (by omega)) rfl g__law_contents k__law_contents b__law_contents (sl_lend (i := 1) (sl_lend (i := 4) sl_nil))))))))))))))))))))))))
  exact d.mono (by decide)
theorem ok_law (Y : Says K mg) : UF P w K mg base "law" 8 ["script"] [1, 2, 3, 4, 5, 6, 7, 8, 10] fn_law := by
  obtain ⟨f, fd, gf, F⟩ := Y.def_ 38 (x := "law") (st := top 40) rfl rfl
  exact ⟨f, fd, gf, F.kp, F.bindsN fun _ _ _ _ _ _ us hl => match us, hl with | [_], _ => rfl, fk_law Y F⟩
end
def loose0 : List PySem.Str := ["is_letter", "outer", "left_out", "inner", "is_bad_box", "fault", "is_tableau", "is_straight", "row_word", "column_word", "content", "is_standard", "from_row_word", "ranks", "filled", "standardized", "with_content", "part", "joined", "transposed", "_law_start", "_law_pick", "_law_same", "_law_shape", "_law_within", "_law_filled", "_law_boxes", "_law_word", "_law_ranks", "_law_put"]
def loose1 : List PySem.Str := ["_law_ranked", "_law_fault", "_law_bent", "_law_counts", "_law_kinds", "_law_parts", "_law_from_word", "_law_contents"]
def loose : List PySem.Str := loose0 ++ loose1
abbrev R : PySem.W.OpenRow := PySem.W.OpenLaw.row PySem.Challenge.rw_hivewright_k80_tableaux_and_their_words
abbrev hk : PySem.W.Hook := He.hookD 4 fas dds
def ob (s : PySem.W.SharedT) : He.AlD := He.obsDG 4 fas dds (HandSHeadRun.getT s)
theorem ob_eq (s : PySem.W.SharedT) : ob s = hk.obs s.abs := He.obsDG_eq (HandSHeadRun.getT_eq s)
theorem run (w : PySem.World) : HandSHeadRun.RunEq R (PySem.W.view R.prog [40]) hk ob 2000 loose w := by
  intro os
  kernel_rfl
theorem facts {P : Program} {w : PySem.World} {K : PySem.W.Frag} {h : Heap} {mg : Str → Option Value} {f : Addr} (X : K.In h) (G : h.Ns mainGlobals mg) (hfa : mg ("law" : Str) = some (.ref f)) (c : He.SaysD fas dds K) :
    ∃ fd : FuncData, (∀ (s : Shared) (v : Value), BindsTo s fd ⟨[v], []⟩ [("script", v)]) ∧ ∀ base : Heap, FnOk P w K mg base CX0 8 f fd ["script"] (spOf K 1 ws_law fn_law) := by
  have Y : Says K mg := ⟨h, X, G, c⟩
  obtain ⟨fd, F⟩ := c.def_ 38 (d := ⟨("law", none), "law", "law", defArgs (top 40), defBody (top 40), defScope (top 40), [], []⟩) rfl
  have e := hfa.symm.trans (He.glo_ok X G (c.fact 38 (f := .glo "law") rfl))
  cases e
  have b := FunD.bindsA (ps := ["script"]) F fun _ _ _ _ _ _ us hl => match us, hl with | [_], _ => rfl
  exact ⟨fd, fun s v => b s [v] rfl, fun base => fk_law Y F⟩
end K80
open PySem PySem.W PySem.Calls PyProof.Rows
theorem PySem.Challenge.cw_hivewright_k80_tableaux_and_their_words_holds : PySem.Challenge.rw_hivewright_k80_tableaux_and_their_words.Holds := by
  w_on; o_law
  refine HandSHeadRun.head_any (r := OpenLaw.row PySem.Challenge.rw_hivewright_k80_tableaux_and_their_words) (q := view (OpenLaw.row PySem.Challenge.rw_hivewright_k80_tableaux_and_their_words).prog [40]) (H := K80.hk) (ob := K80.ob) (M := 2000) (loose := K80.loose) (d := HandSHeadRun.topDef (OpenLaw.row PySem.Challenge.rw_hivewright_k80_tableaux_and_their_words).prog 40) (kwd := []) K80.ob_eq
    (by kernel_rfl) (fun s => by kernel_rfl) K80.run (by kernel_rfl) (by kernel_rfl) (by kernel_rfl) (by rfl) (by first | assumption | decide +kernel) (by decide +kernel) ⟨rfl, rfl, rfl, rfl, rfl, by decide +kernel⟩ ?hw ?hc
  case hw => w_witness2
  case hc =>
    refine L2.walk_ofE (l := PySem.Challenge.rw_hivewright_k80_tableaux_and_their_words) (n := 63) (k := 8) (x := "script") (CX := L2.CX0) rfl (by decide) (by kernel_rfl) ⟨rfl, by decide, by decide⟩ ?F (fun _ _ _ _ z => z)
    intro w mg fa h Y G hmg0
    obtain ⟨K, KX, c⟩ := Y
    have hmg : mg ("law" : PySem.Str) = some (.ref fa) := by
      have e : (HandSHeadRun.topDef (OpenLaw.row PySem.Challenge.rw_hivewright_k80_tableaux_and_their_words).prog 40).name = ("law" : PySem.Str) := by kernel_rfl
      rw [← e]
      exact hmg0
    obtain ⟨fd, hb, hF⟩ := K80.facts (P := (PySem.Challenge.rw_hivewright_k80_tableaux_and_their_words).prog) (w := w) KX G hmg c
    exact ⟨K, fd, _, KX, hb, fun H a ns hl _ hS => Py.sp_law hS (K80.law_true ns hl), fun base _ _ => hF base⟩
