import PyProof.Rows.All
import Wide.All
import OpenK.AllK
import Wide.FinOn
import HandS.ForMost
import HandS.Wide
import HandS.TupAny
import HandS.Deep
import HandS.IsInst
import KE.SortData
import HandS.Comp
import HandS.Iter
import HandS.Zip
import HandS.More
import HandS.WordsDict
import HandS.RaiseMore
import HandS.Small
import HandS.Words
import HandS.EndBits
import HandS.ListItems
import HandS.SetKeys
import HandS.SetFor
import HandS.DictTup
import HandS.ExcInit
import HandS.ExcField
import HandS.ExcIs
import KE.KExcIs
import PySem.Challenge.RW_farbooks_k06_refusals_apart
set_option Elab.async false
set_option linter.all false
set_option maxRecDepth 100000
/-! TL0: data as trees (D), and what it means that the abstract heap holds them (Dens). -/
namespace TL
open PySem PySem.Spec PyProof.Rows L2

/-- how a mutable node is held: own: by this place alone; frz: it changes no more; pv: a caller's, it stays while the def runs; view: it stays while the expression runs; ext: read only, of the module or the script -/
inductive Fl where
  | own | frz | pv | view | ext
  deriving DecidableEq
/-- read only, tracked -/
def Fl.ro : Fl → Bool
  | .frz => true
  | .pv => true
  | .view => true
  | _ => false

/-- a value as a tree -/
inductive D where
  | und
  | non
  | bl (b : Bool)
  | int (i : Int)
  | str (x : Str)
  | ty (n : String)
  | cls (C : Addr)
  | tup (xs : List D)
  | tupE (xs : List D)
  | lst (f : Fl) (xs : List D)
  | dK (f : Fl) (kvs : List (Key × D))
  | dT (f : Fl) (kvs : List (List Key × D))
  | ins (f : Fl) (C : Addr) (fs : List (Str × D))

mutual
def D.mapF (g : Fl → Fl) : D → D
  | .und => .und
  | .non => .non
  | .bl b => .bl b
  | .int i => .int i
  | .str x => .str x
  | .ty n => .ty n
  | .cls C => .cls C
  | .tup xs => .tup (D.mapFs g xs)
  | .tupE xs => .tupE (D.mapFs g xs)
  | .lst f xs => .lst (g f) (D.mapFs g xs)
  | .dK f kvs => .dK (g f) (D.mapFk g kvs)
  | .dT f kvs => .dT (g f) (D.mapFt g kvs)
  | .ins f C fs => .ins (g f) C (D.mapFf g fs)
def D.mapFs (g : Fl → Fl) : List D → List D
  | [] => []
  | x :: r => D.mapF g x :: D.mapFs g r
def D.mapFk (g : Fl → Fl) : List (Key × D) → List (Key × D)
  | [] => []
  | (k, x) :: r => (k, D.mapF g x) :: D.mapFk g r
def D.mapFt (g : Fl → Fl) : List (List Key × D) → List (List Key × D)
  | [] => []
  | (k, x) :: r => (k, D.mapF g x) :: D.mapFt g r
def D.mapFf (g : Fl → Fl) : List (Str × D) → List (Str × D)
  | [] => []
  | (k, x) :: r => (k, D.mapF g x) :: D.mapFf g r
end
mutual
/-- every node's flag fits p -/
def D.allF (p : Fl → Bool) : D → Bool
  | .und => true
  | .non => true
  | .bl _ => true
  | .int _ => true
  | .str _ => true
  | .ty _ => true
  | .cls _ => true
  | .tup xs => D.allFs p xs
  | .tupE xs => D.allFs p xs
  | .lst f xs => p f && D.allFs p xs
  | .dK f kvs => p f && D.allFk p kvs
  | .dT f kvs => p f && D.allFt p kvs
  | .ins f _ fs => p f && D.allFf p fs
def D.allFs (p : Fl → Bool) : List D → Bool
  | [] => true
  | x :: r => D.allF p x && D.allFs p r
def D.allFk (p : Fl → Bool) : List (Key × D) → Bool
  | [] => true
  | (_, x) :: r => D.allF p x && D.allFk p r
def D.allFt (p : Fl → Bool) : List (List Key × D) → Bool
  | [] => true
  | (_, x) :: r => D.allF p x && D.allFt p r
def D.allFf (p : Fl → Bool) : List (Str × D) → Bool
  | [] => true
  | (_, x) :: r => D.allF p x && D.allFf p r
end
theorem mapFs_map (g : Fl → Fl) : ∀ xs : List D, D.mapFs g xs = xs.map (D.mapF g)
  | [] => rfl
  | x :: r => by rw [D.mapFs, mapFs_map g r]; rfl
theorem mapFk_map (g : Fl → Fl) : ∀ xs : List (Key × D), D.mapFk g xs = xs.map fun p => (p.1, D.mapF g p.2)
  | [] => rfl
  | (k, x) :: r => by rw [D.mapFk, mapFk_map g r]; rfl
theorem mapFt_map (g : Fl → Fl) : ∀ xs : List (List Key × D), D.mapFt g xs = xs.map fun p => (p.1, D.mapF g p.2)
  | [] => rfl
  | (k, x) :: r => by rw [D.mapFt, mapFt_map g r]; rfl
theorem mapFf_map (g : Fl → Fl) : ∀ xs : List (Str × D), D.mapFf g xs = xs.map fun p => (p.1, D.mapF g p.2)
  | [] => rfl
  | (k, x) :: r => by rw [D.mapFf, mapFf_map g r]; rfl
theorem allFs_all (p : Fl → Bool) : ∀ xs : List D, D.allFs p xs = xs.all (D.allF p)
  | [] => rfl
  | x :: r => by rw [D.allFs, allFs_all p r]; rfl
theorem allFk_all (p : Fl → Bool) : ∀ xs : List (Key × D), D.allFk p xs = xs.all fun q => D.allF p q.2
  | [] => rfl
  | (k, x) :: r => by rw [D.allFk, allFk_all p r]; rfl
theorem allFt_all (p : Fl → Bool) : ∀ xs : List (List Key × D), D.allFt p xs = xs.all fun q => D.allF p q.2
  | [] => rfl
  | (k, x) :: r => by rw [D.allFt, allFt_all p r]; rfl
theorem allFf_all (p : Fl → Bool) : ∀ xs : List (Str × D), D.allFf p xs = xs.all fun q => D.allF p q.2
  | [] => rfl
  | (k, x) :: r => by rw [D.allFf, allFf_all p r]; rfl
theorem snd_mapFk (g : Fl → Fl) (kvs : List (Key × D)) : (D.mapFk g kvs).map (·.2) = (kvs.map (·.2)).map (D.mapF g) := by rw [mapFk_map, List.map_map, List.map_map]; rfl
theorem snd_mapFt (g : Fl → Fl) (kvs : List (List Key × D)) : (D.mapFt g kvs).map (·.2) = (kvs.map (·.2)).map (D.mapF g) := by rw [mapFt_map, List.map_map, List.map_map]; rfl
theorem snd_mapFf (g : Fl → Fl) (kvs : List (Str × D)) : (D.mapFf g kvs).map (·.2) = (kvs.map (·.2)).map (D.mapF g) := by rw [mapFf_map, List.map_map, List.map_map]; rfl
theorem fst_mapFk (g : Fl → Fl) (kvs : List (Key × D)) : (D.mapFk g kvs).map (·.1) = kvs.map (·.1) := by rw [mapFk_map, List.map_map]; rfl
theorem fst_mapFt (g : Fl → Fl) (kvs : List (List Key × D)) : (D.mapFt g kvs).map (·.1) = kvs.map (·.1) := by rw [mapFt_map, List.map_map]; rfl
theorem fst_mapFf (g : Fl → Fl) (kvs : List (Str × D)) : (D.mapFf g kvs).map (·.1) = kvs.map (·.1) := by rw [mapFf_map, List.map_map]; rfl

abbrev noH : Hp := fun _ => none
/-- the values of a pair list as slots -/
abbrev sv {κ : Type} (kvs : List (κ × V)) : List (Option V) := kvs.map fun p => some p.2
abbrev so (us : List V) : List (Option V) := us.map some

/-- the slots hold the trees; the last list: the addresses that are owned by them. N: what is known of the address of a node that isn't owned -/
inductive Dens (K : PySem.W.Frag) (H : Hp) (N : Fl → Addr → Prop) : List (Option V) → List D → List Addr → Prop
  | nil : Dens K H N [] [] []
  | und {o vs ds L} : Dens K H N vs ds L → Dens K H N (o :: vs) (.und :: ds) L
  | non {vs ds L} : Dens K H N vs ds L → Dens K H N (some .non :: vs) (.non :: ds) L
  | bl {b vs ds L} : Dens K H N vs ds L → Dens K H N (some (.bl b) :: vs) (.bl b :: ds) L
  | int {i vs ds L} : Dens K H N vs ds L → Dens K H N (some (.int i) :: vs) (.int i :: ds) L
  | str {x vs ds L} : Dens K H N vs ds L → Dens K H N (some (.str x) :: vs) (.str x :: ds) L
  | ty {n vs ds L} : Dens K H N vs ds L → Dens K H N (some (.ty n) :: vs) (.ty n :: ds) L
  | cls {C vs ds L} : Dens K H N vs ds L → Dens K H N (some (.ref C) :: vs) (.cls C :: ds) L
  | tup {a us xs vs ds L1 L2} : H a = some (.tup us) → N .frz a → Dens K H N (so us) xs L1 → Dens K H N vs ds L2 → Dens K H N (some (.ref a) :: vs) (.tup xs :: ds) (L1 ++ L2)
  | tupK {a us xs vs ds L1 L2} : SqT K noH a us → Dens K H N (so us) xs L1 → Dens K H N vs ds L2 → Dens K H N (some (.ref a) :: vs) (.tupE xs :: ds) (L1 ++ L2)
  | lstO {a us xs vs ds L1 L2} : H a = some (.lst us) → Dens K H N (so us) xs L1 → Dens K H N vs ds L2 → Dens K H N (some (.ref a) :: vs) (.lst .own xs :: ds) (a :: (L1 ++ L2))
  | lstR {f a us xs vs ds L1 L2} : f.ro = true → H a = some (.lst us) → N f a → Dens K H N (so us) xs L1 → Dens K H N vs ds L2 → Dens K H N (some (.ref a) :: vs) (.lst f xs :: ds) (L1 ++ L2)
  | lstE {a us xs vs ds L1 L2} : SqL K noH a us → Dens K H N (so us) xs L1 → Dens K H N vs ds L2 → Dens K H N (some (.ref a) :: vs) (.lst .ext xs :: ds) (L1 ++ L2)
  | lstX {a o us xs vs ds L1 L2} : H a = some (.frz o (.lst us)) → N .ext a → Dens K H N (so us) xs L1 → Dens K H N vs ds L2 → Dens K H N (some (.ref a) :: vs) (.lst .ext xs :: ds) (L1 ++ L2)
  | dKO {a kvs kds vs ds L1 L2} : H a = some (.dK kvs) → kvs.map (·.1) = kds.map (·.1) → Dens K H N (sv kvs) (kds.map (·.2)) L1 → Dens K H N vs ds L2 → Dens K H N (some (.ref a) :: vs) (.dK .own kds :: ds) (a :: (L1 ++ L2))
  | dKR {f a kvs kds vs ds L1 L2} : f.ro = true → Rd H a (.dK kvs) → N f a → kvs.map (·.1) = kds.map (·.1) → Dens K H N (sv kvs) (kds.map (·.2)) L1 → Dens K H N vs ds L2 → Dens K H N (some (.ref a) :: vs) (.dK f kds :: ds) (L1 ++ L2)
  | dTO {a kvs kds vs ds L1 L2} : H a = some (.dT kvs) → kvs.map (·.1) = kds.map (·.1) → Dens K H N (sv kvs) (kds.map (·.2)) L1 → Dens K H N vs ds L2 → Dens K H N (some (.ref a) :: vs) (.dT .own kds :: ds) (a :: (L1 ++ L2))
  | dTR {f a kvs kds vs ds L1 L2} : f.ro = true → Rd H a (.dT kvs) → N f a → kvs.map (·.1) = kds.map (·.1) → Dens K H N (sv kvs) (kds.map (·.2)) L1 → Dens K H N vs ds L2 → Dens K H N (some (.ref a) :: vs) (.dT f kds :: ds) (L1 ++ L2)
  | insO {a C dx kvs kds vs ds L1 L2} : H a = some (.ins C dx kvs) → kvs.map (·.1) = kds.map (·.1) → Dens K H N (sv kvs) (kds.map (·.2)) L1 → Dens K H N vs ds L2 → Dens K H N (some (.ref a) :: vs) (.ins .own C kds :: ds) (a :: (L1 ++ L2))
  | insR {f a C dx kvs kds vs ds L1 L2} : f.ro = true → H a = some (.ins C dx kvs) → N f a → kvs.map (·.1) = kds.map (·.1) → Dens K H N (sv kvs) (kds.map (·.2)) L1 → Dens K H N vs ds L2 → Dens K H N (some (.ref a) :: vs) (.ins f C kds :: ds) (L1 ++ L2)

/-- what stays of an address that isn't owned -/
structure Keep (H H' : Hp) (a : Addr) : Prop where
  tup : ∀ us, H a = some (.tup us) → H' a = some (.tup us)
  lst : ∀ us, H a = some (.lst us) → H' a = some (.lst us)
  ins : ∀ C dx fs, H a = some (.ins C dx fs) → H' a = some (.ins C dx fs)
  lstX : ∀ o us, H a = some (.frz o (.lst us)) → H' a = some (.frz o (.lst us))
  dK : ∀ kvs, Rd H a (.dK kvs) → Rd H' a (.dK kvs)
  dT : ∀ kvs, Rd H a (.dT kvs) → Rd H' a (.dT kvs)
theorem Keep.of {H H' : Hp} {a : Addr} (e : H' a = H a) : Keep H H' a :=
  ⟨fun _ h => e.trans h, fun _ h => e.trans h, fun _ _ _ h => e.trans h, fun _ _ h => e.trans h, fun _ h => by unfold Rd at *; rw [e]; exact h, fun _ h => by unfold Rd at *; rw [e]; exact h⟩

section
variable {K : PySem.W.Frag} {H H' : Hp} {N N' : Fl → Addr → Prop}
theorem capp {a : Addr} {L1 L2 M : List Addr} : (a :: (L1 ++ L2)) ++ M = a :: (L1 ++ (L2 ++ M)) := by simp
theorem rd_some {a : Addr} {u : HO} (h : Rd H a u) : H a ≠ none := by
  rcases h with h | ⟨o, h⟩ <;> rw [h] <;> exact Option.some_ne_none _

/-- the heap and the knowledge change, the trees stay -/
theorem Dens.mono {σ : List (Option V)} {ds : List D} {L : List Addr} (h : Dens K H N σ ds L) (hL : ∀ a ∈ L, H' a = H a)
    (hN : ∀ f a, N f a → H a ≠ none → N' f a ∧ Keep H H' a) : Dens K H' N' σ ds L := by
  induction h with
  | nil => exact .nil
  | und _ ih => exact .und (ih hL)
  | non _ ih => exact .non (ih hL)
  | bl _ ih => exact .bl (ih hL)
  | int _ ih => exact .int (ih hL)
  | str _ ih => exact .str (ih hL)
  | ty _ ih => exact .ty (ih hL)
  | cls _ ih => exact .cls (ih hL)
  | tup e n _ _ i1 i2 =>
    obtain ⟨n', k⟩ := hN _ _ n (by rw [e]; exact Option.some_ne_none _)
    exact .tup (k.tup _ e) n' (i1 fun a ha => hL a (List.mem_append_left _ ha)) (i2 fun a ha => hL a (List.mem_append_right _ ha))
  | tupK e _ _ i1 i2 => exact .tupK e (i1 fun a ha => hL a (List.mem_append_left _ ha)) (i2 fun a ha => hL a (List.mem_append_right _ ha))
  | lstO e _ _ i1 i2 =>
    exact .lstO ((hL _ (List.mem_cons_self ..)).trans e) (i1 fun a ha => hL a (List.mem_cons_of_mem _ (List.mem_append_left _ ha))) (i2 fun a ha => hL a (List.mem_cons_of_mem _ (List.mem_append_right _ ha)))
  | lstR f e n _ _ i1 i2 =>
    obtain ⟨n', k⟩ := hN _ _ n (by rw [e]; exact Option.some_ne_none _)
    exact .lstR f (k.lst _ e) n' (i1 fun a ha => hL a (List.mem_append_left _ ha)) (i2 fun a ha => hL a (List.mem_append_right _ ha))
  | lstE e _ _ i1 i2 => exact .lstE e (i1 fun a ha => hL a (List.mem_append_left _ ha)) (i2 fun a ha => hL a (List.mem_append_right _ ha))
  | lstX e n _ _ i1 i2 =>
    obtain ⟨n', k⟩ := hN _ _ n (by rw [e]; exact Option.some_ne_none _)
    exact .lstX (k.lstX _ _ e) n' (i1 fun a ha => hL a (List.mem_append_left _ ha)) (i2 fun a ha => hL a (List.mem_append_right _ ha))
  | dKO e q _ _ i1 i2 =>
    exact .dKO ((hL _ (List.mem_cons_self ..)).trans e) q (i1 fun a ha => hL a (List.mem_cons_of_mem _ (List.mem_append_left _ ha))) (i2 fun a ha => hL a (List.mem_cons_of_mem _ (List.mem_append_right _ ha)))
  | dKR f e n q _ _ i1 i2 =>
    obtain ⟨n', k⟩ := hN _ _ n (rd_some e)
    exact .dKR f (k.dK _ e) n' q (i1 fun a ha => hL a (List.mem_append_left _ ha)) (i2 fun a ha => hL a (List.mem_append_right _ ha))
  | dTO e q _ _ i1 i2 =>
    exact .dTO ((hL _ (List.mem_cons_self ..)).trans e) q (i1 fun a ha => hL a (List.mem_cons_of_mem _ (List.mem_append_left _ ha))) (i2 fun a ha => hL a (List.mem_cons_of_mem _ (List.mem_append_right _ ha)))
  | dTR f e n q _ _ i1 i2 =>
    obtain ⟨n', k⟩ := hN _ _ n (rd_some e)
    exact .dTR f (k.dT _ e) n' q (i1 fun a ha => hL a (List.mem_append_left _ ha)) (i2 fun a ha => hL a (List.mem_append_right _ ha))
  | insO e q _ _ i1 i2 =>
    exact .insO ((hL _ (List.mem_cons_self ..)).trans e) q (i1 fun a ha => hL a (List.mem_cons_of_mem _ (List.mem_append_left _ ha))) (i2 fun a ha => hL a (List.mem_cons_of_mem _ (List.mem_append_right _ ha)))
  | insR f e n q _ _ i1 i2 =>
    obtain ⟨n', k⟩ := hN _ _ n (by rw [e]; exact Option.some_ne_none _)
    exact .insR f (k.ins _ _ _ e) n' q (i1 fun a ha => hL a (List.mem_append_left _ ha)) (i2 fun a ha => hL a (List.mem_append_right _ ha))

/-- only the knowledge changes -/
theorem Dens.know {σ : List (Option V)} {ds : List D} {L : List Addr} (h : Dens K H N σ ds L) (hN : ∀ f a, N f a → H a ≠ none → N' f a) : Dens K H N' σ ds L :=
  h.mono (fun _ _ => rfl) fun f a n e => ⟨hN f a n e, Keep.of rfl⟩

theorem Dens.app {σ τ : List (Option V)} {ds es : List D} {L M : List Addr} (h : Dens K H N σ ds L) (h' : Dens K H N τ es M) : Dens K H N (σ ++ τ) (ds ++ es) (L ++ M) := by
  induction h with
  | nil => exact h'
  | und _ ih => exact .und ih
  | non _ ih => exact .non ih
  | bl _ ih => exact .bl ih
  | int _ ih => exact .int ih
  | str _ ih => exact .str ih
  | ty _ ih => exact .ty ih
  | cls _ ih => exact .cls ih
  | tup e n a _ _ i2 => rw [List.append_assoc]; exact .tup e n a i2
  | tupK e a _ _ i2 => rw [List.append_assoc]; exact .tupK e a i2
  | lstO e a _ _ i2 => rw [capp]; exact .lstO e a i2
  | lstR f e n a _ _ i2 => rw [List.append_assoc]; exact .lstR f e n a i2
  | lstE e a _ _ i2 => rw [List.append_assoc]; exact .lstE e a i2
  | lstX e n a _ _ i2 => rw [List.append_assoc]; exact .lstX e n a i2
  | dKO e q a _ _ i2 => rw [capp]; exact .dKO e q a i2
  | dKR f e n q a _ _ i2 => rw [List.append_assoc]; exact .dKR f e n q a i2
  | dTO e q a _ _ i2 => rw [capp]; exact .dTO e q a i2
  | dTR f e n q a _ _ i2 => rw [List.append_assoc]; exact .dTR f e n q a i2
  | insO e q a _ _ i2 => rw [capp]; exact .insO e q a i2
  | insR f e n q a _ _ i2 => rw [List.append_assoc]; exact .insR f e n q a i2

theorem Dens.cons {o : Option V} {σ : List (Option V)} {d : D} {ds : List D} {L : List Addr} (h : Dens K H N (o :: σ) (d :: ds) L) : ∃ L1 L2, L = L1 ++ L2 ∧ Dens K H N [o] [d] L1 ∧ Dens K H N σ ds L2 := by
  cases h with
  | und h => exact ⟨[], _, rfl, .und .nil, h⟩
  | non h => exact ⟨[], _, rfl, .non .nil, h⟩
  | bl h => exact ⟨[], _, rfl, .bl .nil, h⟩
  | int h => exact ⟨[], _, rfl, .int .nil, h⟩
  | str h => exact ⟨[], _, rfl, .str .nil, h⟩
  | ty h => exact ⟨[], _, rfl, .ty .nil, h⟩
  | cls h => exact ⟨[], _, rfl, .cls .nil, h⟩
  | tup e n a h => exact ⟨_ ++ [], _, by rw [List.append_nil], .tup e n a .nil, h⟩
  | tupK e a h => exact ⟨_ ++ [], _, by rw [List.append_nil], .tupK e a .nil, h⟩
  | lstO e a h => exact ⟨_ :: (_ ++ []), _, by rw [List.append_nil]; rfl, .lstO e a .nil, h⟩
  | lstR f e n a h => exact ⟨_ ++ [], _, by rw [List.append_nil], .lstR f e n a .nil, h⟩
  | lstE e a h => exact ⟨_ ++ [], _, by rw [List.append_nil], .lstE e a .nil, h⟩
  | lstX e n a h => exact ⟨_ ++ [], _, by rw [List.append_nil], .lstX e n a .nil, h⟩
  | dKO e q a h => exact ⟨_ :: (_ ++ []), _, by rw [List.append_nil]; rfl, .dKO e q a .nil, h⟩
  | dKR f e n q a h => exact ⟨_ ++ [], _, by rw [List.append_nil], .dKR f e n q a .nil, h⟩
  | dTO e q a h => exact ⟨_ :: (_ ++ []), _, by rw [List.append_nil]; rfl, .dTO e q a .nil, h⟩
  | dTR f e n q a h => exact ⟨_ ++ [], _, by rw [List.append_nil], .dTR f e n q a .nil, h⟩
  | insO e q a h => exact ⟨_ :: (_ ++ []), _, by rw [List.append_nil]; rfl, .insO e q a .nil, h⟩
  | insR f e n q a h => exact ⟨_ ++ [], _, by rw [List.append_nil], .insR f e n q a .nil, h⟩

theorem Dens.put {o : Option V} {σ : List (Option V)} {d : D} {ds : List D} {L1 L2 : List Addr} (h : Dens K H N [o] [d] L1) (h' : Dens K H N σ ds L2) : Dens K H N (o :: σ) (d :: ds) (L1 ++ L2) := h.app h'

theorem Dens.length {σ : List (Option V)} {ds : List D} {L : List Addr} (h : Dens K H N σ ds L) : σ.length = ds.length := by
  induction h with
  | nil => rfl
  | und _ ih => exact congrArg (· + 1) ih
  | non _ ih => exact congrArg (· + 1) ih
  | bl _ ih => exact congrArg (· + 1) ih
  | int _ ih => exact congrArg (· + 1) ih
  | str _ ih => exact congrArg (· + 1) ih
  | ty _ ih => exact congrArg (· + 1) ih
  | cls _ ih => exact congrArg (· + 1) ih
  | tup _ _ _ _ _ ih => exact congrArg (· + 1) ih
  | tupK _ _ _ _ ih => exact congrArg (· + 1) ih
  | lstO _ _ _ _ ih => exact congrArg (· + 1) ih
  | lstR _ _ _ _ _ _ ih => exact congrArg (· + 1) ih
  | lstE _ _ _ _ ih => exact congrArg (· + 1) ih
  | lstX _ _ _ _ _ ih => exact congrArg (· + 1) ih
  | dKO _ _ _ _ _ ih => exact congrArg (· + 1) ih
  | dKR _ _ _ _ _ _ _ ih => exact congrArg (· + 1) ih
  | dTO _ _ _ _ _ ih => exact congrArg (· + 1) ih
  | dTR _ _ _ _ _ _ _ ih => exact congrArg (· + 1) ih
  | insO _ _ _ _ _ ih => exact congrArg (· + 1) ih
  | insR _ _ _ _ _ _ _ ih => exact congrArg (· + 1) ih

theorem Dens.split : ∀ {σ τ : List (Option V)} {ds es : List D} {L : List Addr}, σ.length = ds.length → Dens K H N (σ ++ τ) (ds ++ es) L → ∃ L1 L2, L = L1 ++ L2 ∧ Dens K H N σ ds L1 ∧ Dens K H N τ es L2
  | [], _, [], _, _, _, h => ⟨[], _, rfl, .nil, h⟩
  | o :: σ, τ, d :: ds, es, L, e, h => by
    obtain ⟨M1, M2, rfl, h1, h2⟩ := Dens.cons (σ := σ ++ τ) (ds := ds ++ es) h
    obtain ⟨L1, L2, rfl, q1, q2⟩ := Dens.split (Nat.succ.inj e) h2
    exact ⟨M1 ++ L1, L2, by rw [List.append_assoc], h1.put q1, q2⟩
  | [], _, _ :: _, _, _, e, _ => by cases e
  | _ :: _, _, [], _, _, e, _ => by cases e

/-- owned cells are cells that may be written -/
theorem Dens.mut {σ : List (Option V)} {ds : List D} {L : List Addr} (h : Dens K H N σ ds L) : ∀ a ∈ L, Mut (H a) := by
  induction h with
  | nil => intro a ha; cases ha
  | und _ ih => exact ih
  | non _ ih => exact ih
  | bl _ ih => exact ih
  | int _ ih => exact ih
  | str _ ih => exact ih
  | ty _ ih => exact ih
  | cls _ ih => exact ih
  | tup _ _ _ _ i1 i2 => intro a ha; exact (List.mem_append.mp ha).elim (i1 a) (i2 a)
  | tupK _ _ _ i1 i2 => intro a ha; exact (List.mem_append.mp ha).elim (i1 a) (i2 a)
  | lstO e _ _ i1 i2 =>
    intro a ha
    rcases List.mem_cons.mp ha with rfl | ha
    · rw [e]; trivial
    · exact (List.mem_append.mp ha).elim (i1 a) (i2 a)
  | lstR _ _ _ _ _ i1 i2 => intro a ha; exact (List.mem_append.mp ha).elim (i1 a) (i2 a)
  | lstE _ _ _ i1 i2 => intro a ha; exact (List.mem_append.mp ha).elim (i1 a) (i2 a)
  | lstX _ _ _ _ i1 i2 => intro a ha; exact (List.mem_append.mp ha).elim (i1 a) (i2 a)
  | dKO e _ _ _ i1 i2 =>
    intro a ha
    rcases List.mem_cons.mp ha with rfl | ha
    · rw [e]; trivial
    · exact (List.mem_append.mp ha).elim (i1 a) (i2 a)
  | dKR _ _ _ _ _ _ i1 i2 => intro a ha; exact (List.mem_append.mp ha).elim (i1 a) (i2 a)
  | dTO e _ _ _ i1 i2 =>
    intro a ha
    rcases List.mem_cons.mp ha with rfl | ha
    · rw [e]; trivial
    · exact (List.mem_append.mp ha).elim (i1 a) (i2 a)
  | dTR _ _ _ _ _ _ i1 i2 => intro a ha; exact (List.mem_append.mp ha).elim (i1 a) (i2 a)
  | insO e _ _ _ i1 i2 =>
    intro a ha
    rcases List.mem_cons.mp ha with rfl | ha
    · rw [e]; trivial
    · exact (List.mem_append.mp ha).elim (i1 a) (i2 a)
  | insR _ _ _ _ _ _ i1 i2 => intro a ha; exact (List.mem_append.mp ha).elim (i1 a) (i2 a)

/-- flags are turned: g own = own, or nothing is owned behind it -/
theorem Dens.turn {g : Fl → Fl} (ge : g .ext = .ext) (gz : ∀ f, f.ro = true → (g f).ro = true) {σ : List (Option V)} {ds : List D} {L : List Addr} (h : Dens K H N σ ds L)
    (go : g .own = .own ∨ ((g .own).ro = true ∧ ∀ a ∈ L, N' (g .own) a))
    (hN : ∀ f a, f ≠ .own → N f a → H a ≠ none → N' (g f) a) (hT : ∀ a, N .frz a → (∃ us, H a = some (.tup us)) → N' .frz a) : Dens K H N' σ (ds.map (D.mapF g)) (if g .own = .own then L else []) := by
  have nown : ∀ {f : Fl}, f.ro = true → f ≠ .own := fun {f} h e => by rw [e] at h; cases h
  by_cases gg : g .own = .own
  · rw [if_pos gg]
    clear go
    induction h with
    | nil => exact .nil
    | und _ ih => exact .und ih
    | non _ ih => exact .non ih
    | bl _ ih => exact .bl ih
    | int _ ih => exact .int ih
    | str _ ih => exact .str ih
    | ty _ ih => exact .ty ih
    | cls _ ih => exact .cls ih
    | tup e n _ _ i1 i2 => exact .tup e (hT _ n ⟨_, e⟩) (by rw [mapFs_map]; exact i1) i2
    | tupK e _ _ i1 i2 => exact .tupK e (by rw [mapFs_map]; exact i1) i2
    | lstO e _ _ i1 i2 =>
      show Dens K H N' _ (D.lst (g .own) _ :: _) _
      rw [gg]; exact .lstO e (by rw [mapFs_map]; exact i1) i2
    | lstR f e n _ _ i1 i2 => exact .lstR (gz _ f) e (hN _ _ (nown f) n (by rw [e]; exact Option.some_ne_none _)) (by rw [mapFs_map]; exact i1) i2
    | lstE e _ _ i1 i2 =>
      show Dens K H N' _ (D.lst (g .ext) _ :: _) _
      rw [ge]; exact .lstE e (by rw [mapFs_map]; exact i1) i2
    | lstX e n _ _ i1 i2 =>
      show Dens K H N' _ (D.lst (g .ext) _ :: _) _
      have n' := hN _ _ (by decide) n (by rw [e]; exact Option.some_ne_none _)
      rw [ge] at n' ⊢; exact .lstX e n' (by rw [mapFs_map]; exact i1) i2
    | dKO e q _ _ i1 i2 =>
      show Dens K H N' _ (D.dK (g .own) _ :: _) _
      rw [gg]; exact .dKO e (by rw [fst_mapFk]; exact q) (by rw [snd_mapFk]; exact i1) i2
    | dKR f e n q _ _ i1 i2 => exact .dKR (gz _ f) e (hN _ _ (nown f) n (rd_some e)) (by rw [fst_mapFk]; exact q) (by rw [snd_mapFk]; exact i1) i2
    | dTO e q _ _ i1 i2 =>
      show Dens K H N' _ (D.dT (g .own) _ :: _) _
      rw [gg]; exact .dTO e (by rw [fst_mapFt]; exact q) (by rw [snd_mapFt]; exact i1) i2
    | dTR f e n q _ _ i1 i2 => exact .dTR (gz _ f) e (hN _ _ (nown f) n (rd_some e)) (by rw [fst_mapFt]; exact q) (by rw [snd_mapFt]; exact i1) i2
    | insO e q _ _ i1 i2 =>
      show Dens K H N' _ (D.ins (g .own) _ _ :: _) _
      rw [gg]; exact .insO e (by rw [fst_mapFf]; exact q) (by rw [snd_mapFf]; exact i1) i2
    | insR f e n q _ _ i1 i2 => exact .insR (gz _ f) e (hN _ _ (nown f) n (by rw [e]; exact Option.some_ne_none _)) (by rw [fst_mapFf]; exact q) (by rw [snd_mapFf]; exact i1) i2
  · rw [if_neg gg]
    obtain ⟨go1, go2⟩ := go.resolve_left gg
    clear go gg
    have nil2 : ([] : List Addr) = [] ++ [] := rfl
    induction h with
    | nil => exact .nil
    | und _ ih => exact .und (ih go2)
    | non _ ih => exact .non (ih go2)
    | bl _ ih => exact .bl (ih go2)
    | int _ ih => exact .int (ih go2)
    | str _ ih => exact .str (ih go2)
    | ty _ ih => exact .ty (ih go2)
    | cls _ ih => exact .cls (ih go2)
    | tup e n _ _ i1 i2 => rw [nil2]; exact .tup e (hT _ n ⟨_, e⟩) (by rw [mapFs_map]; exact i1 fun a ha => go2 a (List.mem_append_left _ ha)) (i2 fun a ha => go2 a (List.mem_append_right _ ha))
    | tupK e _ _ i1 i2 => rw [nil2]; exact .tupK e (by rw [mapFs_map]; exact i1 fun a ha => go2 a (List.mem_append_left _ ha)) (i2 fun a ha => go2 a (List.mem_append_right _ ha))
    | lstO e _ _ i1 i2 => rw [nil2]; exact .lstR go1 e (go2 _ (List.mem_cons_self ..)) (by rw [mapFs_map]; exact i1 fun a ha => go2 a (List.mem_cons_of_mem _ (List.mem_append_left _ ha))) (i2 fun a ha => go2 a (List.mem_cons_of_mem _ (List.mem_append_right _ ha)))
    | lstR f e n _ _ i1 i2 => rw [nil2]; exact .lstR (gz _ f) e (hN _ _ (nown f) n (by rw [e]; exact Option.some_ne_none _)) (by rw [mapFs_map]; exact i1 fun a ha => go2 a (List.mem_append_left _ ha)) (i2 fun a ha => go2 a (List.mem_append_right _ ha))
    | lstE e _ _ i1 i2 =>
      show Dens K H N' _ (D.lst (g .ext) _ :: _) _
      rw [ge, nil2]; exact .lstE e (by rw [mapFs_map]; exact i1 fun a ha => go2 a (List.mem_append_left _ ha)) (i2 fun a ha => go2 a (List.mem_append_right _ ha))
    | lstX e n _ _ i1 i2 =>
      show Dens K H N' _ (D.lst (g .ext) _ :: _) _
      have n' := hN _ _ (by decide) n (by rw [e]; exact Option.some_ne_none _)
      rw [ge] at n' ⊢; rw [nil2]; exact .lstX e n' (by rw [mapFs_map]; exact i1 fun a ha => go2 a (List.mem_append_left _ ha)) (i2 fun a ha => go2 a (List.mem_append_right _ ha))
    | dKO e q _ _ i1 i2 => rw [nil2]; exact .dKR go1 (.inl e) (go2 _ (List.mem_cons_self ..)) (by rw [fst_mapFk]; exact q) (by rw [snd_mapFk]; exact i1 fun a ha => go2 a (List.mem_cons_of_mem _ (List.mem_append_left _ ha))) (i2 fun a ha => go2 a (List.mem_cons_of_mem _ (List.mem_append_right _ ha)))
    | dKR f e n q _ _ i1 i2 => rw [nil2]; exact .dKR (gz _ f) e (hN _ _ (nown f) n (rd_some e)) (by rw [fst_mapFk]; exact q) (by rw [snd_mapFk]; exact i1 fun a ha => go2 a (List.mem_append_left _ ha)) (i2 fun a ha => go2 a (List.mem_append_right _ ha))
    | dTO e q _ _ i1 i2 => rw [nil2]; exact .dTR go1 (.inl e) (go2 _ (List.mem_cons_self ..)) (by rw [fst_mapFt]; exact q) (by rw [snd_mapFt]; exact i1 fun a ha => go2 a (List.mem_cons_of_mem _ (List.mem_append_left _ ha))) (i2 fun a ha => go2 a (List.mem_cons_of_mem _ (List.mem_append_right _ ha)))
    | dTR f e n q _ _ i1 i2 => rw [nil2]; exact .dTR (gz _ f) e (hN _ _ (nown f) n (rd_some e)) (by rw [fst_mapFt]; exact q) (by rw [snd_mapFt]; exact i1 fun a ha => go2 a (List.mem_append_left _ ha)) (i2 fun a ha => go2 a (List.mem_append_right _ ha))
    | insO e q _ _ i1 i2 => rw [nil2]; exact .insR go1 e (go2 _ (List.mem_cons_self ..)) (by rw [fst_mapFf]; exact q) (by rw [snd_mapFf]; exact i1 fun a ha => go2 a (List.mem_cons_of_mem _ (List.mem_append_left _ ha))) (i2 fun a ha => go2 a (List.mem_cons_of_mem _ (List.mem_append_right _ ha)))
    | insR f e n q _ _ i1 i2 => rw [nil2]; exact .insR (gz _ f) e (hN _ _ (nown f) n (by rw [e]; exact Option.some_ne_none _)) (by rw [fst_mapFf]; exact q) (by rw [snd_mapFf]; exact i1 fun a ha => go2 a (List.mem_append_left _ ha)) (i2 fun a ha => go2 a (List.mem_append_right _ ha))
end
end TL

set_option Elab.async false
set_option linter.all false
set_option maxRecDepth 100000
/-! TL1: what it means that a reading (of an expression, of arguments) computes a function of trees; the general rule for operations. -/
namespace TL
open PySem PySem.Spec PyProof.Rows L2

abbrev Ev := List D

/-- what is lent further out, by the flag that may not meet it -/
abbrev Lent := Fl → Addr → Prop
/-- what is known of an address: L is owned, Lo is lent (owned further out) -/
def Nw (L : List Addr) (Lo : Lent) (f : Fl) (a : Addr) : Prop := a ∉ L ∧ ¬ Lo f a
structure Good (L : List Addr) (Lo : Lent) (H : Hp) : Prop where
  nd : L.Nodup
  no : ∀ f, ∀ a ∈ L, ¬ Lo f a
  lent : ∀ f a, Lo f a → H a ≠ none ∧ ∀ us, H a ≠ some (.tup us)
  nov : ∀ a, ¬ Lo .view a
def Still (H H' : Hp) : Prop := ∀ a, H a ≠ none → H' a = H a
theorem Still.refl (H : Hp) : Still H H := fun _ _ => rfl
theorem Still.trans {H H1 H2 : Hp} (a : Still H H1) (b : Still H1 H2) : Still H H2 := fun x h => (b x (by rw [a x h]; exact h)).trans (a x h)
/-- from (L, H) to (L', H'): what isn't owned stays; what is owned then was owned or is new -/
structure Ext (L : List Addr) (H : Hp) (L' : List Addr) (H' : Hp) : Prop where
  keep : ∀ a, H a ≠ none → a ∉ L → H' a = H a
  own : ∀ a ∈ L', a ∈ L ∨ H a = none
  live : ∀ a, H a ≠ none → H' a ≠ none
theorem Ext.refl (L : List Addr) (H : Hp) : Ext L H L H := ⟨fun _ _ _ => rfl, fun _ h => .inl h, fun _ h => h⟩
theorem Ext.trans {L L1 L2 : List Addr} {H H1 H2 : Hp} (a : Ext L H L1 H1) (b : Ext L1 H1 L2 H2) : Ext L H L2 H2 where
  keep x h n := (b.keep x (a.live x h) (fun q => (a.own x q).elim n h)).trans (a.keep x h n)
  own x h := (b.own x h).elim (a.own x) fun q => .inr (Classical.byContradiction fun z => a.live x z q)
  live x h := b.live x (a.live x h)
theorem Ext.of_still {L L' : List Addr} {H H' : Hp} (s : Still H H') (h : ∀ a ∈ L', a ∈ L ∨ H a = none) : Ext L H L' H' :=
  ⟨fun a h _ => s a h, h, fun a h => by rw [s a h]; exact h⟩
theorem Ext.sub {L L1 L' : List Addr} {H H1 : Hp} (a : Ext L H L1 H1) (h : ∀ x ∈ L', x ∈ L1) : Ext L H L' H1 := ⟨a.keep, fun x q => a.own x (h x q), a.live⟩
theorem Ext.from {L M L' : List Addr} {H H' : Hp} (a : Ext L H L' H') (h : ∀ x ∈ L, x ∈ M) : Ext M H L' H' := ⟨fun x q n => a.keep x q fun z => n (h x z), fun x q => (a.own x q).imp (h x) id, a.live⟩

theorem Dens.live {K : PySem.W.Frag} {H : Hp} {N : Fl → Addr → Prop} {σ : List (Option V)} {ds : List D} {L : List Addr} (h : Dens K H N σ ds L) : ∀ a ∈ L, H a ≠ none := fun a ha e => by
  have := h.mut a ha
  rw [e] at this
  exact this
theorem Dens.notup {K : PySem.W.Frag} {H : Hp} {N : Fl → Addr → Prop} {σ : List (Option V)} {ds : List D} {L : List Addr} (h : Dens K H N σ ds L) : ∀ a ∈ L, ∀ us, H a ≠ some (.tup us) := fun a ha us e => by
  have := h.mut a ha
  rw [e] at this
  exact this
theorem Good.sub {L L' : List Addr} {Lo : Lent} {H : Hp} (g : Good L Lo H) (nd : L'.Nodup) (h : ∀ a ∈ L', a ∈ L) : Good L' Lo H := ⟨nd, fun f a ha => g.no f a (h a ha), g.lent, g.nov⟩
theorem Good.perm {L L' : List Addr} {Lo : Lent} {H : Hp} (g : Good L Lo H) (p : L.Perm L') : Good L' Lo H := g.sub (p.nodup_iff.mp g.nd) fun a ha => p.mem_iff.mpr ha
theorem nw_sub {L L' : List Addr} {Lo : Lent} (h : ∀ a ∈ L', a ∈ L) (f : Fl) (a : Addr) (q : Nw L Lo f a) : Nw L' Lo f a := ⟨fun z => q.1 (h _ z), q.2⟩
/-- knowledge behind a step: what is owned then was owned or is new -/
theorem nw_ext {L L' : List Addr} {Lo : Lent} {H : Hp} (h : ∀ a ∈ L', a ∈ L ∨ H a = none) (f : Fl) (a : Addr) (q : Nw L Lo f a) (e : H a ≠ none) : Nw L' Lo f a := ⟨fun z => (h _ z).elim q.1 e, q.2⟩
/-- trees whose cells a step leaves alone -/
theorem Dens.over {K : PySem.W.Frag} {H H' : Hp} {L L1 L' : List Addr} {Lo : Lent} {σ : List (Option V)} {ds : List D} {M : List Addr} (h : Dens K H (Nw L Lo) σ ds M) (x : Ext L1 H L' H') (hM : ∀ a ∈ M, a ∉ L1)
    (h1 : ∀ a ∈ L1, a ∈ L) {L2 : List Addr} (h2 : ∀ a ∈ L2, a ∈ L ∨ H a = none) : Dens K H' (Nw L2 Lo) σ ds M :=
  h.mono (fun a ha => x.keep a (h.live a ha) (hM a ha)) fun f a n e => ⟨nw_ext h2 f a n e, Keep.of (x.keep a e fun z => n.1 (h1 a z))⟩
theorem Dens.still {K : PySem.W.Frag} {H H' : Hp} {L : List Addr} {Lo : Lent} {σ : List (Option V)} {ds : List D} {M : List Addr} (h : Dens K H (Nw L Lo) σ ds M) (x : Still H H') {L2 : List Addr} (h2 : ∀ a ∈ L2, a ∈ L ∨ H a = none) : Dens K H' (Nw L2 Lo) σ ds M :=
  h.mono (fun a ha => x a (h.live a ha)) fun f a n e => ⟨nw_ext h2 f a n e, Keep.of (x a e)⟩

/-! ### the state: slots (behind what is held) as trees -/
structure Sta (K : PySem.W.Frag) (Lo : Lent) (H : Hp) (σs : List (Option V)) (ds : List D) (L : List Addr) : Prop where
  good : Good L Lo H
  dens : Dens K H (Nw L Lo) σs ds L
/-- what has come of a step: new values vs with trees xs (owning Lr), behind them the base as it is then (owning Lb); q: nothing that was there has changed -/
structure Came (K : PySem.W.Frag) (Lo : Lent) (q : Bool) (H : Hp) (bs : List (Option V)) (td : List D) (env : Ev) (L : List Addr) (H' : Hp) (vs : List V) (xs : List D) (env' : Ev) (Lr Lb : List Addr) : Prop where
  good : Good (Lr ++ Lb) Lo H'
  top : Dens K H' (Nw (Lr ++ Lb) Lo) (so vs) xs Lr
  base : Dens K H' (Nw (Lr ++ Lb) Lo) bs (td ++ env') Lb
  ext : Ext L H (Lr ++ Lb) H'
  quiet : q = true → env' = env ∧ Still H H' ∧ Lb = L ∧ ∀ a ∈ Lr, H a = none

/-- a reading computes f -/
structure Sat (K : PySem.W.Frag) (q : Bool) (t : TE) (f : Ev → Option (D × Ev)) : Prop where
  run : ∀ (σ : L2.St) (H : Hp) (env : Ev) (ts : List (Option V)) (td : List D) (L : List Addr) (Lo : Lent), ts.length = td.length → Sta K Lo H (ts ++ σ) (td ++ env) L → ∀ d env', f env = some (d, env') → ∀ Q : VK,
    (∀ v H' Lr Lb, Came K Lo q H (ts ++ σ) td env L H' [v] [d] env' Lr Lb → Q v H') → t σ H Q
/-- arguments; ld: which of them are lent slots -/
structure SatA (K : PySem.W.Frag) (q : Bool) (ld : List (Option Nat)) (t : TA) (f : Ev → Option (List D × Ev)) : Prop where
  run : ∀ (σ : L2.St) (H : Hp) (env : Ev) (ts : List (Option V)) (td : List D) (L : List Addr) (Lo : Lent), ts.length = td.length → Sta K Lo H (ts ++ σ) (td ++ env) L → ∀ ds env', f env = some (ds, env') → ∀ Q : List V → Hp → Prop,
    (∀ vs H' Lr Lb, Came K Lo q H (ts ++ σ) td env L H' vs ds env' Lr Lb → (∀ (p i : Nat), ld[p]? = some (some i) → ∃ v, vs[p]? = some v ∧ σ[i]? = some (some v)) → Q vs H') → t σ H Q

theorem Sat.weak {K : PySem.W.Frag} {q : Bool} {t : TE} {f : Ev → Option (D × Ev)} (h : Sat K q t f) : Sat K false t f :=
  ⟨fun σ H env ts td L Lo hl s d env' e Q k => h.run σ H env ts td L Lo hl s d env' e Q fun v H' Lr Lb c => k v H' Lr Lb ⟨c.good, c.top, c.base, c.ext, fun z => by cases z⟩⟩
theorem SatA.weak {K : PySem.W.Frag} {q : Bool} {ld : List (Option Nat)} {t : TA} {f : Ev → Option (List D × Ev)} (h : SatA K q ld t f) : SatA K false ld t f :=
  ⟨fun σ H env ts td L Lo hl s d env' e Q k => h.run σ H env ts td L Lo hl s d env' e Q fun v H' Lr Lb c => k v H' Lr Lb ⟨c.good, c.top, c.base, c.ext, fun z => by cases z⟩⟩

def aNil : Ev → Option (List D × Ev) := fun env => some ([], env)
def aCons (f : Ev → Option (D × Ev)) (fs : Ev → Option (List D × Ev)) : Ev → Option (List D × Ev) := fun env =>
  match f env with
  | none => none
  | some (d, e1) => match fs e1 with
    | none => none
    | some (ds, e2) => some (d :: ds, e2)
theorem SatA.nil {K : PySem.W.Frag} {q : Bool} : SatA K q [] tNil aNil := ⟨fun σ H env ts td L Lo hl s d env' e Q k => by
  cases e
  refine k [] H [] L ⟨s.good, .nil, s.dens, Ext.refl _ _, fun _ => ⟨rfl, Still.refl _, rfl, fun _ h => by cases h⟩⟩ fun p i h => by simp at h⟩

theorem Dens.nilL {K : PySem.W.Frag} {H : Hp} {N : Fl → Addr → Prop} {L : List Addr} (h : Dens K H N [] [] L) : L = [] := by cases h; rfl

/-- a value is held while more is evaluated -/
theorem Came.more {K : PySem.W.Frag} {Lo : Lent} {q q' : Bool} {H H1 H2 : Hp} {bs : List (Option V)} {td : List D} {env e1 e2 : Ev} {L Lr Lb Mr Mb : List Addr} {v : V} {vs : List V} {d : D} {ds : List D}
    (c : Came K Lo q H bs td env L H1 [v] [d] e1 Lr Lb) (c2 : Came K Lo q' H1 (some v :: bs) (d :: td) e1 (Lr ++ Lb) H2 vs ds e2 Mr Mb) :
    ∃ R B, Came K Lo (q && q') H bs td env L H2 (v :: vs) (d :: ds) e2 R B := by
  cases q' with
  | true =>
    obtain ⟨rfl, st, rfl, fr⟩ := c2.quiet rfl
    have ow : ∀ a ∈ Mr ++ (Lr ++ Lb), a ∈ Lr ++ Lb ∨ H1 a = none := fun a ha => (List.mem_append.mp ha).elim (fun z => .inr (fr a z)) .inl
    have pm : (Mr ++ (Lr ++ Lb)).Perm ((Lr ++ Mr) ++ Lb) := by
      rw [← List.append_assoc]
      exact List.Perm.append_right _ List.perm_append_comm
    have g := c2.good.perm pm
    have kn : ∀ f a, Nw (Mr ++ (Lr ++ Lb)) Lo f a → Nw ((Lr ++ Mr) ++ Lb) Lo f a := nw_sub fun a ha => pm.mem_iff.mpr ha
    refine ⟨Lr ++ Mr, Lb, g, ?_, ?_, ?_, fun qq => ?_⟩
    · exact Dens.put (L1 := Lr) (L2 := Mr) ((c.top.still st ow).know fun f a n _ => kn f a n) (c2.top.know fun f a n _ => kn f a n)
    · exact (c.base.still st ow).know fun f a n _ => kn f a n
    · exact (c.ext.trans c2.ext).sub fun a ha => pm.mem_iff.mpr ha
    · rw [Bool.and_true] at qq
      obtain ⟨e0, s0, l0, f0⟩ := c.quiet qq
      refine ⟨e0, s0.trans st, l0, fun a ha => (List.mem_append.mp ha).elim (f0 a) fun z => ?_⟩
      exact Classical.byContradiction fun w => (by rw [s0 a w]; exact w : H1 a ≠ none) (fr a z)
  | false =>
    obtain ⟨L1, L2, rfl, h1, h2⟩ := Dens.cons (ds := td ++ e2) c2.base
    have pm : (Mr ++ (L1 ++ L2)).Perm ((L1 ++ Mr) ++ L2) := by
      rw [← List.append_assoc]
      exact List.Perm.append_right _ List.perm_append_comm
    have g := c2.good.perm pm
    have kn : ∀ f a, Nw (Mr ++ (L1 ++ L2)) Lo f a → Nw ((L1 ++ Mr) ++ L2) Lo f a := nw_sub fun a ha => pm.mem_iff.mpr ha
    refine ⟨L1 ++ Mr, L2, g, ?_, ?_, ?_, fun qq => ?_⟩
    · exact Dens.put (L1 := L1) (L2 := Mr) (h1.know fun f a n _ => kn f a n) (c2.top.know fun f a n _ => kn f a n)
    · exact h2.know fun f a n _ => kn f a n
    · exact (c.ext.trans c2.ext).sub fun a ha => pm.mem_iff.mpr ha
    · rw [Bool.and_false] at qq; cases qq

theorem Came.sta {K : PySem.W.Frag} {Lo : Lent} {q : Bool} {H H1 : Hp} {bs : List (Option V)} {td : List D} {env e1 : Ev} {L Lr Lb : List Addr} {v : V} {d : D}
    (c : Came K Lo q H bs td env L H1 [v] [d] e1 Lr Lb) : Sta K Lo H1 (some v :: bs) (d :: (td ++ e1)) (Lr ++ Lb) := ⟨c.good, c.top.put c.base⟩

theorem SatA.consL {K : PySem.W.Frag} {q q' : Bool} {l : Option Nat} {ld : List (Option Nat)} {t : TE} {ta : TA} {f : Ev → Option (D × Ev)} {fs : Ev → Option (List D × Ev)}
    (h : ∀ (σ : L2.St) (H : Hp) (env : Ev) (ts : List (Option V)) (td : List D) (L : List Addr) (Lo : Lent), ts.length = td.length → Sta K Lo H (ts ++ σ) (td ++ env) L → ∀ d env', f env = some (d, env') → ∀ Q : VK,
      (∀ v H' Lr Lb, Came K Lo q H (ts ++ σ) td env L H' [v] [d] env' Lr Lb → (∀ i, l = some i → σ[i]? = some (some v)) → Q v H') → t σ H Q)
    (h' : SatA K q' ld ta fs) : SatA K (q && q') (l :: ld) (tCons t ta) (aCons f fs) := by
  refine ⟨fun σ H env ts td L Lo hl s ds env' e Q k => ?_⟩
  unfold aCons at e
  cases e1 : f env with
  | none => rw [e1] at e; cases e
  | some p =>
    obtain ⟨d, en1⟩ := p
    rw [e1] at e
    cases e2 : fs en1 with
    | none => simp only [e2] at e; cases e
    | some p2 =>
      obtain ⟨ds2, en2⟩ := p2
      simp only [e2] at e
      obtain ⟨rfl, rfl⟩ := Prod.mk.inj (Option.some.inj e)
      refine h σ H env ts td L Lo hl s d en1 e1 _ fun v H1 Lr Lb c lv => ?_
      refine h'.run σ H1 en1 (some v :: ts) (d :: td) (Lr ++ Lb) Lo (by simp [hl]) c.sta ds2 en2 e2 _ fun vs H2 Mr Mb c2 lw => ?_
      obtain ⟨R, B, c3⟩ := c.more c2
      refine k (v :: vs) H2 R B c3 fun p i hp => ?_
      cases p with
      | zero => exact ⟨v, rfl, lv i (by simpa using hp)⟩
      | succ p => simpa using lw p i (by simpa using hp)
theorem SatA.cons {K : PySem.W.Frag} {q q' : Bool} {ld : List (Option Nat)} {t : TE} {ta : TA} {f : Ev → Option (D × Ev)} {fs : Ev → Option (List D × Ev)} (h : Sat K q t f) (h' : SatA K q' ld ta fs) : SatA K (q && q') (none :: ld) (tCons t ta) (aCons f fs) :=
  .consL (fun σ H env ts td L Lo hl s d env' e Q k => h.run σ H env ts td L Lo hl s d env' e Q fun v H' Lr Lb c => k v H' Lr Lb c fun i z => by cases z) h'

/-! ### operations on values -/
/-- what an operation makes of operands that own Lt: nothing that was there changes -/
structure Res (K : PySem.W.Frag) (H : Hp) (N : Fl → Addr → Prop) (Lt : List Addr) (v : V) (d : D) (H' : Hp) (Lr : List Addr) : Prop where
  still : Still H H'
  sub : ∀ a ∈ Lr, a ∈ Lt ∨ H a = none
  nd : Lr.Nodup
  dens : ∀ N' : Fl → Addr → Prop, (∀ f a, N f a → H a ≠ none → N' f a) → (∀ f p, H p = none → p ∉ Lr → N' f p) → Dens K H' N' [some v] [d] Lr
/-- the reading r of values computes g -/
def OpN (K : PySem.W.Frag) (r : List V → Hp → VK → Prop) (g : List D → Option D) : Prop :=
  ∀ (H : Hp) (N : Fl → Addr → Prop) (vs : List V) (ds : List D) (Lt : List Addr), Dens K H N (so vs) ds Lt → Lt.Nodup → ∀ d, g ds = some d → ∀ Q : VK, (∀ v H' Lr, Res K H N Lt v d H' Lr → Q v H') → r vs H Q

theorem Came.op {K : PySem.W.Frag} {Lo : Lent} {q : Bool} {H H1 H2 : Hp} {bs : List (Option V)} {td : List D} {env e1 : Ev} {L Lt Lb Lr : List Addr} {vs : List V} {ds : List D} {v : V} {d : D}
    (c : Came K Lo q H bs td env L H1 vs ds e1 Lt Lb) (r : Res K H1 (Nw (Lt ++ Lb) Lo) Lt v d H2 Lr) : Came K Lo q H bs td env L H2 [v] [d] e1 Lr Lb := by
  have nlb : ∀ a ∈ Lb, H1 a ≠ none := c.base.live
  have ow : ∀ a ∈ Lr ++ Lb, a ∈ Lt ++ Lb ∨ H1 a = none := fun a ha => (List.mem_append.mp ha).elim (fun z => (r.sub a z).imp (List.mem_append_left _) id) fun z => .inl (List.mem_append_right _ z)
  have nd0 := List.nodup_append.mp c.good.nd
  have g : Good (Lr ++ Lb) Lo H2 := by
    refine ⟨List.nodup_append.mpr ⟨r.nd, nd0.2.1, fun a ha b hb e => ?_⟩, fun f a ha lo => ?_, fun f a lo => ?_, c.good.nov⟩
    · subst e
      exact (r.sub a ha).elim (fun z => nd0.2.2 a z a hb rfl) (nlb a hb)
    · exact (ow a ha).elim (fun z => c.good.no f a z lo) (c.good.lent f a lo).1
    · obtain ⟨l1, l2⟩ := c.good.lent f a lo
      rw [r.still a l1]
      exact ⟨l1, l2⟩
  refine ⟨g, r.dens _ (fun f a n e => nw_ext ow f a n e) (fun f p hp hn => ⟨fun z => (List.mem_append.mp z).elim hn fun y => nlb p y hp, fun lo => (c.good.lent f p lo).1 hp⟩), c.base.still r.still ow,
    c.ext.trans (Ext.of_still r.still ow), fun qq => ?_⟩
  obtain ⟨e0, s0, l0, f0⟩ := c.quiet qq
  refine ⟨e0, s0.trans r.still, l0, fun a ha => ?_⟩
  rcases r.sub a ha with z | z
  · exact f0 a z
  · exact Classical.byContradiction fun w => (by rw [s0 a w]; exact w : H1 a ≠ none) z

def eOp (g : List D → Option D) (fs : Ev → Option (List D × Ev)) : Ev → Option (D × Ev) := fun env =>
  match fs env with
  | none => none
  | some (ds, e1) => match g ds with
    | none => none
    | some d => some (d, e1)
/-- an operation on evaluated operands -/
theorem Sat.op {K : PySem.W.Frag} {q : Bool} {ld : List (Option Nat)} {ta : TA} {fs : Ev → Option (List D × Ev)} {r : List V → Hp → VK → Prop} {g : List D → Option D} (h : SatA K q ld ta fs) (o : OpN K r g) :
    Sat K q (fun σ H Q => ta σ H fun vs H1 => r vs H1 Q) (eOp g fs) := by
  refine ⟨fun σ H env ts td L Lo hl s d env' e Q k => ?_⟩
  unfold eOp at e
  cases e1 : fs env with
  | none => rw [e1] at e; cases e
  | some p =>
    obtain ⟨ds, en1⟩ := p
    rw [e1] at e
    cases e2 : g ds with
    | none => simp only [e2] at e; cases e
    | some d2 =>
      simp only [e2] at e
      cases e
      refine h.run σ H env ts td L Lo hl s ds env' e1 _ fun vs H1 Lt Lb c _ => ?_
      exact o H1 _ vs ds Lt c.top (List.nodup_append.mp c.good.nd).1 d e2 Q fun v H2 Lr r => k v H2 Lr Lb (c.op r)
end TL

set_option Elab.async false
set_option linter.all false
set_option maxRecDepth 100000
/-! TL2: operations on values, as functions of trees. -/
namespace TL
open PySem PySem.Spec PyProof.Rows L2

section inv
variable {K : PySem.W.Frag} {H : Hp} {N : Fl → Addr → Prop}

theorem sub_app {L1 : List Addr} : L1.Sublist (L1 ++ []) := by rw [List.append_nil]; exact List.Sublist.refl _
theorem sub_capp {a : Addr} {L1 : List Addr} : L1.Sublist (a :: (L1 ++ [])) := by rw [List.append_nil]; exact List.sublist_cons_self ..

theorem inv_lst {f : Fl} {xs : List D} {v : V} {L : List Addr} (h : Dens K H N [some v] [.lst f xs] L) :
    ∃ a us L1, v = .ref a ∧ SqL K H a us ∧ (f ≠ .ext → H a = some (.lst us)) ∧ Dens K H N (so us) xs L1 ∧ L1.Sublist L := by
  cases h with
  | lstO e h t => cases t; exact ⟨_, _, _, rfl, .inl (.inl e), fun _ => e, h, sub_capp⟩
  | lstR f e n h t => cases t; exact ⟨_, _, _, rfl, .inl (.inl e), fun _ => e, h, sub_app⟩
  | lstE e h t => cases t; exact ⟨_, _, _, rfl, .inr (e.resolve_left fun r => r.elim (fun q => by cases q) fun ⟨_, q⟩ => by cases q), fun z => absurd rfl z, h, sub_app⟩
  | lstX e n h t => cases t; exact ⟨_, _, _, rfl, .inl (.inr ⟨_, e⟩), fun z => absurd rfl z, h, sub_app⟩
theorem inv_tup {xs : List D} {v : V} {L : List Addr} (h : Dens K H N [some v] [.tup xs] L) : ∃ a us L1, v = .ref a ∧ H a = some (.tup us) ∧ Dens K H N (so us) xs L1 ∧ L1.Sublist L ∧ N .frz a := by
  cases h with
  | tup e n h t => cases t; exact ⟨_, _, _, rfl, e, h, sub_app, n⟩
theorem inv_tupE {xs : List D} {v : V} {L : List Addr} (h : Dens K H N [some v] [.tupE xs] L) : ∃ a us L1, v = .ref a ∧ SqT K H a us ∧ Dens K H N (so us) xs L1 ∧ L1.Sublist L := by
  cases h with
  | tupK e h t => cases t; exact ⟨_, _, _, rfl, .inr (e.resolve_left fun r => r.elim (fun q => by cases q) fun ⟨_, q⟩ => by cases q), h, sub_app⟩
theorem inv_dK {f : Fl} {kds : List (Key × D)} {v : V} {L : List Addr} (h : Dens K H N [some v] [.dK f kds] L) :
    ∃ a kvs L1, v = .ref a ∧ Rd H a (.dK kvs) ∧ True ∧ kvs.map (·.1) = kds.map (·.1) ∧ Dens K H N (sv kvs) (kds.map (·.2)) L1 ∧ L1.Sublist L := by
  cases h with
  | dKO e q h t => cases t; exact ⟨_, _, _, rfl, .inl e, trivial, q, h, sub_capp⟩
  | dKR f e n q h t => cases t; exact ⟨_, _, _, rfl, e, trivial, q, h, sub_app⟩
theorem inv_dT {f : Fl} {kds : List (List Key × D)} {v : V} {L : List Addr} (h : Dens K H N [some v] [.dT f kds] L) :
    ∃ a kvs L1, v = .ref a ∧ Rd H a (.dT kvs) ∧ True ∧ kvs.map (·.1) = kds.map (·.1) ∧ Dens K H N (sv kvs) (kds.map (·.2)) L1 ∧ L1.Sublist L := by
  cases h with
  | dTO e q h t => cases t; exact ⟨_, _, _, rfl, .inl e, trivial, q, h, sub_capp⟩
  | dTR f e n q h t => cases t; exact ⟨_, _, _, rfl, e, trivial, q, h, sub_app⟩
theorem inv_ins {f : Fl} {C : Addr} {fds : List (Str × D)} {v : V} {L : List Addr} (h : Dens K H N [some v] [.ins f C fds] L) :
    ∃ a dx fs L1, v = .ref a ∧ H a = some (.ins C dx fs) ∧ fs.map (·.1) = fds.map (·.1) ∧ Dens K H N (sv fs) (fds.map (·.2)) L1 ∧ L1.Sublist L := by
  cases h with
  | insO e q h t => cases t; exact ⟨_, _, _, _, rfl, e, q, h, sub_capp⟩
  | insR f e n q h t => cases t; exact ⟨_, _, _, _, rfl, e, q, h, sub_app⟩
/-- the items of a list or tuple -/
def D.seq? : D → Option (List D)
  | .lst _ xs => some xs
  | .tup xs => some xs
  | .tupE xs => some xs
  | _ => none
theorem inv_seq {d : D} {xs : List D} {v : V} {L : List Addr} (e : d.seq? = some xs) (h : Dens K H N [some v] [d] L) :
    ∃ a us L1, v = .ref a ∧ (SqL K H a us ∨ SqT K H a us) ∧ Dens K H N (so us) xs L1 ∧ L1.Sublist L := by
  cases d <;> try (cases e; done)
  · cases e
    obtain ⟨a, us, L1, rfl, q, h, s, _⟩ := inv_tup h
    exact ⟨a, us, L1, rfl, .inr (.inl (.inl q)), h, s⟩
  · cases e
    obtain ⟨a, us, L1, rfl, q, h, s⟩ := inv_tupE h
    exact ⟨a, us, L1, rfl, .inr q, h, s⟩
  · cases e
    obtain ⟨a, us, L1, rfl, q, _, h, s⟩ := inv_lst h
    exact ⟨a, us, L1, rfl, .inl q, h, s⟩

/-- one of several -/
theorem Dens.at {σ : List (Option V)} {ds : List D} {L : List Addr} (h : Dens K H N σ ds L) : ∀ {i : Nat} {d : D}, ds[i]? = some d → ∃ o L1, σ[i]? = some o ∧ Dens K H N [o] [d] L1 ∧ L1.Sublist L := by
  intro i
  induction i generalizing σ ds L with
  | zero =>
    intro d e
    cases ds with
    | nil => simp at e
    | cons d0 r =>
      cases σ with
      | nil => have := h.length; simp at this
      | cons o τ =>
        obtain ⟨L1, L2, rfl, h1, h2⟩ := h.cons
        simp at e; subst e
        exact ⟨o, L1, rfl, h1, List.sublist_append_left ..⟩
  | succ i ih =>
    intro d e
    cases ds with
    | nil => simp at e
    | cons d0 r =>
      cases σ with
      | nil => have := h.length; simp at this
      | cons o τ =>
        obtain ⟨L1, L2, rfl, h1, h2⟩ := h.cons
        obtain ⟨o', L', e1, q, s⟩ := ih h2 (by simpa using e)
        exact ⟨o', L', by simpa using e1, q, s.trans (List.sublist_append_right ..)⟩
theorem Dens.some1 {o : Option V} {d : D} {L : List Addr} (h : Dens K H N [o] [d] L) (hd : d ≠ .und) : ∃ v, o = some v := by
  cases h <;> first | exact ⟨_, rfl⟩ | exact absurd rfl hd
/-- a part, in the order -/
theorem Dens.sub {σ : List (Option V)} {ds : List D} {L : List Addr} (h : Dens K H N σ ds L) : ∀ (n m : Nat), ∃ L1, Dens K H N ((σ.drop n).take m) ((ds.drop n).take m) L1 ∧ L1.Sublist L := by
  intro n m
  have e := h.length
  have h' : Dens K H N (σ.take n ++ σ.drop n) (ds.take n ++ ds.drop n) L := by rw [List.take_append_drop, List.take_append_drop]; exact h
  obtain ⟨L1, L2, rfl, _, h2⟩ := Dens.split (by rw [List.length_take, List.length_take, e]) h'
  have h2' : Dens K H N ((σ.drop n).take m ++ (σ.drop n).drop m) ((ds.drop n).take m ++ (ds.drop n).drop m) L2 := by rw [List.take_append_drop, List.take_append_drop]; exact h2
  obtain ⟨M1, M2, rfl, q1, _⟩ := Dens.split (by simp [List.length_take, List.length_drop, e]) h2'
  exact ⟨M1, q1, (List.sublist_append_left ..).trans (List.sublist_append_right ..)⟩
/-- nothing owned -/
def D.noOwn (d : D) : Bool := D.allF (fun f => decide (f ≠ .own)) d
theorem noOwn_nil {σ : List (Option V)} {ds : List D} {L : List Addr} (h : Dens K H N σ ds L) : ds.all D.noOwn = true → L = [] := by
  have two : ∀ {L1 L2 : List Addr}, L1 = [] → L2 = [] → L1 ++ L2 = [] := fun a b => by rw [a, b]; rfl
  induction h with
  | nil => intro _; rfl
  | und _ ih => intro e; exact ih (by simpa [D.noOwn, D.allF] using e)
  | non _ ih => intro e; exact ih (by simpa [D.noOwn, D.allF] using e)
  | bl _ ih => intro e; exact ih (by simpa [D.noOwn, D.allF] using e)
  | int _ ih => intro e; exact ih (by simpa [D.noOwn, D.allF] using e)
  | str _ ih => intro e; exact ih (by simpa [D.noOwn, D.allF] using e)
  | ty _ ih => intro e; exact ih (by simpa [D.noOwn, D.allF] using e)
  | cls _ ih => intro e; exact ih (by simpa [D.noOwn, D.allF] using e)
  | tup _ _ _ _ i1 i2 =>
    intro e
    rw [List.all_cons, Bool.and_eq_true, D.noOwn, D.allF, allFs_all] at e
    exact two (i1 e.1) (i2 e.2)
  | tupK _ _ _ i1 i2 =>
    intro e
    rw [List.all_cons, Bool.and_eq_true, D.noOwn, D.allF, allFs_all] at e
    exact two (i1 e.1) (i2 e.2)
  | lstO _ _ _ _ _ => intro e; simp [D.noOwn, D.allF] at e
  | lstR _ _ _ _ _ i1 i2 =>
    intro e
    rw [List.all_cons, Bool.and_eq_true, D.noOwn, D.allF, allFs_all, Bool.and_eq_true] at e
    exact two (i1 e.1.2) (i2 e.2)
  | lstE _ _ _ i1 i2 =>
    intro e
    rw [List.all_cons, Bool.and_eq_true, D.noOwn, D.allF, allFs_all, Bool.and_eq_true] at e
    exact two (i1 e.1.2) (i2 e.2)
  | lstX _ _ _ _ i1 i2 =>
    intro e
    rw [List.all_cons, Bool.and_eq_true, D.noOwn, D.allF, allFs_all, Bool.and_eq_true] at e
    exact two (i1 e.1.2) (i2 e.2)
  | dKO _ _ _ _ _ _ => intro e; simp [D.noOwn, D.allF] at e
  | dKR _ _ _ _ _ _ i1 i2 =>
    intro e
    rw [List.all_cons, Bool.and_eq_true, D.noOwn, D.allF, allFk_all, Bool.and_eq_true] at e
    exact two (i1 (by rw [List.all_map]; exact e.1.2)) (i2 e.2)
  | dTO _ _ _ _ _ _ => intro e; simp [D.noOwn, D.allF] at e
  | dTR _ _ _ _ _ _ i1 i2 =>
    intro e
    rw [List.all_cons, Bool.and_eq_true, D.noOwn, D.allF, allFt_all, Bool.and_eq_true] at e
    exact two (i1 (by rw [List.all_map]; exact e.1.2)) (i2 e.2)
  | insO _ _ _ _ _ _ => intro e; simp [D.noOwn, D.allF] at e
  | insR _ _ _ _ _ _ i1 i2 =>
    intro e
    rw [List.all_cons, Bool.and_eq_true, D.noOwn, D.allF, allFf_all, Bool.and_eq_true] at e
    exact two (i1 (by rw [List.all_map]; exact e.1.2)) (i2 e.2)

theorem upd_still {p : Addr} {o : HO} (hp : H p = none) : Still H (upd H p o) := fun a h => upd_ne fun e => by subst e; exact h hp
theorem Dens.newer {N' : Fl → Addr → Prop} {σ : List (Option V)} {ds : List D} {L : List Addr} (h : Dens K H N σ ds L) {p : Addr} {o : HO} (hp : H p = none) (hN : ∀ f a, N f a → H a ≠ none → N' f a) : Dens K (upd H p o) N' σ ds L :=
  h.mono (fun a ha => upd_still hp a (h.live a ha)) fun f a n e => ⟨hN f a n e, Keep.of (upd_still hp a e)⟩
/-- a result that is nothing new -/
theorem Res.old {Lt L1 : List Addr} {v : V} {d : D} (nd : Lt.Nodup) (h : Dens K H N [some v] [d] L1) (s : L1.Sublist Lt) : Res K H N Lt v d H L1 :=
  ⟨Still.refl _, fun a ha => .inl (s.subset ha), s.nodup nd, fun N' h1 _ => h.know h1⟩
/-- a scalar -/
theorem Res.flat {Lt : List Addr} {v : V} {d : D} (h : ∀ N' : Fl → Addr → Prop, Dens K H N' [some v] [d] []) : Res K H N Lt v d H [] :=
  ⟨Still.refl _, fun _ h => (List.not_mem_nil h).elim, .nil, fun N' _ _ => h N'⟩
/-- a new list, a new tuple -/
theorem Res.newL {Lt L1 : List Addr} {us : List V} {xs : List D} {p : Addr} (nd : Lt.Nodup) (h : Dens K H N (so us) xs L1) (s : L1.Sublist Lt) (hp : H p = none) : Res K H N Lt (.ref p) (.lst .own xs) (upd H p (.lst us)) (p :: L1) := by
  refine ⟨upd_still hp, fun a ha => ?_, ?_, fun N' h1 _ => ?_⟩
  · rcases List.mem_cons.mp ha with rfl | ha
    · exact .inr hp
    · exact .inl (s.subset ha)
  · exact List.nodup_cons.mpr ⟨fun z => h.live p z hp, s.nodup nd⟩
  · have q := Dens.lstO (K := K) (N := N') (vs := []) (ds := []) (L2 := []) upd_same (h.newer (o := .lst us) hp h1) .nil
    rw [List.append_nil] at q
    exact q
theorem Res.newT {Lt L1 : List Addr} {us : List V} {xs : List D} {p : Addr} (nd : Lt.Nodup) (h : Dens K H N (so us) xs L1) (s : L1.Sublist Lt) (hp : H p = none) : Res K H N Lt (.ref p) (.tup xs) (upd H p (.tup us)) L1 := by
  refine ⟨upd_still hp, fun a ha => .inl (s.subset ha), s.nodup nd, fun N' h1 h2 => ?_⟩
  have q := Dens.tup (K := K) (N := N') (vs := []) (ds := []) (L2 := []) upd_same (h2 .frz p hp fun z => h.live p z hp) (h.newer (o := .tup us) hp h1) .nil
  rw [List.append_nil] at q
  exact q
theorem Res.newD {Lt L1 : List Addr} {kvs : List (Key × V)} {kds : List (Key × D)} {p : Addr} (nd : Lt.Nodup) (ek : kvs.map (·.1) = kds.map (·.1)) (h : Dens K H N (sv kvs) (kds.map (·.2)) L1) (s : L1.Sublist Lt) (hp : H p = none) : Res K H N Lt (.ref p) (.dK .own kds) (upd H p (.dK kvs)) (p :: L1) := by
  refine ⟨upd_still hp, fun a ha => ?_, ?_, fun N' h1 _ => ?_⟩
  · rcases List.mem_cons.mp ha with rfl | ha
    · exact .inr hp
    · exact .inl (s.subset ha)
  · exact List.nodup_cons.mpr ⟨fun z => h.live p z hp, s.nodup nd⟩
  · have q := Dens.dKO (K := K) (N := N') (vs := []) (ds := []) (L2 := []) upd_same ek (h.newer (o := .dK kvs) hp h1) .nil
    rw [List.append_nil] at q
    exact q
end inv

/-! ### a tree as a datum -/
mutual
def D.py : D → Option PyData
  | .non => some .none
  | .bl b => some (.bool b)
  | .int i => some (.int i)
  | .str x => some (.str x)
  | .tup xs => (D.pys xs).map .tuple
  | .tupE xs => (D.pys xs).map .tuple
  | .lst _ xs => (D.pys xs).map .list
  | _ => none
def D.pys : List D → Option (List PyData)
  | [] => some []
  | x :: r => match D.py x, D.pys r with
    | some p, some ps => some (p :: ps)
    | _, _ => none
end
theorem so_inj : ∀ {us ws : List V}, so us = so ws → us = ws
  | [], [], _ => rfl
  | [], _ :: _, e => by cases e
  | _ :: _, [], e => by cases e
  | _ :: _, _ :: _, e => by
    have h := List.cons.inj e
    rw [Option.some.inj h.1, so_inj h.2]
theorem pys_dp {K : PySem.W.Frag} {H : Hp} {N : Fl → Addr → Prop} {σ : List (Option V)} {ds : List D} {L : List Addr} (h : Dens K H N σ ds L) : ∀ ps, D.pys ds = some ps → ∃ vs, σ = so vs ∧ DpAll K H vs ps := by
  have two : ∀ {d : D} {ds : List D} {ps : List PyData}, D.pys (d :: ds) = some ps → ∃ p qs, D.py d = some p ∧ D.pys ds = some qs ∧ ps = p :: qs := fun {d ds ps} e => by
    unfold D.pys at e
    cases e1 : D.py d with
    | none => rw [e1] at e; cases e
    | some p =>
      cases e2 : D.pys ds with
      | none => rw [e1, e2] at e; cases e
      | some qs => rw [e1, e2] at e; cases e; exact ⟨p, qs, rfl, rfl, rfl⟩
  have bad : ∀ {d : D} {ds : List D} {ps : List PyData}, D.py d = none → D.pys (d :: ds) = some ps → False := fun {d ds ps} e q => by
    obtain ⟨p, _, q, _⟩ := two q
    rw [e] at q; cases q
  have fin : ∀ {v : V} {σ : List (Option V)} {p : PyData} {qs : List PyData}, (∃ vs, σ = so vs ∧ DpAll K H vs qs) → Dp K H v p → ∃ vs, some v :: σ = so vs ∧ DpAll K H vs (p :: qs) := fun {v σ p qs} ⟨vs, e, q⟩ r => ⟨v :: vs, by rw [e]; rfl, .cons r q⟩
  have sq : ∀ {xs : List D} {p : PyData} {c : List PyData → PyData}, (D.pys xs).map c = some p → ∃ qs, D.pys xs = some qs ∧ p = c qs := fun {xs p c} e => by
    obtain ⟨qs, e1, e2⟩ := Option.map_eq_some_iff.mp e
    exact ⟨qs, e1, e2.symm⟩
  induction h with
  | nil => intro ps e; cases e; exact ⟨[], rfl, .nil⟩
  | und _ ih => intro ps e; exact (bad rfl e).elim
  | ty _ ih => intro ps e; exact (bad rfl e).elim
  | cls _ ih => intro ps e; exact (bad rfl e).elim
  | non _ ih => intro ps e; obtain ⟨p, qs, e1, e2, rfl⟩ := two e; cases e1; exact fin (ih _ e2) .non
  | bl _ ih => intro ps e; obtain ⟨p, qs, e1, e2, rfl⟩ := two e; cases e1; exact fin (ih _ e2) (.bl _)
  | int _ ih => intro ps e; obtain ⟨p, qs, e1, e2, rfl⟩ := two e; cases e1; exact fin (ih _ e2) (.int _)
  | str _ ih => intro ps e; obtain ⟨p, qs, e1, e2, rfl⟩ := two e; cases e1; exact fin (ih _ e2) (.str _)
  | tup e0 _ _ _ i1 i2 =>
    intro ps e; obtain ⟨p, qs, e1, e2, rfl⟩ := two e
    obtain ⟨rs, e3, rfl⟩ := sq e1
    obtain ⟨ws, e4, q⟩ := i1 _ e3
    rw [so_inj e4] at e0
    exact fin (i2 _ e2) (.tup (.inl (.inl e0)) q)
  | tupK e0 _ _ i1 i2 =>
    intro ps e; obtain ⟨p, qs, e1, e2, rfl⟩ := two e
    obtain ⟨rs, e3, rfl⟩ := sq e1
    obtain ⟨ws, e4, q⟩ := i1 _ e3
    rw [so_inj e4] at e0
    exact fin (i2 _ e2) (.tup (.inr (e0.resolve_left fun r => r.elim (fun q => by cases q) fun ⟨_, q⟩ => by cases q)) q)
  | lstO e0 _ _ i1 i2 =>
    intro ps e; obtain ⟨p, qs, e1, e2, rfl⟩ := two e
    obtain ⟨rs, e3, rfl⟩ := sq e1
    obtain ⟨ws, e4, q⟩ := i1 _ e3
    rw [so_inj e4] at e0
    exact fin (i2 _ e2) (.lst (.inl (.inl e0)) q)
  | lstR _ e0 _ _ _ i1 i2 =>
    intro ps e; obtain ⟨p, qs, e1, e2, rfl⟩ := two e
    obtain ⟨rs, e3, rfl⟩ := sq e1
    obtain ⟨ws, e4, q⟩ := i1 _ e3
    rw [so_inj e4] at e0
    exact fin (i2 _ e2) (.lst (.inl (.inl e0)) q)
  | lstE e0 _ _ i1 i2 =>
    intro ps e; obtain ⟨p, qs, e1, e2, rfl⟩ := two e
    obtain ⟨rs, e3, rfl⟩ := sq e1
    obtain ⟨ws, e4, q⟩ := i1 _ e3
    rw [so_inj e4] at e0
    exact fin (i2 _ e2) (.lst (.inr (e0.resolve_left fun r => r.elim (fun q => by cases q) fun ⟨_, q⟩ => by cases q)) q)
  | lstX e0 _ _ _ i1 i2 =>
    intro ps e; obtain ⟨p, qs, e1, e2, rfl⟩ := two e
    obtain ⟨rs, e3, rfl⟩ := sq e1
    obtain ⟨ws, e4, q⟩ := i1 _ e3
    rw [so_inj e4] at e0
    exact fin (i2 _ e2) (.lst (.inl (.inr ⟨_, e0⟩)) q)
  | dKO _ _ _ _ _ _ => intro ps e; exact (bad rfl e).elim
  | dKR _ _ _ _ _ _ _ _ => intro ps e; exact (bad rfl e).elim
  | dTO _ _ _ _ _ _ => intro ps e; exact (bad rfl e).elim
  | dTR _ _ _ _ _ _ _ _ => intro ps e; exact (bad rfl e).elim
  | insO _ _ _ _ _ _ => intro ps e; exact (bad rfl e).elim
  | insR _ _ _ _ _ _ _ _ => intro ps e; exact (bad rfl e).elim
theorem py_dp {K : PySem.W.Frag} {H : Hp} {N : Fl → Addr → Prop} {v : V} {d : D} {L : List Addr} (h : Dens K H N [some v] [d] L) {p : PyData} (e : D.py d = some p) : Dp K H v p := by
  obtain ⟨vs, e1, q⟩ := pys_dp h [p] (by unfold D.pys; rw [e]; rfl)
  have e2 : [v] = vs := so_inj (us := [v]) e1
  subst e2
  cases q with
  | cons a _ => exact a

/-! ### readings of several values -/
def rN1 (r : V → Hp → VK → Prop) : List V → Hp → VK → Prop := fun vs H Q => match vs with
  | [x] => r x H Q
  | _ => False
def rN2 (r : R2) : List V → Hp → VK → Prop := fun vs H Q => match vs with
  | [x, y] => r x y H Q
  | _ => False
theorem Sat.op2 {K : PySem.W.Frag} {q q' : Bool} {ta tb : TE} {fa fb : Ev → Option (D × Ev)} {r : R2} {g : List D → Option D} (ha : Sat K q ta fa) (hb : Sat K q' tb fb) (o : OpN K (rN2 r) g) : Sat K (q && (q' && true)) (tOp r ta tb) (eOp g (aCons fa (aCons fb aNil))) :=
  Sat.op (r := rN2 r) (SatA.cons ha (SatA.cons hb (SatA.nil (q := true)))) o
theorem Sat.op1 {K : PySem.W.Frag} {q : Bool} {ta : TE} {fa : Ev → Option (D × Ev)} {r : V → Hp → VK → Prop} {g : List D → Option D} (ha : Sat K q ta fa) (o : OpN K (rN1 r) g) : Sat K (q && true) (fun σ H Q => ta σ H fun x H1 => r x H1 Q) (eOp g (aCons fa aNil)) :=
  Sat.op (r := rN1 r) (SatA.cons ha (SatA.nil (q := true))) o
/-- an operation of the model on two values computes g, in each context that C allows -/
def V2 (f : Value → Value → Sem Value) (C : Cx → Prop) (g : List D → Option D) : Prop := ∃ r : PySem.W.Frag → R2, (∀ X, C X → OpR X f (r X.K)) ∧ ∀ K, OpN K (rN2 (r K)) g
def CAll (_ : Cx) : Prop := True
def CUnits (X : Cx) : Prop := X.A.units + 100 < cLine
theorem OpN.or {K : PySem.W.Frag} {r r' : R2} {g g' : List D → Option D} (h : OpN K (rN2 r) g) (h' : OpN K (rN2 r') g') : OpN K (rN2 fun x y H Q => r x y H Q ∨ r' x y H Q) fun ds => (g ds).or (g' ds) := by
  intro H N vs ds Lt hd nd d e Q k
  have e : (g ds).or (g' ds) = some d := e
  cases e1 : g ds with
  | some d' =>
    rw [e1] at e; cases e
    have q := h H N vs ds Lt hd nd _ e1 Q k
    match vs, q with
    | [x, y], q => exact .inl q
  | none =>
    rw [e1] at e
    have q := h' H N vs ds Lt hd nd d e Q k
    match vs, q with
    | [x, y], q => exact .inr q

/-! ### numbers, texts: operands that own nothing -/
theorem one_int {K : PySem.W.Frag} {H : Hp} {N : Fl → Addr → Prop} {o : Option V} {σ : List (Option V)} {i : Int} {ds : List D} {L : List Addr} (h : Dens K H N (o :: σ) (.int i :: ds) L) : o = some (.int i) ∧ Dens K H N σ ds L := by cases h; exact ⟨rfl, by assumption⟩
theorem one_str {K : PySem.W.Frag} {H : Hp} {N : Fl → Addr → Prop} {o : Option V} {σ : List (Option V)} {i : Str} {ds : List D} {L : List Addr} (h : Dens K H N (o :: σ) (.str i :: ds) L) : o = some (.str i) ∧ Dens K H N σ ds L := by cases h; exact ⟨rfl, by assumption⟩
theorem one_bl {K : PySem.W.Frag} {H : Hp} {N : Fl → Addr → Prop} {o : Option V} {σ : List (Option V)} {i : Bool} {ds : List D} {L : List Addr} (h : Dens K H N (o :: σ) (.bl i :: ds) L) : o = some (.bl i) ∧ Dens K H N σ ds L := by cases h; exact ⟨rfl, by assumption⟩
theorem one_non {K : PySem.W.Frag} {H : Hp} {N : Fl → Addr → Prop} {o : Option V} {σ : List (Option V)} {ds : List D} {L : List Addr} (h : Dens K H N (o :: σ) (.non :: ds) L) : o = some .non ∧ Dens K H N σ ds L := by cases h; exact ⟨rfl, by assumption⟩
theorem one_nil {K : PySem.W.Frag} {H : Hp} {N : Fl → Addr → Prop} {σ : List (Option V)} {L : List Addr} (h : Dens K H N σ [] L) : σ = [] ∧ L = [] := by cases h; exact ⟨rfl, rfl⟩
theorem so_one {vs : List V} {v : V} (h : so vs = [some v]) : vs = [v] := so_inj (ws := [v]) h
theorem so_two {vs : List V} {v w : V} (h : so vs = [some v, some w]) : vs = [v, w] := so_inj (ws := [v, w]) h
theorem so_cons {vs : List V} {o : Option V} {σ : List (Option V)} (h : so vs = o :: σ) : ∃ v ws, vs = v :: ws ∧ o = some v ∧ σ = so ws := by
  cases vs with
  | nil => cases h
  | cons v ws => exact ⟨v, ws, rfl, (List.cons.inj h).1.symm, (List.cons.inj h).2.symm⟩
/-- the operands apart -/
theorem apart2 {K : PySem.W.Frag} {H : Hp} {N : Fl → Addr → Prop} {vs : List V} {a b : D} {L : List Addr} (h : Dens K H N (so vs) [a, b] L) : ∃ x y L1 L2, vs = [x, y] ∧ L = L1 ++ L2 ∧ Dens K H N [some x] [a] L1 ∧ Dens K H N [some y] [b] L2 := by
  match vs, h with
  | [x, y], h =>
    obtain ⟨L1, L2, rfl, h1, h2⟩ := Dens.cons (σ := [some y]) h
    exact ⟨x, y, L1, L2, rfl, rfl, h1, h2⟩
  | [], h => cases h.length
  | [_], h => cases h.length
  | _ :: _ :: _ :: _, h => simp at h; have := h.length; simp at this
theorem apart1 {K : PySem.W.Frag} {H : Hp} {N : Fl → Addr → Prop} {vs : List V} {a : D} {L : List Addr} (h : Dens K H N (so vs) [a] L) : ∃ x, vs = [x] ∧ Dens K H N [some x] [a] L := by
  match vs, h with
  | [x], h => exact ⟨x, rfl, h⟩
  | [], h => cases h.length
  | _ :: _ :: _, h => have := h.length; simp at this
theorem apart3 {K : PySem.W.Frag} {H : Hp} {N : Fl → Addr → Prop} {vs : List V} {a b c : D} {L : List Addr} (h : Dens K H N (so vs) [a, b, c] L) : ∃ x y z L1 L2 L3, vs = [x, y, z] ∧ L = L1 ++ (L2 ++ L3) ∧ Dens K H N [some x] [a] L1 ∧ Dens K H N [some y] [b] L2 ∧ Dens K H N [some z] [c] L3 := by
  match vs, h with
  | x :: ws, h =>
    obtain ⟨L1, M, rfl, h1, h2⟩ := Dens.cons (σ := so ws) h
    obtain ⟨y, z, L2, L3, rfl, rfl, h3, h4⟩ := apart2 h2
    exact ⟨x, y, z, L1, L2, L3, rfl, rfl, h1, h3, h4⟩
  | [], h => cases h.length

def gI2 (g : Int → Int → Option D) : List D → Option D
  | [.int i, .int j] => g i j
  | _ => none
def gS2 (g : Str → Str → Option D) : List D → Option D
  | [.str i, .str j] => g i j
  | _ => none
/-- a result that is a scalar -/
def Flat (v : V) (d : D) : Prop := ∀ (K : PySem.W.Frag) (H : Hp) (N' : Fl → Addr → Prop), Dens K H N' [some v] [d] []
theorem Flat.int (i : Int) : Flat (.int i) (.int i) := fun _ _ _ => .int .nil
theorem Flat.bl (i : Bool) : Flat (.bl i) (.bl i) := fun _ _ _ => .bl .nil
theorem Flat.str (i : Str) : Flat (.str i) (.str i) := fun _ _ _ => .str .nil
theorem Flat.non : Flat .non .non := fun _ _ _ => .non .nil
theorem op_I2 {K : PySem.W.Frag} {r : R2} {g : Int → Int → Option D} (h : ∀ i j d, g i j = some d → ∃ v, Flat v d ∧ ∀ H (Q : VK), Q v H → r (.int i) (.int j) H Q) : OpN K (rN2 r) (gI2 g) := by
  intro H N vs ds Lt hd nd d e Q k
  unfold gI2 at e
  split at e
  · rename_i i j
    obtain ⟨x, y, L1, L2, rfl, rfl, h1, h2⟩ := apart2 hd
    cases (one_int h1).1
    cases (one_int h2).1
    obtain ⟨v, fl, q⟩ := h i j d e
    exact q H Q (k v H [] (Res.flat fun N' => fl _ _ _))
  · cases e
theorem op_S2 {K : PySem.W.Frag} {r : R2} {g : Str → Str → Option D} (h : ∀ i j d, g i j = some d → ∃ v, Flat v d ∧ ∀ H (Q : VK), Q v H → r (.str i) (.str j) H Q) : OpN K (rN2 r) (gS2 g) := by
  intro H N vs ds Lt hd nd d e Q k
  unfold gS2 at e
  split at e
  · rename_i i j
    obtain ⟨x, y, L1, L2, rfl, rfl, h1, h2⟩ := apart2 hd
    cases (one_str h1).1
    cases (one_str h2).1
    obtain ⟨v, fl, q⟩ := h i j d e
    exact q H Q (k v H [] (Res.flat fun N' => fl _ _ _))
  · cases e

/-- a + b -/
def gAddI : List D → Option D := gI2 fun i j => some (.int (i + j))
def gAddS : List D → Option D := gS2 fun i j => if i.length + j.length ≤ sizeLine then some (.str (i ++ j)) else none
def gAddL : List D → Option D
  | [.lst f xs, .lst g ys] => if f ≠ .ext ∧ g ≠ .ext ∧ xs.length + ys.length ≤ sizeLine then some (.lst .own (xs ++ ys)) else none
  | _ => none
def gAddT : List D → Option D
  | [.tup xs, .tup ys] => if xs.length + ys.length ≤ sizeLine then some (.tup (xs ++ ys)) else none
  | _ => none
def gAdd (ds : List D) : Option D := (gAddI ds).or ((gAddS ds).or ((gAddL ds).or (gAddT ds)))
theorem so_app (us ws : List V) : so (us ++ ws) = so us ++ so ws := List.map_append
section
variable {X : Cx}
theorem len_so {K : PySem.W.Frag} {H : Hp} {N : Fl → Addr → Prop} {us : List V} {xs : List D} {L : List Addr} (h : Dens K H N (so us) xs L) : us.length = xs.length := by have := h.length; simpa using this
theorem v_add : V2 (binaryOp .Add) CAll gAdd := by
  refine ⟨fun K x y H Q => rI0 (fun i j => .int (i + j)) x y H Q ∨ ((∃ i j, x = .str i ∧ y = .str j ∧ i.length + j.length ≤ sizeLine ∧ Q (.str (i ++ j)) H) ∨ (rCat x y H Q ∨ rCatA K x y H Q)), fun X _ => op_add.or (op_add_str.or (op_cat.or op_catA)), fun K => OpN.or (op_I2 fun i j d e => ?_) (OpN.or (op_S2 fun i j d e => ?_) (OpN.or ?_ ?_))⟩
  · cases e; exact ⟨_, Flat.int _, fun H Q q => ⟨i, j, rfl, rfl, q⟩⟩
  · split at e
    · rename_i hl; cases e; exact ⟨_, Flat.str _, fun H Q q => ⟨i, j, rfl, rfl, hl, q⟩⟩
    · cases e
  · intro H N vs ds Lt hd nd d e Q k
    unfold gAddL at e
    split at e
    · rename_i f xs g ys
      split at e
      · rename_i c
        cases e
        obtain ⟨x, y, L1, L2, rfl, rfl, h1, h2⟩ := apart2 hd
        obtain ⟨a, us, M1, rfl, _, e1, q1, s1⟩ := inv_lst h1
        obtain ⟨b, ws, M2, rfl, _, e2, q2, s2⟩ := inv_lst h2
        refine ⟨a, b, us, ws, rfl, rfl, e1 c.1, e2 c.2.1, by rw [len_so q1, len_so q2]; exact c.2.2, fun p hp => ?_⟩
        exact k _ _ _ (Res.newL nd (by rw [so_app]; exact q1.app q2) (s1.append s2) hp)
      · cases e
    · cases e
  · intro H N vs ds Lt hd nd d e Q k
    unfold gAddT at e
    split at e
    · rename_i xs ys
      split at e
      · rename_i c
        cases e
        obtain ⟨x, y, L1, L2, rfl, rfl, h1, h2⟩ := apart2 hd
        obtain ⟨a, us, M1, rfl, e1, q1, s1, n1⟩ := inv_tup h1
        obtain ⟨b, ws, M2, rfl, e2, q2, s2, n2⟩ := inv_tup h2
        have l1 := len_so q1
        have l2 := len_so q2
        refine ⟨a, b, us, ws, rfl, rfl, .inl (.inl e1), .inl (.inl e2), by rw [l1, l2]; exact c, fun z => ?_, fun z z2 => ?_, fun z z2 p hp => ?_⟩
        · subst z
          obtain rfl : xs = [] := List.eq_nil_of_length_eq_zero l1.symm
          exact k _ _ _ (Res.old nd h2 (List.sublist_append_right ..))
        · subst z2
          obtain rfl : ys = [] := List.eq_nil_of_length_eq_zero l2.symm
          rw [List.append_nil] at k
          exact k _ _ _ (Res.old nd h1 (List.sublist_append_left ..))
        · exact k _ _ _ (Res.newT nd (by rw [so_app]; exact q1.app q2) (s1.append s2) hp)
      · cases e
    · cases e
end
end TL

set_option Elab.async false
set_option linter.all false
set_option maxRecDepth 100000
/-! TL3: more operations on values. -/
namespace TL
open PySem PySem.Spec PyProof.Rows L2

/-! ### arithmetic -/
def gSub : List D → Option D := gI2 fun i j => some (.int (i - j))
def smallI (i : Int) : Bool := decide (-18446744073709551616 < i ∧ i < 18446744073709551616)
def gMulI : List D → Option D := gI2 fun i j => if smallI i || smallI j then some (.int (i * j)) else none
def gMulL : List D → Option D
  | [.lst f xs, .int k] => if f ≠ .ext ∧ -9223372036854775808 ≤ k ∧ k < 9223372036854775808 ∧ xs.length * k.toNat ≤ sizeLine ∧ xs.all D.noOwn then some (.lst .own (List.replicate k.toNat xs).flatten) else none
  | _ => none
def gMul (ds : List D) : Option D := (gMulI ds).or (gMulL ds)
def gDiv : List D → Option D := gI2 fun i j => if 0 < j ∧ j < 18446744073709551616 then some (.int (i / j)) else none
def gMod : List D → Option D := gI2 fun i j => if 0 < j then some (.int (i % j)) else none
def gPow : List D → Option D := gI2 fun i j => if 0 ≤ j ∧ j ≤ 1000 ∧ smallI i then some (.int (i ^ j.toNat)) else none
def gNeg : List D → Option D
  | [.int i] => some (.int (-i))
  | _ => none
theorem smallI_iff {i : Int} : smallI i = true ↔ (-(2 ^ 64) < i ∧ i < 2 ^ 64) := by
  unfold smallI
  rw [decide_eq_true_eq]
  exact Iff.rfl
theorem rep_dens {K : PySem.W.Frag} {H : Hp} {N : Fl → Addr → Prop} {us : List V} {xs : List D} (h : Dens K H N (so us) xs []) : ∀ k : Nat, Dens K H N (so (List.replicate k us).flatten) (List.replicate k xs).flatten []
  | 0 => .nil
  | k + 1 => by
    rw [List.replicate_succ, List.replicate_succ, List.flatten_cons, List.flatten_cons, so_app]
    exact h.app (rep_dens h k)
theorem rep_len {α : Type} (xs : List α) : ∀ k : Nat, (List.replicate k xs).flatten.length = xs.length * k
  | 0 => rfl
  | k + 1 => by rw [List.replicate_succ, List.flatten_cons, List.length_append, rep_len xs k, Nat.mul_succ, Nat.add_comm]
section
variable {X : Cx}
theorem v_sub : V2 (binaryOp .Sub) CAll gSub := ⟨fun _ => rI0 fun i j => .int (i - j), fun X _ => op_sub, fun K => op_I2 fun i j d e => by cases e; exact ⟨_, Flat.int _, fun H Q q => ⟨i, j, rfl, rfl, q⟩⟩⟩
theorem v_mul : V2 (binaryOp .Mult) CAll gMul := by
  refine ⟨fun _ x y H Q => rI CMul (fun i j => .int (i * j)) x y H Q ∨ rRep x y H Q, fun X _ => op_mul.or op_rep, fun K => OpN.or (op_I2 fun i j d e => ?_) ?_⟩
  · split at e
    · rename_i c
      cases e
      refine ⟨_, Flat.int _, fun H Q q => ⟨i, j, rfl, rfl, ?_, q⟩⟩
      rw [Bool.or_eq_true, smallI_iff, smallI_iff] at c
      exact c
    · cases e
  · intro H N vs ds Lt hd nd d e Q k
    unfold gMulL at e
    split at e
    · rename_i f xs n
      split at e
      · rename_i c
        cases e
        obtain ⟨x, y, L1, L2, rfl, rfl, h1, h2⟩ := apart2 hd
        obtain ⟨a, us, M1, rfl, _, e1, q1, s1⟩ := inv_lst h1
        cases (one_int h2).1
        have m0 := noOwn_nil q1 c.2.2.2.2
        subst m0
        refine ⟨a, n, us, rfl, rfl, e1 c.1, c.2.1, c.2.2.1, by rw [len_so q1]; exact c.2.2.2.1, fun p hp => ?_⟩
        exact k _ _ _ (Res.newL (L1 := []) nd (rep_dens q1 _) (List.nil_sublist _) hp)
      · cases e
    · cases e
theorem v_div : V2 (binaryOp .FloorDiv) CAll gDiv := ⟨fun _ => rI CDivW fun i j => .int (i / j), fun X _ => op_fdivW, fun K => op_I2 fun i j d e => by
  split at e
  · rename_i c
    cases e
    refine ⟨_, Flat.int _, fun H Q q => ⟨i, j, rfl, rfl, wide_div c.1 (b := 64) ?_ (by decide) (by decide), q⟩⟩
    have := c.1
    have := c.2
    omega
  · cases e⟩
theorem v_mod : V2 (binaryOp .Mod) CAll gMod := ⟨fun _ => rI (fun _ j => 0 < j) fun i j => .int (i % j), fun X _ => op_mod, fun K => op_I2 fun i j d e => by
  split at e
  · rename_i c; cases e; exact ⟨_, Flat.int _, fun H Q q => ⟨i, j, rfl, rfl, c, q⟩⟩
  · cases e⟩
theorem v_pow : V2 (binaryOp .Pow) CAll gPow := ⟨fun _ => rI CPow fun i j => .int (i ^ j.toNat), fun X _ => op_pow, fun K => op_I2 fun i j d e => by
  split at e
  · rename_i c
    cases e
    refine ⟨_, Flat.int _, fun H Q q => ⟨i, j, rfl, rfl, ⟨c.1, by omega, ?_⟩, q⟩⟩
    have := smallI_iff.mp c.2.2
    omega
  · cases e⟩
theorem op_N1 {r : V → Hp → VK → Prop} {g : List D → Option D} {K : PySem.W.Frag} (h : ∀ (d0 : D) (H : Hp) (N : Fl → Addr → Prop) (x : V) (L : List Addr) (d : D), Dens K H N [some x] [d0] L → g [d0] = some d → ∃ v, Flat v d ∧ ∀ (Q : VK), Q v H → r x H Q) (h0 : ∀ ds, (∀ d, ds ≠ [d]) → g ds = none) : OpN K (rN1 r) g := by
  intro H N vs ds Lt hd nd d e Q k
  match ds, hd, e with
  | [d0], hd, e =>
    obtain ⟨x, rfl, h1⟩ := apart1 hd
    obtain ⟨v, fl, q⟩ := h d0 H N x Lt d h1 e
    exact q Q (k v H [] (Res.flat fun N' => fl _ _ _))
  | [], hd, e => rw [h0 _ (fun d z => by cases z)] at e; cases e
  | _ :: _ :: _, hd, e => rw [h0 _ (fun d z => by cases z)] at e; cases e
theorem v_neg (K : PySem.W.Frag) : OpN K (rN1 (rU fun i => .int (-i))) gNeg := by
  refine op_N1 (fun d0 H N x L d h e => ?_) fun ds h => ?_
  · unfold gNeg at e
    split at e
    · rename_i i q
      cases q
      cases e
      cases (one_int h).1
      exact ⟨_, Flat.int _, fun Q q => ⟨i, rfl, q⟩⟩
    · cases e
  · unfold gNeg
    split
    · rename_i i; exact absurd rfl (h (.int i))
    · rfl

/-! ### comparisons -/
def pyEq (x y : D) : Option Bool := match x.py, y.py with
  | some p, some q => if SeqAt.shaped p && SeqAt.shaped q then some (PyData.eqv p q) else none
  | _, _ => none
def gEq : List D → Option D
  | [x, y] => (pyEq x y).map .bl
  | _ => none
def gNe : List D → Option D
  | [x, y] => (pyEq x y).map fun b => .bl (!b)
  | _ => none
theorem pyEq_some {x y : D} {b : Bool} (h : pyEq x y = some b) : ∃ p q, x.py = some p ∧ y.py = some q ∧ SeqAt.shaped p = true ∧ SeqAt.shaped q = true ∧ b = PyData.eqv p q := by
  unfold pyEq at h
  split at h
  · rename_i p q e1 e2
    split at h
    · rename_i c
      rw [Bool.and_eq_true] at c
      cases h
      exact ⟨p, q, e1, e2, c.1, c.2, rfl⟩
    · cases h
  · cases h
theorem op_D2 {K : PySem.W.Frag} {r : R2} {g : List D → Option D} (h : ∀ (x y : D) (H : Hp) (N : Fl → Addr → Prop) (a b : V) (L1 L2 : List Addr) (d : D), Dens K H N [some a] [x] L1 → Dens K H N [some b] [y] L2 → g [x, y] = some d → ∃ v, Flat v d ∧ ∀ (Q : VK), Q v H → r a b H Q)
    (h0 : ∀ ds, (∀ x y, ds ≠ [x, y]) → g ds = none) : OpN K (rN2 r) g := by
  intro H N vs ds Lt hd nd d e Q k
  match ds, hd, e with
  | [x, y], hd, e =>
    obtain ⟨a, b, L1, L2, rfl, rfl, h1, h2⟩ := apart2 hd
    obtain ⟨v, fl, q⟩ := h x y H N a b L1 L2 d h1 h2 e
    exact q Q (k v H [] (Res.flat fun N' => fl _ _ _))
  | [], hd, e => rw [h0 _ (fun x y z => by cases z)] at e; cases e
  | [_], hd, e => rw [h0 _ (fun x y z => by cases z)] at e; cases e
  | _ :: _ :: _ :: _, hd, e => rw [h0 _ (fun x y z => by cases z)] at e; cases e
theorem v_eq : V2 (compareOp .Eq) CUnits gEq := by
  refine ⟨rEqD, fun X hu => op_eqD (by unfold CUnits at hu; omega), fun K => op_D2 (fun x y H N a b L1 L2 d h1 h2 e => ?_) fun ds h => ?_⟩
  · obtain ⟨c, e1, rfl⟩ := Option.map_eq_some_iff.mp e
    obtain ⟨p, q, e2, e3, s1, s2, rfl⟩ := pyEq_some e1
    exact ⟨_, Flat.bl _, fun Q k => ⟨p, q, py_dp h1 e2, py_dp h2 e3, s1, s2, k⟩⟩
  · unfold gEq; split
    · exact absurd rfl (h _ _)
    · rfl
theorem v_ne : V2 (compareOp .NotEq) CUnits gNe := by
  refine ⟨rNeD, fun X hu => op_neD (by unfold CUnits at hu; omega), fun K => op_D2 (fun x y H N a b L1 L2 d h1 h2 e => ?_) fun ds h => ?_⟩
  · obtain ⟨c, e1, rfl⟩ := Option.map_eq_some_iff.mp e
    obtain ⟨p, q, e2, e3, s1, s2, rfl⟩ := pyEq_some e1
    exact ⟨_, Flat.bl _, fun Q k => ⟨p, q, py_dp h1 e2, py_dp h2 e3, s1, s2, k⟩⟩
  · unfold gNe; split
    · exact absurd rfl (h _ _)
    · rfl
def strLt (x y : Str) : Bool := decide (x.cps.toList < y.cps.toList)
def gLt (ds : List D) : Option D := (gI2 (fun i j => some (.bl (decide (i < j)))) ds).or (gS2 (fun i j => some (.bl (strLt i j))) ds)
def gLe (ds : List D) : Option D := (gI2 (fun i j => some (.bl (decide (i ≤ j)))) ds).or (gS2 (fun i j => some (.bl (!strLt j i))) ds)
def gGt (ds : List D) : Option D := (gI2 (fun i j => some (.bl (decide (j < i)))) ds).or (gS2 (fun i j => some (.bl (strLt j i))) ds)
def gGe (ds : List D) : Option D := (gI2 (fun i j => some (.bl (decide (j ≤ i)))) ds).or (gS2 (fun i j => some (.bl (!strLt i j))) ds)
theorem v_lt : V2 (compareOp .Lt) CAll gLt :=
  ⟨fun _ x y H Q => rI0 (fun i j => .bl (decide (i < j))) x y H Q ∨ ∃ i j, x = .str i ∧ y = .str j ∧ Q (.bl (decide (i.cps.toList < j.cps.toList))) H, fun X _ => op_lt.or op_lt_str, fun K => OpN.or (op_I2 fun i j d e => by cases e; exact ⟨_, Flat.bl _, fun H Q q => ⟨i, j, rfl, rfl, q⟩⟩) (op_S2 fun i j d e => by cases e; exact ⟨_, Flat.bl _, fun H Q q => ⟨i, j, rfl, rfl, q⟩⟩)⟩
theorem v_le : V2 (compareOp .LtE) CAll gLe :=
  ⟨fun _ x y H Q => rI0 (fun i j => .bl (decide (i ≤ j))) x y H Q ∨ ∃ i j, x = .str i ∧ y = .str j ∧ Q (.bl (!decide (j.cps.toList < i.cps.toList))) H, fun X _ => op_le.or op_le_str, fun K => OpN.or (op_I2 fun i j d e => by cases e; exact ⟨_, Flat.bl _, fun H Q q => ⟨i, j, rfl, rfl, q⟩⟩) (op_S2 fun i j d e => by cases e; exact ⟨_, Flat.bl _, fun H Q q => ⟨i, j, rfl, rfl, q⟩⟩)⟩
theorem v_gt : V2 (compareOp .Gt) CAll gGt :=
  ⟨fun _ x y H Q => rI0 (fun i j => .bl (decide (j < i))) x y H Q ∨ ∃ i j, x = .str i ∧ y = .str j ∧ Q (.bl (decide (j.cps.toList < i.cps.toList))) H, fun X _ => op_gt.or op_gt_str, fun K => OpN.or (op_I2 fun i j d e => by cases e; exact ⟨_, Flat.bl _, fun H Q q => ⟨i, j, rfl, rfl, q⟩⟩) (op_S2 fun i j d e => by cases e; exact ⟨_, Flat.bl _, fun H Q q => ⟨i, j, rfl, rfl, q⟩⟩)⟩
theorem v_ge : V2 (compareOp .GtE) CAll gGe :=
  ⟨fun _ x y H Q => rI0 (fun i j => .bl (decide (j ≤ i))) x y H Q ∨ ∃ i j, x = .str i ∧ y = .str j ∧ Q (.bl (!decide (i.cps.toList < j.cps.toList))) H, fun X _ => op_ge.or op_ge_str, fun K => OpN.or (op_I2 fun i j d e => by cases e; exact ⟨_, Flat.bl _, fun H Q q => ⟨i, j, rfl, rfl, q⟩⟩) (op_S2 fun i j d e => by cases e; exact ⟨_, Flat.bl _, fun H Q q => ⟨i, j, rfl, rfl, q⟩⟩)⟩
def D.isNon : D → Bool
  | .non => true
  | _ => false
def D.isUnd : D → Bool
  | .und => true
  | _ => false
theorem non_iff {K : PySem.W.Frag} {H : Hp} {N : Fl → Addr → Prop} {v : V} {d : D} {L : List Addr} (h : Dens K H N [some v] [d] L) (u : d.isUnd = false) : decide (v = .non) = d.isNon := by
  cases h <;> first | rfl | (cases u; done) | simp [D.isNon]
def gIsN : List D → Option D
  | [x, .non] => if x.isUnd then none else some (.bl x.isNon)
  | _ => none
def gNotN : List D → Option D
  | [x, .non] => if x.isUnd then none else some (.bl (!x.isNon))
  | _ => none
theorem v_isN : V2 (compareOp .Is) CAll gIsN := by
  refine ⟨fun _ x y H Q => y = .non ∧ Q (.bl (decide (x = .non))) H, fun X _ => op_isN, fun K => op_D2 (fun x y H N a b L1 L2 d h1 h2 e => ?_) fun ds h => ?_⟩
  · unfold gIsN at e
    split at e
    · rename_i z q
      cases q
      split at e
      · cases e
      · rename_i u
        cases e
        cases (one_non h2).1
        have := non_iff h1 (by simpa using u)
        exact ⟨_, Flat.bl _, fun Q k => ⟨rfl, by rw [this]; exact k⟩⟩
    · cases e
  · unfold gIsN; split
    · exact absurd rfl (h _ _)
    · rfl
theorem v_notN : V2 (compareOp .IsNot) CAll gNotN := by
  refine ⟨fun _ x y H Q => y = .non ∧ Q (.bl (!decide (x = .non))) H, fun X _ => op_notN, fun K => op_D2 (fun x y H N a b L1 L2 d h1 h2 e => ?_) fun ds h => ?_⟩
  · unfold gNotN at e
    split at e
    · rename_i z q
      cases q
      split at e
      · cases e
      · rename_i u
        cases e
        cases (one_non h2).1
        have := non_iff h1 (by simpa using u)
        exact ⟨_, Flat.bl _, fun Q k => ⟨rfl, by rw [this]; exact k⟩⟩
    · cases e
  · unfold gNotN; split
    · exact absurd rfl (h _ _)
    · rfl

/-! ### keys -/
def D.key : D → Option Key
  | .int i => some (.inl i)
  | .str x => some (.inr x)
  | _ => none
def D.keys : List D → Option (List Key)
  | [] => some []
  | x :: r => match D.key x, D.keys r with
    | some p, some ps => some (p :: ps)
    | _, _ => none
theorem key_v {K : PySem.W.Frag} {H : Hp} {N : Fl → Addr → Prop} {v : V} {d : D} {L : List Addr} (h : Dens K H N [some v] [d] L) {k : Key} (e : d.key = some k) : v = kV k := by
  cases d <;> simp [D.key] at e <;> subst e
  · cases (one_int h).1; rfl
  · cases (one_str h).1; rfl
theorem keys_v {K : PySem.W.Frag} {H : Hp} {N : Fl → Addr → Prop} : ∀ {us : List V} {xs : List D} {L : List Addr}, Dens K H N (so us) xs L → ∀ {ks : List Key}, D.keys xs = some ks → us = ks.map kV
  | us, [], _, h, ks, e => by
    cases e
    have := (one_nil h).1
    cases us with
    | nil => rfl
    | cons _ _ => cases this
  | us, x :: r, _, h, ks, e => by
    unfold D.keys at e
    cases e1 : D.key x with
    | none => rw [e1] at e; cases e
    | some p =>
      cases e2 : D.keys r with
      | none => rw [e1, e2] at e; cases e
      | some ps =>
        rw [e1, e2] at e
        cases e
        cases us with
        | nil => cases h.length
        | cons u us =>
          obtain ⟨L1, L2, rfl, h1, h2⟩ := Dens.cons (σ := so us) h
          rw [key_v h1 e1, keys_v h2 e2]; rfl

/-! ### in -/
theorem op_inT (hu : X.A.units + 65 < cLine) : OpR X (compareOp .In) (fun x y H Q => ∃ d ds, Dp X.K H x d ∧ Dp X.K H y (.tuple ds) ∧ SeqAt.shaped d = true ∧ SeqAt.shaped (.tuple ds) = true ∧ Q (.bl (ds.any fun z => PyData.eqv z d)) H) := by
  intro pins s σ H x y v u Q I rx ry h
  obtain ⟨d, ds, hd, he, sd, se, q⟩ := h
  obtain ⟨as, r1⟩ := Dp.reads I d x v hd rx
  obtain ⟨bs, r2⟩ := Dp.reads I (.tuple ds) y u he ry
  exact SeqAt.in_tuple_reads r2 r1 (SeqAt.canLay_of_shaped se) (SeqAt.canLay_of_shaped sd) (room_in_shaped sd hu) ⟨.bl _, H, I, rfl, q⟩
theorem op_notInT (hu : X.A.units + 65 < cLine) : OpR X (compareOp .NotIn) (fun x y H Q => ∃ d ds, Dp X.K H x d ∧ Dp X.K H y (.tuple ds) ∧ SeqAt.shaped d = true ∧ SeqAt.shaped (.tuple ds) = true ∧ Q (.bl (!ds.any fun z => PyData.eqv z d)) H) := by
  intro pins s σ H x y v u Q I rx ry h
  obtain ⟨d, ds, hd, he, sd, se, q⟩ := h
  obtain ⟨as, r1⟩ := Dp.reads I d x v hd rx
  obtain ⟨bs, r2⟩ := Dp.reads I (.tuple ds) y u he ry
  exact SeqAt.notIn_tuple_reads r2 r1 (SeqAt.canLay_of_shaped se) (SeqAt.canLay_of_shaped sd) (room_in_shaped sd hu) ⟨.bl _, H, I, rfl, q⟩
theorem op_inDict (hu : X.A.units + 1 < cLine) : OpR X (compareOp .In) (fun y x H Q => ∃ a o, x = .ref a ∧ DGet H a y o ∧ Q (.bl o.isSome) H) := by
  intro pins s σ H x y v u Q I rx ry h
  obtain ⟨a, o, rfl, g, q⟩ := h
  cases ry
  exact d_in hu I g rx fun s3 I3 => ⟨.bl _, H, I3, rfl, q⟩
theorem op_notInDict (hu : X.A.units + 1 < cLine) : OpR X (compareOp .NotIn) (fun y x H Q => ∃ a o, x = .ref a ∧ DGet H a y o ∧ Q (.bl (!o.isSome)) H) := by
  intro pins s σ H x y v u Q I rx ry h
  obtain ⟨a, o, rfl, g, q⟩ := h
  cases ry
  exact d_notIn hu I g rx fun s3 I3 => ⟨.bl _, H, I3, rfl, q⟩
/-- look up by a key -/
def lookD {κ : Type} [DecidableEq κ] (kds : List (κ × D)) (k : κ) : Option D := (kds.find? fun p => decide (p.1 = k)).map (·.2)
theorem look_val {κ : Type} [DecidableEq κ] {K : PySem.W.Frag} {H : Hp} {N : Fl → Addr → Prop} : ∀ {kvs : List (κ × V)} {kds : List (κ × D)} {L : List Addr}, kvs.map (·.1) = kds.map (·.1) → Dens K H N (sv kvs) (kds.map (·.2)) L → ∀ k : κ,
    (lookD kds k = none ∧ valV kvs k = none) ∨ ∃ v d L1, lookD kds k = some d ∧ valV kvs k = some v ∧ Dens K H N [some v] [d] L1 ∧ L1.Sublist L
  | [], [], _, _, _, k => .inl ⟨rfl, rfl⟩
  | [], _ :: _, _, e, _, _ => by cases e
  | _ :: _, [], _, e, _, _ => by cases e
  | (k1, v) :: kvs, (k2, d) :: kds, L, e, h, k => by
    have e' := List.cons.inj e
    obtain rfl : k1 = k2 := e'.1
    obtain ⟨L1, L2, rfl, h1, h2⟩ := Dens.cons (o := some v) (d := d) (σ := sv kvs) (ds := kds.map (·.2)) h
    by_cases z : k1 = k
    · exact .inr ⟨v, d, L1, by simp [lookD, List.find?_cons, z], valV_pos z, h1, List.sublist_append_left ..⟩
    · have l1 : lookD ((k1, d) :: kds) k = lookD kds k := by simp [lookD, List.find?_cons, z]
      rw [l1, valV_neg z]
      rcases look_val e'.2 h2 k with q | ⟨v', d', M, q1, q2, q3, q4⟩
      · exact .inl q
      · exact .inr ⟨v', d', M, q1, q2, q3, q4.trans (List.sublist_append_right ..)⟩
/-- the entry of a dict -/
def dictLook : D → D → Option (Option D)
  | .dK _ kds, k => (D.key k).map fun k => lookD kds k
  | .dT _ kds, .tup xs => (D.keys xs).map fun k => lookD kds k
  | _, _ => none
theorem dict_look {K : PySem.W.Frag} {H : Hp} {N : Fl → Addr → Prop} {x y : V} {d k : D} {L1 L2 : List Addr} (h1 : Dens K H N [some x] [d] L1) (h2 : Dens K H N [some y] [k] L2) {r : Option D} (e : dictLook d k = some r) :
    ∃ a o, x = .ref a ∧ DGet H a y o ∧ IsD H a ∧ ((r = none ∧ o = none) ∨ ∃ v d' M, r = some d' ∧ o = some v ∧ Dens K H N [some v] [d'] M ∧ M.Sublist L1) := by
  cases d <;> try (cases k <;> cases e; done)
  · rename_i f kds
    have e' : (D.key k).map (fun k => lookD kds k) = some r := e
    obtain ⟨kk, e1, e2⟩ := Option.map_eq_some_iff.mp e'
    obtain ⟨a, kvs, M, rfl, rd, _, ek, q, s⟩ := inv_dK h1
    refine ⟨a, valV kvs kk, rfl, .inl ⟨kvs, kk, rd, key_v h2 e1, rfl⟩, .inl ⟨kvs, rd⟩, ?_⟩
    rcases look_val ek q kk with ⟨q1, q2⟩ | ⟨v, d', M', q1, q2, q3, q4⟩
    · exact .inl ⟨by rw [← e2, q1], q2⟩
    · exact .inr ⟨v, d', M', by rw [← e2, q1], q2, q3, q4.trans s⟩
  · rename_i f kds
    cases k <;> try (cases e; done)
    rename_i xs
    have e' : (D.keys xs).map (fun k => lookD kds k) = some r := e
    obtain ⟨kk, e1, e2⟩ := Option.map_eq_some_iff.mp e'
    obtain ⟨a, kvs, M, rfl, rd, _, ek, q, s⟩ := inv_dT h1
    obtain ⟨b, us, M2, rfl, eb, q5, _, _⟩ := inv_tup h2
    rw [keys_v q5 e1] at eb
    refine ⟨a, valV kvs kk, rfl, .inr ⟨kvs, kk, b, rd, rfl, eb, rfl⟩, .inr ⟨kvs, rd⟩, ?_⟩
    rcases look_val ek q kk with ⟨q1, q2⟩ | ⟨v, d', M', q1, q2, q3, q4⟩
    · exact .inl ⟨by rw [← e2, q1], q2⟩
    · exact .inr ⟨v, d', M', by rw [← e2, q1], q2, q3, q4.trans s⟩
/-- x in y -/
def pyIn (x y : D) : Option Bool := match dictLook y x with
  | some r => some r.isSome
  | none => match y.py, x.py with
    | some (.list ps), some p => if SeqAt.shaped p && SeqAt.shaped (.list ps) then some (ps.any fun z => PyData.eqv z p) else none
    | some (.tuple ps), some p => if SeqAt.shaped p && SeqAt.shaped (.tuple ps) then some (ps.any fun z => PyData.eqv z p) else none
    | some (.str b), some (.str a) => some (!(Builtin.Str.occurrences b a 0 b.length 1).isEmpty)
    | _, _ => none
def gIn : List D → Option D
  | [x, y] => (pyIn x y).map .bl
  | _ => none
def gNotIn : List D → Option D
  | [x, y] => (pyIn x y).map fun b => .bl (!b)
  | _ => none
theorem py_str {d : D} {x : Str} (h : d.py = some (.str x)) : d = .str x := by
  cases d <;> simp [D.py] at h
  rw [h]
theorem v_in : V2 (compareOp .In) CUnits gIn := by
  refine ⟨fun K y x H Q => (∃ a o, x = .ref a ∧ DGet H a y o ∧ Q (.bl o.isSome) H) ∨ (rInD K y x H Q ∨ ((∃ d ds, Dp K H y d ∧ Dp K H x (.tuple ds) ∧ SeqAt.shaped d = true ∧ SeqAt.shaped (.tuple ds) = true ∧ Q (.bl (ds.any fun z => PyData.eqv z d)) H) ∨ ∃ i j, y = .str i ∧ x = .str j ∧ Q (.bl (!(Builtin.Str.occurrences j i 0 j.length 1).isEmpty)) H)), fun X hu => (op_inDict (by unfold CUnits at hu; omega)).or ((op_inD (by unfold CUnits at hu; omega)).or ((op_inT (by unfold CUnits at hu; omega)).or op_in_str)), fun K => op_D2 (fun x y H N a b L1 L2 d h1 h2 e => ?_) fun ds h => ?_⟩
  · obtain ⟨c, e1, rfl⟩ := Option.map_eq_some_iff.mp e
    unfold pyIn at e1
    split at e1
    · rename_i r er
      cases e1
      obtain ⟨p, o, rfl, g, _, q⟩ := dict_look h2 h1 er
      refine ⟨_, Flat.bl _, fun Q k => .inl ⟨p, o, rfl, g, ?_⟩⟩
      rcases q with ⟨rfl, rfl⟩ | ⟨v, d', M, rfl, rfl, _, _⟩ <;> exact k
    · split at e1
      · rename_i ps p q1 q2
        split at e1
        · rename_i cc
          rw [Bool.and_eq_true] at cc
          cases e1
          exact ⟨_, Flat.bl _, fun Q k => .inr (.inl ⟨p, ps, py_dp h1 q2, py_dp h2 q1, cc.1, cc.2, k⟩)⟩
        · cases e1
      · rename_i ps p q1 q2
        split at e1
        · rename_i cc
          rw [Bool.and_eq_true] at cc
          cases e1
          exact ⟨_, Flat.bl _, fun Q k => .inr (.inr (.inl ⟨p, ps, py_dp h1 q2, py_dp h2 q1, cc.1, cc.2, k⟩))⟩
        · cases e1
      · rename_i bb aa q1 q2
        cases e1
        cases py_str q1
        cases py_str q2
        cases (one_str h1).1
        cases (one_str h2).1
        exact ⟨_, Flat.bl _, fun Q k => .inr (.inr (.inr ⟨aa, bb, rfl, rfl, k⟩))⟩
      · cases e1
  · unfold gIn; split
    · exact absurd rfl (h _ _)
    · rfl
theorem v_notIn : V2 (compareOp .NotIn) CUnits gNotIn := by
  refine ⟨fun K y x H Q => (∃ a o, x = .ref a ∧ DGet H a y o ∧ Q (.bl (!o.isSome)) H) ∨ (rNotInD K y x H Q ∨ ((∃ d ds, Dp K H y d ∧ Dp K H x (.tuple ds) ∧ SeqAt.shaped d = true ∧ SeqAt.shaped (.tuple ds) = true ∧ Q (.bl (!ds.any fun z => PyData.eqv z d)) H) ∨ ∃ i j, y = .str i ∧ x = .str j ∧ Q (.bl (!(!(Builtin.Str.occurrences j i 0 j.length 1).isEmpty))) H)), fun X hu => (op_notInDict (by unfold CUnits at hu; omega)).or ((op_notInD (by unfold CUnits at hu; omega)).or ((op_notInT (by unfold CUnits at hu; omega)).or op_notin_str)), fun K => op_D2 (fun x y H N a b L1 L2 d h1 h2 e => ?_) fun ds h => ?_⟩
  · obtain ⟨c, e1, rfl⟩ := Option.map_eq_some_iff.mp e
    unfold pyIn at e1
    split at e1
    · rename_i r er
      cases e1
      obtain ⟨p, o, rfl, g, _, q⟩ := dict_look h2 h1 er
      refine ⟨_, Flat.bl _, fun Q k => .inl ⟨p, o, rfl, g, ?_⟩⟩
      rcases q with ⟨rfl, rfl⟩ | ⟨v, d', M, rfl, rfl, _, _⟩ <;> exact k
    · split at e1
      · rename_i ps p q1 q2
        split at e1
        · rename_i cc
          rw [Bool.and_eq_true] at cc
          cases e1
          exact ⟨_, Flat.bl _, fun Q k => .inr (.inl ⟨p, ps, py_dp h1 q2, py_dp h2 q1, cc.1, cc.2, k⟩)⟩
        · cases e1
      · rename_i ps p q1 q2
        split at e1
        · rename_i cc
          rw [Bool.and_eq_true] at cc
          cases e1
          exact ⟨_, Flat.bl _, fun Q k => .inr (.inr (.inl ⟨p, ps, py_dp h1 q2, py_dp h2 q1, cc.1, cc.2, k⟩))⟩
        · cases e1
      · rename_i bb aa q1 q2
        cases e1
        cases py_str q1
        cases py_str q2
        cases (one_str h1).1
        cases (one_str h2).1
        exact ⟨_, Flat.bl _, fun Q k => .inr (.inr (.inr ⟨aa, bb, rfl, rfl, k⟩))⟩
      · cases e1
  · unfold gNotIn; split
    · exact absurd rfl (h _ _)
    · rfl

/-! ### items -/
def gIx : List D → Option D
  | [.lst _ xs, .int i] => (atI xs i).bind fun d => if d.isUnd then none else some d
  | [.tup xs, .int i] => (atI xs i).bind fun d => if d.isUnd then none else some d
  | [.tupE xs, .int i] => (atI xs i).bind fun d => if d.isUnd then none else some d
  | [.str z, .int i] => if z.length ≤ sizeLine then (atI z.cps.toList i).map fun c => .str ⟨#[c]⟩ else none
  | _ => none
theorem at_dens {K : PySem.W.Frag} {H : Hp} {N : Fl → Addr → Prop} {us : List V} {xs : List D} {L : List Addr} (h : Dens K H N (so us) xs L) {i : Int} {d : D} (e : atI xs i = some d) (hd : d ≠ .und) : ∃ v L1, atI us i = some v ∧ Dens K H N [some v] [d] L1 ∧ L1.Sublist L := by
  have len := len_so h
  unfold atI at e ⊢
  cases e1 : ixN xs.length i with
  | none => rw [e1] at e; cases e
  | some j =>
    rw [e1] at e
    obtain ⟨o, L1, q1, q2, q3⟩ := h.at (i := j) e
    obtain ⟨v, rfl⟩ := q2.some1 hd
    refine ⟨v, L1, ?_, q2, q3⟩
    rw [len, e1]
    simpa using q1
theorem und_ne {d : D} (h : ¬ d.isUnd = true) : d ≠ .und := fun e => h (by rw [e]; rfl)
theorem ix_bind {xs : List D} {i : Int} {d : D} (e : ((atI xs i).bind fun d => if d.isUnd then none else some d) = some d) : atI xs i = some d ∧ d ≠ .und := by
  obtain ⟨d', e1, e2⟩ := Option.bind_eq_some_iff.mp e
  split at e2
  · cases e2
  · rename_i u; cases e2; exact ⟨e1, und_ne u⟩
theorem v_ix (K : PySem.W.Frag) : OpN K (rN2 (rIx K)) gIx := by
  intro H N vs ds Lt hd nd d e Q k
  unfold gIx at e
  split at e
  · rename_i f xs i
    obtain ⟨e1, u⟩ := ix_bind e
    obtain ⟨x, y, L1, L2, rfl, rfl, h1, h2⟩ := apart2 hd
    obtain ⟨a, us, M1, rfl, sq, _, q1, s1⟩ := inv_lst h1
    cases (one_int h2).1
    obtain ⟨v, M, q3, q4, q5⟩ := at_dens q1 e1 u
    exact .inl ⟨a, us, i, v, rfl, rfl, sq, q3, k _ _ _ (Res.old nd q4 ((q5.trans s1).trans (List.sublist_append_left ..)))⟩
  · rename_i xs i
    obtain ⟨e1, u⟩ := ix_bind e
    obtain ⟨x, y, L1, L2, rfl, rfl, h1, h2⟩ := apart2 hd
    obtain ⟨a, us, M1, rfl, sq, q1, s1, _⟩ := inv_tup h1
    cases (one_int h2).1
    obtain ⟨v, M, q3, q4, q5⟩ := at_dens q1 e1 u
    exact .inr (.inl ⟨a, us, i, v, rfl, rfl, .inl (.inl sq), q3, k _ _ _ (Res.old nd q4 ((q5.trans s1).trans (List.sublist_append_left ..)))⟩)
  · rename_i xs i
    obtain ⟨e1, u⟩ := ix_bind e
    obtain ⟨x, y, L1, L2, rfl, rfl, h1, h2⟩ := apart2 hd
    obtain ⟨a, us, M1, rfl, sq, q1, s1⟩ := inv_tupE h1
    cases (one_int h2).1
    obtain ⟨v, M, q3, q4, q5⟩ := at_dens q1 e1 u
    exact .inr (.inl ⟨a, us, i, v, rfl, rfl, sq, q3, k _ _ _ (Res.old nd q4 ((q5.trans s1).trans (List.sublist_append_left ..)))⟩)
  · rename_i z i
    split at e
    · rename_i hl
      obtain ⟨c, e1, rfl⟩ := Option.map_eq_some_iff.mp e
      obtain ⟨x, y, L1, L2, rfl, rfl, h1, h2⟩ := apart2 hd
      cases (one_str h1).1
      cases (one_int h2).1
      exact .inr (.inr ⟨z, i, c, rfl, rfl, hl, e1, k _ _ _ (Res.flat fun N' => Flat.str _ _ _ _)⟩)
    · cases e
  · cases e
def gDGet : List D → Option D
  | [d, k] => (dictLook d k).bind fun o => o.bind fun r => if r.isUnd then none else some r
  | _ => none
def rDGet : R2 := fun x y H Q => ∃ a v, x = .ref a ∧ DGet H a y (some v) ∧ Q v H
theorem v_dget {K : PySem.W.Frag} : OpN K (rN2 rDGet) gDGet := by
  intro H N vs ds Lt hd nd d e Q k
  unfold gDGet at e
  split at e
  · rename_i dd kk
    obtain ⟨o, e1, e2⟩ := Option.bind_eq_some_iff.mp e
    obtain ⟨r, e3, e4⟩ := Option.bind_eq_some_iff.mp e2
    subst e3
    split at e4
    · cases e4
    · cases e4
      obtain ⟨x, y, L1, L2, rfl, rfl, h1, h2⟩ := apart2 hd
      obtain ⟨a, o, rfl, g, _, q⟩ := dict_look h1 h2 e1
      rcases q with ⟨q, _⟩ | ⟨v, d', M, q1, rfl, q3, q4⟩
      · cases q
      · cases q1
        exact ⟨a, v, rfl, g, k _ _ _ (Res.old nd q3 (q4.trans (List.sublist_append_left ..)))⟩
  · cases e
end
end TL

set_option Elab.async false
set_option linter.all false
set_option maxRecDepth 100000
/-! TL4: expressions and tests as functions of trees; reading without owning. -/
namespace TL
open PySem PySem.Spec PyProof.Rows L2

section
variable {K : PySem.W.Frag} {H H' : Hp} {N N' : Fl → Addr → Prop}
/-- only the knowledge changes, by the flags that occur -/
theorem Dens.knowC {p : Fl → Bool} {σ : List (Option V)} {ds : List D} {L : List Addr} (h : Dens K H N σ ds L) (hN : ∀ f a, f.ro = true → p f = true → N f a → H a ≠ none → N' f a) (hT : ∀ a us, N .frz a → H a = some (.tup us) → N' .frz a)
    (hX : ∀ a o us, N .ext a → H a = some (.frz o (.lst us)) → N' .ext a) : ds.all (D.allF p) = true → Dens K H N' σ ds L := by
  have c1 : ∀ {d : D} {ds : List D}, (d :: ds).all (D.allF p) = true → D.allF p d = true ∧ ds.all (D.allF p) = true := fun {d ds} e => by rw [List.all_cons, Bool.and_eq_true] at e; exact e
  induction h with
  | nil => intro _; exact .nil
  | und _ ih => intro e; exact .und (ih (c1 e).2)
  | non _ ih => intro e; exact .non (ih (c1 e).2)
  | bl _ ih => intro e; exact .bl (ih (c1 e).2)
  | int _ ih => intro e; exact .int (ih (c1 e).2)
  | str _ ih => intro e; exact .str (ih (c1 e).2)
  | ty _ ih => intro e; exact .ty (ih (c1 e).2)
  | cls _ ih => intro e; exact .cls (ih (c1 e).2)
  | tup e0 n _ _ i1 i2 =>
    intro e; obtain ⟨a, b⟩ := c1 e
    rw [D.allF, allFs_all] at a
    exact .tup e0 (hT _ _ n e0) (i1 a) (i2 b)
  | tupK e0 _ _ i1 i2 =>
    intro e; obtain ⟨a, b⟩ := c1 e
    rw [D.allF, allFs_all] at a
    exact .tupK e0 (i1 a) (i2 b)
  | lstO e0 _ _ i1 i2 =>
    intro e; obtain ⟨a, b⟩ := c1 e
    rw [D.allF, allFs_all, Bool.and_eq_true] at a
    exact .lstO e0 (i1 a.2) (i2 b)
  | lstR f e0 n _ _ i1 i2 =>
    intro e; obtain ⟨a, b⟩ := c1 e
    rw [D.allF, allFs_all, Bool.and_eq_true] at a
    exact .lstR f e0 (hN _ _ f a.1 n (by rw [e0]; exact Option.some_ne_none _)) (i1 a.2) (i2 b)
  | lstE e0 _ _ i1 i2 =>
    intro e; obtain ⟨a, b⟩ := c1 e
    rw [D.allF, allFs_all, Bool.and_eq_true] at a
    exact .lstE e0 (i1 a.2) (i2 b)
  | lstX e0 n _ _ i1 i2 =>
    intro e; obtain ⟨a, b⟩ := c1 e
    rw [D.allF, allFs_all, Bool.and_eq_true] at a
    exact .lstX e0 (hX _ _ _ n e0) (i1 a.2) (i2 b)
  | dKO e0 q _ _ i1 i2 =>
    intro e; obtain ⟨a, b⟩ := c1 e
    rw [D.allF, allFk_all, Bool.and_eq_true] at a
    exact .dKO e0 q (i1 (by rw [List.all_map]; exact a.2)) (i2 b)
  | dKR f e0 n q _ _ i1 i2 =>
    intro e; obtain ⟨a, b⟩ := c1 e
    rw [D.allF, allFk_all, Bool.and_eq_true] at a
    exact .dKR f e0 (hN _ _ f a.1 n (rd_some e0)) q (i1 (by rw [List.all_map]; exact a.2)) (i2 b)
  | dTO e0 q _ _ i1 i2 =>
    intro e; obtain ⟨a, b⟩ := c1 e
    rw [D.allF, allFt_all, Bool.and_eq_true] at a
    exact .dTO e0 q (i1 (by rw [List.all_map]; exact a.2)) (i2 b)
  | dTR f e0 n q _ _ i1 i2 =>
    intro e; obtain ⟨a, b⟩ := c1 e
    rw [D.allF, allFt_all, Bool.and_eq_true] at a
    exact .dTR f e0 (hN _ _ f a.1 n (rd_some e0)) q (i1 (by rw [List.all_map]; exact a.2)) (i2 b)
  | insO e0 q _ _ i1 i2 =>
    intro e; obtain ⟨a, b⟩ := c1 e
    rw [D.allF, allFf_all, Bool.and_eq_true] at a
    exact .insO e0 q (i1 (by rw [List.all_map]; exact a.2)) (i2 b)
  | insR f e0 n q _ _ i1 i2 =>
    intro e; obtain ⟨a, b⟩ := c1 e
    rw [D.allF, allFf_all, Bool.and_eq_true] at a
    exact .insR f e0 (hN _ _ f a.1 n (by rw [e0]; exact Option.some_ne_none _)) q (i1 (by rw [List.all_map]; exact a.2)) (i2 b)
end

def vw : Fl → Fl
  | .own => .view
  | f => f
def D.view (d : D) : D := D.mapF vw d
/-- no part of it is only viewed -/
def D.closed (d : D) : Bool := D.allF (fun f => decide (f ≠ .view)) d

def eBorrow (f : Ev → Option (D × Ev)) : Ev → Option (D × Ev) := fun env =>
  match f (env.map D.view) with
  | none => none
  | some (d, _) => if d.closed then some (d, env) else none
/-- the slots are only viewed for a while -/
abbrev LoB (Lo : Lent) (Le : List Addr) : Lent := fun f a => Lo f a ∨ (f ≠ .view ∧ a ∈ Le)
theorem Sta.borrow {K : PySem.W.Frag} {Lo : Lent} {H : Hp} {ts σ : List (Option V)} {td : List D} {env : Ev} {L : List Addr} (hl : ts.length = td.length) (s : Sta K Lo H (ts ++ σ) (td ++ env) L) :
    ∃ Lt Le, L = Lt ++ Le ∧ Sta K (LoB Lo Le) H (ts ++ σ) (td ++ env.map D.view) Lt := by
  obtain ⟨Lt, Le, rfl, h1, h2⟩ := Dens.split hl s.dens
  have nd0 := List.nodup_append.mp s.good.nd
  have g' : Good Lt (LoB Lo Le) H := by
    refine ⟨nd0.1, fun f a ha z => z.elim (s.good.no f a (List.mem_append_left _ ha)) fun z => nd0.2.2 a ha a z.2 rfl, fun f a z => z.elim (s.good.lent f a) fun z => ⟨h2.live a z.2, h2.notup a z.2⟩, fun a z => z.elim (s.good.nov a) fun z => z.1 rfl⟩
  have kn : ∀ f a, Nw (Lt ++ Le) Lo f a → Nw Lt (LoB Lo Le) f a := fun f a n => ⟨fun z => n.1 (List.mem_append_left _ z), fun z => z.elim n.2 fun z => n.1 (List.mem_append_right _ z.2)⟩
  have t2 := Dens.turn (g := vw) (N' := Nw Lt (LoB Lo Le)) rfl (fun f hf => by cases f <;> first | rfl | cases hf) h2 (.inr ⟨rfl, fun a ha => ⟨fun z => nd0.2.2 a z a ha rfl, fun z => z.elim (s.good.nov a) fun z => z.1 rfl⟩⟩)
    (fun f a _ n _ => by
      cases f with
      | own => exact ⟨fun z => n.1 (List.mem_append_left _ z), fun z => z.elim (s.good.nov a) fun z => z.1 rfl⟩
      | frz => exact kn _ _ n
      | pv => exact kn _ _ n
      | view => exact kn _ _ n
      | ext => exact kn _ _ n) (fun a n _ => kn _ _ n)
  have t2' : Dens K H (Nw Lt (LoB Lo Le)) σ (env.map D.view) [] := t2
  refine ⟨Lt, Le, rfl, g', ?_⟩
  have q := (h1.know fun f a n _ => kn f a n).app t2'
  rw [List.append_nil] at q
  exact q
theorem Came.unborrow {K : PySem.W.Frag} {Lo : Lent} {H H' : Hp} {bs : List (Option V)} {td : List D} {env e' e'' : Ev} {Lt Le Lr Lb : List Addr} {vs : List V} {xs : List D} (s : Sta K Lo H bs (td ++ env) (Lt ++ Le))
    (c : Came K (LoB Lo Le) true H bs td e' Lt H' vs xs e'' Lr Lb) (cl : xs.all D.closed = true) : Came K Lo true H bs td env (Lt ++ Le) H' vs xs env Lr (Lt ++ Le) := by
  obtain ⟨_, st, lb, fr⟩ := c.quiet rfl
  subst lb
  have ow : ∀ a ∈ Lr ++ (Lb ++ Le), a ∈ (Lb ++ Le) ∨ H a = none := fun a ha => (List.mem_append.mp ha).elim (fun z => .inr (fr a z)) .inl
  have lv : ∀ a ∈ Lb ++ Le, H a ≠ none := s.dens.live
  have nn : ∀ f a, f ≠ .view → Nw (Lr ++ Lb) (LoB Lo Le) f a → Nw (Lr ++ (Lb ++ Le)) Lo f a := fun f a hf n => ⟨fun z => (List.mem_append.mp z).elim (fun z => n.1 (List.mem_append_left _ z)) fun z => (List.mem_append.mp z).elim (fun z => n.1 (List.mem_append_right _ z)) fun z => n.2 (.inr ⟨hf, z⟩), fun lo => n.2 (.inl lo)⟩
  refine ⟨⟨?_, ?_, ?_, s.good.nov⟩, ?_, ?_, Ext.of_still st ow, fun _ => ⟨rfl, st, rfl, fr⟩⟩
  · exact List.nodup_append.mpr ⟨(List.nodup_append.mp c.good.nd).1, s.good.nd, fun a ha b hb e => by subst e; exact lv a hb (fr a ha)⟩
  · intro f a ha lo
    exact (ow a ha).elim (fun z => s.good.no f a z lo) fun z => (s.good.lent f a lo).1 z
  · intro f a lo
    obtain ⟨l1, l2⟩ := s.good.lent f a lo
    rw [st a l1]; exact ⟨l1, l2⟩
  · refine c.top.knowC (p := fun f => decide (f ≠ .view)) (fun f a hf hp n _ => nn f a (by simpa using hp) n) (fun a us n e => nn _ a (by decide) n) (fun a o us n e => nn _ a (by decide) n) cl
  · exact s.dens.still st ow
theorem Sat.borrow {K : PySem.W.Frag} {t : TE} {f : Ev → Option (D × Ev)} (h : Sat K true t f) : Sat K true t (eBorrow f) := by
  refine ⟨fun σ H env ts td L Lo hl s d env' e Q k => ?_⟩
  unfold eBorrow at e
  cases e1 : f (env.map D.view) with
  | none => rw [e1] at e; cases e
  | some p =>
    obtain ⟨d', en1⟩ := p
    simp only [e1] at e
    split at e
    · rename_i cl
      obtain ⟨rfl, rfl⟩ := Prod.mk.inj (Option.some.inj e)
      obtain ⟨Lt, Le, rfl, s2⟩ := s.borrow hl
      exact h.run σ H _ ts td Lt _ hl s2 _ en1 e1 Q fun v H' Lr Lb c => k v H' Lr _ (Came.unborrow s c (by rw [List.all_cons, List.all_nil, Bool.and_true]; exact cl))
    · cases e

/-! ### tests -/
structure SatB (K : PySem.W.Frag) (q : Bool) (t : TT) (f : Ev → Option (Bool × Ev)) : Prop where
  run : ∀ (σ : L2.St) (H : Hp) (env : Ev) (ts : List (Option V)) (td : List D) (L : List Addr) (Lo : Lent), ts.length = td.length → Sta K Lo H (ts ++ σ) (td ++ env) L → ∀ b env', f env = some (b, env') → ∀ Q : Bool → Hp → Prop,
    (∀ H' Lb, Came K Lo q H (ts ++ σ) td env L H' [] [] env' [] Lb → Q b H') → t σ H Q
theorem Came.drop {K : PySem.W.Frag} {Lo : Lent} {q : Bool} {H H1 : Hp} {bs : List (Option V)} {td : List D} {env e1 : Ev} {L Lr Lb : List Addr} {vs : List V} {ds : List D}
    (c : Came K Lo q H bs td env L H1 vs ds e1 Lr Lb) : Came K Lo q H bs td env L H1 [] [] e1 [] Lb := by
  have sb : ∀ a ∈ Lb, a ∈ Lr ++ Lb := fun a h => List.mem_append_right _ h
  exact ⟨c.good.sub (List.nodup_append.mp c.good.nd).2.1 sb, .nil, c.base.know fun f a n _ => nw_sub sb f a n, c.ext.sub sb, fun qq => let ⟨a, b, c, _⟩ := c.quiet qq; ⟨a, b, c, fun _ h => (List.not_mem_nil h).elim⟩⟩
theorem Came.base0 {K : PySem.W.Frag} {Lo : Lent} {q : Bool} {H H1 : Hp} {bs : List (Option V)} {td : List D} {env e1 : Ev} {L Lb : List Addr} (c : Came K Lo q H bs td env L H1 [] [] e1 [] Lb) : Sta K Lo H1 bs (td ++ e1) Lb := ⟨c.good, c.base⟩
/-- one step behind another -/
theorem Came.then {K : PySem.W.Frag} {Lo : Lent} {q q' : Bool} {H H1 H2 : Hp} {bs : List (Option V)} {td : List D} {env e1 e2 : Ev} {L Lb Mr Mb : List Addr} {vs : List V} {ds : List D}
    (c : Came K Lo q H bs td env L H1 [] [] e1 [] Lb) (c2 : Came K Lo q' H1 bs td e1 Lb H2 vs ds e2 Mr Mb) : Came K Lo (q && q') H bs td env L H2 vs ds e2 Mr Mb :=
  ⟨c2.good, c2.top, c2.base, c.ext.trans c2.ext, fun qq => by
    rw [Bool.and_eq_true] at qq
    obtain ⟨rfl, s0, rfl, f0⟩ := c.quiet qq.1
    obtain ⟨rfl, s1, rfl, f1⟩ := c2.quiet qq.2
    exact ⟨rfl, s0.trans s1, rfl, fun a ha => Classical.byContradiction fun w => (by rw [s0 a w]; exact w : H1 a ≠ none) (f1 a ha)⟩⟩
theorem Came.q2 {K : PySem.W.Frag} {Lo : Lent} {q q' : Bool} {H H1 : Hp} {bs : List (Option V)} {td : List D} {env e1 : Ev} {L Lr Lb : List Addr} {vs : List V} {ds : List D}
    (c : Came K Lo q H bs td env L H1 vs ds e1 Lr Lb) (h : q' = true → q = true) : Came K Lo q' H bs td env L H1 vs ds e1 Lr Lb := ⟨c.good, c.top, c.base, c.ext, fun z => c.quiet (h z)⟩

def bTest (f : Ev → Option (D × Ev)) : Ev → Option (Bool × Ev) := fun env =>
  match f env with
  | some (.bl b, e) => some (b, e)
  | _ => none
theorem SatB.of {K : PySem.W.Frag} {q : Bool} {t : TE} {f : Ev → Option (D × Ev)} (h : Sat K q t f) : SatB K q (tTest t) (bTest f) := by
  refine ⟨fun σ H env ts td L Lo hl s b env' e Q k => ?_⟩
  unfold bTest at e
  split at e
  · rename_i b0 en e1
    cases e
    refine h.run σ H env ts td L Lo hl s _ _ e1 _ fun v H' Lr Lb c => ?_
    cases (one_bl c.top).1
    exact ⟨b, rfl, k H' Lb c.drop⟩
  · cases e
def bNot (f : Ev → Option (Bool × Ev)) : Ev → Option (Bool × Ev) := fun env =>
  match f env with
  | some (b, e) => some (!b, e)
  | none => none
theorem SatB.not {K : PySem.W.Frag} {q : Bool} {t : TT} {f : Ev → Option (Bool × Ev)} (h : SatB K q t f) : SatB K q (tNot t) (bNot f) := by
  refine ⟨fun σ H env ts td L Lo hl s b env' e Q k => ?_⟩
  unfold bNot at e
  split at e
  · rename_i b0 en e1
    cases e
    exact h.run σ H env ts td L Lo hl s _ _ e1 _ fun H' Lb c => k H' Lb c
  · cases e
def bAnd (f g : Ev → Option (Bool × Ev)) : Ev → Option (Bool × Ev) := fun env =>
  match f env with
  | some (true, e) => g e
  | some (false, e) => some (false, e)
  | none => none
def bOr (f g : Ev → Option (Bool × Ev)) : Ev → Option (Bool × Ev) := fun env =>
  match f env with
  | some (true, e) => some (true, e)
  | some (false, e) => g e
  | none => none
theorem SatB.and {K : PySem.W.Frag} {q q' : Bool} {t u : TT} {f g : Ev → Option (Bool × Ev)} (h : SatB K q t f) (h' : SatB K q' u g) : SatB K (q && q') (tAnd t u) (bAnd f g) := by
  refine ⟨fun σ H env ts td L Lo hl s b env' e Q k => ?_⟩
  unfold bAnd at e
  split at e
  · rename_i en e1
    refine h.run σ H env ts td L Lo hl s _ _ e1 _ fun H' Lb c => ?_
    rw [if_pos rfl]
    exact h'.run σ H' _ ts td Lb Lo hl c.base0 b env' e Q fun H2 Mb c2 => k H2 Mb (c.then c2)
  · rename_i en e1
    cases e
    refine h.run σ H env ts td L Lo hl s _ _ e1 _ fun H' Lb c => ?_
    rw [if_neg Bool.false_ne_true]
    exact k H' Lb (c.q2 fun z => by rw [Bool.and_eq_true] at z; exact z.1)
  · cases e
theorem SatB.or {K : PySem.W.Frag} {q q' : Bool} {t u : TT} {f g : Ev → Option (Bool × Ev)} (h : SatB K q t f) (h' : SatB K q' u g) : SatB K (q && q') (tOr t u) (bOr f g) := by
  refine ⟨fun σ H env ts td L Lo hl s b env' e Q k => ?_⟩
  unfold bOr at e
  split at e
  · rename_i en e1
    cases e
    refine h.run σ H env ts td L Lo hl s _ _ e1 _ fun H' Lb c => ?_
    rw [if_pos rfl]
    exact k H' Lb (c.q2 fun z => by rw [Bool.and_eq_true] at z; exact z.1)
  · rename_i en e1
    refine h.run σ H env ts td L Lo hl s _ _ e1 _ fun H' Lb c => ?_
    rw [if_neg Bool.false_ne_true]
    exact h'.run σ H' _ ts td Lb Lo hl c.base0 b env' e Q fun H2 Mb c2 => k H2 Mb (c.then c2)
  · cases e
def bBorrow (f : Ev → Option (Bool × Ev)) : Ev → Option (Bool × Ev) := fun env =>
  match f (env.map D.view) with
  | none => none
  | some (b, _) => some (b, env)
theorem SatB.borrow {K : PySem.W.Frag} {t : TT} {f : Ev → Option (Bool × Ev)} (h : SatB K true t f) : SatB K true t (bBorrow f) := by
  refine ⟨fun σ H env ts td L Lo hl s b env' e Q k => ?_⟩
  unfold bBorrow at e
  cases e1 : f (env.map D.view) with
  | none => rw [e1] at e; cases e
  | some p =>
    obtain ⟨b', en1⟩ := p
    simp only [e1] at e
    obtain ⟨rfl, rfl⟩ := Prod.mk.inj (Option.some.inj e)
    obtain ⟨Lt, Le, rfl, s2⟩ := s.borrow hl
    exact h.run σ H _ ts td Lt _ hl s2 _ en1 e1 Q fun H' Lb c => k H' _ (Came.unborrow s c rfl)
/-- a or b, a and b, not a as values: bools but the last -/
def eIf (c : Ev → Option (Bool × Ev)) (f g : Ev → Option (D × Ev)) : Ev → Option (D × Ev) := fun env =>
  match c env with
  | some (true, e) => f e
  | some (false, e) => g e
  | none => none
def eC (d : D) : Ev → Option (D × Ev) := fun env => some (d, env)
theorem SatB.if {K : PySem.W.Frag} {q q' q2 : Bool} {t : TT} {ta tb : TE} {c : Ev → Option (Bool × Ev)} {f g : Ev → Option (D × Ev)} (h : SatB K q t c) (ha : Sat K q' ta f) (hb : Sat K q2 tb g) : Sat K (q && (q' && q2)) (tIf t ta tb) (eIf c f g) := by
  refine ⟨fun σ H env ts td L Lo hl s d env' e Q k => ?_⟩
  unfold eIf at e
  split at e
  · rename_i en e1
    refine h.run σ H env ts td L Lo hl s _ _ e1 _ fun H' Lb c => ?_
    rw [if_pos rfl]
    exact ha.run σ H' _ ts td Lb Lo hl c.base0 d env' e Q fun v H2 Mr Mb c2 => k v H2 Mr Mb ((c.then c2).q2 fun z => by rw [Bool.and_eq_true, Bool.and_eq_true] at z; rw [Bool.and_eq_true]; exact ⟨z.1, z.2.1⟩)
  · rename_i en e1
    refine h.run σ H env ts td L Lo hl s _ _ e1 _ fun H' Lb c => ?_
    rw [if_neg Bool.false_ne_true]
    exact hb.run σ H' _ ts td Lb Lo hl c.base0 d env' e Q fun v H2 Mr Mb c2 => k v H2 Mr Mb ((c.then c2).q2 fun z => by rw [Bool.and_eq_true, Bool.and_eq_true] at z; rw [Bool.and_eq_true]; exact ⟨z.1, z.2.2⟩)
  · cases e
/-- a scalar that is nothing of the state -/
theorem Sat.const {K : PySem.W.Frag} {t : TE} {v : V} {d : D} (fl : Flat v d) (h : ∀ σ H Q, Q v H → t σ H Q) : Sat K true t (eC d) := by
  refine ⟨fun σ H env ts td L Lo hl s d' env' e Q k => ?_⟩
  obtain ⟨rfl, rfl⟩ := Prod.mk.inj (Option.some.inj e)
  exact h σ H Q (k v H [] L ⟨s.good, fl _ _ _, s.dens, Ext.refl _ _, fun _ => ⟨rfl, Still.refl _, rfl, fun _ h => (List.not_mem_nil h).elim⟩⟩)
theorem Sat.andV {K : PySem.W.Frag} {q q' : Bool} {ta tb : TE} {f g : Ev → Option (D × Ev)} (ha : Sat K q ta f) (hb : Sat K q' tb g) : Sat K (q && q') (tAndV ta tb) (eIf (bTest f) g (eC (.bl false))) := by
  refine ⟨fun σ H env ts td L Lo hl s d env' e Q k => ?_⟩
  unfold eIf at e
  split at e
  · rename_i en e1
    refine (SatB.of ha).run σ H env ts td L Lo hl s _ _ e1 (fun b H1 => if b = true then tb σ H1 Q else Q (.bl false) H1) fun H' Lb c => ?_
    rw [if_pos rfl]
    exact hb.run σ H' _ ts td Lb Lo hl c.base0 d env' e Q fun v H2 Mr Mb c2 => k v H2 Mr Mb (c.then c2)
  · rename_i en e1
    obtain ⟨rfl, rfl⟩ := Prod.mk.inj (Option.some.inj e)
    refine (SatB.of ha).run σ H env ts td L Lo hl s _ _ e1 (fun b H1 => if b = true then tb σ H1 Q else Q (.bl false) H1) fun H' Lb c => ?_
    rw [if_neg Bool.false_ne_true]
    exact k _ H' [] Lb ⟨c.good, Flat.bl _ _ _ _, c.base, c.ext, fun z => c.quiet (by rw [Bool.and_eq_true] at z; exact z.1)⟩
  · cases e
theorem Sat.orV {K : PySem.W.Frag} {q q' : Bool} {ta tb : TE} {f g : Ev → Option (D × Ev)} (ha : Sat K q ta f) (hb : Sat K q' tb g) : Sat K (q && q') (tOrV ta tb) (eIf (bTest f) (eC (.bl true)) g) := by
  refine ⟨fun σ H env ts td L Lo hl s d env' e Q k => ?_⟩
  unfold eIf at e
  split at e
  · rename_i en e1
    obtain ⟨rfl, rfl⟩ := Prod.mk.inj (Option.some.inj e)
    refine (SatB.of ha).run σ H env ts td L Lo hl s _ _ e1 (fun b H1 => if b = true then Q (.bl true) H1 else tb σ H1 Q) fun H' Lb c => ?_
    rw [if_pos rfl]
    exact k _ H' [] Lb ⟨c.good, Flat.bl _ _ _ _, c.base, c.ext, fun z => c.quiet (by rw [Bool.and_eq_true] at z; exact z.1)⟩
  · rename_i en e1
    refine (SatB.of ha).run σ H env ts td L Lo hl s _ _ e1 (fun b H1 => if b = true then Q (.bl true) H1 else tb σ H1 Q) fun H' Lb c => ?_
    rw [if_neg Bool.false_ne_true]
    exact hb.run σ H' _ ts td Lb Lo hl c.base0 d env' e Q fun v H2 Mr Mb c2 => k v H2 Mr Mb (c.then c2)
  · cases e
def eNot (f : Ev → Option (D × Ev)) : Ev → Option (D × Ev) := fun env =>
  match f env with
  | some (.bl b, e) => some (.bl (!b), e)
  | _ => none
theorem Sat.notV {K : PySem.W.Frag} {q : Bool} {ta : TE} {f : Ev → Option (D × Ev)} (ha : Sat K q ta f) : Sat K q (tNotV ta) (eNot f) := by
  refine ⟨fun σ H env ts td L Lo hl s d env' e Q k => ?_⟩
  unfold eNot at e
  split at e
  · rename_i b0 en e1
    cases e
    refine ha.run σ H env ts td L Lo hl s _ _ e1 _ fun v H' Lr Lb c => ?_
    cases (one_bl c.top).1
    have c' := c.drop
    exact ⟨b0, rfl, k _ H' [] Lb ⟨c'.good, Flat.bl _ _ _ _, c'.base, c'.ext, c'.quiet⟩⟩
  · cases e

/-- a name -/
def eVar (i : Nat) : Ev → Option (D × Ev) := fun env =>
  match env[i]? with
  | some d => if d.isUnd || !d.noOwn then none else some (d, env)
  | none => none
theorem Sat.var {K : PySem.W.Frag} (i : Nat) : Sat K true (tVar i) (eVar i) := by
  refine ⟨fun σ H env ts td L Lo hl s d env' e Q k => ?_⟩
  unfold eVar at e
  split at e
  · rename_i d0 e1
    split at e
    · cases e
    · rename_i c
      obtain ⟨rfl, rfl⟩ := Prod.mk.inj (Option.some.inj e)
      rw [Bool.or_eq_true, Bool.not_eq_true', not_or] at c
      obtain ⟨Lt, Le, rfl, h1, h2⟩ := Dens.split hl s.dens
      obtain ⟨o, L1, q1, q2, q3⟩ := h2.at e1
      obtain ⟨v, rfl⟩ := q2.some1 (und_ne c.1)
      have l1 : L1 = [] := noOwn_nil q2 (by simpa using c.2)
      subst l1
      exact ⟨v, q1, k v H [] (Lt ++ Le) ⟨s.good, q2, s.dens, Ext.refl _ _, fun _ => ⟨rfl, Still.refl _, rfl, fun _ h => (List.not_mem_nil h).elim⟩⟩⟩
  · cases e
/-- what a name held is taken out of it -/
def eMove (i : Nat) : Ev → Option (D × Ev) := fun env =>
  match env[i]? with
  | some d => if d.isUnd then none else some (d, env.set i .und)
  | none => none
theorem Dens.take {K : PySem.W.Frag} {H : Hp} {N : Fl → Addr → Prop} : ∀ {σ : List (Option V)} {ds : List D} {L : List Addr}, Dens K H N σ ds L → ∀ {i : Nat} {d : D}, ds[i]? = some d → ∃ o L1 L2, σ[i]? = some o ∧ L.Perm (L1 ++ L2) ∧ Dens K H N [o] [d] L1 ∧ Dens K H N σ (ds.set i .und) L2
  | [], [], _, _, i, d, e => by simp at e
  | [], _ :: _, _, h, _, _, _ => by cases h.length
  | _ :: _, [], _, h, _, _, _ => by cases h.length
  | o :: σ, d0 :: ds, L, h, 0, d, e => by
    obtain ⟨L1, L2, rfl, h1, h2⟩ := h.cons
    simp at e; subst e
    exact ⟨o, L1, L2, rfl, List.Perm.refl _, h1, .und h2⟩
  | o :: σ, d0 :: ds, L, h, i + 1, d, e => by
    obtain ⟨L1, L2, rfl, h1, h2⟩ := h.cons
    obtain ⟨o', M1, M2, q1, q2, q3, q4⟩ := Dens.take h2 (i := i) (d := d) (by simpa using e)
    refine ⟨o', M1, L1 ++ M2, by simpa using q1, ?_, q3, h1.put q4⟩
    exact (List.Perm.append_left L1 q2).trans (by rw [← List.append_assoc, ← List.append_assoc]; exact List.Perm.append_right _ List.perm_append_comm)
theorem Sat.move {K : PySem.W.Frag} (i : Nat) : Sat K false (tVar i) (eMove i) := by
  refine ⟨fun σ H env ts td L Lo hl s d env' e Q k => ?_⟩
  unfold eMove at e
  split at e
  · rename_i d0 e1
    split at e
    · cases e
    · rename_i c
      obtain ⟨rfl, rfl⟩ := Prod.mk.inj (Option.some.inj e)
      obtain ⟨Lt, Le, rfl, h1, h2⟩ := Dens.split hl s.dens
      obtain ⟨o, L1, L2, q1, q2, q3, q4⟩ := h2.take e1
      obtain ⟨v, rfl⟩ := q3.some1 (und_ne c)
      have pm : (Lt ++ Le).Perm (L1 ++ (Lt ++ L2)) := (List.Perm.append_left Lt q2).trans (by rw [← List.append_assoc, ← List.append_assoc]; exact List.Perm.append_right _ List.perm_append_comm)
      have g := s.good.perm pm
      have kn : ∀ f a, Nw (Lt ++ Le) Lo f a → H a ≠ none → Nw (L1 ++ (Lt ++ L2)) Lo f a := fun f a n _ => nw_sub (fun x hx => pm.mem_iff.mpr hx) f a n
      exact ⟨v, q1, k v H L1 (Lt ++ L2) ⟨g, q3.know kn, (h1.know kn).app (q4.know kn), (Ext.refl _ _).sub fun a ha => pm.mem_iff.mpr ha, fun z => by cases z⟩⟩
  · cases e
end TL

set_option Elab.async false
set_option linter.all false
set_option maxRecDepth 100000
/-! TL5: the expressions of the text, in a family of contexts. -/
namespace TL
open PySem PySem.Spec PyProof.Rows L2

section
variable {α : Type} {M : α → Cx} {K : PySem.W.Frag}
def SE (M : α → Cx) (K : PySem.W.Frag) (q : Bool) (e : Expr) (f : Ev → Option (D × Ev)) : Prop := ∃ t : TE, (∀ a, PE (M a) e t) ∧ Sat K q t f
def ST (M : α → Cx) (K : PySem.W.Frag) (q : Bool) (e : Expr) (f : Ev → Option (Bool × Ev)) : Prop := ∃ t : TT, (∀ a, PT (M a) e t) ∧ SatB K q t f
def SW (M : α → Cx) (K : PySem.W.Frag) (q : Bool) (e : Expr) (f : Ev → Option (Bool × Ev)) : Prop := ∃ t : TT, (∀ a, PW (M a) e t) ∧ SatB K q t f
def SA (M : α → Cx) (K : PySem.W.Frag) (q : Bool) (ld : List (Option Nat)) (es : List Expr) (f : Ev → Option (List D × Ev)) : Prop := ∃ t : TA, (∀ a, PA (M a) es t) ∧ SatA K q ld t f
/-- what all contexts of the family have -/
structure Fm (M : α → Cx) (P : Program) (w : World) (K : PySem.W.Frag) (mg : Str → Option Value) (base : Heap) (k : Nat) : Prop where
  prog : ∀ a, (M a).prog = P
  w : ∀ a, (M a).w = w
  K : ∀ a, (M a).K = K
  mg : ∀ a, (M a).mg = mg
  base : ∀ a, (M a).base = base
  calm : ∀ a, (M a).calm = true
  room : ∀ a, Room k (M a).A
theorem Fm.units {P : Program} {w : World} {mg : Str → Option Value} {base : Heap} {k : Nat} (F : Fm M P w K mg base k) (a : α) : CUnits (M a) := by
  have := (F.room a).un
  unfold CUnits
  omega
theorem Fm.u1 {P : Program} {w : World} {mg : Str → Option Value} {base : Heap} {k : Nat} (F : Fm M P w K mg base k) (a : α) : (M a).A.units + 1 < cLine := by
  have := (F.room a).un
  omega

section
variable {x : Str} {pos : Pos}
theorem se_var (i : Nat) (hN : ∀ a, (M a).N[i]? = some x := by intro _; rfl) (hv : ∀ a, Vis (M a).env.scope x := by intro _; first | exact Or.inl rfl | exact Or.inr (Or.inl rfl) | exact Or.inr (Or.inr rfl)) (hd : (x == ("__debug__" : Str)) = false := by decide)
    (hcd : (x == ("__classdict__" : Str)) = false := by decide) : SE M K true (.Name x pos) (eVar i) := ⟨_, fun a => pe_var (hN a) (hv a) hd hcd, Sat.var i⟩
theorem se_move (i : Nat) (hN : ∀ a, (M a).N[i]? = some x := by intro _; rfl) (hv : ∀ a, Vis (M a).env.scope x := by intro _; first | exact Or.inl rfl | exact Or.inr (Or.inl rfl) | exact Or.inr (Or.inr rfl)) (hd : (x == ("__debug__" : Str)) = false := by decide)
    (hcd : (x == ("__classdict__" : Str)) = false := by decide) : SE M K false (.Name x pos) (eMove i) := ⟨_, fun a => pe_var (hN a) (hv a) hd hcd, Sat.move i⟩
theorem se_int {i : Int} {j} : SE M K true (.Constant (.int i) j pos) (eC (.int i)) := ⟨_, fun a => pe_int, Sat.const (Flat.int i) fun _ _ _ h => h⟩
theorem se_bl {b : Bool} {j} : SE M K true (.Constant (.bool b) j pos) (eC (.bl b)) := ⟨_, fun a => pe_bl, Sat.const (Flat.bl b) fun _ _ _ h => h⟩
theorem se_non {j} : SE M K true (.Constant .none j pos) (eC .non) := ⟨_, fun a => pe_non, Sat.const Flat.non fun _ _ _ h => h⟩
theorem se_str {z : Str} {j} : SE M K true (.Constant (.str z) j pos) (eC (.str z)) := ⟨_, fun a => pe_str, Sat.const (Flat.str z) fun _ _ _ h => h⟩
theorem Flat.ty (n : String) : Flat (.ty n) (.ty n) := fun _ _ _ => .ty .nil
theorem Flat.cls (C : Addr) : Flat (.ref C) (.cls C) := fun _ _ _ => .cls .nil
/-- a module's constant; a built-in class as a value; an own class as a value -/
theorem se_glob {P : Program} {w : World} {mg : Str → Option Value} {base : Heap} {k : Nat} {v : V} {d : D} {u : Value} (F : Fm M P w K mg base k) (hg : ∀ a, Gl (M a) x) (hm : mg x = some u) (r : RelV v u) (fl : Flat v d) (hd : (x == ("__debug__" : Str)) = false := by decide) : SE M K true (.Name x pos) (eC d) :=
  ⟨_, fun a => pe_glob (hg a) (by rw [F.mg a]; exact hm) r hd, Sat.const fl fun _ _ _ h => h⟩
theorem se_bty {P : Program} {w : World} {mg : Str → Option Value} {base : Heap} {k : Nat} {n : String} (F : Fm M P w K mg base k) (hg : ∀ a, Gl (M a) x) (hm : mg x = none) (hv : bootBuiltins x = some (.type n)) (hn : x ≠ "__name__" := by decide) (hd : (x == ("__debug__" : Str)) = false := by decide) : SE M K true (.Name x pos) (eC (.ty n)) :=
  ⟨_, fun a => pe_bltn (v := .ty n) (hg a) (by rw [F.mg a]; exact hm) hv rfl hn hd, Sat.const (Flat.ty n) fun _ _ _ h => h⟩
end

section
variable {e a b c o : Expr} {es : List Expr} {pos : Pos} {q q' q2 : Bool} {f g f2 : Ev → Option (D × Ev)} {fs : Ev → Option (List D × Ev)} {ld : List (Option Nat)}
theorem SE.borrow (h : SE M K true e f) : SE M K true e (eBorrow f) := let ⟨t, h1, h2⟩ := h; ⟨t, h1, h2.borrow⟩
theorem SE.weak (h : SE M K q e f) : SE M K false e f := let ⟨t, h1, h2⟩ := h; ⟨t, h1, h2.weak⟩
theorem sa_nil : SA M K true [] [] aNil := ⟨_, fun _ => pa_nil, SatA.nil⟩
theorem sa_cons (h : SE M K q e f) (h' : SA M K q' ld es fs) (hs : ∀ a, starEach (e :: es) (M a).env = (false, eval e (M a).env) :: starEach es (M a).env := by intro _; rfl) : SA M K (q && q') (none :: ld) (e :: es) (aCons f fs) :=
  let ⟨t, h1, h2⟩ := h; let ⟨u, h3, h4⟩ := h'; ⟨_, fun a => pa_cons (h1 a) (h3 a) (hs a), SatA.cons h2 h4⟩
theorem se_bin {op : Operator} {C : Cx → Prop} {gg : List D → Option D} (v : V2 (binaryOp op) C gg) (hC : ∀ a, C (M a)) (hK : ∀ a, (M a).K = K) (ha : SE M K q a f) (hb : SE M K q' b g) : SE M K (q && (q' && true)) (.BinOp a op b pos) (eOp gg (aCons f (aCons g aNil))) :=
  let ⟨r, v1, v2⟩ := v; let ⟨t, h1, h2⟩ := ha; let ⟨u, h3, h4⟩ := hb
  ⟨_, fun x => pe_op (by have := v1 (M x) (hC x); rw [hK x] at this; exact this) (h1 x) (h3 x), Sat.op2 h2 h4 (v2 K)⟩
theorem se_cmp {op : CmpOp} {C : Cx → Prop} {gg : List D → Option D} (v : V2 (compareOp op) C gg) (hC : ∀ a, C (M a)) (hK : ∀ a, (M a).K = K) (ha : SE M K q a f) (hb : SE M K q' b g) (hm : behindInMarks op b = false := by rfl) : SE M K (q && (q' && true)) (.Compare a [op] [b] pos) (eOp gg (aCons f (aCons g aNil))) :=
  let ⟨r, v1, v2⟩ := v; let ⟨t, h1, h2⟩ := ha; let ⟨u, h3, h4⟩ := hb
  ⟨_, fun x => pe_cmpR (by have := v1 (M x) (hC x); rw [hK x] at this; exact this) (h1 x) (h3 x) hm, Sat.op2 h2 h4 (v2 K)⟩
theorem st_cmp {op : CmpOp} {C : Cx → Prop} {gg : List D → Option D} (v : V2 (compareOp op) C gg) (hC : ∀ a, C (M a)) (hK : ∀ a, (M a).K = K) (ha : SE M K q a f) (hb : SE M K q' b g) (hm : behindInMarks op b = false := by rfl) : ST M K (q && (q' && true)) (.Compare a [op] [b] pos) (bTest (eOp gg (aCons f (aCons g aNil)))) :=
  let ⟨r, v1, v2⟩ := v; let ⟨t, h1, h2⟩ := ha; let ⟨u, h3, h4⟩ := hb
  ⟨_, fun x => pt_cmpR (by have := v1 (M x) (hC x); rw [hK x] at this; exact this) (h1 x) (h3 x) hm, SatB.of (Sat.op2 h2 h4 (v2 K))⟩
theorem st_val (h : SE M K q e f) (he : ∀ a whole, isTrue e (M a).env whole = (do let v ← whole; standAt e.pos; holding [v] (truthy v)) := by intro _ _; rfl) : ST M K q e (bTest f) :=
  let ⟨t, h1, h2⟩ := h; ⟨_, fun a => pt_val (h1 a) (he a), SatB.of h2⟩
theorem ST.borrow {f : Ev → Option (Bool × Ev)} (h : ST M K true e f) : ST M K true e (bBorrow f) := let ⟨t, h1, h2⟩ := h; ⟨t, h1, h2.borrow⟩
theorem st_not {f : Ev → Option (Bool × Ev)} (h : ST M K q e f) : ST M K q (.UnaryOp .Not e pos) (bNot f) := let ⟨t, h1, h2⟩ := h; ⟨_, fun a => pt_not (h1 a), h2.not⟩
theorem SW.st {f : Ev → Option (Bool × Ev)} (h : SW M K q e f) : ST M K q e f := let ⟨t, h1, h2⟩ := h; ⟨t, fun a => (h1 a).pt, h2⟩
theorem sw_and1 {f : Ev → Option (Bool × Ev)} (h : ST M K q e f) : SW M K q (.BoolOp .And [e] pos) f := let ⟨t, h1, h2⟩ := h; ⟨_, fun a => pw_and1 (h1 a), h2⟩
theorem sw_or1 {f : Ev → Option (Bool × Ev)} (h : ST M K q e f) : SW M K q (.BoolOp .Or [e] pos) f := let ⟨t, h1, h2⟩ := h; ⟨_, fun a => pw_or1 (h1 a), h2⟩
theorem sw_and {f g : Ev → Option (Bool × Ev)} (h : ST M K q a f) (h' : SW M K q' (.BoolOp .And (b :: es) pos) g) : SW M K (q && q') (.BoolOp .And (a :: b :: es) pos) (bAnd f g) := let ⟨t, h1, h2⟩ := h; let ⟨u, h3, h4⟩ := h'; ⟨_, fun x => pw_and (h1 x) (h3 x), h2.and h4⟩
theorem sw_or {f g : Ev → Option (Bool × Ev)} (h : ST M K q a f) (h' : SW M K q' (.BoolOp .Or (b :: es) pos) g) : SW M K (q && q') (.BoolOp .Or (a :: b :: es) pos) (bOr f g) := let ⟨t, h1, h2⟩ := h; let ⟨u, h3, h4⟩ := h'; ⟨_, fun x => pw_or (h1 x) (h3 x), h2.or h4⟩
theorem se_one {op} (h : SE M K q a f) : SE M K q (.BoolOp op [a] pos) f := let ⟨t, h1, h2⟩ := h; ⟨_, fun x => pe_one (h1 x), h2⟩
theorem se_and (h : SE M K q a f) (h' : SE M K q' (.BoolOp .And (b :: es) pos) g) : SE M K (q && q') (.BoolOp .And (a :: b :: es) pos) (eIf (bTest f) g (eC (.bl false))) := let ⟨t, h1, h2⟩ := h; let ⟨u, h3, h4⟩ := h'; ⟨_, fun x => pe_and (h1 x) (h3 x), h2.andV h4⟩
theorem se_or (h : SE M K q a f) (h' : SE M K q' (.BoolOp .Or (b :: es) pos) g) : SE M K (q && q') (.BoolOp .Or (a :: b :: es) pos) (eIf (bTest f) (eC (.bl true)) g) := let ⟨t, h1, h2⟩ := h; let ⟨u, h3, h4⟩ := h'; ⟨_, fun x => pe_or (h1 x) (h3 x), h2.orV h4⟩
theorem se_not (h : SE M K q a f) : SE M K q (.UnaryOp .Not a pos) (eNot f) := let ⟨t, h1, h2⟩ := h; ⟨_, fun x => pe_not (h1 x), h2.notV⟩
theorem se_ifExp {cc : Ev → Option (Bool × Ev)} (h : ST M K q c cc) (ha : SE M K q' a f) (hb : SE M K q2 b g) : SE M K (q && (q' && q2)) (.IfExp c a b pos) (eIf cc f g) := let ⟨t, h1, h2⟩ := h; let ⟨u, h3, h4⟩ := ha; let ⟨w, h5, h6⟩ := hb; ⟨_, fun x => pe_ifExp (h1 x) (h3 x) (h5 x), h2.if h4 h6⟩
theorem se_neg (h : SE M K q a f) : SE M K (q && true) (.UnaryOp .USub a pos) (eOp gNeg (aCons f aNil)) := let ⟨t, h1, h2⟩ := h; ⟨_, fun x => pe_un un_neg (h1 x), Sat.op1 (r := rU fun i => .int (-i)) h2 (v_neg K)⟩

/-! displays, items, slices -/
def gLst (ds : List D) : Option D := if ds.length ≤ sizeLine then some (.lst .own ds) else none
def gTupD (ds : List D) : Option D := if ds.length ≤ sizeLine then some (.tup ds) else none
theorem v_lst : OpN K (fun vs H Q => vs.length ≤ sizeLine ∧ ∀ p, H p = none → Q (.ref p) (upd H p (.lst vs))) gLst := by
  intro H N vs ds Lt hd nd d e Q k
  unfold gLst at e
  split at e
  · rename_i hl
    cases e
    exact ⟨by rw [len_so hd]; exact hl, fun p hp => k _ _ _ (Res.newL nd hd (List.Sublist.refl _) hp)⟩
  · cases e
theorem v_tup : OpN K (fun vs H Q => vs.length ≤ sizeLine ∧ ∀ p, H p = none → Q (.ref p) (upd H p (.tup vs))) gTupD := by
  intro H N vs ds Lt hd nd d e Q k
  unfold gTupD at e
  split at e
  · rename_i hl
    cases e
    exact ⟨by rw [len_so hd]; exact hl, fun p hp => k _ _ _ (Res.newT nd hd (List.Sublist.refl _) hp)⟩
  · cases e
theorem se_lst (h : SA M K q ld es fs) : SE M K q (.List es pos) (eOp gLst fs) := let ⟨t, h1, h2⟩ := h; ⟨_, fun x => pe_lst (h1 x), Sat.op h2 v_lst⟩
theorem se_tup {x1} (h : SA M K q ld es fs) : SE M K q (.Tuple es x1 pos) (eOp gTupD fs) := let ⟨t, h1, h2⟩ := h; ⟨_, fun x => pe_tup (h1 x), Sat.op h2 v_tup⟩
theorem se_ix (hK : ∀ a, (M a).K = K) (ha : SE M K q a f) (hb : SE M K q' b g) (hs : PlainIx b := by exact fun _ _ => rfl) : SE M K (q && (q' && true)) (.Subscript a b pos) (eOp gIx (aCons f (aCons g aNil))) :=
  let ⟨t, h1, h2⟩ := ha; let ⟨u, h3, h4⟩ := hb; ⟨_, fun x => pe_ix (by have := ix_seq (X := M x); rw [hK x] at this; exact this) (h1 x) (h3 x) hs, Sat.op2 h2 h4 (v_ix K)⟩
theorem se_dget (hu : ∀ a, (M a).A.units + 1 < cLine) (ha : SE M K q a f) (hb : SE M K q' b g) (hs : NoSl b := by exact fun _ _ => rfl) : SE M K (q && (q' && true)) (.Subscript a b pos) (eOp gDGet (aCons f (aCons g aNil))) :=
  let ⟨t, h1, h2⟩ := ha; let ⟨u, h3, h4⟩ := hb; ⟨_, fun x => pe_dget (hu x) (h1 x) (h3 x) hs, Sat.op2 (r := rDGet) h2 h4 v_dget⟩

def cutD (xs : List D) (lo hi : Option Int) : List D := (xs.drop (HT.sIx xs.length 0 lo)).take (HT.sIx xs.length xs.length hi - HT.sIx xs.length 0 lo)
def cutG (d : D) (lo hi : Option Int) : Option D := match d with
  | .lst _ xs => some (.lst .own (cutD xs lo hi))
  | .tup xs => some (.tup (cutD xs lo hi))
  | .str z => if z.length ≤ sizeLine then some (.str (cutS z lo hi)) else none
  | _ => none
def rSlAll (K : PySem.W.Frag) : V → Option Int → Option Int → Hp → VK → Prop := fun x lo hi H Q => rSlL K x lo hi H Q ∨ (rSlA K x lo hi H Q ∨ rSlS x lo hi H Q)
theorem sl_all {X : Cx} : SlR X (rSlAll X.K) := sl_list.or (sl_tupA.or sl_str)
theorem cut_ok {H : Hp} {N : Fl → Addr → Prop} {v : V} {d d' : D} {L Lt : List Addr} {lo hi : Option Int} (h : Dens K H N [some v] [d] L) (e : cutG d lo hi = some d') (nd : Lt.Nodup) (sb : L.Sublist Lt) {Q : VK} (k : ∀ v H' Lr, Res K H N Lt v d' H' Lr → Q v H') : rSlAll K v lo hi H Q := by
  cases d <;> try (cases e; done)
  · rename_i z
    unfold cutG at e
    simp only at e
    split at e
    · rename_i hl
      cases e
      cases (one_str h).1
      exact .inr (.inr ⟨z, rfl, hl, k _ _ _ (Res.flat fun N' => Flat.str _ _ _ _)⟩)
    · cases e
  · rename_i xs
    cases e
    obtain ⟨a, us, L1, rfl, e1, q1, s1, n1⟩ := inv_tup h
    have len := len_so q1
    obtain ⟨L2, q2, s2⟩ := q1.sub (HT.sIx us.length 0 lo) (HT.sIx us.length us.length hi - HT.sIx us.length 0 lo)
    have eq : (cutD xs lo hi) = (xs.drop (HT.sIx us.length 0 lo)).take (HT.sIx us.length us.length hi - HT.sIx us.length 0 lo) := by unfold cutD; rw [← len]
    refine .inr (.inl ⟨a, us, rfl, .inl (.inl e1), fun w => ?_, fun w p hp => ?_⟩)
    · have : cutD xs lo hi = xs := by
        rw [eq, w.1, w.2, List.drop_zero, Nat.sub_zero, len, List.take_length]
      rw [this] at k
      exact k _ _ _ (Res.old nd h sb)
    · refine k _ _ _ (Res.newT (L1 := L2) nd ?_ ((s2.trans s1).trans sb) hp)
      rw [eq]
      have : so (cutV us lo hi) = ((so us).drop (HT.sIx us.length 0 lo)).take (HT.sIx us.length us.length hi - HT.sIx us.length 0 lo) := by unfold cutV so; rw [List.map_take, List.map_drop]
      rw [this]
      exact q2
  · rename_i fl xs
    cases e
    obtain ⟨a, us, L1, rfl, e1, _, q1, s1⟩ := inv_lst h
    have len := len_so q1
    obtain ⟨L2, q2, s2⟩ := q1.sub (HT.sIx us.length 0 lo) (HT.sIx us.length us.length hi - HT.sIx us.length 0 lo)
    have eq : (cutD xs lo hi) = (xs.drop (HT.sIx us.length 0 lo)).take (HT.sIx us.length us.length hi - HT.sIx us.length 0 lo) := by unfold cutD; rw [← len]
    refine .inl ⟨a, us, rfl, e1, fun p hp => ?_⟩
    refine k _ _ _ (Res.newL (L1 := L2) nd ?_ ((s2.trans s1).trans sb) hp)
    rw [eq]
    have : so (cutV us lo hi) = ((so us).drop (HT.sIx us.length 0 lo)).take (HT.sIx us.length us.length hi - HT.sIx us.length 0 lo) := by unfold cutV so; rw [List.map_take, List.map_drop]
    rw [this]
    exact q2
def gSl0 : List D → Option D
  | [d] => cutG d none none
  | _ => none
def gSlL : List D → Option D
  | [d, .int i] => cutG d (some i) none
  | _ => none
def gSlH : List D → Option D
  | [d, .int i] => cutG d none (some i)
  | _ => none
def gSlB : List D → Option D
  | [d, .int i, .int j] => cutG d (some i) (some j)
  | _ => none
def rSlN0 (K : PySem.W.Frag) : List V → Hp → VK → Prop := fun vs H Q => match vs with
  | [x] => rSlAll K x none none H Q
  | _ => False
def rSlNL (K : PySem.W.Frag) : List V → Hp → VK → Prop := fun vs H Q => match vs with
  | [x, y] => ∃ i, y = .int i ∧ rSlAll K x (some i) none H Q
  | _ => False
def rSlNH (K : PySem.W.Frag) : List V → Hp → VK → Prop := fun vs H Q => match vs with
  | [x, y] => ∃ i, y = .int i ∧ rSlAll K x none (some i) H Q
  | _ => False
theorem v_slL : OpN K (rSlNL K) gSlL := by
  intro H N vs ds Lt hd nd d e Q k
  unfold gSlL at e
  split at e
  · obtain ⟨x, y, L1, L2, rfl, rfl, h1, h2⟩ := apart2 hd
    cases (one_int h2).1
    exact ⟨_, rfl, cut_ok h1 e nd (List.sublist_append_left ..) k⟩
  · cases e
theorem v_slH : OpN K (rSlNH K) gSlH := by
  intro H N vs ds Lt hd nd d e Q k
  unfold gSlH at e
  split at e
  · obtain ⟨x, y, L1, L2, rfl, rfl, h1, h2⟩ := apart2 hd
    cases (one_int h2).1
    exact ⟨_, rfl, cut_ok h1 e nd (List.sublist_append_left ..) k⟩
  · cases e
theorem v_sl0 : OpN K (rSlN0 K) gSl0 := by
  intro H N vs ds Lt hd nd d e Q k
  unfold gSl0 at e
  split at e
  · obtain ⟨x, rfl, h1⟩ := apart1 hd
    exact cut_ok h1 e nd (List.Sublist.refl _) k
  · cases e
theorem sl_fam (hK : ∀ a, (M a).K = K) (a : α) : SlR (M a) (rSlAll K) := by have := sl_all (X := M a); rw [hK a] at this; exact this
theorem se_sl0 {p2} (hK : ∀ a, (M a).K = K) (ha : SE M K q a f) : SE M K (q && true) (.Subscript a (.Slice none none none p2) pos) (eOp gSl0 (aCons f aNil)) :=
  let ⟨t, h1, h2⟩ := ha; ⟨tSl (rSlAll K) t tNoPart tNoPart, fun x => pe_slice (sl_fam hK x) (h1 x) po_none po_none, Sat.op (r := rSlN0 K) (SatA.cons h2 (SatA.nil (q := true))) v_sl0⟩
theorem se_slL {p2} (hK : ∀ a, (M a).K = K) (ha : SE M K q a f) (hb : SE M K q' b g) : SE M K (q && (q' && true)) (.Subscript a (.Slice (some b) none none p2) pos) (eOp gSlL (aCons f (aCons g aNil))) :=
  let ⟨t, h1, h2⟩ := ha; let ⟨u, h3, h4⟩ := hb; ⟨tSl (rSlAll K) t (tPart u) tNoPart, fun x => pe_slice (sl_fam hK x) (h1 x) (po_some (h3 x)) po_none, Sat.op (r := rSlNL K) (SatA.cons h2 (SatA.cons h4 (SatA.nil (q := true)))) v_slL⟩
theorem se_slH {p2} (hK : ∀ a, (M a).K = K) (ha : SE M K q a f) (hb : SE M K q' b g) : SE M K (q && (q' && true)) (.Subscript a (.Slice none (some b) none p2) pos) (eOp gSlH (aCons f (aCons g aNil))) :=
  let ⟨t, h1, h2⟩ := ha; let ⟨u, h3, h4⟩ := hb; ⟨tSl (rSlAll K) t tNoPart (tPart u), fun x => pe_slice (sl_fam hK x) (h1 x) po_none (po_some (h3 x)), Sat.op (r := rSlNH K) (SatA.cons h2 (SatA.cons h4 (SatA.nil (q := true)))) v_slH⟩
theorem Sat.slB {ta tb tc : TE} (h1 : Sat K q ta f) (h2 : Sat K q' tb g) (h3 : Sat K q2 tc f2) : Sat K (q && (q' && (q2 && true))) (tSl (rSlAll K) ta (tPart tb) (tPart tc)) (eOp gSlB (aCons f (aCons g (aCons f2 aNil)))) := by
  refine ⟨fun σ H env ts td L Lo hl s d env' e Q k => ?_⟩
  unfold eOp aCons aNil at e
  cases e1 : f env with
  | none => simp only [e1] at e; cases e
  | some p =>
    obtain ⟨d1, en1⟩ := p
    simp only [e1] at e
    cases e2 : g en1 with
    | none => simp only [e2] at e; cases e
    | some p2 =>
      obtain ⟨d2, en2⟩ := p2
      simp only [e2] at e
      cases e3 : f2 en2 with
      | none => simp only [e3] at e; cases e
      | some p3 =>
        obtain ⟨d3, en3⟩ := p3
        simp only [e3] at e
        cases e4 : gSlB [d1, d2, d3] with
        | none => simp only [e4] at e; cases e
        | some d4 =>
          simp only [e4] at e
          obtain ⟨rfl, rfl⟩ := Prod.mk.inj (Option.some.inj e)
          unfold gSlB at e4
          split at e4
          · rename_i i j q0
            cases q0
            refine h1.run σ H env ts td L Lo hl s d1 en1 e1 _ fun x H1 Lr Lb c => ?_
            refine h2.run σ H1 en1 (some x :: ts) (d1 :: td) _ Lo (by simp [hl]) c.sta _ en2 e2 _ fun y H2 Mr Mb c2 => ?_
            cases (one_int c2.top).1
            refine ⟨i, rfl, ?_⟩
            refine h3.run σ H2 en2 (some (.int i) :: some x :: ts) (.int i :: d1 :: td) _ Lo (by simp [hl]) c2.sta _ en3 e3 _ fun z H3 Nr Nb c3 => ?_
            cases (one_int c3.top).1
            refine ⟨j, rfl, ?_⟩
            obtain ⟨R, B, c4⟩ := c2.more c3
            obtain ⟨R2, B2, c5⟩ := c.more c4
            obtain ⟨L1, L2, rfl, q1, _⟩ := Dens.cons (o := some x) (σ := [some (.int i), some (.int j)]) c5.top
            exact cut_ok q1 e4 (List.nodup_append.mp c5.good.nd).1 (List.sublist_append_left ..) fun v H' Lr r => k v H' Lr _ ((c5.op r).q2 fun z => by simpa using z)
          · cases e4
theorem se_slB {p2} (hK : ∀ a, (M a).K = K) (ha : SE M K q a f) (hb : SE M K q' b g) (hc : SE M K q2 c f2) : SE M K (q && (q' && (q2 && true))) (.Subscript a (.Slice (some b) (some c) none p2) pos) (eOp gSlB (aCons f (aCons g (aCons f2 aNil)))) :=
  let ⟨t, h1, h2⟩ := ha; let ⟨u, h3, h4⟩ := hb; let ⟨w, h5, h6⟩ := hc; ⟨tSl (rSlAll K) t (tPart u) (tPart w), fun x => pe_slice (sl_fam hK x) (h1 x) (po_some (h3 x)) (po_some (h5 x)), Sat.slB h2 h4 h6⟩

/-! attributes -/
def gFld (C : Addr) (x : Str) : List D → Option D
  | [.ins _ C' fds] => if C' = C then (lookD fds x).bind fun d => if d.isUnd then none else some d else none
  | _ => none
theorem lookup_valV (fs : List (Str × V)) (x : Str) : fs.lookup x = valV fs x := by
  induction fs with
  | nil => rfl
  | cons p r ih =>
    obtain ⟨y, v⟩ := p
    rw [List.lookup_cons]
    by_cases z : y = x
    · subst z; simp [valV]
    · rw [valV_neg (show ¬ ((y, v) : Str × V).1 = x from z), ← ih]
      have : (x == y) = false := by simp; exact fun e => z e.symm
      rw [this]
theorem v_fld {C : Addr} {x : Str} (cl : Cls K C) (na : NoAttr K C x) : OpN K (rN1 fun v H Q => ∃ a C dx fs v', v = .ref a ∧ H a = some (.ins C dx fs) ∧ Cls K C ∧ NoAttr K C x ∧ fs.lookup x = some v' ∧ Q v' H) (gFld C x) := by
  intro H N vs ds Lt hd nd d e Q k
  unfold gFld at e
  split at e
  · rename_i fl C' fds
    split at e
    · rename_i ec
      subst ec
      obtain ⟨v, rfl, h1⟩ := apart1 hd
      obtain ⟨a, dx, fs, L1, rfl, e1, ek, q1, s1⟩ := inv_ins h1
      obtain ⟨r, e3, e4⟩ := Option.bind_eq_some_iff.mp e
      rcases look_val ek q1 x with ⟨q, _⟩ | ⟨v', d', M, q2, q3, q4, q5⟩
      · rw [q] at e3; cases e3
      · rw [q2] at e3; cases e3
        split at e4
        · cases e4
        · cases e4
          exact ⟨a, _, dx, fs, v', rfl, e1, cl, na, by rw [lookup_valV]; exact q3, k _ _ _ (Res.old nd q4 (q5.trans s1))⟩
    · cases e
  · cases e
theorem se_fld {C : Addr} {x : Str} (hK : ∀ a, (M a).K = K) (cl : Cls K C) (na : NoAttr K C x) (ha : SE M K q a f) (hb : ∀ y, attributeBase a x (M y).env (eval a (M y).env) = eval a (M y).env := by intro _; rfl) : SE M K (q && true) (.Attribute a x pos) (eOp (gFld C x) (aCons f aNil)) :=
  let ⟨t, h1, h2⟩ := ha; ⟨tFld K t x, fun y => by have := pe_fld (X := M y) (pos := pos) (h1 y) (hb y); rw [hK y] at this; exact this, Sat.op1 (r := fun v H Q => ∃ a C dx fs v', v = .ref a ∧ H a = some (.ins C dx fs) ∧ Cls K C ∧ NoAttr K C x ∧ fs.lookup x = some v' ∧ Q v' H) h2 (v_fld cl na)⟩

/-! a receiver that is looked at ahead of the arguments -/
def eRecv (ok : D → Bool) (g : List D → Option D) (fo : Ev → Option (D × Ev)) (fs : Ev → Option (List D × Ev)) : Ev → Option (D × Ev) := fun env =>
  match fo env with
  | none => none
  | some (d, e1) => if ok d then (match fs e1 with
    | none => none
    | some (ds, e2) => match g (d :: ds) with
      | none => none
      | some r => some (r, e2)) else none
theorem Sat.recv {to : TE} {ta : TA} {r : V → List V → Hp → VK → Prop} {C : V → Hp → Prop} {ok : D → Bool} {gg : List D → Option D} (ho : Sat K q to f) (ha : SatA K q' ld ta fs)
    (hC : ∀ H N v d L, ok d = true → Dens K H N [some v] [d] L → C v H) (o : OpN K (fun vs H Q => match vs with
      | x :: xs => r x xs H Q
      | [] => False) gg) : Sat K (q && q') (fun σ H Q => to σ H fun x H1 => C x H1 ∧ ta σ H1 fun xs H2 => r x xs H2 Q) (eRecv ok gg f fs) := by
  refine ⟨fun σ H env ts td L Lo hl s d env' e Q k => ?_⟩
  unfold eRecv at e
  cases e1 : f env with
  | none => rw [e1] at e; cases e
  | some p =>
    obtain ⟨d0, en1⟩ := p
    simp only [e1] at e
    split at e
    · rename_i okd
      cases e2 : fs en1 with
      | none => simp only [e2] at e; cases e
      | some p2 =>
        obtain ⟨ds, en2⟩ := p2
        simp only [e2] at e
        cases e3 : gg (d0 :: ds) with
        | none => simp only [e3] at e; cases e
        | some d3 =>
          simp only [e3] at e
          obtain ⟨rfl, rfl⟩ := Prod.mk.inj (Option.some.inj e)
          refine ho.run σ H env ts td L Lo hl s d0 en1 e1 _ fun v H1 Lr Lb c => ⟨hC _ _ _ _ _ okd c.top, ?_⟩
          refine ha.run σ H1 en1 (some v :: ts) (d0 :: td) (Lr ++ Lb) Lo (by simp [hl]) c.sta ds en2 e2 _ fun vs H2 Mr Mb c2 _ => ?_
          obtain ⟨R, B, c3⟩ := c.more c2
          exact o H2 _ (v :: vs) (d0 :: ds) R c3.top (List.nodup_append.mp c3.good.nd).1 _ e3 Q fun v' H3 Lr r => k v' H3 Lr _ (c3.op r)
    · cases e
end
end
end TL

set_option Elab.async false
set_option linter.all false
set_option maxRecDepth 100000
/-! TL6: statements, blocks, bodies. -/
namespace TL
open PySem PySem.Spec PyProof.Rows L2

inductive Out where
  | nx (env : Ev) | rt (d : D) (env : Ev) | bk (env : Ev) | ct (env : Ev)

/-- an expression at a statement's head: what is held is not only viewed -/
structure SatC (K : PySem.W.Frag) (t : TE) (f : Ev → Option (D × Ev)) : Prop where
  run : ∀ (σ : L2.St) (H : Hp) (env : Ev) (ts : List (Option V)) (td : List D) (L : List Addr) (Lo : Lent), ts.length = td.length → td.all D.closed = true → Sta K Lo H (ts ++ σ) (td ++ env) L → ∀ d env', f env = some (d, env') → ∀ Q : VK,
    (∀ v H' Lr Lb, Came K Lo false H (ts ++ σ) td env L H' [v] [d] env' Lr Lb → Q v H') → t σ H Q
structure SatBC (K : PySem.W.Frag) (t : TT) (f : Ev → Option (Bool × Ev)) : Prop where
  run : ∀ (σ : L2.St) (H : Hp) (env : Ev) (ts : List (Option V)) (td : List D) (L : List Addr) (Lo : Lent), ts.length = td.length → td.all D.closed = true → Sta K Lo H (ts ++ σ) (td ++ env) L → ∀ b env', f env = some (b, env') → ∀ Q : Bool → Hp → Prop,
    (∀ H' Lb, Came K Lo false H (ts ++ σ) td env L H' [] [] env' [] Lb → Q b H') → t σ H Q
theorem Sat.c {K : PySem.W.Frag} {q : Bool} {t : TE} {f : Ev → Option (D × Ev)} (h : Sat K q t f) : SatC K t f :=
  ⟨fun σ H env ts td L Lo hl _ s d env' e Q k => h.weak.run σ H env ts td L Lo hl s d env' e Q k⟩
theorem SatB.c {K : PySem.W.Frag} {q : Bool} {t : TT} {f : Ev → Option (Bool × Ev)} (h : SatB K q t f) : SatBC K t f :=
  ⟨fun σ H env ts td L Lo hl _ s d env' e Q k => h.run σ H env ts td L Lo hl s d env' e Q fun H' Lb c => k H' Lb (c.q2 fun z => by cases z)⟩
/-- pinned slots hold what they held -/
def Pins (pn : List Nat) (pv : Nat → V) (σ : L2.St) : Prop := ∀ i ∈ pn, σ[i]? = some (some (pv i))
/-- what is asked of the ends, by the outcome -/
def EndsOk (K : PySem.W.Frag) (Lo : Lent) (pn : List Nat) (pv : Nat → V) (ts : List (Option V)) (td : List D) (L : List Addr) (H : Hp) (E : Ends) : Out → Prop
  | .nx env' => ∀ σ' H' L', Pins pn pv σ' → Sta K Lo H' (ts ++ σ') (td ++ env') L' → Ext L H L' H' → E.nx σ' H'
  | .rt d env' => ∀ v σ' H' L', Pins pn pv σ' → Sta K Lo H' (some v :: (ts ++ σ')) (d :: (td ++ env')) L' → Ext L H L' H' → E.rt v H'
  | .bk env' => ∀ σ' H' L', Pins pn pv σ' → Sta K Lo H' (ts ++ σ') (td ++ env') L' → Ext L H L' H' → E.bk σ' H'
  | .ct env' => ∀ σ' H' L', Pins pn pv σ' → Sta K Lo H' (ts ++ σ') (td ++ env') L' → Ext L H L' H' → E.ct σ' H'
structure SatS (K : PySem.W.Frag) (pn : List Nat) (t : TS) (f : Ev → Option Out) : Prop where
  run : ∀ (σ : L2.St) (H : Hp) (env : Ev) (ts : List (Option V)) (td : List D) (L : List Addr) (Lo : Lent) (pv : Nat → V), ts.length = td.length → td.all D.closed = true → Pins pn pv σ → Sta K Lo H (ts ++ σ) (td ++ env) L → ∀ o, f env = some o → ∀ E : Ends,
    EndsOk K Lo pn pv ts td L H E o → t E σ H
/-- the ends asked further on -/
theorem EndsOk.step {K : PySem.W.Frag} {Lo : Lent} {pn : List Nat} {pv : Nat → V} {ts : List (Option V)} {td : List D} {L L1 : List Addr} {H H1 : Hp} {E : Ends} {o : Out} (h : EndsOk K Lo pn pv ts td L H E o) (x : Ext L H L1 H1) : EndsOk K Lo pn pv ts td L1 H1 E o := by
  cases o with
  | nx env => exact fun σ' H' L' p s y => h σ' H' L' p s (x.trans y)
  | rt d env => exact fun v σ' H' L' p s y => h v σ' H' L' p s (x.trans y)
  | bk env => exact fun σ' H' L' p s y => h σ' H' L' p s (x.trans y)
  | ct env => exact fun σ' H' L' p s y => h σ' H' L' p s (x.trans y)

section
variable {K : PySem.W.Frag} {pn : List Nat}
def sSkip : Ev → Option Out := fun env => some (.nx env)
theorem SatS.skip : SatS K pn tNext sSkip := ⟨fun σ H env ts td L Lo pv hl hcl p s o e E k => by
  cases e
  exact k σ H L p s (Ext.refl _ _)⟩
def sSeq (f g : Ev → Option Out) : Ev → Option Out := fun env =>
  match f env with
  | some (.nx e) => g e
  | r => r
theorem SatS.seq {t u : TS} {f g : Ev → Option Out} (h : SatS K pn t f) (h' : SatS K pn u g) : SatS K pn (tSeq t u) (sSeq f g) := by
  refine ⟨fun σ H env ts td L Lo pv hl hcl p s o e E k => ?_⟩
  unfold sSeq at e
  have go : ∀ o', f env = some o' → EndsOk K Lo pn pv ts td L H { E with nx := u E } o' → tSeq t u E σ H := fun o' e1 q => h.run σ H env ts td L Lo pv hl hcl p s o' e1 _ q
  split at e
  · rename_i en e1
    exact go _ e1 fun σ' H' L' p' s' x' => h'.run σ' H' en ts td L' Lo pv hl hcl p' s' o e E (k.step x')
  · rename_i hn
    cases o with
    | nx en => exact absurd e (hn en)
    | rt d en => exact go _ e k
    | bk en => exact go _ e k
    | ct en => exact go _ e k
def sExpr (f : Ev → Option (D × Ev)) : Ev → Option Out := fun env =>
  match f env with
  | some (_, e) => some (.nx e)
  | none => none
theorem SatS.expr {te : TE} {f : Ev → Option (D × Ev)} (h : SatC K te f) : SatS K pn (tDrop te) (sExpr f) := by
  refine ⟨fun σ H env ts td L Lo pv hl hcl p s o e E k => ?_⟩
  unfold sExpr at e
  split at e
  · rename_i d en e1
    cases e
    exact h.run σ H env ts td L Lo hl hcl s _ _ e1 _ fun v H' Lr Lb c => k σ H' Lb p c.drop.base0 c.drop.ext
  · cases e
def sRet (f : Ev → Option (D × Ev)) : Ev → Option Out := fun env =>
  match f env with
  | some (d, e) => some (.rt d e)
  | none => none
theorem SatS.ret {te : TE} {f : Ev → Option (D × Ev)} (h : SatC K te f) : SatS K pn (tRet te) (sRet f) := by
  refine ⟨fun σ H env ts td L Lo pv hl hcl p s o e E k => ?_⟩
  unfold sRet at e
  split at e
  · rename_i d en e1
    cases e
    exact h.run σ H env ts td L Lo hl hcl s _ _ e1 _ fun v H' Lr Lb c => k v σ H' (Lr ++ Lb) p c.sta c.ext
  · cases e
def sRetN : Ev → Option Out := fun env => some (.rt .non env)
theorem SatS.retN : SatS K pn tRetN sRetN := ⟨fun σ H env ts td L Lo pv hl hcl p s o e E k => by
  cases e
  exact k .non σ H L p ⟨s.good, .non s.dens⟩ (Ext.refl _ _)⟩
def sBk : Ev → Option Out := fun env => some (.bk env)
def sCt : Ev → Option Out := fun env => some (.ct env)
theorem SatS.bk : SatS K pn tBreak sBk := ⟨fun σ H env ts td L Lo pv hl hcl p s o e E k => by cases e; exact k σ H L p s (Ext.refl _ _)⟩
theorem SatS.ct : SatS K pn tCont sCt := ⟨fun σ H env ts td L Lo pv hl hcl p s o e E k => by cases e; exact k σ H L p s (Ext.refl _ _)⟩
def sIf (c : Ev → Option (Bool × Ev)) (f g : Ev → Option Out) : Ev → Option Out := fun env =>
  match c env with
  | some (true, e) => f e
  | some (false, e) => g e
  | none => none
theorem SatS.cond {tc : TT} {t u : TS} {c : Ev → Option (Bool × Ev)} {f g : Ev → Option Out} (hc : SatBC K tc c) (h : SatS K pn t f) (h' : SatS K pn u g) : SatS K pn (tIfS tc t u) (sIf c f g) := by
  refine ⟨fun σ H env ts td L Lo pv hl hcl p s o e E k => ?_⟩
  unfold sIf at e
  split at e
  · rename_i en e1
    refine hc.run σ H env ts td L Lo hl hcl s _ _ e1 _ fun H' Lb c => ?_
    rw [if_pos rfl]
    exact h.run σ H' en ts td Lb Lo pv hl hcl p c.base0 o e E (k.step c.ext)
  · rename_i en e1
    refine hc.run σ H env ts td L Lo hl hcl s _ _ e1 _ fun H' Lb c => ?_
    rw [if_neg Bool.false_ne_true]
    exact h'.run σ H' en ts td Lb Lo pv hl hcl p c.base0 o e E (k.step c.ext)
  · cases e

/-! targets -/
theorem Dens.setAt {H : Hp} {N : Fl → Addr → Prop} {o : Option V} {d : D} {L1 : List Addr} (h1 : Dens K H N [o] [d] L1) : ∀ {σ : List (Option V)} {ds : List D} {L : List Addr}, Dens K H N σ ds L → ∀ i : Nat, i < ds.length → ∃ M L2, M.Sublist L ∧ L2.Perm (L1 ++ M) ∧ Dens K H N (σ.set i o) (ds.set i d) L2
  | _, [], _, _, i, hi => absurd hi (Nat.not_lt_zero _)
  | [], _ :: _, _, h, _, _ => by cases h.length
  | o0 :: σ, d0 :: ds, L, h, 0, _ => by
    obtain ⟨M1, M2, rfl, q1, q2⟩ := h.cons
    exact ⟨M2, L1 ++ M2, List.sublist_append_right .., List.Perm.refl _, h1.put q2⟩
  | o0 :: σ, d0 :: ds, L, h, i + 1, hi => by
    obtain ⟨M1, M2, rfl, q1, q2⟩ := h.cons
    obtain ⟨M, L2, s, p, q⟩ := Dens.setAt h1 q2 i (Nat.lt_of_succ_lt_succ hi)
    refine ⟨M1 ++ M, M1 ++ L2, List.Sublist.append (List.Sublist.refl _) s, ?_, q1.put q⟩
    exact (List.Perm.append_left M1 p).trans (by rw [← List.append_assoc, ← List.append_assoc]; exact List.Perm.append_right _ List.perm_append_comm)
/-- a value goes into a slot -/
theorem Sta.setSlot {Lo : Lent} {H : Hp} {ts σ : List (Option V)} {td : List D} {env : Ev} {L : List Addr} {v : V} {d : D} (hl : ts.length = td.length) (s : Sta K Lo H (some v :: (ts ++ σ)) (d :: (td ++ env)) L) (i : Nat) (hi : i < env.length) :
    ∃ L', Sta K Lo H (ts ++ σ.set i (some v)) (td ++ env.set i d) L' ∧ ∀ a ∈ L', a ∈ L := by
  obtain ⟨L1, L2, rfl, h1, h2⟩ := Dens.cons (σ := ts ++ σ) (ds := td ++ env) s.dens
  obtain ⟨Lt, Le, rfl, h3, h4⟩ := Dens.split hl h2
  obtain ⟨M, L5, sb, pm, q⟩ := Dens.setAt h1 h4 i hi
  have pm2 : (Lt ++ L5).Perm (L1 ++ (Lt ++ M)) := (List.Perm.append_left Lt pm).trans (by rw [← List.append_assoc, ← List.append_assoc]; exact List.Perm.append_right _ List.perm_append_comm)
  have sb2 : (L1 ++ (Lt ++ M)).Sublist (L1 ++ (Lt ++ Le)) := List.Sublist.append (List.Sublist.refl _) (List.Sublist.append (List.Sublist.refl _) sb)
  have mem : ∀ a ∈ Lt ++ L5, a ∈ L1 ++ (Lt ++ Le) := fun a ha => sb2.subset (pm2.mem_iff.mp ha)
  refine ⟨Lt ++ L5, ⟨s.good.sub (pm2.nodup_iff.mpr (sb2.nodup s.good.nd)) mem, ?_⟩, mem⟩
  exact ((h3.app q).know fun f a n _ => nw_sub mem f a n)
theorem Pins.set {pv : Nat → V} {σ : L2.St} {i : Nat} {o : Option V} (p : Pins pn pv σ) (h : i ∉ pn) : Pins pn pv (σ.set i o) := fun j hj => by
  rw [List.getElem?_set_ne (fun e => h (by rw [e]; exact hj))]
  exact p j hj
/-- a target stores a tree -/
structure SatG (K : PySem.W.Frag) (pn : List Nat) (g : TG) (f : D → Ev → Option Ev) : Prop where
  run : ∀ (σ : L2.St) (H : Hp) (env : Ev) (ts : List (Option V)) (td : List D) (L : List Addr) (Lo : Lent) (pv : Nat → V) (v : V) (d : D), ts.length = td.length → Pins pn pv σ → Sta K Lo H (some v :: (ts ++ σ)) (d :: (td ++ env)) L → ∀ env', f d env = some env' → ∀ Q : L2.St → Hp → Prop,
    (∀ σ' L', Pins pn pv σ' → Sta K Lo H (ts ++ σ') (td ++ env') L' → (∀ a ∈ L', a ∈ L) → Q σ' H) → g v σ H Q
structure SatGs (K : PySem.W.Frag) (pn : List Nat) (g : TGs) (f : List D → Ev → Option Ev) : Prop where
  run : ∀ (σ : L2.St) (H : Hp) (env : Ev) (ts : List (Option V)) (td : List D) (L : List Addr) (Lo : Lent) (pv : Nat → V) (vs : List V) (ds : List D), vs.length = ds.length → ts.length = td.length → Pins pn pv σ → Sta K Lo H (so vs ++ (ts ++ σ)) (ds ++ (td ++ env)) L → ∀ env', f ds env = some env' → ∀ Q : L2.St → Hp → Prop,
    (∀ σ' L', Pins pn pv σ' → Sta K Lo H (ts ++ σ') (td ++ env') L' → (∀ a ∈ L', a ∈ L) → Q σ' H) → g vs σ H Q
def tgName (i : Nat) : D → Ev → Option Ev := fun d env => if i < env.length then some (env.set i d) else none
theorem SatG.name {i : Nat} (h : i ∉ pn) : SatG K pn (gName i) (tgName i) := by
  refine ⟨fun σ H env ts td L Lo pv v d hl p s env' e Q k => ?_⟩
  unfold tgName at e
  split at e
  · rename_i hi
    cases e
    obtain ⟨L', s', m⟩ := s.setSlot hl i hi
    exact k _ L' (p.set h) s' m
  · cases e
def tgNil : List D → Ev → Option Ev := fun ds env => match ds with
  | [] => some env
  | _ => none
def tgCons (f : D → Ev → Option Ev) (g : List D → Ev → Option Ev) : List D → Ev → Option Ev := fun ds env => match ds with
  | d :: r => match f d env with
    | some e => g r e
    | none => none
  | [] => none
theorem SatGs.nil : SatGs K pn gNil tgNil := by
  refine ⟨fun σ H env ts td L Lo pv vs ds hv hl p s env' e Q k => ?_⟩
  unfold tgNil at e
  split at e
  · cases e
    obtain rfl : vs = [] := List.eq_nil_of_length_eq_zero hv
    exact ⟨rfl, k σ L p s fun _ h => h⟩
  · cases e
theorem rot1 {H : Hp} {Lo : Lent} {v : Option V} {d : D} {us σ : List (Option V)} {xs ds : List D} {L : List Addr} (hu : us.length = xs.length) (s : Sta K Lo H (v :: (us ++ σ)) (d :: (xs ++ ds)) L) : ∃ L', Sta K Lo H (us ++ (v :: σ)) (xs ++ (d :: ds)) L' ∧ L.Perm L' := by
  obtain ⟨L1, L2, rfl, h1, h2⟩ := Dens.cons (σ := us ++ σ) (ds := xs ++ ds) s.dens
  obtain ⟨L3, L4, rfl, h3, h4⟩ := Dens.split hu h2
  have pm : (L1 ++ (L3 ++ L4)).Perm (L3 ++ (L1 ++ L4)) := by rw [← List.append_assoc, ← List.append_assoc]; exact List.Perm.append_right _ List.perm_append_comm
  exact ⟨L3 ++ (L1 ++ L4), ⟨s.good.perm pm, (h3.app (h1.put h4)).know fun f a n _ => nw_sub (fun x hx => pm.mem_iff.mpr hx) f a n⟩, pm⟩
theorem SatGs.cons {g : TG} {gs : TGs} {f : D → Ev → Option Ev} {fs : List D → Ev → Option Ev} (h : SatG K pn g f) (h' : SatGs K pn gs fs) : SatGs K pn (gCons g gs) (tgCons f fs) := by
  refine ⟨fun σ H env ts td L Lo pv vs ds hv hl p s env' e Q k => ?_⟩
  unfold tgCons at e
  split at e
  · rename_i d r
    split at e
    · rename_i en e1
      match vs, hv, s with
      | v :: vs, hv, s =>
        have hv' : vs.length = r.length := Nat.succ.inj hv
        have hv2 : (so vs).length = r.length := by rw [List.length_map]; exact hv'
        have s1 : Sta K Lo H (some v :: ((so vs ++ ts) ++ σ)) (d :: ((r ++ td) ++ env)) L := by
          rw [List.append_assoc, List.append_assoc]
          exact s
        refine ⟨v, vs, rfl, h.run σ H env (so vs ++ ts) (r ++ td) L Lo pv v d (by simp [hl, hv']) p s1 en e1 _ fun σ1 L1 p1 s2 m1 => ?_⟩
        rw [List.append_assoc, List.append_assoc] at s2
        exact h'.run σ1 H en ts td L1 Lo pv vs r hv' hl p1 s2 env' e Q fun σ2 L2 p2 s3 m2 => k σ2 L2 p2 s3 fun a ha => m1 a (m2 a ha)
    · cases e
  · cases e
def tgTup (n : Nat) (f : List D → Ev → Option Ev) : D → Ev → Option Ev := fun d env => match d.seq? with
  | some xs => match d with
    | .lst _ _ => none
    | _ => if xs.length = n then f xs env else none
  | none => none
theorem inv_seqT {H : Hp} {N : Fl → Addr → Prop} {d : D} {xs : List D} {v : V} {L : List Addr} (e : d.seq? = some xs) (nl : ∀ f ys, d ≠ .lst f ys) (h : Dens K H N [some v] [d] L) : ∃ a us L1, v = .ref a ∧ SqT K H a us ∧ Dens K H N (so us) xs L1 ∧ L1.Sublist L := by
  cases d <;> try (cases e; done)
  · cases e
    obtain ⟨a, us, L1, rfl, q, h, s, _⟩ := inv_tup h
    exact ⟨a, us, L1, rfl, .inl (.inl q), h, s⟩
  · cases e
    obtain ⟨a, us, L1, rfl, q, h, s⟩ := inv_tupE h
    exact ⟨a, us, L1, rfl, q, h, s⟩
  · exact absurd rfl (nl _ _)
theorem SatG.tup {gs : TGs} {fs : List D → Ev → Option Ev} {n : Nat} (h : SatGs K pn gs fs) : SatG K pn (L2.gTup K n gs) (tgTup n fs) := by
  refine ⟨fun σ H env ts td L Lo pv v d hl p s env' e Q k => ?_⟩
  unfold tgTup at e
  split at e
  · rename_i xs e1
    split at e
    · cases e
    · rename_i nl
      split at e
      · rename_i hn
        obtain ⟨L1, L2, rfl, h1, h2⟩ := Dens.cons (σ := ts ++ σ) (ds := td ++ env) s.dens
        obtain ⟨a, us, M, rfl, q1, q2, q3⟩ := inv_seqT e1 (fun f ys z => nl f ys z) h1
        have mem : ∀ a ∈ M ++ L2, a ∈ L1 ++ L2 := fun a ha => (List.Sublist.append q3 (List.Sublist.refl _)).subset ha
        have sM : Sta K Lo H (so us ++ (ts ++ σ)) (xs ++ (td ++ env)) (M ++ L2) := ⟨s.good.sub ((List.Sublist.append q3 (List.Sublist.refl _)).nodup s.good.nd) mem, (q2.app h2).know fun f a n _ => nw_sub mem f a n⟩
        exact ⟨a, us, rfl, q1, (len_so q2).trans hn, h.run σ H env ts td _ Lo pv us xs (len_so q2) hl p sM env' e Q fun σ' L' p' s' m' => k σ' L' p' s' fun a ha => mem a (m' a ha)⟩
      · cases e
  · cases e
/-- target = expression -/
def sAsg (f : Ev → Option (D × Ev)) (g : D → Ev → Option Ev) : Ev → Option Out := fun env =>
  match f env with
  | some (d, e) => match g d e with
    | some e2 => some (.nx e2)
    | none => none
  | none => none
theorem SatS.asg {te : TE} {g : TG} {f : Ev → Option (D × Ev)} {fg : D → Ev → Option Ev} (h : SatC K te f) (hg : SatG K pn g fg) : SatS K pn (tAsg te g) (sAsg f fg) := by
  refine ⟨fun σ H env ts td L Lo pv hl hcl p s o e E k => ?_⟩
  unfold sAsg at e
  split at e
  · rename_i d en e1
    split at e
    · rename_i e2 e3
      cases e
      refine h.run σ H env ts td L Lo hl hcl s _ _ e1 _ fun v H' Lr Lb c => ?_
      exact hg.run σ H' en ts td (Lr ++ Lb) Lo pv v d hl p c.sta _ e3 _ fun σ' L' p' s' m => k σ' H' L' p' s' (c.ext.sub m)
    · cases e
  · cases e
end

section
variable {α : Type} {M : α → Cx} {K : PySem.W.Frag} {pn : List Nat}
/-- at a statement's head -/
def SEC (M : α → Cx) (K : PySem.W.Frag) (e : Expr) (f : Ev → Option (D × Ev)) : Prop := ∃ t : TE, (∀ a, PE (M a) e t) ∧ SatC K t f
def STC (M : α → Cx) (K : PySem.W.Frag) (e : Expr) (f : Ev → Option (Bool × Ev)) : Prop := ∃ t : TT, (∀ a, PT (M a) e t) ∧ SatBC K t f
theorem SE.c {e : Expr} {q : Bool} {f : Ev → Option (D × Ev)} (h : SE M K q e f) : SEC M K e f := let ⟨t, a, b⟩ := h; ⟨t, a, b.c⟩
theorem ST.c {e : Expr} {q : Bool} {f : Ev → Option (Bool × Ev)} (h : ST M K q e f) : STC M K e f := let ⟨t, a, b⟩ := h; ⟨t, a, b.c⟩
def SS (M : α → Cx) (K : PySem.W.Frag) (pn : List Nat) (st : Stmt) (f : Ev → Option Out) : Prop := ∃ t : TS, (∀ a, PS (M a) st t) ∧ SatS K pn t f
def SB (M : α → Cx) (K : PySem.W.Frag) (pn : List Nat) (st : List Stmt) (f : Ev → Option Out) : Prop := ∃ t : TS, (∀ a, PSs (M a) st t) ∧ SatS K pn t f
def SG (M : α → Cx) (K : PySem.W.Frag) (pn : List Nat) (e : Expr) (f : D → Ev → Option Ev) : Prop := ∃ t : TG, (∀ a, PG (M a) e t) ∧ SatG K pn t f
def SGs (M : α → Cx) (K : PySem.W.Frag) (pn : List Nat) (es : List Expr) (f : List D → Ev → Option Ev) : Prop := ∃ t : TGs, (∀ a, PGs (M a) es t) ∧ SatGs K pn t f
variable {e : Expr} {es : List Expr} {st : Stmt} {rest : List Stmt} {pos pos' : Pos} {q : Bool} {f : Ev → Option (D × Ev)} {g h : Ev → Option Out} {x : Str}
theorem sb_nil : SB M K pn [] sSkip := ⟨_, fun _ => pss_nil, .skip⟩
theorem sb_one (h1 : SS M K pn st g) : SB M K pn [st] g := let ⟨t, a, b⟩ := h1; ⟨_, fun x => pss_one (a x), b⟩
theorem sb_cons (h1 : SS M K pn st g) (h2 : SB M K pn rest h) : SB M K pn (st :: rest) (sSeq g h) := let ⟨t, a, b⟩ := h1; let ⟨u, c, d⟩ := h2; ⟨_, fun x => pss_cons (a x) (c x), b.seq d⟩
theorem ss_pass : SS M K pn (.Pass pos) sSkip := ⟨_, fun _ => ps_pass, .skip⟩
theorem ss_break : SS M K pn (.Break pos) sBk := ⟨_, fun _ => ps_break, .bk⟩
theorem ss_continue : SS M K pn (.Continue pos) sCt := ⟨_, fun _ => ps_continue, .ct⟩
theorem ss_doc {z : Str} {j : Nat} : SS M K pn (.Expr (.Constant (.str z) j pos) pos') sSkip := ⟨_, fun _ => ps_doc, .skip⟩
theorem ss_expr (he : SEC M K e f) (hs : ∀ a, swapsWith e none pos.line (M a).env = pure false := by intro _; rfl) : SS M K pn (.Expr e pos) (sExpr f) := let ⟨t, a, b⟩ := he; ⟨_, fun x => ps_expr (a x) (hs x), .expr b⟩
theorem ss_ret (he : SEC M K e f) : SS M K pn (.Return (some e) pos) (sRet f) := let ⟨t, a, b⟩ := he; ⟨_, fun x => ps_ret (a x), .ret b⟩
theorem ss_retN : SS M K pn (.Return none pos) sRetN := ⟨_, fun x => ps_retN, .retN⟩
theorem ss_if {c : Expr} {sa sb : List Stmt} {cc : Ev → Option (Bool × Ev)} (hc : STC M K c cc) (ha : SB M K pn sa g) (hb : SB M K pn sb h) : SS M K pn (.If c sa sb pos) (sIf cc g h) := let ⟨t, a, b⟩ := hc; let ⟨u, a2, b2⟩ := ha; let ⟨v, a3, b3⟩ := hb; ⟨_, fun x => ps_if (a x) (a2 x) (a3 x), .cond b b2 b3⟩
theorem sg_name {i : Nat} (hi : i ∉ pn := by decide) (hN : ∀ a, (M a).N.Nodup) (hx : ∀ a, (M a).N[i]? = some x := by intro _; rfl) (hl : ∀ a, Loc (M a).env.scope x := by intro _; first | exact Or.inl rfl | exact Or.inr rfl)
    (hf : ∀ a, (M a).fn x = true ∨ (M a).env.scope.names.lookup x = some .local := by intro _; first | exact .inl rfl | exact .inr rfl) : SG M K pn (.Name x pos) (tgName i) := ⟨_, fun a => pg_name (hN a) (hx a) (hl a) (hf a), .name hi⟩
theorem sgs_nil : SGs M K pn [] tgNil := ⟨_, fun _ => pgs_nil, .nil⟩
theorem sgs_cons {f : D → Ev → Option Ev} {g : List D → Ev → Option Ev} (h1 : SG M K pn e f) (h2 : SGs M K pn es g) (hs : ∀ a, (assignEach (e :: es) (M a).env).map (·.2) = assign e (M a).env :: (assignEach es (M a).env).map (·.2) := by intro _; rfl) : SGs M K pn (e :: es) (tgCons f g) := let ⟨t, a, b⟩ := h1; let ⟨u, c, d⟩ := h2; ⟨_, fun x => pgs_cons (a x) (c x) (hs x), SatGs.cons b d⟩
theorem sg_tup {j n : Nat} {g : List D → Ev → Option Ev} (hK : ∀ a, (M a).K = K) (hc : ∀ a, (M a).calm = true) (h : SGs M K pn es g) (hn : ∀ a, (assignEach es (M a).env).length = n := by intro _; rfl) (hst : ∀ a, (assignEach es (M a).env).findIdx? (·.1) = none := by intro _; rfl) : SG M K pn (.Tuple es j pos) (tgTup n g) :=
  let ⟨t, a, b⟩ := h; ⟨L2.gTup K n t, fun x => by have := pg_tup (X := M x) (pos := pos) (k := j) (hc x) (a x) (hn x) (hst x); rw [hK x] at this; exact this, SatG.tup b⟩
theorem ss_asg {tg : Expr} {fg : D → Ev → Option Ev} (he : SEC M K e f) (hg : SG M K pn tg fg) (hs : ∀ a, swapsWithSole [tg] e pos.line (M a).env = pure false := by intro _; rfl) (hw : ∀ a, swappedStores [tg] e (M a).env = pure none := by intro _; rfl) (h1 : ∀ a, (assignEach [tg] (M a).env).map (·.2) = [assign tg (M a).env] := by intro _; rfl) : SS M K pn (.Assign [tg] e pos) (sAsg f fg) :=
  let ⟨t, a, b⟩ := he; let ⟨u, c, d⟩ := hg; ⟨_, fun x => ps_asg (a x) (c x) (hs x) (hw x) (h1 x), .asg b d⟩
theorem ss_set {i : Nat} (he : SEC M K e f) (hi : i ∉ pn := by decide) (hN : ∀ a, (M a).N.Nodup) (hx : ∀ a, (M a).N[i]? = some x := by intro _; rfl) (hl : ∀ a, Loc (M a).env.scope x := by intro _; first | exact Or.inl rfl | exact Or.inr rfl)
    (hs : ∀ a, swapsWith e (some (.Name x pos')) pos.line (M a).env = pure false := by intro _; rfl) (hf : ∀ a, (M a).fn x = true ∨ (M a).env.scope.names.lookup x = some .local := by intro _; first | exact .inl rfl | exact .inr rfl) : SS M K pn (.Assign [.Name x pos'] e pos) (sAsg f (tgName i)) :=
  let ⟨t, a, b⟩ := he; ⟨_, fun y => ps_set (hN y) (hx y) (hl y) (a y) (hs y) (hf y), .asg b (.name hi)⟩
end

/-! ### bodies and calls -/
/-- the promise of a def: it computes F; F tells the result and what its arguments are behind it -/
def spF (K : PySem.W.Frag) (n : Nat) (F : List D → Option (D × List D)) : Sp := fun vs H Q _ => ∃ (ds : List D) (L : List Addr) (Lo : Lent) (r : D) (ds' : List D), vs.length = n ∧ Sta K Lo H (so vs) ds L ∧ ds.all D.closed = true ∧ F ds = some (r, ds') ∧
  ∀ v H' L', Ext L H L' H' → Sta K Lo H' (some v :: so vs) (r :: ds') L' → Q v H'
/-- a body with n names as a function of its arguments; pn: the arguments that stay bound to what was handed in -/
def keepArgs (pn : List Nat) (k : Nat) (env : Ev) : List D := (List.range k).map fun i => if i ∈ pn then env.getD i .und else .und
def fnD (n k : Nat) (pn : List Nat) (body : Ev → Option Out) : List D → Option (D × List D) := fun ds =>
  if ds.length = k then
    match body (ds ++ List.replicate (n - k) .und) with
    | some (.rt d env) => if d.closed then some (d, keepArgs pn k env) else none
    | some (.nx env) => some (.non, keepArgs pn k env)
    | _ => none
  else none
section
variable {K : PySem.W.Frag}
theorem dens_unds {H : Hp} {N : Fl → Addr → Prop} : ∀ {σ : List (Option V)} {ds : List D} {L : List Addr}, Dens K H N σ ds L → ∀ m : Nat, Dens K H N (σ ++ List.replicate m none) (ds ++ List.replicate m .und) L := fun {σ ds L} h m => by
  have u : ∀ m : Nat, Dens K H N (List.replicate m none) (List.replicate m .und) [] := fun m => by
    induction m with
    | zero => exact .nil
    | succ m ih => exact .und ih
  have := h.app (u m)
  rw [List.append_nil] at this
  exact this
theorem keep_dens {H : Hp} {N : Fl → Addr → Prop} {pn : List Nat} {vs : List V} {σ : List (Option V)} {env : Ev} {L : List Addr} (hd : Dens K H N σ env L) (hp : ∀ i ∈ pn, i < vs.length → σ[i]? = some (vs[i]?)) :
    ∃ M, M.Sublist L ∧ Dens K H N (so vs) (keepArgs pn vs.length env) M := by
  -- a slot list is cut down place by place
  have gen : ∀ (k : Nat) {σ : List (Option V)} {env : Ev} {L : List Addr} (ws : List V) (P : Nat → Bool), Dens K H N σ env L → ws.length = k → (∀ i, P i = true → i < k → σ[i]? = some (ws[i]?)) →
      ∃ M, M.Sublist L ∧ Dens K H N (so ws) ((List.range k).map fun i => if P i = true then env.getD i .und else .und) M := by
    intro k
    induction k with
    | zero =>
      intro σ env L ws P hd hl _
      obtain rfl : ws = [] := List.eq_nil_of_length_eq_zero hl
      exact ⟨[], List.nil_sublist _, .nil⟩
    | succ k ih =>
      intro σ env L ws P hd hl hp
      match ws, hl with
      | w :: ws, hl =>
        have hl' : ws.length = k := Nat.succ.inj hl
        rw [List.range_succ_eq_map, List.map_cons, List.map_map]
        match σ, env, hd with
        | [], [], hd =>
          cases hd
          obtain ⟨M, s, q⟩ := ih ws (fun i => P (i + 1)) (.nil : Dens K H N [] [] []) hl' (fun i pi hi => by have := hp (i + 1) pi (Nat.succ_lt_succ hi); simp at this)
          refine ⟨M, s, ?_⟩
          have e0 : (if P 0 = true then ([] : Ev).getD 0 .und else .und) = D.und := by split <;> rfl
          rw [e0]
          exact .und q
        | o :: σ, d :: env, hd =>
          obtain ⟨L1, L2, rfl, h1, h2⟩ := hd.cons
          obtain ⟨M, s, q⟩ := ih ws (fun i => P (i + 1)) h2 hl' (fun i pi hi => by have := hp (i + 1) pi (Nat.succ_lt_succ hi); simpa using this)
          by_cases p0 : P 0 = true
          · have := hp 0 p0 (Nat.succ_pos _)
            simp at this
            subst this
            refine ⟨L1 ++ M, List.Sublist.append (List.Sublist.refl _) s, ?_⟩
            rw [if_pos p0]
            exact h1.put q
          · refine ⟨M, s.trans (List.sublist_append_right ..), ?_⟩
            rw [if_neg p0]
            exact .und q
        | [], _ :: _, hd => cases hd.length
        | _ :: _, [], hd => cases hd.length
  obtain ⟨M, s, q⟩ := gen vs.length vs (fun i => decide (i ∈ pn)) hd rfl (fun i pi hi => hp i (of_decide_eq_true pi) hi)
  refine ⟨M, s, ?_⟩
  unfold keepArgs
  have : (fun i => if i ∈ pn then env.getD i .und else .und) = fun i => if decide (i ∈ pn) = true then env.getD i D.und else .und := by funext i; by_cases h : i ∈ pn <;> simp [h]
  rw [this]
  exact q
variable {P : Program} {w : World} {mg : Str → Option Value} {base : Heap}
/-- a body's statements: nothing is held beside them -/
structure SatS0 (K : PySem.W.Frag) (pn : List Nat) (t : TS) (f : Ev → Option Out) : Prop where
  run : ∀ (σ : L2.St) (H : Hp) (env : Ev) (L : List Addr) (Lo : Lent) (pv : Nat → V), Pins pn pv σ → Sta K Lo H ([] ++ σ) ([] ++ env) L → ∀ o, f env = some o → ∀ E : Ends, EndsOk K Lo pn pv [] [] L H E o → t E σ H
theorem SatS.z {pn : List Nat} {t : TS} {f : Ev → Option Out} (h : SatS K pn t f) : SatS0 K pn t f := ⟨fun σ H env L Lo pv p s o e E k => h.run σ H env [] [] L Lo pv rfl rfl p s o e E k⟩
def SB0 {α : Type} (M : α → Cx) (K : PySem.W.Frag) (pn : List Nat) (st : List Stmt) (f : Ev → Option Out) : Prop := ∃ t : TS, (∀ a, PSs (M a) st t) ∧ SatS0 K pn t f
theorem SB.z {α : Type} {M : α → Cx} {pn : List Nat} {st : List Stmt} {f : Ev → Option Out} (h : SB M K pn st f) : SB0 M K pn st f := let ⟨t, h1, h2⟩ := h; ⟨t, h1, h2.z⟩
/-- THE RULE for a def by the trees: its body computes f -/
theorem fn_ok {x qual : Str} {st : Stmt} {f : Addr} {fd : FuncData} {N ps : List Str} {k n : Nat} {pn : List Nat} {body : Ev → Option Out} (F : L2.Fun K x qual st f fd) (S : FnScope N ps (defScope st)) (hn : N.length = n) (hpn : ∀ i ∈ pn, i < ps.length)
    (hb : ∀ (cdv : Value) (β : Type) (mk : β → Around × List PySem.Env × Shared × Hp × XK) (hr : ∀ b, Room k ((mk b).1.deeper (envOfC qual (defScope st) (mk b).2.2.1.heap.objs.size f cdv))),
      SB0 (fun b : β => (cxOf CX0 P w K mg base N qual (defScope st) f cdv (mk b).1 (mk b).2.1 (mk b).2.2.1 (mk b).2.2.2.1 (mk b).2.2.2.2).nox) K pn (defBody st) body) :
    FnOk P w K mg base CX0 (k + 1) f fd ps (spF K ps.length (fnD n ps.length pn body)) := by
  refine F.ok S (fun vs H Q E h => ?_) (fun cdv A outer s H vs Q E hr h => ?_)
  · obtain ⟨ds, L, Lo, r, ds', hv, _⟩ := h
    exact hv
  · obtain ⟨ds, L, Lo, r, ds', hv, hs, cl, e, post⟩ := h
    obtain ⟨t, ht, sat⟩ := hb cdv Unit (fun _ => (A, outer, s, H, E)) (fun _ => hr)
    refine ⟨t, ht (), ?_⟩
    have hlen := len_so hs.dens
    unfold fnD at e
    split at e
    · rename_i hk
      have st0 : L2.start N vs = so vs ++ List.replicate (n - ps.length) none := by
        unfold L2.start
        rw [hv, hn]
      have sta : Sta K Lo H ([] ++ L2.start N vs) ([] ++ (ds ++ List.replicate (n - ps.length) .und)) L := by
        rw [st0]
        exact ⟨hs.good, dens_unds hs.dens _⟩
      have pins : Pins pn (fun i => vs.getD i .non) (L2.start N vs) := fun i hi => by
        have hiv : i < vs.length := by rw [hv]; exact hpn i hi
        rw [st0, List.getElem?_append_left (by rw [List.length_map]; exact hiv), List.getElem?_map, List.getElem?_eq_getElem hiv]
        simp [hiv]
      have fin : ∀ {v : V} {d : D} {σ' : L2.St} {H' : Hp} {L' : List Addr} {env : Ev}, d = r → keepArgs pn ps.length env = ds' → Pins pn (fun i => vs.getD i .non) σ' → Sta K Lo H' (some v :: ([] ++ σ')) (d :: ([] ++ env)) L' → Ext L H L' H' → Q v H' := by
        intro v d σ' H' L' env e1 e2 p s' x'
        subst e1 e2
        obtain ⟨L1, L2, rfl, h1, h2⟩ := Dens.cons (σ := σ') (ds := env) s'.dens
        obtain ⟨M, sb, q⟩ := keep_dens (vs := vs) h2 (fun i hi hiv => by rw [p i hi]; simp [hiv])
        rw [hv] at q
        have sb2 := List.Sublist.append (List.Sublist.refl L1) sb
        have mem : ∀ a ∈ L1 ++ M, a ∈ L1 ++ L2 := fun a ha => sb2.subset ha
        exact post v H' (L1 ++ M) (x'.sub mem) ⟨s'.good.sub (sb2.nodup s'.good.nd) mem, (h1.put q).know fun f a n _ => nw_sub mem f a n⟩
      split at e
      · rename_i d env e1
        split at e
        · obtain ⟨e2, e3⟩ := Prod.mk.inj (Option.some.inj e)
          exact sat.run _ _ _ L Lo (fun i => vs.getD i .non) pins sta _ e1 _ fun v σ' H' L' p s' x' => fin e2 e3 p s' x'
        · cases e
      · rename_i env e1
        obtain ⟨e2, e3⟩ := Prod.mk.inj (Option.some.inj e)
        exact sat.run _ _ _ L Lo (fun i => vs.getD i .non) pins sta _ e1 _ fun σ' H' L' p s' x' => fin (v := .non) e2 e3 p ⟨s'.good, .non s'.dens⟩ x'
      · cases e
    · cases e
end
end TL

set_option Elab.async false
set_option linter.all false
set_option maxRecDepth 100000
/-! TL7: calls of defs, of methods, of classes. -/
namespace TL
open PySem PySem.Spec PyProof.Rows L2

def v2p : Fl → Fl
  | .view => .pv
  | f => f
def p2v : Fl → Fl
  | .pv => .view
  | f => f
/-- nothing of a caller's, nothing viewed -/
def D.noPv (d : D) : Bool := D.allF (fun f => decide (f ≠ .pv ∧ f ≠ .view)) d
def lentOnly : List (Option Nat) → List D → List D
  | none :: ld, _ :: ds => .und :: lentOnly ld ds
  | some _ :: ld, d :: ds => d :: lentOnly ld ds
  | [], ds => ds.map fun _ => .und
  | _ :: _, [] => []
/-- what was lent goes back into its slots -/
def giveBack : List (Option Nat) → List D → Ev → Option Ev
  | [], _, env => some env
  | none :: ld, _ :: ds, env => giveBack ld ds env
  | some i :: ld, d :: ds, env => if (env.getD i .non).isUnd then giveBack ld ds (env.set i d) else none
  | _ :: _, [], _ => none
/-- what comes of a call, in the caller's words -/
def callOut (ld : List (Option Nat)) (ds : List D) (r : D) (ds' : List D) (e1 : Ev) : Option (D × Ev) :=
  if r.closed && ((ds.map (D.mapF v2p)).all D.closed && (lentOnly ld ds').all D.noPv) then
    match giveBack ld (lentOnly ld ds') e1 with
    | none => none
    | some e2 => some (if ds.all D.closed then r else D.mapF p2v r, e2)
  else none
def eCall (n : Nat) (ld : List (Option Nat)) (F : List D → Option (D × List D)) (fs : Ev → Option (List D × Ev)) : Ev → Option (D × Ev) := fun env =>
  match fs env with
  | none => none
  | some (ds, e1) => if ds.length = n then (match F (ds.map (D.mapF v2p)) with
    | none => none
    | some (r, ds') => callOut ld ds r ds' e1) else none

section
variable {K : PySem.W.Frag}
theorem set_same {α : Type} : ∀ {l : List α} {i : Nat} {x : α}, l[i]? = some x → l.set i x = l
  | [], _, _, h => by simp at h
  | y :: l, 0, x, h => by simp at h; subst h; rfl
  | y :: l, i + 1, x, h => by
    rw [List.set_cons_succ, set_same (by simpa using h)]
theorem give_dens {H : Hp} {N : Fl → Addr → Prop} : ∀ {ld : List (Option Nat)} {vs : List V} {ds : List D} {σ : List (Option V)} {env env' : Ev} {L Lx : List Addr}, Dens K H N (so vs) ds Lx → Dens K H N σ env L → (∀ (p i : Nat), ld[p]? = some (some i) → ∃ v, vs[p]? = some v ∧ σ[i]? = some (some v)) →
    giveBack ld ds env = some env' → ∃ L2, (∀ a ∈ L2, a ∈ Lx ∨ a ∈ L) ∧ ((Lx ++ L).Nodup → L2.Nodup) ∧ Dens K H N σ env' L2 ∧ (ld.all Option.isNone = true → L2 = L ∧ env' = env)
  | [], vs, ds, σ, env, env', L, Lx, hx, h, hl, e => by
    cases e
    exact ⟨L, fun _ h => .inr h, fun h => (List.nodup_append.mp h).2.1, h, fun _ => ⟨rfl, rfl⟩⟩
  | o :: ld, vs, [], σ, env, env', L, Lx, hx, h, hl, e => by cases o <;> cases e
  | o :: ld, [], d :: ds, σ, env, env', L, Lx, hx, h, hl, e => by cases hx.length
  | none :: ld, v :: vs, d :: ds, σ, env, env', L, Lx, hx, h, hl, e => by
    obtain ⟨L1, L2, rfl, h1, h2⟩ := Dens.cons (σ := so vs) hx
    obtain ⟨L3, a, b, c, c4⟩ := give_dens h2 h (fun p i hp => by simpa using hl (p + 1) i (by simpa using hp)) (show giveBack ld ds env = some env' from e)
    refine ⟨L3, fun x hx => (a x hx).imp (List.mem_append_right _) id, fun nd => b ?_, c, fun z => c4 (by simpa using z)⟩
    rw [List.append_assoc] at nd
    exact (List.nodup_append.mp nd).2.1
  | some i :: ld, v :: vs, d :: ds, σ, env, env', L, Lx, hx, h, hl, e => by
    obtain ⟨L1, L2, rfl, h1, h2⟩ := Dens.cons (σ := so vs) hx
    unfold giveBack at e
    split at e
    · rename_i hu
      have hi : i < env.length := by
        refine Classical.byContradiction fun z => ?_
        have : env.getD i .non = .non := by simp [List.getD_eq_getElem?_getD, List.getElem?_eq_none (Nat.le_of_not_lt z)]
        rw [this] at hu
        cases hu
      obtain ⟨v', e1, e2⟩ := hl 0 i rfl
      simp at e1
      subst e1
      obtain ⟨M, L3, sb, pm, c⟩ := Dens.setAt h1 h i hi
      rw [set_same e2] at c
      obtain ⟨L4, a2, b2, c2, _⟩ := give_dens h2 c (fun p j hp => by simpa using hl (p + 1) j (by simpa using hp)) e
      refine ⟨L4, fun x hx => ?_, fun nd => b2 ?_, c2, fun z => by simp at z⟩
      · rcases a2 x hx with z | z
        · exact .inl (List.mem_append_right _ z)
        · rcases List.mem_append.mp (pm.mem_iff.mp z) with z | z
          · exact .inl (List.mem_append_left _ z)
          · exact .inr (sb.subset z)
      · have p1 : (L2 ++ L3).Perm ((L1 ++ L2) ++ M) := (List.Perm.append_left L2 pm).trans (by rw [← List.append_assoc]; exact List.Perm.append_right _ List.perm_append_comm)
        exact p1.nodup_iff.mpr ((List.Sublist.append (List.Sublist.refl _) sb).nodup nd)
    · cases e
/-- a slot that is lent -/
theorem SatA.lend {q' : Bool} {ld : List (Option Nat)} {ta : TA} {fs : Ev → Option (List D × Ev)} (i : Nat) (h' : SatA K q' ld ta fs) : SatA K (false && q') (some i :: ld) (tCons (tVar i) ta) (aCons (eMove i) fs) := by
  refine SatA.consL (fun σ H env ts td L Lo hl s d env' e Q k => ?_) h'
  unfold eMove at e
  split at e
  · rename_i d0 e1
    split at e
    · cases e
    · rename_i c
      obtain ⟨rfl, rfl⟩ := Prod.mk.inj (Option.some.inj e)
      obtain ⟨Lt, Le, rfl, h1, h2⟩ := Dens.split hl s.dens
      obtain ⟨o, L1, L2, q1, q2, q3, q4⟩ := h2.take e1
      obtain ⟨v, rfl⟩ := q3.some1 (und_ne c)
      have pm : (Lt ++ Le).Perm (L1 ++ (Lt ++ L2)) := (List.Perm.append_left Lt q2).trans (by rw [← List.append_assoc, ← List.append_assoc]; exact List.Perm.append_right _ List.perm_append_comm)
      have g := s.good.perm pm
      have kn : ∀ f a, Nw (Lt ++ Le) Lo f a → H a ≠ none → Nw (L1 ++ (Lt ++ L2)) Lo f a := fun f a n _ => nw_sub (fun x hx => pm.mem_iff.mpr hx) f a n
      exact ⟨v, q1, k v H L1 (Lt ++ L2) ⟨g, q3.know kn, (h1.know kn).app (q4.know kn), (Ext.refl _ _).sub fun a ha => pm.mem_iff.mpr ha, fun z => by cases z⟩ fun j hj => by cases hj; exact q1⟩
  · cases e

theorem lent_dens {H : Hp} {N : Fl → Addr → Prop} : ∀ {ld : List (Option Nat)} {vs : List V} {ds : List D} {Lx : List Addr}, Dens K H N (so vs) ds Lx → ∃ M, M.Sublist Lx ∧ Dens K H N (so vs) (lentOnly ld ds) M
  | [], [], [], Lx, h => ⟨[], List.nil_sublist _, .nil⟩
  | [], v :: vs, d :: ds, Lx, h => by
    obtain ⟨L1, L2, rfl, h1, h2⟩ := Dens.cons (σ := so vs) h
    obtain ⟨M, s, q⟩ := lent_dens (ld := []) h2
    exact ⟨M, s.trans (List.sublist_append_right ..), .und q⟩
  | [], [], _ :: _, Lx, h => by cases h.length
  | [], _ :: _, [], Lx, h => by cases h.length
  | o :: ld, [], [], Lx, h => by cases o <;> exact ⟨[], List.nil_sublist _, .nil⟩
  | none :: ld, v :: vs, d :: ds, Lx, h => by
    obtain ⟨L1, L2, rfl, h1, h2⟩ := Dens.cons (σ := so vs) h
    obtain ⟨M, s, q⟩ := lent_dens (ld := ld) h2
    exact ⟨M, s.trans (List.sublist_append_right ..), .und q⟩
  | some i :: ld, v :: vs, d :: ds, Lx, h => by
    obtain ⟨L1, L2, rfl, h1, h2⟩ := Dens.cons (σ := so vs) h
    obtain ⟨M, s, q⟩ := lent_dens (ld := ld) h2
    exact ⟨L1 ++ M, List.Sublist.append (List.Sublist.refl _) s, h1.put q⟩
  | _ :: _, [], _ :: _, Lx, h => by cases h.length
  | _ :: _, _ :: _, [], Lx, h => by cases h.length

/-- behind a call: what the callee hands back, in the caller's words -/
theorem Came.call {Lo : Lent} {q : Bool} {H H1 : Hp} {ts σ : List (Option V)} {td : List D} {env e1 e2 : Ev} {L Lr Lb : List Addr} {vs : List V} {ds ds' : List D} {r r' : D} {ld : List (Option Nat)} {Q : VK} {F : List D → Option (D × List D)} {n : Nat} (hl : ts.length = td.length) (hn : vs.length = n)
    (c : Came K Lo q H (ts ++ σ) td env L H1 vs ds e1 Lr Lb) (hlend : ∀ (p i : Nat), ld[p]? = some (some i) → ∃ v, vs[p]? = some v ∧ σ[i]? = some (some v))
    (eF : F (ds.map (D.mapF v2p)) = some (r, ds')) (eg : callOut ld ds r ds' e1 = some (r', e2))
    (k : ∀ v H' Lr' Lb', Came K Lo (q && ld.all Option.isNone) H (ts ++ σ) td env L H' [v] [r'] e2 Lr' Lb' → (∀ a, H1 a ≠ none → a ∉ Lr → H' a = H1 a) → Q v H') : spF K n F vs H1 Q E0 := by
  unfold callOut at eg
  split at eg
  · rename_i chk
    rw [Bool.and_eq_true, Bool.and_eq_true] at chk
    obtain ⟨hr, hc, hp⟩ := chk
    split at eg
    · cases eg
    · rename_i e2' egb
      obtain ⟨rfl, rfl⟩ := Prod.mk.inj (Option.some.inj eg)
      have nd0 := List.nodup_append.mp c.good.nd
      have lvb : ∀ a ∈ Lb, H1 a ≠ none := c.base.live
      let LoC : Lent := fun f a => (f ≠ .view ∧ a ∈ Lb) ∨ (f ≠ .view ∧ (f = .pv → ds.all D.closed = true) ∧ Lo f a)
      have gC : Good Lr LoC H1 := ⟨nd0.1, fun f a ha z => z.elim (fun z => nd0.2.2 a ha a z.2 rfl) fun z => c.good.no f a (List.mem_append_left _ ha) z.2.2, fun f a z => z.elim (fun z => ⟨lvb a z.2, c.base.notup a z.2⟩) fun z => c.good.lent f a z.2.2, fun a z => z.elim (fun z => z.1 rfl) fun z => z.1 rfl⟩
      have kn : ∀ f a, Nw (Lr ++ Lb) Lo f a → Nw Lr LoC f a := fun f a n => ⟨fun z => n.1 (List.mem_append_left _ z), fun z => z.elim (fun z => n.1 (List.mem_append_right _ z.2)) fun z => n.2 z.2.2⟩
      have dC : Dens K H1 (Nw Lr LoC) (so vs) (ds.map (D.mapF v2p)) Lr := by
        by_cases nv : ds.all D.closed = true
        · have h1 := c.top.knowC (p := fun f => decide (f ≠ .view)) (N' := fun f a => f ≠ .view ∧ Nw Lr LoC f a) (fun f a hf hp n _ => ⟨by simpa using hp, kn f a n⟩) (fun a us n _ => ⟨by decide, kn _ a n⟩) (fun a o us n _ => ⟨by decide, kn _ a n⟩) nv
          have h2 := Dens.turn (g := v2p) (N' := Nw Lr LoC) rfl (fun f hf => by cases f <;> first | rfl | cases hf) h1 (.inl rfl) (fun f a _ n _ => by
            cases f with
            | view => exact absurd rfl n.1
            | own => exact n.2
            | frz => exact n.2
            | pv => exact n.2
            | ext => exact n.2) (fun a n _ => n.2)
          exact h2
        · have h2 := Dens.turn (g := v2p) (N' := Nw Lr LoC) rfl (fun f hf => by cases f <;> first | rfl | cases hf) c.top (.inl rfl) (fun f a _ n _ => by
            cases f with
            | view => exact ⟨fun z => n.1 (List.mem_append_left _ z), fun z => z.elim (fun z => n.1 (List.mem_append_right _ z.2)) fun z => nv (z.2.1 rfl)⟩
            | own => exact kn _ a n
            | frz => exact kn _ a n
            | pv => exact kn _ a n
            | ext => exact kn _ a n) (fun a n _ => kn _ a n)
          exact h2
      refine ⟨ds.map (D.mapF v2p), Lr, LoC, r, ds', hn, ⟨gC, dC⟩, hc, eF, fun v H2 L2 x s2 => ?_⟩
      obtain ⟨L21, L22, rfl, h1, h2⟩ := Dens.cons (σ := so vs) s2.dens
      obtain ⟨Lt, Le, rfl, b1, b2⟩ := Dens.split hl c.base
      have nd2 := List.nodup_append.mp s2.good.nd
      have ndb := List.nodup_append.mp nd0.2.1
      have apart : ∀ a ∈ L21 ++ L22, a ∉ Lt ++ Le := fun a ha z => (x.own a ha).elim (fun y => nd0.2.2 a y a z rfl) (lvb a z)
      have own2 : ∀ a ∈ L21 ++ L22, a ∈ (Lr ++ (Lt ++ Le)) ∨ H1 a = none := fun a ha => (x.own a ha).imp (List.mem_append_left _) id
      have nLr : ∀ a ∈ Lt ++ Le, a ∉ Lr := fun a ha z => nd0.2.2 a z a ha rfl
      have keepLo : ∀ f a, Lo f a → H2 a = H1 a := fun f a lo => x.keep a (c.good.lent f a lo).1 fun z => c.good.no f a (List.mem_append_left _ z) lo
      have ob : ∀ a ∈ (L21 ++ L22) ++ (Lt ++ Le), a ∈ (Lr ++ (Lt ++ Le)) ∨ H1 a = none := fun a ha => (List.mem_append.mp ha).elim (own2 a) fun z => .inl (List.mem_append_right _ z)
      have env1 : Dens K H2 (Nw ((L21 ++ L22) ++ (Lt ++ Le)) Lo) σ e1 Le := b2.over x (fun a ha => nLr a (List.mem_append_right _ ha)) (fun a ha => List.mem_append_left _ ha) ob
      have tmp1 : Dens K H2 (Nw ((L21 ++ L22) ++ (Lt ++ Le)) Lo) ts td Lt := b1.over x (fun a ha => nLr a (List.mem_append_left _ ha)) (fun a ha => List.mem_append_left _ ha) ob
      -- knowledge of the callee is knowledge here
      have kc : ∀ f a, f ≠ .view → f ≠ .pv → Nw (L21 ++ L22) LoC f a → Nw ((L21 ++ L22) ++ (Lt ++ Le)) Lo f a := fun f a hv hpv n => ⟨fun z => (List.mem_append.mp z).elim n.1 fun z => n.2 (.inl ⟨hv, z⟩), fun lo => n.2 (.inr ⟨hv, fun e => absurd e hpv, lo⟩)⟩
      obtain ⟨M, sbM, h3⟩ := lent_dens (ld := ld) h2
      have h4 : Dens K H2 (Nw ((L21 ++ L22) ++ (Lt ++ Le)) Lo) (so vs) (lentOnly ld ds') M := h3.knowC (p := fun f => decide (f ≠ .pv ∧ f ≠ .view)) (fun f a hf hp n _ => by
        have := of_decide_eq_true hp
        exact kc f a this.2 this.1 n) (fun a us n _ => kc _ a (by decide) (by decide) n) (fun a o us n _ => kc _ a (by decide) (by decide) n) hp
      obtain ⟨L4, m4, n4, d4, z4⟩ := give_dens h4 env1 hlend egb
      have memf : ∀ a ∈ L21 ++ (Lt ++ L4), a ∈ (L21 ++ L22) ++ (Lt ++ Le) := fun a ha => by
        rcases List.mem_append.mp ha with z | z
        · exact List.mem_append_left _ (List.mem_append_left _ z)
        · rcases List.mem_append.mp z with z | z
          · exact List.mem_append_right _ (List.mem_append_left _ z)
          · rcases m4 a z with z | z
            · exact List.mem_append_left _ (List.mem_append_right _ (sbM.subset z))
            · exact List.mem_append_right _ (List.mem_append_right _ z)
      have nd4 : L4.Nodup := n4 (List.nodup_append.mpr ⟨sbM.nodup nd2.2.1, ndb.2.1, fun a ha b hb e => by subst e; exact apart a (List.mem_append_right _ (sbM.subset ha)) (List.mem_append_right _ hb)⟩)
      have ndf : (L21 ++ (Lt ++ L4)).Nodup := by
        refine List.nodup_append.mpr ⟨nd2.1, List.nodup_append.mpr ⟨ndb.1, nd4, fun a ha b hb e => ?_⟩, fun a ha b hb e => ?_⟩
        · subst e
          rcases m4 a hb with z | z
          · exact apart a (List.mem_append_right _ (sbM.subset z)) (List.mem_append_left _ ha)
          · exact ndb.2.2 a ha a z rfl
        · subst e
          rcases List.mem_append.mp hb with z | z
          · exact apart a (List.mem_append_left _ ha) (List.mem_append_left _ z)
          · rcases m4 a z with z | z
            · exact nd2.2.2 a ha a (sbM.subset z) rfl
            · exact apart a (List.mem_append_left _ ha) (List.mem_append_right _ z)
      have gf : Good (L21 ++ (Lt ++ L4)) Lo H2 := by
        refine ⟨ndf, fun f a ha lo => ?_, fun f a lo => ?_, c.good.nov⟩
        · exact (ob a (memf a ha)).elim (fun z => c.good.no f a z lo) (c.good.lent f a lo).1
        · rw [keepLo f a lo]; exact c.good.lent f a lo
      have fin : ∀ f a, Nw ((L21 ++ L22) ++ (Lt ++ Le)) Lo f a → Nw (L21 ++ (Lt ++ L4)) Lo f a := nw_sub memf
      have top : Dens K H2 (Nw (L21 ++ (Lt ++ L4)) Lo) (so [v]) [if ds.all D.closed then r else D.mapF p2v r] L21 := by
        by_cases nv : ds.all D.closed = true
        · rw [if_pos nv]
          refine h1.knowC (p := fun f => decide (f ≠ .view)) (fun f a hf hp n _ => ?_) (fun a us n _ => fin _ a (kc _ a (by decide) (by decide) n)) (fun a o us n _ => fin _ a (kc _ a (by decide) (by decide) n)) (by rw [List.all_cons, List.all_nil, Bool.and_true]; exact hr)
          have hv : f ≠ .view := by simpa using hp
          exact fin f a ⟨fun z => (List.mem_append.mp z).elim n.1 fun z => n.2 (.inl ⟨hv, z⟩), fun lo => n.2 (.inr ⟨hv, fun _ => nv, lo⟩)⟩
        · rw [if_neg nv]
          have q1 := h1.knowC (p := fun f => decide (f ≠ .view)) (N' := fun f a => f ≠ .view ∧ Nw (L21 ++ L22) LoC f a) (fun f a hf hp n _ => ⟨by simpa using hp, n⟩) (fun a us n _ => ⟨by decide, n⟩) (fun a o us n _ => ⟨by decide, n⟩) (by rw [List.all_cons, List.all_nil, Bool.and_true]; exact hr)
          have q2 := Dens.turn (g := p2v) (N' := Nw (L21 ++ (Lt ++ L4)) Lo) rfl (fun f hf => by cases f <;> first | rfl | cases hf) q1 (.inl rfl) (fun f a _ n _ => by
            cases f with
            | view => exact absurd rfl n.1
            | own => exact fin _ a (kc _ a (by decide) (by decide) n.2)
            | frz => exact fin _ a (kc _ a (by decide) (by decide) n.2)
            | pv => exact fin _ a ⟨fun z => (List.mem_append.mp z).elim n.2.1 fun z => n.2.2 (.inl ⟨by decide, z⟩), c.good.nov a⟩
            | ext => exact fin _ a (kc _ a (by decide) (by decide) n.2)) (fun a n _ => fin _ a (kc _ a (by decide) (by decide) n.2))
          exact q2
      refine k v H2 L21 (Lt ++ L4) ⟨gf, top, (tmp1.know fun f a n _ => fin f a n).app (d4.know fun f a n _ => fin f a n), ?_, fun qq => ?_⟩ fun a h nh => x.keep a h nh
      · exact c.ext.trans ⟨fun a h nh => x.keep a h fun z => nh (List.mem_append_left _ z), fun a ha => ob a (memf a ha), x.live⟩
      · rw [Bool.and_eq_true] at qq
        obtain ⟨e0, s0, l0, f0⟩ := c.quiet qq.1
        obtain ⟨rfl, rfl⟩ := z4 qq.2
        refine ⟨e0, fun a h => ?_, l0, fun a ha => ?_⟩
        · have h1' : H1 a ≠ none := by rw [s0 a h]; exact h
          rw [x.keep a h1' fun z => h (f0 a z), s0 a h]
        · rcases x.own a (List.mem_append_left _ ha) with z | z
          · exact f0 a z
          · exact Classical.byContradiction fun w => (by rw [s0 a w]; exact w : H1 a ≠ none) z
  · cases eg
end
end TL

set_option Elab.async false
set_option linter.all false
set_option maxRecDepth 100000
/-! TL8: a mode for effects; calls as expressions. -/
namespace TL
open PySem PySem.Spec PyProof.Rows L2

/-- the slots of the mask from the first, the others from the second -/
def mergeM : List Bool → Ev → Ev → Ev
  | true :: bs, d :: ds, _ :: es => d :: mergeM bs ds es
  | false :: bs, _ :: ds, e :: es => e :: mergeM bs ds es
  | [], _, es => es
  | _ :: _, [], es => es
  | _ :: _, _ :: _, [] => []
def keepM : List Bool → Ev → Ev
  | true :: bs, d :: ds => d :: keepM bs ds
  | false :: bs, _ :: ds => .und :: keepM bs ds
  | [], ds => ds.map fun _ => .und
  | _ :: _, [] => []
def dropM : List Bool → Ev → Ev
  | true :: bs, _ :: ds => .und :: dropM bs ds
  | false :: bs, d :: ds => d :: dropM bs ds
  | [], ds => ds
  | _ :: _, [] => []
def eMode (mask : List Bool) (f : Ev → Option (D × Ev)) : Ev → Option (D × Ev) := fun env =>
  match f (mergeM mask env (env.map D.view)) with
  | none => none
  | some (d, e') => if d.closed && (keepM mask e').all D.closed then some (d, mergeM mask e' env) else none
section
variable {K : PySem.W.Frag}
theorem Dens.part {H : Hp} {N : Fl → Addr → Prop} : ∀ {mask : List Bool} {σ : List (Option V)} {env : Ev} {L : List Addr}, Dens K H N σ env L → ∃ L1 L2, L.Perm (L1 ++ L2) ∧ Dens K H N σ (keepM mask env) L1 ∧ Dens K H N σ (dropM mask env) L2
  | [], σ, env, L, h => by
    refine ⟨[], L, List.Perm.refl _, ?_, h⟩
    have u : ∀ {σ : List (Option V)} {env : Ev}, σ.length = env.length → Dens K H N σ (env.map fun _ => D.und) [] := by
      intro σ
      induction σ with
      | nil => intro env e; cases env with
        | nil => exact .nil
        | cons _ _ => cases e
      | cons o σ ih => intro env e; cases env with
        | nil => cases e
        | cons _ _ => exact .und (ih (Nat.succ.inj e))
    exact u h.length
  | c :: bs, σ, [], L, h => by
    have := h.length
    obtain rfl : σ = [] := List.eq_nil_of_length_eq_zero this
    cases h
    cases c <;> exact ⟨[], [], List.Perm.refl _, .nil, .nil⟩
  | b :: bs, [], _ :: _, L, h => by cases h.length
  | true :: bs, o :: σ, d :: env, L, h => by
    obtain ⟨A1, A2, rfl, q1, q2⟩ := h.cons
    obtain ⟨L1, L2, pm, k1, k2⟩ := Dens.part (mask := bs) q2
    exact ⟨A1 ++ L1, L2, by rw [List.append_assoc]; exact List.Perm.append_left A1 pm, q1.put k1, .und k2⟩
  | false :: bs, o :: σ, d :: env, L, h => by
    obtain ⟨A1, A2, rfl, q1, q2⟩ := h.cons
    obtain ⟨L1, L2, pm, k1, k2⟩ := Dens.part (mask := bs) q2
    refine ⟨L1, A1 ++ L2, ?_, .und k1, q1.put k2⟩
    exact (List.Perm.append_left A1 pm).trans (by rw [← List.append_assoc, ← List.append_assoc]; exact List.Perm.append_right _ List.perm_append_comm)
theorem Dens.merge {H : Hp} {N : Fl → Addr → Prop} : ∀ {mask : List Bool} {σ : List (Option V)} {A B : Ev} {L1 L2 : List Addr}, Dens K H N σ (keepM mask A) L1 → Dens K H N σ (dropM mask B) L2 → ∃ L, L.Perm (L1 ++ L2) ∧ Dens K H N σ (mergeM mask A B) L
  | [], σ, A, B, L1, L2, h1, h2 => by
    have l1 : L1 = [] := noOwn_nil h1 (by
      show ((A.map fun _ => D.und).all D.noOwn) = true
      rw [List.all_map]
      exact List.all_eq_true.mpr fun _ _ => rfl)
    subst l1
    exact ⟨L2, List.Perm.refl _, h2⟩
  | c :: bs, σ, [], B, L1, L2, h1, h2 => by
    have h1' : Dens K H N σ [] L1 := by cases c <;> exact h1
    cases h1'
    cases B with
    | nil =>
      have h2' : Dens K H N [] [] L2 := by cases c <;> exact h2
      cases h2'
      cases c <;> exact ⟨[], List.Perm.refl _, .nil⟩
    | cons b B => cases c <;> cases h2.length
  | c :: bs, σ, a :: A, [], L1, L2, h1, h2 => by
    have h2' : Dens K H N σ [] L2 := by cases c <;> exact h2
    cases h2'
    cases c <;> cases h1.length
  | c :: bs, [], a :: A, b :: B, L1, L2, h1, h2 => by cases c <;> cases h1.length
  | true :: bs, o :: σ, a :: A, b :: B, L1, L2, h1, h2 => by
    obtain ⟨A1, A2, rfl, q1, q2⟩ := Dens.cons (ds := keepM bs A) h1
    obtain ⟨B1, B2, rfl, r1, r2⟩ := Dens.cons (ds := dropM bs B) h2
    cases r1
    rename_i r1; cases r1
    obtain ⟨L, pm, q⟩ := Dens.merge q2 r2
    exact ⟨A1 ++ L, by rw [List.append_assoc]; exact List.Perm.append_left A1 pm, q1.put q⟩
  | false :: bs, o :: σ, a :: A, b :: B, L1, L2, h1, h2 => by
    obtain ⟨A1, A2, rfl, q1, q2⟩ := Dens.cons (ds := keepM bs A) h1
    obtain ⟨B1, B2, rfl, r1, r2⟩ := Dens.cons (ds := dropM bs B) h2
    cases q1
    rename_i q1; cases q1
    obtain ⟨L, pm, q⟩ := Dens.merge q2 r2
    refine ⟨B1 ++ L, ?_, r1.put q⟩
    exact (List.Perm.append_left B1 pm).trans (by rw [List.nil_append, ← List.append_assoc, ← List.append_assoc]; exact List.Perm.append_right _ List.perm_append_comm)
theorem dropM_view : ∀ (mask : List Bool) (env : Ev), (dropM mask env).map D.view = dropM mask (env.map D.view)
  | [], env => rfl
  | true :: bs, [] => rfl
  | false :: bs, [] => rfl
  | true :: bs, d :: env => by
    show D.und.view :: (dropM bs env).map D.view = .und :: dropM bs (env.map D.view)
    rw [dropM_view bs env]; rfl
  | false :: bs, d :: env => by
    show d.view :: (dropM bs env).map D.view = d.view :: dropM bs (env.map D.view)
    rw [dropM_view bs env]
theorem Sat.mode {q : Bool} {t : TE} {f : Ev → Option (D × Ev)} (mask : List Bool) (h : Sat K q t f) : SatC K t (eMode mask f) := by
  refine ⟨fun σ H env ts td L Lo hl hcl s d env' e Q k => ?_⟩
  unfold eMode at e
  cases e1 : f (mergeM mask env (env.map D.view)) with
  | none => rw [e1] at e; cases e
  | some p =>
    obtain ⟨d', en1⟩ := p
    simp only [e1] at e
    split at e
    · rename_i cl
      rw [Bool.and_eq_true] at cl
      obtain ⟨rfl, rfl⟩ := Prod.mk.inj (Option.some.inj e)
      obtain ⟨Lt, Le, rfl, h1, h2⟩ := Dens.split hl s.dens
      obtain ⟨L1, L2, pm, k1, k2⟩ := Dens.part (mask := mask) h2
      have nd0 := List.nodup_append.mp s.good.nd
      have pmA : (Lt ++ Le).Perm ((Lt ++ L1) ++ L2) := by rw [List.append_assoc]; exact List.Perm.append_left Lt pm
      have ndA := List.nodup_append.mp (pmA.nodup_iff.mp s.good.nd)
      have in2 : ∀ a ∈ L2, a ∈ Lt ++ Le := fun a ha => pmA.mem_iff.mpr (List.mem_append_right _ ha)
      have in1 : ∀ a ∈ Lt ++ L1, a ∈ Lt ++ Le := fun a ha => pmA.mem_iff.mpr (List.mem_append_left _ ha)
      have lv2 : ∀ a ∈ L2, H a ≠ none := k2.live
      -- the state within: L2 is lent
      have g' : Good (Lt ++ L1) (LoB Lo L2) H := by
        refine ⟨ndA.1, fun f a ha z => z.elim (s.good.no f a (in1 a ha)) fun z => ndA.2.2 a ha a z.2 rfl, fun f a z => z.elim (s.good.lent f a) fun z => ⟨lv2 a z.2, k2.notup a z.2⟩, fun a z => z.elim (s.good.nov a) fun z => z.1 rfl⟩
      have kn : ∀ f a, Nw (Lt ++ Le) Lo f a → Nw (Lt ++ L1) (LoB Lo L2) f a := fun f a n => ⟨fun z => n.1 (in1 a z), fun z => z.elim n.2 fun z => n.1 (in2 a z.2)⟩
      have dv : Dens K H (Nw (Lt ++ L1) (LoB Lo L2)) σ (dropM mask (env.map D.view)) [] := by
        have t2 := Dens.turn (g := vw) (N' := Nw (Lt ++ L1) (LoB Lo L2)) rfl (fun f hf => by cases f <;> first | rfl | cases hf) k2 (.inr ⟨rfl, fun a ha => ⟨fun z => ndA.2.2 a z a ha rfl, fun z => z.elim (s.good.nov a) fun z => z.1 rfl⟩⟩)
          (fun f a _ n _ => by
            cases f with
            | own => exact ⟨(kn _ _ n).1, fun z => z.elim (s.good.nov a) fun z => z.1 rfl⟩
            | frz => exact kn _ _ n
            | pv => exact kn _ _ n
            | view => exact kn _ _ n
            | ext => exact kn _ _ n) (fun a n _ => kn _ _ n)
        rw [← dropM_view]
        exact t2
      obtain ⟨Lm, pm2, dm⟩ := Dens.merge (A := env) (k1.know fun f a n _ => kn f a n) dv
      rw [List.append_nil] at pm2
      have pm3 : (Lt ++ Lm).Perm (Lt ++ L1) := List.Perm.append_left Lt pm2
      have s2 : Sta K (LoB Lo L2) H (ts ++ σ) (td ++ mergeM mask env (env.map D.view)) (Lt ++ Lm) :=
        ⟨g'.perm pm3.symm, ((h1.know fun f a n _ => kn f a n).app dm).know fun f a n _ => nw_sub (fun x hx => pm3.mem_iff.mp hx) f a n⟩
      refine h.run σ H _ ts td _ _ hl s2 _ en1 e1 Q fun v H' Lr Lb c => ?_
      obtain ⟨Mt, Me, rfl, b1, b2⟩ := Dens.split hl c.base
      obtain ⟨N1, N2, pn, j1, j2⟩ := Dens.part (mask := mask) b2
      -- L2's cells are as they were
      have out2 : ∀ a ∈ L2, a ∉ Lt ++ Lm := fun a ha z => ndA.2.2 a (pm3.mem_iff.mp z) a ha rfl
      have keep2 : ∀ a ∈ L2, H' a = H a := fun a ha => c.ext.keep a (lv2 a ha) (out2 a ha)
      have ap2 : ∀ a ∈ Lr ++ (Mt ++ Me), a ∉ L2 := fun a ha z => (c.ext.own a ha).elim (fun y => out2 a z y) (lv2 a z)
      have nmem : ∀ a ∈ N1, a ∈ Me := fun a ha => pn.mem_iff.mpr (List.mem_append_left _ ha)
      have bigx : ∀ a ∈ (Lr ++ (Mt ++ Me)) ++ L2, a ∈ (Lt ++ Le) ∨ H a = none := fun a ha => (List.mem_append.mp ha).elim (fun z => (c.ext.own a z).imp (fun y => in1 a (pm3.mem_iff.mp y)) id) fun z => .inl (in2 a z)
      have nn : ∀ f a, f ≠ .view → Nw (Lr ++ (Mt ++ Me)) (LoB Lo L2) f a → Nw ((Lr ++ (Mt ++ Me)) ++ L2) Lo f a := fun f a hf n => ⟨fun z => (List.mem_append.mp z).elim n.1 fun z => n.2 (.inr ⟨hf, z⟩), fun lo => n.2 (.inl lo)⟩
      have closedK : ∀ {τ : List (Option V)} {xs : List D} {X : List Addr}, Dens K H' (Nw (Lr ++ (Mt ++ Me)) (LoB Lo L2)) τ xs X → xs.all D.closed = true → Dens K H' (Nw ((Lr ++ (Mt ++ Me)) ++ L2) Lo) τ xs X := fun {τ xs X} q cc =>
        q.knowC (p := fun f => decide (f ≠ .view)) (fun f a hf hp n _ => nn f a (by simpa using hp) n) (fun a us n e => nn _ a (by decide) n) (fun a o us n e => nn _ a (by decide) n) cc
      have top' := closedK c.top (by rw [List.all_cons, List.all_nil, Bool.and_true]; exact cl.1)
      have k1' := closedK j1 cl.2
      have extra : ∀ a, H a ≠ none → a ∉ Lt ++ Lm → H' a = H a := c.ext.keep
      have k2' : Dens K H' (Nw ((Lr ++ (Mt ++ Me)) ++ L2) Lo) σ (dropM mask env) L2 := k2.mono keep2 fun f a n e => ⟨nw_ext bigx f a n e, Keep.of (extra a e fun z => n.1 (in1 a (pm3.mem_iff.mp z)))⟩
      have tmp' := closedK b1 hcl
      obtain ⟨Lf, pf, df⟩ := Dens.merge (A := en1) (B := env) k1' k2'
      -- what is owned in the end
      have memf : ∀ a ∈ Lr ++ (Mt ++ Lf), a ∈ (Lr ++ (Mt ++ Me)) ++ L2 := fun a ha => by
        rcases List.mem_append.mp ha with z | z
        · exact List.mem_append_left _ (List.mem_append_left _ z)
        · rcases List.mem_append.mp z with z | z
          · exact List.mem_append_left _ (List.mem_append_right _ (List.mem_append_left _ z))
          · rcases List.mem_append.mp (pf.mem_iff.mp z) with z | z
            · exact List.mem_append_left _ (List.mem_append_right _ (List.mem_append_right _ (nmem a z)))
            · exact List.mem_append_right _ z
      have sbN : N1.Nodup := (List.nodup_append.mp (pn.nodup_iff.mp (List.nodup_append.mp (List.nodup_append.mp c.good.nd).2.1).2.1)).1
      have ndf : (Lr ++ (Mt ++ Lf)).Nodup := by
        have n1 := List.nodup_append.mp c.good.nd
        have n2 := List.nodup_append.mp n1.2.1
        have nf : Lf.Nodup := pf.nodup_iff.mpr (List.nodup_append.mpr ⟨sbN, ndA.2.1, fun a ha b hb e => by subst e; exact ap2 a (List.mem_append_right _ (List.mem_append_right _ (nmem a ha))) hb⟩)
        have sp : ∀ a ∈ Lf, a ∈ Me ∨ a ∈ L2 := fun a ha => (List.mem_append.mp (pf.mem_iff.mp ha)).imp (nmem a) id
        refine List.nodup_append.mpr ⟨n1.1, List.nodup_append.mpr ⟨n2.1, nf, fun a ha b hb e => ?_⟩, fun a ha b hb e => ?_⟩
        · subst e
          rcases sp a hb with z | z
          · exact n2.2.2 a ha a z rfl
          · exact ap2 a (List.mem_append_right _ (List.mem_append_left _ ha)) z
        · subst e
          rcases List.mem_append.mp hb with z | z
          · exact n1.2.2 a ha a (List.mem_append_left _ z) rfl
          · rcases sp a z with z | z
            · exact n1.2.2 a ha a (List.mem_append_right _ z) rfl
            · exact ap2 a (List.mem_append_left _ ha) z
      have fin : ∀ f a, Nw ((Lr ++ (Mt ++ Me)) ++ L2) Lo f a → Nw (Lr ++ (Mt ++ Lf)) Lo f a := nw_sub memf
      refine k v H' Lr (Mt ++ Lf) ⟨⟨ndf, fun f a ha lo => ?_, fun f a lo => ?_, s.good.nov⟩, top'.know fun f a n _ => fin f a n, (tmp'.know fun f a n _ => fin f a n).app (df.know fun f a n _ => fin f a n), ⟨fun a h nh => ?_, fun a ha => bigx a (memf a ha), c.ext.live⟩, fun z => by cases z⟩
      · exact (bigx a (memf a ha)).elim (fun z => s.good.no f a z lo) fun z => (s.good.lent f a lo).1 z
      · obtain ⟨l1, l2⟩ := s.good.lent f a lo
        have : H' a = H a := c.ext.keep a l1 fun z => s.good.no f a (in1 a (pm3.mem_iff.mp z)) lo
        rw [this]; exact ⟨l1, l2⟩
      · exact c.ext.keep a h fun z => nh (in1 a (pm3.mem_iff.mp z))
    · cases e
end
end TL

set_option Elab.async false
set_option linter.all false
set_option maxRecDepth 100000
/-! TL9: calls as expressions; heads of statements with effects. -/
namespace TL
open PySem PySem.Spec PyProof.Rows L2

section
variable {K : PySem.W.Frag}
theorem Sat.imp {q : Bool} {t t' : TE} {f : Ev → Option (D × Ev)} (h : Sat K q t f) (hi : ∀ σ H Q, t σ H Q → t' σ H Q) : Sat K q t' f :=
  ⟨fun σ H env ts td L Lo hl s d env' e Q k => hi σ H Q (h.run σ H env ts td L Lo hl s d env' e Q k)⟩
theorem Sat.call {q : Bool} {ld : List (Option Nat)} {ta : TA} {fs : Ev → Option (List D × Ev)} {n : Nat} {F : List D → Option (D × List D)} (h : SatA K q ld ta fs) :
    Sat K (q && ld.all Option.isNone) (tCall (spF K n F) [] E0 ta) (eCall n ld F fs) := by
  refine ⟨fun σ H env ts td L Lo hl s d env' e Q k => ?_⟩
  unfold eCall at e
  cases e1 : fs env with
  | none => rw [e1] at e; cases e
  | some p =>
    obtain ⟨ds, en1⟩ := p
    simp only [e1] at e
    split at e
    · rename_i hn
      cases e2 : F (ds.map (D.mapF v2p)) with
      | none => simp only [e2] at e; cases e
      | some p2 =>
        obtain ⟨r, ds'⟩ := p2
        simp only [e2] at e
        refine h.run σ H env ts td L Lo hl s ds en1 e1 _ fun vs H1 Lr Lb c hld => ?_
        rw [List.append_nil]
        exact c.call hl ((len_so c.top).trans hn) hld e2 e fun v H' Lr' Lb' c' _ => k v H' Lr' Lb' c'
    · cases e
/-- a first argument that is looked at ahead of the others -/
def aConsC (ok : D → Bool) (f : Ev → Option (D × Ev)) (fs : Ev → Option (List D × Ev)) : Ev → Option (List D × Ev) := fun env =>
  match f env with
  | none => none
  | some (d, e1) => if ok d then (match fs e1 with
    | none => none
    | some (ds, e2) => some (d :: ds, e2)) else none
def tChk (cond : V → Hp → Prop → Prop) (t : TE) (ta : TA) : TA := fun σ H Q => t σ H fun x H1 => cond x H1 (ta σ H1 fun xs H2 => Q (x :: xs) H2)
theorem SatA.chk {q q' : Bool} {l : Option Nat} {ld : List (Option Nat)} {t : TE} {ta : TA} {f : Ev → Option (D × Ev)} {fs : Ev → Option (List D × Ev)} {ok : D → Bool} {cond : V → Hp → Prop → Prop}
    (h : ∀ (σ : L2.St) (H : Hp) (env : Ev) (ts : List (Option V)) (td : List D) (L : List Addr) (Lo : Lent), ts.length = td.length → Sta K Lo H (ts ++ σ) (td ++ env) L → ∀ d env', f env = some (d, env') → ∀ Q : VK,
      (∀ v H' Lr Lb, Came K Lo q H (ts ++ σ) td env L H' [v] [d] env' Lr Lb → (∀ i, l = some i → σ[i]? = some (some v)) → Q v H') → t σ H Q)
    (hC : ∀ H N v d L (R : Prop), ok d = true → Dens K H N [some v] [d] L → R → cond v H R) (h' : SatA K q' ld ta fs) : SatA K (q && q') (l :: ld) (tChk cond t ta) (aConsC ok f fs) := by
  refine ⟨fun σ H env ts td L Lo hl s ds env' e Q k => ?_⟩
  unfold aConsC at e
  cases e1 : f env with
  | none => rw [e1] at e; cases e
  | some p =>
    obtain ⟨d, en1⟩ := p
    simp only [e1] at e
    split at e
    · rename_i okd
      cases e2 : fs en1 with
      | none => simp only [e2] at e; cases e
      | some p2 =>
        obtain ⟨ds2, en2⟩ := p2
        simp only [e2] at e
        obtain ⟨rfl, rfl⟩ := Prod.mk.inj (Option.some.inj e)
        refine h σ H env ts td L Lo hl s d en1 e1 _ fun v H1 Lr Lb c lv => hC _ _ _ _ _ _ okd c.top ?_
        refine h'.run σ H1 en1 (some v :: ts) (d :: td) (Lr ++ Lb) Lo (by simp [hl]) c.sta ds2 en2 e2 _ fun vs H2 Mr Mb c2 lw => ?_
        obtain ⟨R, B, c3⟩ := c.more c2
        refine k (v :: vs) H2 R B c3 fun p i hp => ?_
        cases p with
        | zero => exact ⟨v, rfl, lv i (by simpa using hp)⟩
        | succ p => simpa using lw p i (by simpa using hp)
    · cases e
/-- the receiver of a method of an own class -/
def isIns (C : Addr) (m : Str) : D → Bool
  | .ins _ C' fds => decide (C' = C) && (lookD fds m).isNone
  | _ => false
theorem ins_ok {C : Addr} {m : Str} (H : Hp) (N : Fl → Addr → Prop) (v : V) (d : D) (L : List Addr) (R : Prop) (h : isIns C m d = true) (hd : Dens K H N [some v] [d] L) (hR : R) : ∃ a dx fs, v = .ref a ∧ H a = some (.ins C dx fs) ∧ fs.lookup m = none ∧ R := by
  unfold isIns at h
  split at h
  · rename_i fl C' fds
    rw [Bool.and_eq_true, decide_eq_true_eq] at h
    obtain ⟨rfl, h2⟩ := h
    obtain ⟨a, dx, fs, L1, rfl, e1, ek, q, s⟩ := inv_ins hd
    refine ⟨a, dx, fs, rfl, e1, ?_, hR⟩
    rw [lookup_valV]
    rcases look_val ek q m with ⟨_, q2⟩ | ⟨v', d', M, q1, _⟩
    · exact q2
    · rw [q1] at h2; cases h2
  · cases h
/-- the receiver: a value, or a lent slot -/
inductive Rcv (K : PySem.W.Frag) : Bool → Option Nat → TE → (Ev → Option (D × Ev)) → Prop
  | val {q t f} : Sat K q t f → Rcv K q none t f
  | lent (i : Nat) : Rcv K false (some i) (tVar i) (eMove i)
theorem Rcv.run {q : Bool} {l : Option Nat} {t : TE} {f : Ev → Option (D × Ev)} (r : Rcv K q l t f) : ∀ (σ : L2.St) (H : Hp) (env : Ev) (ts : List (Option V)) (td : List D) (L : List Addr) (Lo : Lent), ts.length = td.length → Sta K Lo H (ts ++ σ) (td ++ env) L → ∀ d env', f env = some (d, env') → ∀ Q : VK,
      (∀ v H' Lr Lb, Came K Lo q H (ts ++ σ) td env L H' [v] [d] env' Lr Lb → (∀ i, l = some i → σ[i]? = some (some v)) → Q v H') → t σ H Q := by
  intro σ H env ts td L Lo hl s d env' e Q k
  cases r with
  | val h => exact h.run σ H env ts td L Lo hl s d env' e Q fun v H' Lr Lb c => k v H' Lr Lb c fun i z => by cases z
  | lent i =>
    unfold eMove at e
    split at e
    · rename_i d0 e1
      split at e
      · cases e
      · rename_i c
        obtain ⟨rfl, rfl⟩ := Prod.mk.inj (Option.some.inj e)
        obtain ⟨Lt, Le, rfl, h1, h2⟩ := Dens.split hl s.dens
        obtain ⟨o, L1, L2, q1, q2, q3, q4⟩ := h2.take e1
        obtain ⟨v, rfl⟩ := q3.some1 (und_ne c)
        have pm : (Lt ++ Le).Perm (L1 ++ (Lt ++ L2)) := (List.Perm.append_left Lt q2).trans (by rw [← List.append_assoc, ← List.append_assoc]; exact List.Perm.append_right _ List.perm_append_comm)
        have g := s.good.perm pm
        have kn : ∀ f a, Nw (Lt ++ Le) Lo f a → H a ≠ none → Nw (L1 ++ (Lt ++ L2)) Lo f a := fun f a n _ => nw_sub (fun x hx => pm.mem_iff.mpr hx) f a n
        exact ⟨v, q1, k v H L1 (Lt ++ L2) ⟨g, q3.know kn, (h1.know kn).app (q4.know kn), (Ext.refl _ _).sub fun a ha => pm.mem_iff.mpr ha, fun z => by cases z⟩ fun j hj => by cases hj; exact q1⟩
    · cases e
theorem Sat.meth {q q' : Bool} {l : Option Nat} {ld : List (Option Nat)} {to : TE} {ta : TA} {f : Ev → Option (D × Ev)} {fs : Ev → Option (List D × Ev)} {n : Nat} {F : List D → Option (D × List D)} {C : Addr} {m : Str} (r : Rcv K q l to f) (h : SatA K q' ld ta fs) :
    Sat K ((q && q') && (l :: ld).all Option.isNone) (tMeth C m (spF K n F) [] E0 to ta) (eCall n (l :: ld) F (aConsC (isIns C m) f fs)) := by
  exact Sat.call (n := n) (F := F) (SatA.chk (cond := fun v H R => ∃ a dx fs, v = .ref a ∧ H a = some (.ins C dx fs) ∧ fs.lookup m = none ∧ R) r.run (fun H N v d L R ok hd hR => ins_ok H N v d L R ok hd hR) h)

/-- a new instance: what __init__ makes of it -/
def eMake (n : Nat) (C : Addr) (F : List D → Option (D × List D)) (fs : Ev → Option (List D × Ev)) : Ev → Option (D × Ev) := fun env =>
  match fs env with
  | none => none
  | some (ds, e1) => if ds.length + 1 = n then (match F (.ins .own C [] :: ds.map (D.mapF v2p)) with
    | none => none
    | some (r, ds') => match callOut [some e1.length] (.ins .own C [] :: ds) r ds' (e1 ++ [.und]) with
      | some (.non, e2) => match e2.getLast? with
        | some d => if d.isUnd then none else some (d, e2.dropLast)
        | none => none
      | _ => none) else none
theorem Sat.make {q : Bool} {ld : List (Option Nat)} {ta : TA} {fs : Ev → Option (List D × Ev)} {n : Nat} {C : Addr} {F : List D → Option (D × List D)} (h : SatA K q ld ta fs) : Sat K false (tMake C (spF K n F) [] E0 ta) (eMake n C F fs) := by
  refine ⟨fun σ H env ts td L Lo hl s d env' e Q k => ?_⟩
  unfold eMake at e
  cases e1 : fs env with
  | none => rw [e1] at e; cases e
  | some p =>
    obtain ⟨ds, en1⟩ := p
    simp only [e1] at e
    split at e
    · rename_i hn
      cases e2 : F (.ins .own C [] :: ds.map (D.mapF v2p)) with
      | none => simp only [e2] at e; cases e
      | some p2 =>
        obtain ⟨r, ds'⟩ := p2
        simp only [e2] at e
        cases e3 : callOut [some en1.length] (.ins .own C [] :: ds) r ds' (en1 ++ [.und]) with
        | none => simp only [e3] at e; cases e
        | some p3 =>
          obtain ⟨r3, en3⟩ := p3
          simp only [e3] at e
          split at e
          · rename_i r4 e4 q0
            cases q0
            split at e
            · rename_i d5 e5
              split at e
              · cases e
              · rename_i nu
                obtain ⟨rfl, rfl⟩ := Prod.mk.inj (Option.some.inj e)
                refine h.run σ H env ts td L Lo hl s ds en1 e1 _ fun vs H1 Lr Lb c hld => ?_
                rw [List.append_nil]
                intro x dx hx hdx ne
                -- the new object beside the arguments
                have hx' : upd H1 dx (.own x) x = none := by rw [upd_ne ne.symm]; exact hx
                have st : Still H1 (upd (upd H1 dx (.own x)) x (.ins C dx [])) := (upd_still hdx).trans (upd_still hx')
                have nx : ∀ a ∈ Lr ++ Lb, a ≠ x := fun a ha e => by
                  subst e
                  rcases List.mem_append.mp ha with z | z
                  · exact c.top.live _ z hx
                  · exact c.base.live _ z hx
                have own1 : ∀ a ∈ (x :: Lr) ++ Lb, a ∈ Lr ++ Lb ∨ H1 a = none := fun a ha => by
                  rcases List.mem_cons.mp (show a ∈ x :: (Lr ++ Lb) from ha) with rfl | z
                  · exact .inr hx
                  · exact .inl z
                have hσ : σ.length = en1.length := by
                  have := c.base.length
                  simp [hl] at this
                  exact this
                have base2 : Dens K (upd (upd H1 dx (.own x)) x (.ins C dx [])) (Nw ((x :: Lr) ++ Lb) Lo) (ts ++ (σ ++ [some (.ref x)])) (td ++ (en1 ++ [.und])) Lb := by
                  have := (c.base.still st own1).app (.und .nil : Dens K (upd (upd H1 dx (.own x)) x (.ins C dx [])) (Nw ((x :: Lr) ++ Lb) Lo) [some (.ref x)] [.und] [])
                  rw [List.append_nil, List.append_assoc, List.append_assoc] at this
                  exact this
                have top2 : Dens K (upd (upd H1 dx (.own x)) x (.ins C dx [])) (Nw ((x :: Lr) ++ Lb) Lo) (so (.ref x :: vs)) (.ins .own C [] :: ds) (x :: Lr) := by
                  have := Dens.insO (K := K) (N := Nw ((x :: Lr) ++ Lb) Lo) (kds := []) (L1 := []) (upd_same (H := upd H1 dx (.own x)) (a := x) (o := .ins C dx [])) rfl .nil (c.top.still st own1)
                  exact this
                have g2 : Good ((x :: Lr) ++ Lb) Lo (upd (upd H1 dx (.own x)) x (.ins C dx [])) := by
                  refine ⟨List.nodup_cons.mpr ⟨fun z => nx x z rfl, c.good.nd⟩, fun f a ha lo => ?_, fun f a lo => ?_, c.good.nov⟩
                  · exact (own1 a ha).elim (fun z => c.good.no f a z lo) (c.good.lent f a lo).1
                  · obtain ⟨l1, l2⟩ := c.good.lent f a lo
                    rw [st a l1]; exact ⟨l1, l2⟩
                have c2 : Came K Lo false H (ts ++ (σ ++ [some (.ref x)])) td (env ++ [.und]) L (upd (upd H1 dx (.own x)) x (.ins C dx [])) (.ref x :: vs) (.ins .own C [] :: ds) (en1 ++ [.und]) (x :: Lr) Lb :=
                  ⟨g2, top2, base2, c.ext.trans (Ext.of_still st own1), fun z => by cases z⟩
                have ln : (V.ref x :: vs).length = n := by rw [List.length_cons, len_so c.top]; exact hn
                refine c2.call hl ln (fun p i hp => ?_) e2 e3 fun v H2 Lr2 Lb2 c3 _ => ?_
                · cases p with
                  | zero =>
                    have : en1.length = i := by simpa using hp
                    subst this
                    exact ⟨_, rfl, by rw [← hσ]; simp⟩
                  | succ p => simp at hp
                · have ev : v = .non := by
                    have := (one_non c3.top).1
                    exact Option.some.inj this
                  refine ⟨ev, ?_⟩
                  -- the last slot is the result
                  have c4 := c3.drop
                  have eqq : en3 = en3.dropLast ++ [d5] := by
                    have := List.dropLast_concat_getLast (l := en3) (by intro z; rw [z] at e5; cases e5)
                    rw [List.getLast?_eq_some_getLast (by intro z; rw [z] at e5; cases e5)] at e5
                    rw [← Option.some.inj e5]
                    exact this.symm
                  have b4 := c4.base
                  rw [eqq, ← List.append_assoc, ← List.append_assoc] at b4
                  have lens : (ts ++ σ).length = (td ++ en3.dropLast).length := by
                    have := b4.length
                    simp at this ⊢
                    omega
                  obtain ⟨B1, B2, rfl, b5, b6⟩ := Dens.split lens b4
                  have pm : ([] ++ (B1 ++ B2)).Perm (B2 ++ B1) := (List.perm_append_comm : (B1 ++ B2).Perm (B2 ++ B1))
                  have kn : ∀ f a, Nw ([] ++ (B1 ++ B2)) Lo f a → H2 a ≠ none → Nw (B2 ++ B1) Lo f a := fun f a n _ => nw_sub (fun x hx => pm.mem_iff.mpr hx) f a n
                  exact k (.ref x) H2 B2 B1 ⟨c4.good.perm pm, b6.know kn, b5.know kn, c4.ext.sub fun a ha => pm.mem_iff.mpr ha, fun z => by cases z⟩
            · cases e
          · cases e
    · cases e

/-! tests at a statement's head, with effects -/
theorem SatBC.of {t : TE} {f : Ev → Option (D × Ev)} (h : SatC K t f) : SatBC K (tTest t) (bTest f) := by
  refine ⟨fun σ H env ts td L Lo hl hcl s b env' e Q k => ?_⟩
  unfold bTest at e
  split at e
  · rename_i b0 en e1
    cases e
    refine h.run σ H env ts td L Lo hl hcl s _ _ e1 _ fun v H' Lr Lb c => ?_
    cases (one_bl c.top).1
    exact ⟨b, rfl, k H' Lb c.drop⟩
  · cases e
theorem SatBC.not {t : TT} {f : Ev → Option (Bool × Ev)} (h : SatBC K t f) : SatBC K (tNot t) (bNot f) := by
  refine ⟨fun σ H env ts td L Lo hl hcl s b env' e Q k => ?_⟩
  unfold bNot at e
  split at e
  · rename_i b0 en e1
    cases e
    exact h.run σ H env ts td L Lo hl hcl s _ _ e1 _ fun H' Lb c => k H' Lb c
  · cases e
theorem SatBC.and {t u : TT} {f g : Ev → Option (Bool × Ev)} (h : SatBC K t f) (h' : SatBC K u g) : SatBC K (tAnd t u) (bAnd f g) := by
  refine ⟨fun σ H env ts td L Lo hl hcl s b env' e Q k => ?_⟩
  unfold bAnd at e
  split at e
  · rename_i en e1
    refine h.run σ H env ts td L Lo hl hcl s _ _ e1 _ fun H' Lb c => ?_
    rw [if_pos rfl]
    exact h'.run σ H' _ ts td Lb Lo hl hcl c.base0 b env' e Q fun H2 Mb c2 => k H2 Mb ((c.then c2).q2 fun z => by cases z)
  · rename_i en e1
    cases e
    refine h.run σ H env ts td L Lo hl hcl s _ _ e1 _ fun H' Lb c => ?_
    rw [if_neg Bool.false_ne_true]
    exact k H' Lb c
  · cases e
theorem SatBC.or {t u : TT} {f g : Ev → Option (Bool × Ev)} (h : SatBC K t f) (h' : SatBC K u g) : SatBC K (tOr t u) (bOr f g) := by
  refine ⟨fun σ H env ts td L Lo hl hcl s b env' e Q k => ?_⟩
  unfold bOr at e
  split at e
  · rename_i en e1
    cases e
    refine h.run σ H env ts td L Lo hl hcl s _ _ e1 _ fun H' Lb c => ?_
    rw [if_pos rfl]
    exact k H' Lb c
  · rename_i en e1
    refine h.run σ H env ts td L Lo hl hcl s _ _ e1 _ fun H' Lb c => ?_
    rw [if_neg Bool.false_ne_true]
    exact h'.run σ H' _ ts td Lb Lo hl hcl c.base0 b env' e Q fun H2 Mb c2 => k H2 Mb ((c.then c2).q2 fun z => by cases z)
  · cases e
end

section
variable {α : Type} {M : α → Cx} {K : PySem.W.Frag} {P : Program} {w : World} {mg : Str → Option Value} {base : Heap} {k : Nat}
variable {e a b c o : Expr} {es : List Expr} {pos apos p : Pos} {q q' : Bool} {f g : Ev → Option (D × Ev)} {fs : Ev → Option (List D × Ev)} {l : Option Nat} {ld : List (Option Nat)}
theorem SE.mode (mask : List Bool) (h : SE M K q e f) : SEC M K e (eMode mask f) := let ⟨t, h1, h2⟩ := h; ⟨t, h1, h2.mode mask⟩
/-- an expression that may stand as a test -/
def STE (M : α → Cx) (K : PySem.W.Frag) (q : Bool) (e : Expr) (f : Ev → Option (D × Ev)) : Prop := ∃ t : TE, (∀ a, PT (M a) e (tTest t)) ∧ Sat K q t f
theorem ste_val (h : SE M K q e f) (he : ∀ a whole, isTrue e (M a).env whole = (do let v ← whole; standAt e.pos; holding [v] (truthy v)) := by intro _ _; rfl) : STE M K q e f :=
  let ⟨t, h1, h2⟩ := h; ⟨t, fun a => pt_val (h1 a) (he a), h2⟩
theorem ste_cmp {op : CmpOp} {C : Cx → Prop} {gg : List D → Option D} (v : V2 (compareOp op) C gg) (hC : ∀ a, C (M a)) (hK : ∀ a, (M a).K = K) (ha : SE M K q a f) (hb : SE M K q' b g) (hm : behindInMarks op b = false := by rfl) : STE M K (q && (q' && true)) (.Compare a [op] [b] pos) (eOp gg (aCons f (aCons g aNil))) :=
  let ⟨r, v1, v2⟩ := v; let ⟨t, h1, h2⟩ := ha; let ⟨u, h3, h4⟩ := hb
  ⟨_, fun x => pt_cmpR (by have := v1 (M x) (hC x); rw [hK x] at this; exact this) (h1 x) (h3 x) hm, Sat.op2 h2 h4 (v2 K)⟩
theorem STE.mode (mask : List Bool) (h : STE M K q e f) : STC M K e (bTest (eMode mask f)) := let ⟨t, h1, h2⟩ := h; ⟨_, h1, SatBC.of (h2.mode mask)⟩
theorem STE.borrow (h : STE M K true e f) : ST M K true e (bBorrow (bTest f)) := let ⟨t, h1, h2⟩ := h; ⟨_, h1, (SatB.of h2).borrow⟩
theorem STE.t (h : STE M K q e f) : ST M K q e (bTest f) := let ⟨t, h1, h2⟩ := h; ⟨_, h1, SatB.of h2⟩
def SWC (M : α → Cx) (K : PySem.W.Frag) (e : Expr) (f : Ev → Option (Bool × Ev)) : Prop := ∃ t : TT, (∀ a, PW (M a) e t) ∧ SatBC K t f
theorem SWC.st {f : Ev → Option (Bool × Ev)} (h : SWC M K e f) : STC M K e f := let ⟨t, h1, h2⟩ := h; ⟨t, fun a => (h1 a).pt, h2⟩
theorem stc_not {f : Ev → Option (Bool × Ev)} (h : STC M K e f) : STC M K (.UnaryOp .Not e pos) (bNot f) := let ⟨t, h1, h2⟩ := h; ⟨_, fun a => pt_not (h1 a), h2.not⟩
theorem swc_and1 {f : Ev → Option (Bool × Ev)} (h : STC M K e f) : SWC M K (.BoolOp .And [e] pos) f := let ⟨t, h1, h2⟩ := h; ⟨_, fun a => pw_and1 (h1 a), h2⟩
theorem swc_or1 {f : Ev → Option (Bool × Ev)} (h : STC M K e f) : SWC M K (.BoolOp .Or [e] pos) f := let ⟨t, h1, h2⟩ := h; ⟨_, fun a => pw_or1 (h1 a), h2⟩
theorem swc_and {f g : Ev → Option (Bool × Ev)} (h : STC M K a f) (h' : SWC M K (.BoolOp .And (b :: es) pos) g) : SWC M K (.BoolOp .And (a :: b :: es) pos) (bAnd f g) := let ⟨t, h1, h2⟩ := h; let ⟨u, h3, h4⟩ := h'; ⟨_, fun x => pw_and (h1 x) (h3 x), h2.and h4⟩
theorem swc_or {f g : Ev → Option (Bool × Ev)} (h : STC M K a f) (h' : SWC M K (.BoolOp .Or (b :: es) pos) g) : SWC M K (.BoolOp .Or (a :: b :: es) pos) (bOr f g) := let ⟨t, h1, h2⟩ := h; let ⟨u, h3, h4⟩ := h'; ⟨_, fun x => pw_or (h1 x) (h3 x), h2.or h4⟩

/-! calls -/
theorem sa_lend {x : Str} (i : Nat) (h' : SA M K q' ld es fs) (hN : ∀ a, (M a).N[i]? = some x := by intro _; rfl) (hv : ∀ a, Vis (M a).env.scope x := by intro _; first | exact Or.inl rfl | exact Or.inr (Or.inl rfl) | exact Or.inr (Or.inr rfl)) (hd : (x == ("__debug__" : Str)) = false := by decide)
    (hcd : (x == ("__classdict__" : Str)) = false := by decide) (hs : ∀ a, starEach (.Name x pos :: es) (M a).env = (false, eval (.Name x pos) (M a).env) :: starEach es (M a).env := by intro _; rfl) : SA M K (false && q') (some i :: ld) (.Name x pos :: es) (aCons (eMove i) fs) :=
  let ⟨u, h3, h4⟩ := h'; ⟨_, fun a => pa_cons (pe_var (hN a) (hv a) hd hcd) (h3 a) (hs a), SatA.lend i h4⟩
theorem Fm.fn {CX : CXT} {fd : FuncData} {ff : Addr} {ps : List Str} {sp : Sp} {j : Nat} (F : Fm M P w K mg base k) (G : FnOk P w K mg base CX j ff fd ps sp) (x : α) : FnOk (M x).prog (M x).w (M x).K (M x).mg (M x).base CX j ff fd ps sp := by
  rw [F.prog x, F.w x, F.K x, F.mg x, F.base x]
  exact G
/-- a def that computes F: its facts -/
structure Def (P : Program) (w : World) (K : PySem.W.Frag) (mg : Str → Option Value) (base : Heap) (k : Nat) (x : Str) (n : Nat) (F : List D → Option (D × List D)) : Prop where
  ex : ∃ (ff : Addr) (fd : FuncData) (ps : List Str), mg x = some (.ref ff) ∧ PySem.W.keepIn K (.ref ff) = true ∧ Binds K fd ps [] ∧ FnOk P w K mg base CX0 k ff fd ps (spF K n F)
theorem Def.mono {x : Str} {n j : Nat} {F : List D → Option (D × List D)} (d : Def P w K mg base j x n F) (h : j ≤ k) : Def P w K mg base k x n F := let ⟨ff, fd, ps, a, b, c, d⟩ := d; ⟨ff, fd, ps, a, b, c, d.mono h⟩
theorem se_call {x : Str} {n j : Nat} {F : List D → Option (D × List D)} (FM : Fm M P w K mg base k) (G : Def P w K mg base j x n F) (hj : j ≤ k) (ha : SA M K q ld (e :: es) fs) (hg : ∀ y, Gl (M y) x := by intro _; rfl) (hdb : (x == ("__debug__" : Str)) = false := by decide)
    (he : ∀ y, starEach (e :: es) (M y).env = (false, eval e (M y).env) :: starEach es (M y).env := by intro _; rfl) (hpl : ∀ y, (backTo pos (starEach es (M y).env)).any (·.1) = false := by intro _; rfl) : SE M K (q && ld.all Option.isNone) (.Call (.Name x p) (e :: es) [] pos) (eCall n ld F fs) :=
  let ⟨⟨ff, fd, ps, hm, hk, hb, G⟩⟩ := G; let ⟨t, h1, h2⟩ := ha
  ⟨_, fun y => pe_call (FM.fn G y) ((FM.room y).mono hj) (hg y) (by rw [FM.mg y]; exact hm) (by rw [FM.K y]; exact hk) (by rw [FM.K y]; exact hb) .nil pass0 (h1 y) hdb (he y) (hpl y), Sat.call h2⟩
theorem se_call0 {x : Str} {n j : Nat} {F : List D → Option (D × List D)} (FM : Fm M P w K mg base k) (G : Def P w K mg base j x n F) (hj : j ≤ k) (hg : ∀ y, Gl (M y) x := by intro _; rfl) (hdb : (x == ("__debug__" : Str)) = false := by decide) : SE M K true (.Call (.Name x p) [] [] pos) (eCall n [] F aNil) :=
  let ⟨⟨ff, fd, ps, hm, hk, hb, G⟩⟩ := G
  ⟨_, fun y => pe_call0 (FM.fn G y) ((FM.room y).mono hj) (hg y) (by rw [FM.mg y]; exact hm) (by rw [FM.K y]; exact hk) (by rw [FM.K y]; exact hb) .nil pass0 hdb, Sat.call (q := true) (ld := []) SatA.nil⟩
/-- a method that computes F -/
structure DefM (P : Program) (w : World) (K : PySem.W.Frag) (mg : Str → Option Value) (base : Heap) (k : Nat) (C : Addr) (m : Str) (n : Nat) (F : List D → Option (D × List D)) : Prop where
  ex : ∃ (ff : Addr) (fd : FuncData) (ps : List Str), L2.Meth K C m ff ∧ Binds K fd ps [] ∧ FnOk P w K mg base CX0 k ff fd ps (spF K n F)
def SR (M : α → Cx) (K : PySem.W.Frag) (q : Bool) (l : Option Nat) (e : Expr) (f : Ev → Option (D × Ev)) : Prop := ∃ t : TE, (∀ a, PE (M a) e t) ∧ Rcv K q l t f
theorem SE.r (h : SE M K q e f) : SR M K q none e f := let ⟨t, h1, h2⟩ := h; ⟨t, h1, .val h2⟩
theorem sr_lent {x : Str} (i : Nat) (hN : ∀ a, (M a).N[i]? = some x := by intro _; rfl) (hv : ∀ a, Vis (M a).env.scope x := by intro _; first | exact Or.inl rfl | exact Or.inr (Or.inl rfl) | exact Or.inr (Or.inr rfl)) (hd : (x == ("__debug__" : Str)) = false := by decide)
    (hcd : (x == ("__classdict__" : Str)) = false := by decide) : SR M K false (some i) (.Name x pos) (eMove i) := ⟨_, fun a => pe_var (hN a) (hv a) hd hcd, .lent i⟩
theorem se_meth {C : Addr} {m : Str} {n j : Nat} {F : List D → Option (D × List D)} {pl : α → Sem Bool} (FM : Fm M P w K mg base k) (G : DefM P w K mg base j C m n F) (cl : Cls K C) (hj : j ≤ k) (hr : SR M K q l o f) (ha : SA M K q' ld (e :: es) fs)
    (hst : ∀ y, starEach (e :: es) (M y).env = (false, eval e (M y).env) :: starEach es (M y).env := by intro _; rfl) (hpl : ∀ y, (backTo pos (starEach es (M y).env)).any (·.1) = false := by intro _; rfl)
    (ht : ∀ y, eval (.Call (.Attribute o m apos) (e :: es) [] pos) (M y).env = (do
      let ov ← eval o (M y).env
      standAt apos.atName
      let (f, first) ← holding [ov] (getMethod ov m (pl y))
      callWith pos f first (backTo pos (starEach (e :: es) (M y).env)) (backToKw pos (keywordEach [] (M y).env))) := by intro _; rfl) :
    SE M K ((q && q') && (l :: ld).all Option.isNone) (.Call (.Attribute o m apos) (e :: es) [] pos) (eCall n (l :: ld) F (aConsC (isIns C m) f fs)) :=
  let ⟨⟨ff, fd, ps, hm, hb, G⟩⟩ := G; let ⟨t, h1, h2⟩ := hr; let ⟨u, h3, h4⟩ := ha
  ⟨_, fun y => pe_meth (pl := pl y) (h1 y) (by rw [FM.K y]; exact cl) (by rw [FM.K y]; exact hm) (FM.fn G y) ((FM.room y).mono hj) (by rw [FM.K y]; exact hb) .nil pass0 (h3 y) (hst y) (hpl y) (ht y), Sat.meth h2 h4⟩
theorem se_meth0 {C : Addr} {m : Str} {n j : Nat} {F : List D → Option (D × List D)} {pl : α → Sem Bool} (FM : Fm M P w K mg base k) (G : DefM P w K mg base j C m n F) (cl : Cls K C) (hj : j ≤ k) (hr : SR M K q l o f)
    (ht : ∀ y, eval (.Call (.Attribute o m apos) [] [] pos) (M y).env = (do
      let ov ← eval o (M y).env
      standAt apos.atName
      let (f, first) ← holding [ov] (getMethod ov m (pl y))
      callWith pos f first (backTo pos (starEach [] (M y).env)) (backToKw pos (keywordEach [] (M y).env))) := by intro _; rfl) :
    SE M K ((q && true) && (l :: []).all Option.isNone) (.Call (.Attribute o m apos) [] [] pos) (eCall n [l] F (aConsC (isIns C m) f aNil)) :=
  let ⟨⟨ff, fd, ps, hm, hb, G⟩⟩ := G; let ⟨t, h1, h2⟩ := hr
  ⟨_, fun y => pe_meth0 (pl := pl y) (h1 y) (by rw [FM.K y]; exact cl) (by rw [FM.K y]; exact hm) (FM.fn G y) ((FM.room y).mono hj) (by rw [FM.K y]; exact hb) .nil pass0 (ht y), Sat.meth h2 SatA.nil⟩
/-- a class whose __init__ computes F -/
structure DefC (P : Program) (w : World) (K : PySem.W.Frag) (mg : Str → Option Value) (base : Heap) (k : Nat) (x : Str) (C : Addr) (n : Nat) (F : List D → Option (D × List D)) : Prop where
  ex : ∃ (ff : Addr) (fd : FuncData) (ps : List Str), mg x = some (.ref C) ∧ L2.Mk K C ff ∧ Binds K fd ps [] ∧ FnOk P w K mg base CX0 k ff fd ps (spF K n F)
theorem se_make {x : Str} {C : Addr} {n j : Nat} {F : List D → Option (D × List D)} (FM : Fm M P w K mg base k) (G : DefC P w K mg base j x C n F) (hj : j + 1 ≤ k) (ha : SA M K q ld (e :: es) fs) (hg : ∀ y, Gl (M y) x := by intro _; rfl) (hdb : (x == ("__debug__" : Str)) = false := by decide)
    (he : ∀ y, starEach (e :: es) (M y).env = (false, eval e (M y).env) :: starEach es (M y).env := by intro _; rfl) (hpl : ∀ y, (backTo pos (starEach es (M y).env)).any (·.1) = false := by intro _; rfl) : SE M K false (.Call (.Name x p) (e :: es) [] pos) (eMake n C F fs) :=
  let ⟨⟨ff, fd, ps, hm, hk, hb, G⟩⟩ := G; let ⟨t, h1, h2⟩ := ha
  ⟨_, fun y => pe_make (by rw [FM.K y]; exact hk) (FM.fn G y) ((FM.room y).mono hj) (hg y) (by rw [FM.mg y]; exact hm) (by rw [FM.K y]; exact hb) .nil pass0 (h1 y) hdb (he y) (hpl y), Sat.make h2⟩
theorem se_make0 {x : Str} {C : Addr} {n j : Nat} {F : List D → Option (D × List D)} (FM : Fm M P w K mg base k) (G : DefC P w K mg base j x C n F) (hj : j + 1 ≤ k) (hg : ∀ y, Gl (M y) x := by intro _; rfl) (hdb : (x == ("__debug__" : Str)) = false := by decide) : SE M K false (.Call (.Name x p) [] [] pos) (eMake n C F aNil) :=
  let ⟨⟨ff, fd, ps, hm, hk, hb, G⟩⟩ := G
  ⟨_, fun y => pe_make0 (by rw [FM.K y]; exact hk) (FM.fn G y) ((FM.room y).mono hj) (hg y) (by rw [FM.mg y]; exact hm) (by rw [FM.K y]; exact hb) .nil pass0 hdb, Sat.make (q := true) SatA.nil⟩
end
end TL

set_option Elab.async false
set_option linter.all false
set_option maxRecDepth 100000
/-! TL10: what is walked; for, while; list comprehensions. -/
namespace TL
open PySem PySem.Spec PyProof.Rows L2

def zf : Fl → Fl
  | .own => .frz
  | f => f
def D.frz (d : D) : D := D.mapF zf d
mutual
theorem frz_noOwn : ∀ d : D, d.frz.noOwn = true
  | .und => rfl
  | .non => rfl
  | .bl _ => rfl
  | .int _ => rfl
  | .str _ => rfl
  | .ty _ => rfl
  | .cls _ => rfl
  | .tup xs => frzs_noOwn xs
  | .tupE xs => frzs_noOwn xs
  | .lst f xs => by
    show (decide (zf f ≠ .own) && D.allFs _ (D.mapFs zf xs)) = true
    rw [frzs_noOwn xs]; cases f <;> rfl
  | .dK f kvs => by
    show (decide (zf f ≠ .own) && D.allFk _ (D.mapFk zf kvs)) = true
    rw [frzk_noOwn kvs]; cases f <;> rfl
  | .dT f kvs => by
    show (decide (zf f ≠ .own) && D.allFt _ (D.mapFt zf kvs)) = true
    rw [frzt_noOwn kvs]; cases f <;> rfl
  | .ins f _ kvs => by
    show (decide (zf f ≠ .own) && D.allFf _ (D.mapFf zf kvs)) = true
    rw [frzf_noOwn kvs]; cases f <;> rfl
theorem frzs_noOwn : ∀ xs : List D, D.allFs (fun f => decide (f ≠ .own)) (D.mapFs zf xs) = true
  | [] => rfl
  | x :: r => by
    show (D.allF _ (D.mapF zf x) && D.allFs _ (D.mapFs zf r)) = true
    rw [frzs_noOwn r, show D.allF (fun f => decide (f ≠ .own)) (D.mapF zf x) = true from frz_noOwn x]; rfl
theorem frzk_noOwn : ∀ xs : List (Key × D), D.allFk (fun f => decide (f ≠ .own)) (D.mapFk zf xs) = true
  | [] => rfl
  | (k, x) :: r => by
    show (D.allF _ (D.mapF zf x) && D.allFk _ (D.mapFk zf r)) = true
    rw [frzk_noOwn r, show D.allF (fun f => decide (f ≠ .own)) (D.mapF zf x) = true from frz_noOwn x]; rfl
theorem frzt_noOwn : ∀ xs : List (List Key × D), D.allFt (fun f => decide (f ≠ .own)) (D.mapFt zf xs) = true
  | [] => rfl
  | (k, x) :: r => by
    show (D.allF _ (D.mapF zf x) && D.allFt _ (D.mapFt zf r)) = true
    rw [frzt_noOwn r, show D.allF (fun f => decide (f ≠ .own)) (D.mapF zf x) = true from frz_noOwn x]; rfl
theorem frzf_noOwn : ∀ xs : List (Str × D), D.allFf (fun f => decide (f ≠ .own)) (D.mapFf zf xs) = true
  | [] => rfl
  | (k, x) :: r => by
    show (D.allF _ (D.mapF zf x) && D.allFf _ (D.mapFf zf r)) = true
    rw [frzf_noOwn r, show D.allF (fun f => decide (f ≠ .own)) (D.mapF zf x) = true from frz_noOwn x]; rfl
end

section
variable {K : PySem.W.Frag}
/-- values that are held change no more -/
theorem Came.freeze {Lo : Lent} {q : Bool} {H H1 : Hp} {bs : List (Option V)} {td : List D} {env e1 : Ev} {L Lr Lb : List Addr} {vs : List V} {ds : List D}
    (c : Came K Lo q H bs td env L H1 vs ds e1 Lr Lb) : Came K Lo q H bs td env L H1 vs (ds.map D.frz) e1 [] Lb := by
  have sb : ∀ a ∈ Lb, a ∈ Lr ++ Lb := fun a h => List.mem_append_right _ h
  have nd := List.nodup_append.mp c.good.nd
  refine ⟨c.good.sub nd.2.1 sb, ?_, c.base.know fun f a n _ => nw_sub sb f a n, c.ext.sub sb, fun qq => let ⟨a, b, c, _⟩ := c.quiet qq; ⟨a, b, c, fun _ h => (List.not_mem_nil h).elim⟩⟩
  have := Dens.turn (g := zf) (N' := Nw Lb Lo) rfl (fun f hf => by cases f <;> first | rfl | cases hf) c.top (.inr ⟨rfl, fun a ha => ⟨fun z => nd.2.2 a ha a z rfl, c.good.no _ a (List.mem_append_left _ ha)⟩⟩)
    (fun f a hno n _ => by
      cases f with
      | own => exact absurd rfl hno
      | frz => exact nw_sub sb _ a n
      | pv => exact nw_sub sb _ a n
      | view => exact nw_sub sb _ a n
      | ext => exact nw_sub sb _ a n) (fun a n _ => nw_sub sb _ a n)
  exact this

/-- what J yields, turn by turn, while (hv, hd) are held -/
structure Walk (K : PySem.W.Frag) (J : It) (hv : List V) (hd : List D) (xs : List D) : Prop where
  go : ∀ (i : Nat) (H : Hp) (σs : List (Option V)) (ds : List D) (L : List Addr) (Lo : Lent) (h : i < xs.length), Sta K Lo H (so hv ++ σs) (hd ++ ds) L → J.go i H ∧ ∀ x H', J.yld i H x H' → Still H H' ∧ Sta K Lo H' (some x :: (so hv ++ σs)) (xs[i] :: (hd ++ ds)) L
  stop : ∀ (i : Nat) (H : Hp) (σs : List (Option V)) (ds : List D) (L : List Addr) (Lo : Lent), xs.length ≤ i → Sta K Lo H (so hv ++ σs) (hd ++ ds) L → J.stop i H
/-- what J yields while (hv, hd) are held and the heap fits pin -/
structure WalkP (K : PySem.W.Frag) (pin : Hp → Prop) (J : It) (hv : List V) (hd : List D) (xs : List D) : Prop where
  go : ∀ (i : Nat) (H : Hp) (σs : List (Option V)) (ds : List D) (L : List Addr) (Lo : Lent) (h : i < xs.length), Sta K Lo H (so hv ++ σs) (hd ++ ds) L → pin H → J.go i H ∧ ∀ x H', J.yld i H x H' → Still H H' ∧ Sta K Lo H' (some x :: (so hv ++ σs)) (xs[i] :: (hd ++ ds)) L
  stop : ∀ (i : Nat) (H : Hp) (σs : List (Option V)) (ds : List D) (L : List Addr) (Lo : Lent), xs.length ≤ i → Sta K Lo H (so hv ++ σs) (hd ++ ds) L → pin H → J.stop i H
theorem Walk.p {J : It} {hv : List V} {hd : List D} {xs : List D} (w : Walk K J hv hd xs) : WalkP K (fun _ => True) J hv hd xs := ⟨fun i H σs ds L Lo h s _ => w.go i H σs ds L Lo h s, fun i H σs ds L Lo h s _ => w.stop i H σs ds L Lo h s⟩
/-- an iterable computes its items -/
structure SatI (K : PySem.W.Frag) (q : Bool) (t : TI) (f : Ev → Option (List D × Ev)) : Prop where
  run : ∀ (σ : L2.St) (H : Hp) (env : Ev) (ts : List (Option V)) (td : List D) (L : List Addr) (Lo : Lent), ts.length = td.length → Sta K Lo H (ts ++ σ) (td ++ env) L → ∀ xs env', f env = some (xs, env') → ∀ R : It → Hp → Prop,
    (∀ J H' hv hd Lb, Came K Lo q H (ts ++ σ) td env L H' hv hd env' [] Lb → Walk K J hv hd xs → (xs.all D.closed = true → hd.all D.closed = true) → R J H') → t σ H R
structure SatIC (K : PySem.W.Frag) (t : TI) (f : Ev → Option (List D × Ev)) : Prop where
  run : ∀ (σ : L2.St) (H : Hp) (env : Ev) (ts : List (Option V)) (td : List D) (L : List Addr) (Lo : Lent), ts.length = td.length → td.all D.closed = true → Sta K Lo H (ts ++ σ) (td ++ env) L → ∀ xs env', f env = some (xs, env') → ∀ R : It → Hp → Prop,
    (∀ J H' hv hd Lb, Came K Lo false H (ts ++ σ) td env L H' hv hd env' [] Lb → Walk K J hv hd xs → hd.all D.closed = true → R J H') → t σ H R

/-! a list, a tuple -/
theorem walk_list {f : Fl} {ys : List D} {a : Addr} (nof : (D.lst f ys).noOwn = true) : Walk K (Itl K a) [.ref a] [.lst f ys] ys := by
  have nys : ys.all D.noOwn = true := by
    unfold D.noOwn at nof
    rw [D.allF, allFs_all, Bool.and_eq_true] at nof
    exact nof.2
  have look : ∀ {H : Hp} {σs : List (Option V)} {ds : List D} {L : List Addr} {Lo : Lent}, Sta K Lo H (so [V.ref a] ++ σs) ([.lst f ys] ++ ds) L → ∃ us, SqL K H a us ∧ Dens K H (Nw L Lo) (so us) ys [] := by
    intro H σs ds L Lo s
    obtain ⟨L1, L2, rfl, h1, h2⟩ := Dens.cons (o := some (.ref a)) (d := .lst f ys) (σ := σs) (ds := ds) s.dens
    obtain ⟨a', us, M, e, q1, _, q2, _⟩ := inv_lst h1
    cases e
    have := noOwn_nil q2 nys
    subst this
    exact ⟨us, q1, q2⟩
  refine ⟨fun i H σs ds L Lo hi s => ?_, fun i H σs ds L Lo hi s => ?_⟩
  · obtain ⟨us, q1, q2⟩ := look s
    have len := len_so q2
    obtain ⟨o, M, e1, e2, e3⟩ := q2.at (i := i) (d := ys[i]) (List.getElem?_eq_getElem hi)
    have m0 : M = [] := List.eq_nil_of_length_eq_zero (Nat.le_zero.mp e3.length_le)
    subst m0
    rw [List.getElem?_map] at e1
    obtain ⟨x0, e4, e5⟩ := Option.map_eq_some_iff.mp e1
    subst e5
    refine ⟨⟨us, x0, q1, e4⟩, fun x H' y => ?_⟩
    obtain ⟨rfl, y⟩ := y
    have := y us q1
    rw [e4] at this
    cases this
    exact ⟨Still.refl _, s.good, e2.put s.dens⟩
  · obtain ⟨us, q1, q2⟩ := look s
    exact ⟨us, q1, by rw [len_so q2]; exact hi⟩
theorem walk_tup {d : D} {ys : List D} {a : Addr} (e : d.seq? = some ys) (nl : ∀ f zs, d ≠ .lst f zs) (nof : d.noOwn = true) : Walk K (Itt K a) [.ref a] [d] ys := by
  have nys : ys.all D.noOwn = true := by
    cases d <;> try (cases e; done)
    · cases e
      unfold D.noOwn at nof
      rw [D.allF, allFs_all] at nof
      exact nof
    · cases e
      unfold D.noOwn at nof
      rw [D.allF, allFs_all] at nof
      exact nof
    · exact absurd rfl (nl _ _)
  have look : ∀ {H : Hp} {σs : List (Option V)} {ds : List D} {L : List Addr} {Lo : Lent}, Sta K Lo H (so [V.ref a] ++ σs) ([d] ++ ds) L → ∃ us, SqT K H a us ∧ Dens K H (Nw L Lo) (so us) ys [] := by
    intro H σs ds L Lo s
    obtain ⟨L1, L2, rfl, h1, h2⟩ := Dens.cons (o := some (.ref a)) (d := d) (σ := σs) (ds := ds) s.dens
    obtain ⟨a', us, M, e', q1, q2, _⟩ := inv_seqT e nl h1
    cases e'
    have := noOwn_nil q2 nys
    subst this
    exact ⟨us, q1, q2⟩
  refine ⟨fun i H σs ds L Lo hi s => ?_, fun i H σs ds L Lo hi s => ?_⟩
  · obtain ⟨us, q1, q2⟩ := look s
    have len := len_so q2
    obtain ⟨o, M, e1, e2, e3⟩ := q2.at (i := i) (d := ys[i]) (List.getElem?_eq_getElem hi)
    have m0 : M = [] := List.eq_nil_of_length_eq_zero (Nat.le_zero.mp e3.length_le)
    subst m0
    rw [List.getElem?_map] at e1
    obtain ⟨x0, e4, e5⟩ := Option.map_eq_some_iff.mp e1
    subst e5
    refine ⟨⟨us, x0, q1, e4⟩, fun x H' y => ?_⟩
    obtain ⟨rfl, y⟩ := y
    have := y us q1
    rw [e4] at this
    cases this
    exact ⟨Still.refl _, s.good, e2.put s.dens⟩
  · obtain ⟨us, q1, q2⟩ := look s
    exact ⟨us, q1, by rw [len_so q2]; exact hi⟩
def itL (f : Ev → Option (D × Ev)) : Ev → Option (List D × Ev) := fun env =>
  match f env with
  | some (.lst fl xs, e) => some (xs.map D.frz, e)
  | _ => none
def itT (f : Ev → Option (D × Ev)) : Ev → Option (List D × Ev) := fun env =>
  match f env with
  | some (.tup xs, e) => some (xs.map D.frz, e)
  | some (.tupE xs, e) => some (xs.map D.frz, e)
  | _ => none
/-- the closedness of what is held follows from the check on it -/
def itLC (f : Ev → Option (D × Ev)) : Ev → Option (List D × Ev) := fun env =>
  match f env with
  | some (.lst fl xs, e) => if fl ≠ .view ∧ xs.all D.closed then some (xs.map D.frz, e) else none
  | _ => none
def itTC (f : Ev → Option (D × Ev)) : Ev → Option (List D × Ev) := fun env =>
  match f env with
  | some (.tup xs, e) => if xs.all D.closed then some (xs.map D.frz, e) else none
  | some (.tupE xs, e) => if xs.all D.closed then some (xs.map D.frz, e) else none
  | _ => none
mutual
theorem frz_closed : ∀ d : D, d.closed = true → d.frz.closed = true
  | .und, _ => rfl
  | .non, _ => rfl
  | .bl _, _ => rfl
  | .int _, _ => rfl
  | .str _, _ => rfl
  | .ty _, _ => rfl
  | .cls _, _ => rfl
  | .tup xs, h => frzs_closed xs h
  | .tupE xs, h => frzs_closed xs h
  | .lst f xs, h => by
    have h' : (decide (f ≠ .view) && D.allFs (fun f => decide (f ≠ .view)) xs) = true := h
    rw [Bool.and_eq_true] at h'
    show (decide (zf f ≠ .view) && D.allFs _ (D.mapFs zf xs)) = true
    rw [frzs_closed xs h'.2]
    have h1 := of_decide_eq_true h'.1
    cases f <;> first | rfl | exact absurd rfl h1
  | .dK f kvs, h => by
    have h' : (decide (f ≠ .view) && D.allFk (fun f => decide (f ≠ .view)) kvs) = true := h
    rw [Bool.and_eq_true] at h'
    show (decide (zf f ≠ .view) && D.allFk _ (D.mapFk zf kvs)) = true
    rw [frzk_closed kvs h'.2]
    have h1 := of_decide_eq_true h'.1
    cases f <;> first | rfl | exact absurd rfl h1
  | .dT f kvs, h => by
    have h' : (decide (f ≠ .view) && D.allFt (fun f => decide (f ≠ .view)) kvs) = true := h
    rw [Bool.and_eq_true] at h'
    show (decide (zf f ≠ .view) && D.allFt _ (D.mapFt zf kvs)) = true
    rw [frzt_closed kvs h'.2]
    have h1 := of_decide_eq_true h'.1
    cases f <;> first | rfl | exact absurd rfl h1
  | .ins f _ kvs, h => by
    have h' : (decide (f ≠ .view) && D.allFf (fun f => decide (f ≠ .view)) kvs) = true := h
    rw [Bool.and_eq_true] at h'
    show (decide (zf f ≠ .view) && D.allFf _ (D.mapFf zf kvs)) = true
    rw [frzf_closed kvs h'.2]
    have h1 := of_decide_eq_true h'.1
    cases f <;> first | rfl | exact absurd rfl h1
theorem frzs_closed : ∀ xs : List D, D.allFs (fun f => decide (f ≠ .view)) xs = true → D.allFs (fun f => decide (f ≠ .view)) (D.mapFs zf xs) = true
  | [], _ => rfl
  | x :: r, h => by
    have h' : (D.allF (fun f => decide (f ≠ .view)) x && D.allFs (fun f => decide (f ≠ .view)) r) = true := h
    rw [Bool.and_eq_true] at h'
    show (D.allF _ (D.mapF zf x) && D.allFs _ (D.mapFs zf r)) = true
    rw [frzs_closed r h'.2, show D.allF (fun f => decide (f ≠ .view)) (D.mapF zf x) = true from frz_closed x h'.1]; rfl
theorem frzk_closed : ∀ xs : List (Key × D), D.allFk (fun f => decide (f ≠ .view)) xs = true → D.allFk (fun f => decide (f ≠ .view)) (D.mapFk zf xs) = true
  | [], _ => rfl
  | (k, x) :: r, h => by
    have h' : (D.allF (fun f => decide (f ≠ .view)) x && D.allFk (fun f => decide (f ≠ .view)) r) = true := h
    rw [Bool.and_eq_true] at h'
    show (D.allF _ (D.mapF zf x) && D.allFk _ (D.mapFk zf r)) = true
    rw [frzk_closed r h'.2, show D.allF (fun f => decide (f ≠ .view)) (D.mapF zf x) = true from frz_closed x h'.1]; rfl
theorem frzt_closed : ∀ xs : List (List Key × D), D.allFt (fun f => decide (f ≠ .view)) xs = true → D.allFt (fun f => decide (f ≠ .view)) (D.mapFt zf xs) = true
  | [], _ => rfl
  | (k, x) :: r, h => by
    have h' : (D.allF (fun f => decide (f ≠ .view)) x && D.allFt (fun f => decide (f ≠ .view)) r) = true := h
    rw [Bool.and_eq_true] at h'
    show (D.allF _ (D.mapF zf x) && D.allFt _ (D.mapFt zf r)) = true
    rw [frzt_closed r h'.2, show D.allF (fun f => decide (f ≠ .view)) (D.mapF zf x) = true from frz_closed x h'.1]; rfl
theorem frzf_closed : ∀ xs : List (Str × D), D.allFf (fun f => decide (f ≠ .view)) xs = true → D.allFf (fun f => decide (f ≠ .view)) (D.mapFf zf xs) = true
  | [], _ => rfl
  | (k, x) :: r, h => by
    have h' : (D.allF (fun f => decide (f ≠ .view)) x && D.allFf (fun f => decide (f ≠ .view)) r) = true := h
    rw [Bool.and_eq_true] at h'
    show (D.allF _ (D.mapF zf x) && D.allFf _ (D.mapFf zf r)) = true
    rw [frzf_closed r h'.2, show D.allF (fun f => decide (f ≠ .view)) (D.mapF zf x) = true from frz_closed x h'.1]; rfl
end
end
end TL

set_option Elab.async false
set_option linter.all false
set_option maxRecDepth 100000
/-! TL11: iterables, for, while. -/
namespace TL
open PySem PySem.Spec PyProof.Rows L2

section
variable {K : PySem.W.Frag}
/-- an iterable made of values -/
def WalkOp (K : PySem.W.Frag) (r : List V → Hp → (It → Hp → Prop) → Prop) (g : List D → Option (List D)) : Prop :=
  ∀ (H : Hp) (N : Fl → Addr → Prop) (vs : List V) (ds : List D), Dens K H N (so vs) ds [] → ds.all D.noOwn = true → ∀ xs, g ds = some xs → ∀ R : It → Hp → Prop, (∀ J, Walk K J vs ds xs → R J H) → r vs H R
def itOp (g : List D → Option (List D)) (fs : Ev → Option (List D × Ev)) : Ev → Option (List D × Ev) := fun env =>
  match fs env with
  | none => none
  | some (ds, e) => match g (ds.map D.frz) with
    | none => none
    | some xs => some (xs, e)
theorem frz_all (ds : List D) : (ds.map D.frz).all D.noOwn = true := by
  rw [List.all_map]
  exact List.all_eq_true.mpr fun d _ => frz_noOwn d
theorem SatI.op {q : Bool} {ld : List (Option Nat)} {ta : TA} {fs : Ev → Option (List D × Ev)} {r : List V → Hp → (It → Hp → Prop) → Prop} {g : List D → Option (List D)} (h : SatA K q ld ta fs) (o : WalkOp K r g) (gc : ∀ ds xs, g ds = some xs → xs.all D.closed = true → ds.all D.closed = true) :
    SatI K q (fun σ H R => ta σ H fun vs H1 => r vs H1 R) (itOp g fs) := by
  refine ⟨fun σ H env ts td L Lo hl s xs env' e R k => ?_⟩
  unfold itOp at e
  cases e1 : fs env with
  | none => rw [e1] at e; cases e
  | some p =>
    obtain ⟨ds, en1⟩ := p
    simp only [e1] at e
    cases e2 : g (ds.map D.frz) with
    | none => simp only [e2] at e; cases e
    | some ys =>
      simp only [e2] at e
      obtain ⟨rfl, rfl⟩ := Prod.mk.inj (Option.some.inj e)
      refine h.run σ H env ts td L Lo hl s ds en1 e1 _ fun vs H1 Lr Lb c _ => ?_
      have c2 := c.freeze
      exact o H1 _ vs (ds.map D.frz) c2.top (frz_all ds) ys e2 R fun J w => k J H1 vs (ds.map D.frz) Lb c2 w (gc _ _ e2)
theorem SatI.or {q : Bool} {t t' : TI} {f f' : Ev → Option (List D × Ev)} (h : SatI K q t f) (h' : SatI K q t' f') : SatI K q (fun σ H R => t σ H R ∨ t' σ H R) fun env => (f env).or (f' env) := by
  refine ⟨fun σ H env ts td L Lo hl s xs env' e R k => ?_⟩
  have e : (f env).or (f' env) = some (xs, env') := e
  cases e1 : f env with
  | some p =>
    rw [e1] at e; cases e
    exact .inl (h.run σ H env ts td L Lo hl s _ _ e1 R k)
  | none =>
    rw [e1] at e
    exact .inr (h'.run σ H env ts td L Lo hl s _ _ e R k)
/-- arguments at a statement's head -/
structure SatAC (K : PySem.W.Frag) (t : TA) (f : Ev → Option (List D × Ev)) : Prop where
  run : ∀ (σ : L2.St) (H : Hp) (env : Ev) (ts : List (Option V)) (td : List D) (L : List Addr) (Lo : Lent), ts.length = td.length → td.all D.closed = true → Sta K Lo H (ts ++ σ) (td ++ env) L → ∀ ds env', f env = some (ds, env') → ∀ Q : List V → Hp → Prop,
    (∀ vs H' Lr Lb, Came K Lo false H (ts ++ σ) td env L H' vs ds env' Lr Lb → ds.all D.closed = true → Q vs H') → t σ H Q
def aConsK (f : Ev → Option (D × Ev)) (fs : Ev → Option (List D × Ev)) : Ev → Option (List D × Ev) := fun env =>
  match f env with
  | none => none
  | some (d, e1) => if d.closed then (match fs e1 with
    | none => none
    | some (ds, e2) => some (d :: ds, e2)) else none
theorem SatAC.nil : SatAC K tNil aNil := ⟨fun σ H env ts td L Lo hl hcl s d env' e Q k => by
  cases e
  exact k [] H [] L ⟨s.good, .nil, s.dens, Ext.refl _ _, fun z => by cases z⟩ rfl⟩
theorem SatAC.cons {t : TE} {ta : TA} {f : Ev → Option (D × Ev)} {fs : Ev → Option (List D × Ev)} (h : SatC K t f) (h' : SatAC K ta fs) : SatAC K (tCons t ta) (aConsK f fs) := by
  refine ⟨fun σ H env ts td L Lo hl hcl s ds env' e Q k => ?_⟩
  unfold aConsK at e
  cases e1 : f env with
  | none => rw [e1] at e; cases e
  | some p =>
    obtain ⟨d, en1⟩ := p
    simp only [e1] at e
    split at e
    · rename_i cd
      cases e2 : fs en1 with
      | none => simp only [e2] at e; cases e
      | some p2 =>
        obtain ⟨ds2, en2⟩ := p2
        simp only [e2] at e
        obtain ⟨rfl, rfl⟩ := Prod.mk.inj (Option.some.inj e)
        refine h.run σ H env ts td L Lo hl hcl s d en1 e1 _ fun v H1 Lr Lb c => ?_
        refine h'.run σ H1 en1 (some v :: ts) (d :: td) (Lr ++ Lb) Lo (by simp [hl]) (by rw [List.all_cons, cd, hcl]; rfl) c.sta ds2 en2 e2 _ fun vs H2 Mr Mb c2 cl2 => ?_
        obtain ⟨R, B, c3⟩ := c.more c2
        exact k (v :: vs) H2 R B c3 (by rw [List.all_cons, cd, cl2]; rfl)
    · cases e
theorem frz_closeds {ds : List D} (h : ds.all D.closed = true) : (ds.map D.frz).all D.closed = true := by
  rw [List.all_map]
  exact List.all_eq_true.mpr fun d hd => frz_closed d (List.all_eq_true.mp h d hd)
theorem SatIC.op {ta : TA} {fs : Ev → Option (List D × Ev)} {r : List V → Hp → (It → Hp → Prop) → Prop} {g : List D → Option (List D)} (h : SatAC K ta fs) (o : WalkOp K r g) :
    SatIC K (fun σ H R => ta σ H fun vs H1 => r vs H1 R) (itOp g fs) := by
  refine ⟨fun σ H env ts td L Lo hl hcl s xs env' e R k => ?_⟩
  unfold itOp at e
  cases e1 : fs env with
  | none => rw [e1] at e; cases e
  | some p =>
    obtain ⟨ds, en1⟩ := p
    simp only [e1] at e
    cases e2 : g (ds.map D.frz) with
    | none => simp only [e2] at e; cases e
    | some ys =>
      simp only [e2] at e
      obtain ⟨rfl, rfl⟩ := Prod.mk.inj (Option.some.inj e)
      refine h.run σ H env ts td L Lo hl hcl s ds en1 e1 _ fun vs H1 Lr Lb c cl => ?_
      have c2 := c.freeze
      exact o H1 _ vs (ds.map D.frz) c2.top (frz_all ds) ys e2 R fun J w => k J H1 vs (ds.map D.frz) Lb c2 w (frz_closeds cl)
theorem SatIC.or {t t' : TI} {f f' : Ev → Option (List D × Ev)} (h : SatIC K t f) (h' : SatIC K t' f') : SatIC K (fun σ H R => t σ H R ∨ t' σ H R) fun env => (f env).or (f' env) := by
  refine ⟨fun σ H env ts td L Lo hl hcl s xs env' e R k => ?_⟩
  have e : (f env).or (f' env) = some (xs, env') := e
  cases e1 : f env with
  | some p =>
    rw [e1] at e; cases e
    exact .inl (h.run σ H env ts td L Lo hl hcl s _ _ e1 R k)
  | none =>
    rw [e1] at e
    exact .inr (h'.run σ H env ts td L Lo hl hcl s _ _ e R k)

/-! the kinds -/
def wL : List D → Option (List D)
  | [.lst _ xs] => some xs
  | _ => none
def wT : List D → Option (List D)
  | [.tup xs] => some xs
  | [.tupE xs] => some xs
  | _ => none
def wS : List D → Option (List D)
  | [.str x] => some (x.cps.toList.map fun c => .str ⟨#[c]⟩)
  | _ => none
def wR1 : List D → Option (List D)
  | [.int j] => if -(2 ^ 62) ≤ j ∧ j < 2 ^ 62 then some ((List.range j.toNat).map fun i => .int ((i : Nat) : Int)) else none
  | _ => none
def wR2 : List D → Option (List D)
  | [.int i, .int j] => if -(2 ^ 62) ≤ i ∧ i < 2 ^ 62 ∧ -(2 ^ 62) ≤ j ∧ j < 2 ^ 62 then some ((List.range (j - i).toNat).map fun n => .int (i + ((n : Nat) : Int))) else none
  | _ => none
def wZ : List D → Option (List D)
  | [.lst _ xs, .lst _ ys] => some ((xs.zip ys).map fun p => .tup [p.1, p.2])
  | _ => none
def wE : List D → Option (List D)
  | [.lst _ xs] => some ((List.range xs.length).map fun i => .tup [.int ((i : Nat) : Int), xs.getD i .non])
  | _ => none
abbrev rwL (K : PySem.W.Frag) : List V → Hp → (It → Hp → Prop) → Prop := fun vs H R => match vs with
  | [x] => ∃ a, x = .ref a ∧ (∃ xs, SqL K H a xs) ∧ R (Itl K a) H
  | _ => False
abbrev rwT (K : PySem.W.Frag) : List V → Hp → (It → Hp → Prop) → Prop := fun vs H R => match vs with
  | [x] => ∃ a, x = .ref a ∧ (∃ xs, SqT K H a xs) ∧ R (Itt K a) H
  | _ => False
abbrev rwS : List V → Hp → (It → Hp → Prop) → Prop := fun vs H R => match vs with
  | [v] => ∃ x, v = .str x ∧ R (Its x) H
  | _ => False
theorem walk_L : WalkOp K (rwL K) wL := by
  intro H N vs ds hd no xs e R k
  unfold wL at e
  split at e
  · rename_i f ys
    cases e
    obtain ⟨x, rfl, h1⟩ := apart1 hd
    obtain ⟨a, us, L1, rfl, q, _⟩ := inv_lst h1
    exact ⟨a, rfl, ⟨us, q⟩, k _ (walk_list (by simpa using no))⟩
  · cases e
theorem walk_T : WalkOp K (rwT K) wT := by
  intro H N vs ds hd no xs e R k
  unfold wT at e
  split at e
  · rename_i ys
    cases e
    obtain ⟨x, rfl, h1⟩ := apart1 hd
    obtain ⟨a, us, L1, rfl, q, _⟩ := inv_tup h1
    exact ⟨a, rfl, ⟨us, .inl (.inl q)⟩, k _ (walk_tup rfl (fun _ _ z => by cases z) (by simpa using no))⟩
  · rename_i ys
    cases e
    obtain ⟨x, rfl, h1⟩ := apart1 hd
    obtain ⟨a, us, L1, rfl, q, _⟩ := inv_tupE h1
    exact ⟨a, rfl, ⟨us, q⟩, k _ (walk_tup rfl (fun _ _ z => by cases z) (by simpa using no))⟩
  · cases e
theorem walk_S : WalkOp K rwS wS := by
  intro H N vs ds hd no xs e R k
  unfold wS at e
  split at e
  · rename_i x
    cases e
    obtain ⟨v, rfl, h1⟩ := apart1 hd
    cases (one_str h1).1
    refine ⟨x, rfl, k _ ⟨fun i H σs ds L Lo hi s => ?_, fun i H σs ds L Lo hi s => ?_⟩⟩
    · have hi' : i < x.cps.size := by simpa using hi
      refine ⟨hi', fun v H' y => ?_⟩
      obtain ⟨rfl, c, e1, rfl⟩ := y
      have ec : c = x.cps[i] := by
        rw [Array.getElem?_eq_getElem hi'] at e1
        exact (Option.some.inj e1).symm
      refine ⟨Still.refl _, s.good, ?_⟩
      have : (List.map (fun c => D.str ⟨#[c]⟩) x.cps.toList)[i] = .str ⟨#[c]⟩ := by simp [ec]
      rw [this]
      exact .str s.dens
    · show x.cps.size ≤ i
      simpa using hi
  · cases e
/-- any of a list, a tuple, a text -/
def itSeq (f : Ev → Option (D × Ev)) : Ev → Option (List D × Ev) := fun env => (itOp wL (aConsK f aNil) env).or ((itOp wT (aConsK f aNil) env).or (itOp wS (aConsK f aNil) env))
def itSeqQ (f : Ev → Option (D × Ev)) : Ev → Option (List D × Ev) := fun env => (itOp wL (aCons f aNil) env).or ((itOp wT (aCons f aNil) env).or (itOp wS (aCons f aNil) env))
def tiSeq (K : PySem.W.Frag) (te : TE) : TI := fun σ H R => iList K te σ H R ∨ (iTup K te σ H R ∨ iStr te σ H R)
theorem SatIC.seq {te : TE} {f : Ev → Option (D × Ev)} (h : SatC K te f) : SatIC K (tiSeq K te) (itSeq f) :=
  SatIC.or (t := iList K te) (SatIC.op (r := rwL K) (SatAC.cons h SatAC.nil) walk_L) (SatIC.or (t := iTup K te) (t' := iStr te) (SatIC.op (r := rwT K) (SatAC.cons h SatAC.nil) walk_T) (SatIC.op (r := rwS) (SatAC.cons h SatAC.nil) walk_S))
theorem allc_seq {xs : List D} : D.allFs (fun f => decide (f ≠ .view)) xs = xs.all D.closed := allFs_all _ xs

/-! for -/
def loopL (bind : D → Ev → Option Ev) (body : Ev → Option Out) : List D → Ev → Option Out
  | [], env => some (.nx env)
  | x :: xs, env => match bind x env with
    | none => none
    | some e1 => match body e1 with
      | some (.nx e2) => loopL bind body xs e2
      | some (.ct e2) => loopL bind body xs e2
      | some (.bk e2) => some (.nx e2)
      | some (.rt d e2) => some (.rt d e2)
      | none => none
def sFor (fi : Ev → Option (List D × Ev)) (bind : D → Ev → Option Ev) (body : Ev → Option Out) : Ev → Option Out := fun env =>
  match fi env with
  | none => none
  | some (xs, e) => loopL bind body xs e
theorem Sta.dropF {Lo : Lent} {H : Hp} {hv bs : List (Option V)} {hd ds : List D} {L : List Addr} (hl : hv.length = hd.length) (s : Sta K Lo H (hv ++ bs) (hd ++ ds) L) : ∃ L', Sta K Lo H bs ds L' ∧ ∀ a ∈ L', a ∈ L := by
  obtain ⟨L1, L2, rfl, h1, h2⟩ := Dens.split hl s.dens
  have m : ∀ a ∈ L2, a ∈ L1 ++ L2 := fun a ha => List.mem_append_right _ ha
  exact ⟨L2, ⟨s.good.sub (List.nodup_append.mp s.good.nd).2.1 m, h2.know fun f a n _ => nw_sub m f a n⟩, m⟩
theorem Sta.dropM {Lo : Lent} {H : Hp} {v : Option V} {d : D} {hv bs : List (Option V)} {hd ds : List D} {L : List Addr} (hl : hv.length = hd.length) (s : Sta K Lo H (v :: (hv ++ bs)) (d :: (hd ++ ds)) L) : ∃ L', Sta K Lo H (v :: bs) (d :: ds) L' ∧ ∀ a ∈ L', a ∈ L := by
  obtain ⟨L', s', pm⟩ := rot1 hl s
  obtain ⟨L2, s2, m⟩ := s'.dropF hl
  exact ⟨L2, s2, fun a ha => pm.mem_iff.mpr (m a ha)⟩
/-- what a loop asks behind its iterable -/
def forK (J : It) (H1 : Hp) (g : TG) (tb : TS) (σ : L2.St) (D : Ends) : Prop :=
    ∃ W : Nat → Nat → L2.St → Hp → Prop, (∃ m, W 0 m σ H1) ∧ ∀ (i m : Nat) (σ : L2.St) (H : Hp), W i m σ H →
            J.stop i H ∧ D.nx σ H ∨ J.go i H ∧ ∃ N : L2.St → Hp → Prop, (∀ (σ' : L2.St) (H' : Hp), N σ' H' → ∃ m', m' < m ∧ W (i + 1) m' σ' H') ∧
                  ∀ (x : V) (H' : Hp), J.yld i H x H' → g x σ H' fun σ2 H2 => tb { nx := N, rt := D.rt, bk := D.nx, ct := N } σ2 H2
theorem loop_rest {pn : List Nat} {g : TG} {tb : TS} {fg : D → Ev → Option Ev} {body : Ev → Option Out} (hg : SatG K pn g fg) (hb : SatS K pn tb body) {σ : L2.St} {H H1 : Hp} {env en0 : Ev} {ts : List (Option V)} {td hd xs : List D} {L Lb : List Addr} {Lo : Lent} {pv : Nat → V} (hl : ts.length = td.length) (hcl : td.all D.closed = true) (p : Pins pn pv σ)
    {o : Out} {E : Ends} {J : It} {hv : List V} (e : loopL fg body xs en0 = some o) (c : Came K Lo false H (ts ++ σ) td env L H1 hv hd en0 [] Lb) {pin : Hp → Prop} (wk : WalkP K pin J hv hd xs) (hpin : ∀ H', (∀ a, H1 a ≠ none → a ∉ Lb → H' a = H1 a) → pin H') (hdc : hd.all D.closed = true) (k : EndsOk K Lo pn pv ts td L H E o) : forK J H1 g tb σ E := by
  have hhl : (so hv).length = hd.length := c.top.length
  have hl2 : (so hv ++ ts).length = (hd ++ td).length := by rw [List.length_append, List.length_append, hhl, hl]
  have hcl2 : (hd ++ td).all D.closed = true := by rw [List.all_append, hdc, hcl]; rfl
  have s1 : Sta K Lo H1 (so hv ++ (ts ++ σ)) (hd ++ (td ++ en0)) Lb := ⟨by simpa using c.good, by have := c.top.app c.base; simpa using this⟩
  have x1 : Ext L H Lb H1 := by simpa using c.ext
  refine ⟨fun i m σ' H' => m = xs.length - i ∧ i ≤ xs.length ∧ ∃ en Li, Pins pn pv σ' ∧ Sta K Lo H' (so hv ++ (ts ++ σ')) (hd ++ (td ++ en)) Li ∧ Ext Lb H1 Li H' ∧ loopL fg body (xs.drop i) en = some o,
    ⟨xs.length, by simp, Nat.zero_le _, en0, Lb, p, s1, Ext.refl _ _, by simpa using e⟩, ?_⟩
  rintro i m σ' H' ⟨rfl, hile, en, Li, pp, si, xi, el⟩
  by_cases hlt : i < xs.length
  · -- a turn
    refine .inr ⟨(wk.go i H' _ _ Li Lo hlt si (hpin H' fun a h n => xi.keep a h n)).1, _, fun σ2 H2 q => ⟨xs.length - (i + 1), by omega, q⟩, fun x H2 y => ?_⟩
    obtain ⟨st, s2⟩ := (wk.go i H' _ _ Li Lo hlt si (hpin H' fun a h n => xi.keep a h n)).2 x H2 y
    rw [List.drop_eq_getElem_cons hlt] at el
    unfold loopL at el
    cases e2 : fg xs[i] en with
    | none => rw [e2] at el; cases el
    | some en1 =>
      simp only [e2] at el
      have s2' : Sta K Lo H2 (some x :: ((so hv ++ ts) ++ σ')) (xs[i] :: ((hd ++ td) ++ en)) Li := by rw [List.append_assoc, List.append_assoc]; exact s2
      have x2 : Ext Lb H1 Li H2 := xi.trans (Ext.of_still st fun a ha => .inl ha)
      refine hg.run σ' H2 en (so hv ++ ts) (hd ++ td) Li Lo pv x xs[i] hl2 pp s2' en1 e2 _ fun σ3 L3 p3 s3 m3 => ?_
      have x3 : Ext Lb H1 L3 H2 := x2.sub m3
      cases e3 : body en1 with
      | none => simp only [e3] at el; cases el
      | some o1 =>
        refine hb.run σ3 H2 en1 (so hv ++ ts) (hd ++ td) L3 Lo pv hl2 hcl2 p3 s3 o1 e3 _ ?_
        cases o1 with
        | nx en2 =>
          simp only [e3] at el
          intro σ4 H4 L4 p4 s4 x4
          rw [List.append_assoc, List.append_assoc] at s4
          exact ⟨rfl, hlt, en2, L4, p4, s4, x3.trans x4, el⟩
        | ct en2 =>
          simp only [e3] at el
          intro σ4 H4 L4 p4 s4 x4
          rw [List.append_assoc, List.append_assoc] at s4
          exact ⟨rfl, hlt, en2, L4, p4, s4, x3.trans x4, el⟩
        | bk en2 =>
          simp only [e3] at el
          cases el
          intro σ4 H4 L4 p4 s4 x4
          rw [List.append_assoc, List.append_assoc] at s4
          obtain ⟨L5, s5, m5⟩ := s4.dropF hhl
          exact k σ4 H4 L5 p4 s5 ((x1.trans (x3.trans x4)).sub m5)
        | rt d en2 =>
          simp only [e3] at el
          cases el
          intro v σ4 H4 L4 p4 s4 x4
          rw [List.append_assoc, List.append_assoc] at s4
          obtain ⟨L5, s5, m5⟩ := Sta.dropM hhl s4
          exact k v σ4 H4 L5 p4 s5 ((x1.trans (x3.trans x4)).sub m5)
  · -- the end
    have hi : i = xs.length := by omega
    refine .inl ⟨wk.stop i H' _ _ Li Lo (Nat.le_of_eq hi.symm) si (hpin H' fun a h n => xi.keep a h n), ?_⟩
    subst hi
    rw [List.drop_length] at el
    cases el
    obtain ⟨L5, s5, m5⟩ := si.dropF hhl
    exact k σ' H' L5 pp s5 ((x1.trans xi).sub m5)
theorem SatS.loop {pn : List Nat} {wi : TI} {g : TG} {tb : TS} {fi : Ev → Option (List D × Ev)} {fg : D → Ev → Option Ev} {body : Ev → Option Out} (hi : SatIC K wi fi) (hg : SatG K pn g fg) (hb : SatS K pn tb body) : SatS K pn (tFor wi g tb) (sFor fi fg body) := by
  refine ⟨fun σ H env ts td L Lo pv hl hcl p s o e E k => ?_⟩
  unfold sFor at e
  cases e1 : fi env with
  | none => rw [e1] at e; cases e
  | some pr =>
    obtain ⟨xs, en0⟩ := pr
    simp only [e1] at e
    refine hi.run σ H env ts td L Lo hl hcl s xs en0 e1 _ fun J H1 hv hd Lb c wk hdc => ?_
    exact loop_rest hg hb hl hcl p e c wk.p (fun _ _ => trivial) hdc k
/-! while -/
def whileL (c : Ev → Option (Bool × Ev)) (body : Ev → Option Out) : Nat → Ev → Option Out
  | 0, _ => none
  | n + 1, env => match c env with
    | none => none
    | some (false, e) => some (.nx e)
    | some (true, e) => match body e with
      | some (.nx e2) => whileL c body n e2
      | some (.ct e2) => whileL c body n e2
      | some (.bk e2) => some (.nx e2)
      | some (.rt d e2) => some (.rt d e2)
      | none => none
theorem SatS.while {pn : List Nat} {n : Nat} {tc : TT} {tb : TS} {c : Ev → Option (Bool × Ev)} {body : Ev → Option Out} (hc : SatBC K tc c) (hb : SatS K pn tb body) : SatS K pn (tWhile tc tb) (whileL c body n) := by
  refine ⟨fun σ H env ts td L Lo pv hl hcl p s o e E k => ?_⟩
  refine ⟨fun m σ' H' => ∃ en Li, Pins pn pv σ' ∧ Sta K Lo H' (ts ++ σ') (td ++ en) Li ∧ Ext L H Li H' ∧ whileL c body m en = some o, ⟨n, env, L, p, s, Ext.refl _ _, e⟩, ?_⟩
  rintro m σ1 H1 ⟨en, Li, pp, si, xi, el⟩
  cases m with
  | zero => cases el
  | succ m =>
    unfold whileL at el
    split at el
    · cases el
    · rename_i e2 e1
      cases el
      refine hc.run σ1 H1 en ts td Li Lo hl hcl si _ _ e1 _ fun H2 Lb cm => ?_
      rw [if_neg Bool.false_ne_true]
      exact k σ1 H2 Lb pp cm.base0 (xi.trans cm.ext)
    · rename_i e2 e1
      refine hc.run σ1 H1 en ts td Li Lo hl hcl si _ _ e1 _ fun H2 Lb cm => ?_
      rw [if_pos rfl]
      refine ⟨_, fun σ' H' q => ⟨m, Nat.lt_succ_self m, q⟩, ?_⟩
      have x2 : Ext L H Lb H2 := xi.trans cm.ext
      cases e3 : body e2 with
      | none => simp only [e3] at el; cases el
      | some o1 =>
        refine hb.run σ1 H2 e2 ts td Lb Lo pv hl hcl pp cm.base0 o1 e3 _ ?_
        cases o1 with
        | nx en2 =>
          simp only [e3] at el
          exact fun σ4 H4 L4 p4 s4 x4 => ⟨en2, L4, p4, s4, x2.trans x4, el⟩
        | ct en2 =>
          simp only [e3] at el
          exact fun σ4 H4 L4 p4 s4 x4 => ⟨en2, L4, p4, s4, x2.trans x4, el⟩
        | bk en2 =>
          simp only [e3] at el
          cases el
          exact fun σ4 H4 L4 p4 s4 x4 => k σ4 H4 L4 p4 s4 (x2.trans x4)
        | rt d en2 =>
          simp only [e3] at el
          cases el
          exact fun v σ4 H4 L4 p4 s4 x4 => k v σ4 H4 L4 p4 s4 (x2.trans x4)
end
end TL

set_option Elab.async false
set_option linter.all false
set_option maxRecDepth 100000
/-! TL12: list comprehensions. -/
namespace TL
open PySem PySem.Spec PyProof.Rows L2

def D.isFlat : D → Bool
  | .und => true
  | .non => true
  | .bl _ => true
  | .int _ => true
  | .str _ => true
  | .ty _ => true
  | .cls _ => true
  | _ => false
theorem flat_any {K : PySem.W.Frag} {H : Hp} {N : Fl → Addr → Prop} {o : Option V} {d : D} {L : List Addr} (f : d.isFlat = true) (h : Dens K H N [o] [d] L) : L = [] ∧ ∀ (K' : PySem.W.Frag) (H' : Hp) (N' : Fl → Addr → Prop), Dens K' H' N' [o] [d] [] := by
  cases h <;> first
    | (rename_i h; cases h; refine ⟨rfl, fun _ _ _ => ?_⟩; constructor; constructor)
    | cases f
def wipeD (env : Ev) : List Nat → Ev
  | [] => env
  | v :: vs => (wipeD env vs).set v .und
/-- the slots vs hold what they held ahead of it -/
def restD (env0 : Ev) : Ev → List Nat → Ev
  | e, [] => e
  | e, v :: vs => restD env0 (e.set v (env0.getD v .und)) vs
def flatAt (vs : List Nat) (env : Ev) : Bool := vs.all fun v => (env.getD v .und).isFlat && decide (v < env.length)

section
variable {K : PySem.W.Frag}
theorem set_oob {α : Type} : ∀ {l : List α} {i : Nat} {x : α}, l.length ≤ i → l.set i x = l
  | [], _, _, _ => rfl
  | _ :: _, 0, _, h => absurd h (Nat.not_succ_le_zero _)
  | y :: l, i + 1, x, h => by rw [List.set_cons_succ, set_oob (Nat.le_of_succ_le_succ h)]
theorem wipe_comm {i : Nat} {x : Option V} : ∀ {vs : List Nat} {σ : L2.St}, wipe (σ.set i x) vs = if i ∈ vs then wipe σ vs else (wipe σ vs).set i x
  | [], σ => rfl
  | v :: vs, σ => by
    show (wipe (σ.set i x) vs).set v none = if i ∈ v :: vs then (wipe σ vs).set v none else ((wipe σ vs).set v none).set i x
    rw [wipe_comm (vs := vs)]
    by_cases h : i ∈ vs
    · rw [if_pos h, if_pos (List.mem_cons_of_mem _ h)]
    · rw [if_neg h]
      by_cases e : i = v
      · subst e; rw [if_pos (List.mem_cons_self ..), List.set_set]
      · rw [if_neg (by simp [h, e]), List.set_comm _ _ e]
theorem wipe_in {i : Nat} {x : Option V} {vs : List Nat} {σ : L2.St} (h : i ∈ vs) : wipe (σ.set i x) vs = wipe σ vs := by rw [wipe_comm, if_pos h]
theorem wipe_idem : ∀ {vs ws : List Nat} {σ : L2.St}, (∀ v ∈ vs, v ∈ ws) → wipe (wipe σ vs) ws = wipe σ ws
  | [], ws, σ, _ => rfl
  | v :: vs, ws, σ, h => by
    show wipe ((wipe σ vs).set v none) ws = _
    rw [wipe_in (h v (List.mem_cons_self ..)), wipe_idem fun u hu => h u (List.mem_cons_of_mem _ hu)]
/-- a slot that owns nothing is set to what owns nothing -/
theorem Dens.setFlat {H : Hp} {N : Fl → Addr → Prop} {o : Option V} {d : D} (h1 : Dens K H N [o] [d] []) : ∀ {σ : List (Option V)} {ds : List D} {L : List Addr}, Dens K H N σ ds L → ∀ i : Nat, (ds.getD i .und).isFlat = true → Dens K H N (σ.set i o) (ds.set i d) L
  | [], [], _, h, _, _ => h
  | [], _ :: _, _, h, _, _ => by cases h.length
  | _ :: _, [], _, h, _, _ => by cases h.length
  | o0 :: σ, d0 :: ds, L, h, 0, f => by
    obtain ⟨M1, M2, rfl, q1, q2⟩ := h.cons
    obtain ⟨rfl, _⟩ := flat_any (d := d0) f q1
    exact h1.put q2
  | o0 :: σ, d0 :: ds, L, h, i + 1, f => by
    obtain ⟨M1, M2, rfl, q1, q2⟩ := h.cons
    exact q1.put (Dens.setFlat h1 q2 i f)
theorem getD_set {ds : List D} {i j : Nat} {x : D} (h : (ds.getD j .und).isFlat = true) (hx : x.isFlat = true) : ((ds.set i x).getD j .und).isFlat = true := by
  rw [List.getD_eq_getElem?_getD, List.getElem?_set]
  by_cases e : i = j
  · subst e
    rw [if_pos rfl]
    split
    · exact hx
    · rfl
  · rw [if_neg e, ← List.getD_eq_getElem?_getD]; exact h
theorem wipeD_flat {env : Ev} {j : Nat} (h : (env.getD j .und).isFlat = true) : ∀ vs : List Nat, ((wipeD env vs).getD j .und).isFlat = true
  | [] => h
  | v :: vs => getD_set (wipeD_flat h vs) rfl
theorem wipeD_len {env : Ev} : ∀ vs : List Nat, (wipeD env vs).length = env.length
  | [] => rfl
  | v :: vs => by unfold wipeD; rw [List.length_set, wipeD_len vs]
theorem Dens.wipe {H : Hp} {N : Fl → Addr → Prop} {σ : List (Option V)} {env : Ev} {L : List Addr} (h : Dens K H N σ env L) : ∀ vs : List Nat, flatAt vs env = true → Dens K H N (L2.wipe σ vs) (wipeD env vs) L
  | [], _ => h
  | v :: vs, f => by
    unfold flatAt at f
    rw [List.all_cons, Bool.and_eq_true, Bool.and_eq_true] at f
    exact Dens.setFlat (.und .nil) (h.wipe vs f.2) v (wipeD_flat f.1.1 vs)
/-- back from the wiped slots -/
theorem Dens.unwipe {H0 H : Hp} {N0 N : Fl → Addr → Prop} {σ : List (Option V)} {env0 : Ev} {L0 : List Addr} (h0 : Dens K H0 N0 σ env0 L0) : ∀ (vs : List Nat) {es : Ev} {L : List Addr}, vs.Nodup → flatAt vs env0 = true → Dens K H N (L2.wipe σ vs) es L →
    ∃ L9, (∀ a ∈ L9, a ∈ L) ∧ (L.Nodup → L9.Nodup) ∧ Dens K H N σ (restD env0 es vs) L9
  | [], es, L, _, _, h => ⟨L, fun _ h => h, fun h => h, h⟩
  | v :: vs, es, L, nd, f, h => by
    unfold flatAt at f
    rw [List.all_cons, Bool.and_eq_true, Bool.and_eq_true, decide_eq_true_eq] at f
    obtain ⟨n1, n2⟩ := List.nodup_cons.mp nd
    have hv : v < env0.length := f.1.2
    obtain ⟨o, L1, e1, e2, _⟩ := h0.at (i := v) (d := env0[v]) (List.getElem?_eq_getElem hv)
    have eg : env0.getD v .und = env0[v] := by rw [List.getD_eq_getElem?_getD, List.getElem?_eq_getElem hv]; rfl
    obtain ⟨_, fa⟩ := flat_any (by rw [← eg]; exact f.1.1) e2
    have hw : (L2.wipe σ vs)[v]? = some o := by rw [wipe_out n1]; exact e1
    have hl : es.length = env0.length := by
      have := h.length
      rw [wipe_length] at this
      rw [← this, h0.length]
    obtain ⟨M, L9, sb, pm, q⟩ := Dens.setAt (fa K H N) h v (by rw [hl]; exact hv)
    have e3 : ((L2.wipe σ vs).set v none).set v o = L2.wipe σ vs := by rw [List.set_set]; exact set_same hw
    rw [show L2.wipe σ (v :: vs) = (L2.wipe σ vs).set v none from rfl, e3] at q
    obtain ⟨L3, m3, n3, q3⟩ := Dens.unwipe h0 vs n2 f.2 q
    refine ⟨L3, fun a ha => sb.subset (pm.mem_iff.mp (m3 a ha)), fun ndL => n3 (pm.nodup_iff.mpr (sb.nodup ndL)), ?_⟩
    show Dens K H N σ (restD env0 (es.set v (env0.getD v .und)) vs) L3
    rw [eg]; exact q3

/-! ### targets -/
structure SatV (K : PySem.W.Frag) (vs : List Nat) (g : TG) (f : D → Ev → Option Ev) : Prop where
  run : ∀ (σ : L2.St) (H : Hp) (env : Ev) (ts : List (Option V)) (td : List D) (L : List Addr) (Lo : Lent) (v : V) (d : D), ts.length = td.length → d.noOwn = true → Sta K Lo H (some v :: (ts ++ σ)) (d :: (td ++ env)) L → ∀ env', f d env = some env' → ∀ Q : L2.St → Hp → Prop,
    (∀ σ', L2.wipe σ' vs = L2.wipe σ vs → Sta K Lo H (ts ++ σ') (td ++ env') L → Q σ' H) → g v σ H Q
structure SatVs (K : PySem.W.Frag) (vs : List Nat) (g : TGs) (f : List D → Ev → Option Ev) : Prop where
  run : ∀ (σ : L2.St) (H : Hp) (env : Ev) (ts : List (Option V)) (td : List D) (L : List Addr) (Lo : Lent) (us : List V) (ds : List D), us.length = ds.length → ts.length = td.length → ds.all D.noOwn = true → Sta K Lo H (so us ++ (ts ++ σ)) (ds ++ (td ++ env)) L → ∀ env', f ds env = some env' → ∀ Q : L2.St → Hp → Prop,
    (∀ σ', L2.wipe σ' vs = L2.wipe σ vs → Sta K Lo H (ts ++ σ') (td ++ env') L → Q σ' H) → g us σ H Q
def tvName (i : Nat) : D → Ev → Option Ev := fun d env => if i < env.length ∧ (env.getD i .und).isFlat = true then some (env.set i d) else none
theorem SatV.name {vs : List Nat} {i : Nat} (h : i ∈ vs) : SatV K vs (gName i) (tvName i) := by
  refine ⟨fun σ H env ts td L Lo v d hl no s env' e Q k => ?_⟩
  unfold tvName at e
  split at e
  · rename_i hi
    cases e
    obtain ⟨L1, L2, rfl, h1, h2⟩ := Dens.cons (σ := ts ++ σ) (ds := td ++ env) s.dens
    have l1 : L1 = [] := noOwn_nil h1 (by simpa using no)
    subst l1
    obtain ⟨Lt, Le, rfl, h3, h4⟩ := Dens.split hl h2
    exact k _ (wipe_in h) ⟨s.good, h3.app (Dens.setFlat h1 h4 i hi.2)⟩
  · cases e
theorem SatVs.nil {vs : List Nat} : SatVs K vs gNil tgNil := by
  refine ⟨fun σ H env ts td L Lo us ds hv hl no s env' e Q k => ?_⟩
  unfold tgNil at e
  split at e
  · cases e
    obtain rfl : us = [] := List.eq_nil_of_length_eq_zero hv
    exact ⟨rfl, k σ rfl s⟩
  · cases e
theorem SatVs.cons {vs : List Nat} {g : TG} {gs : TGs} {f : D → Ev → Option Ev} {fs : List D → Ev → Option Ev} (h : SatV K vs g f) (h' : SatVs K vs gs fs) : SatVs K vs (gCons g gs) (tgCons f fs) := by
  refine ⟨fun σ H env ts td L Lo us ds hv hl no s env' e Q k => ?_⟩
  unfold tgCons at e
  split at e
  · rename_i d r
    split at e
    · rename_i en e1
      match us, hv, s with
      | v :: us, hv, s =>
        have hv' : us.length = r.length := Nat.succ.inj hv
        rw [List.all_cons, Bool.and_eq_true] at no
        have s1 : Sta K Lo H (some v :: ((so us ++ ts) ++ σ)) (d :: ((r ++ td) ++ env)) L := by
          rw [List.append_assoc, List.append_assoc]
          exact s
        refine ⟨v, us, rfl, h.run σ H env (so us ++ ts) (r ++ td) L Lo v d (by simp [hl, hv']) no.1 s1 en e1 _ fun σ1 w1 s2 => ?_⟩
        rw [List.append_assoc, List.append_assoc] at s2
        exact h'.run σ1 H en ts td L Lo us r hv' hl no.2 s2 env' e Q fun σ2 w2 s3 => k σ2 (w2.trans w1) s3
    · cases e
  · cases e
theorem SatV.tup {vs : List Nat} {gs : TGs} {fs : List D → Ev → Option Ev} {n : Nat} (h : SatVs K vs gs fs) : SatV K vs (L2.gTup K n gs) (tgTup n fs) := by
  refine ⟨fun σ H env ts td L Lo v d hl no s env' e Q k => ?_⟩
  unfold tgTup at e
  split at e
  · rename_i xs e1
    split at e
    · cases e
    · rename_i nl
      split at e
      · rename_i hn
        obtain ⟨L1, L2, rfl, h1, h2⟩ := Dens.cons (σ := ts ++ σ) (ds := td ++ env) s.dens
        have l1 : L1 = [] := noOwn_nil h1 (by simpa using no)
        subst l1
        obtain ⟨a, us, M, rfl, q1, q2, q3⟩ := inv_seqT e1 (fun f ys z => nl f ys z) h1
        obtain rfl : M = [] := List.eq_nil_of_sublist_nil q3
        have nox : xs.all D.noOwn = true := by
          cases d <;> try (cases e1; done)
          · cases e1; unfold D.noOwn at no; rw [D.allF, allFs_all] at no; exact no
          · cases e1; unfold D.noOwn at no; rw [D.allF, allFs_all] at no; exact no
          · exact absurd rfl (nl _ _)
        exact ⟨a, us, rfl, q1, (len_so q2).trans hn, h.run σ H env ts td _ Lo us xs (len_so q2) hl nox ⟨s.good, q2.app h2⟩ env' e Q k⟩
      · cases e
  · cases e

/-! ### what is walked -/
structure SatJ (K : PySem.W.Frag) (q : Bool) (t : TI) (f : Ev → Option (List D × Ev)) : Prop where
  run : ∀ (σ : L2.St) (H : Hp) (env : Ev) (ts : List (Option V)) (td : List D) (L : List Addr) (Lo : Lent), ts.length = td.length → Sta K Lo H (ts ++ σ) (td ++ env) L → ∀ xs env', f env = some (xs, env') → ∀ R : It → Hp → Prop,
    (∀ J H' hv hd Lb, Came K Lo q H (ts ++ σ) td env L H' hv hd env' [] Lb → Walk K J hv hd xs → xs.all D.noOwn = true → R J H') → t σ H R
theorem SatJ.op {q : Bool} {ld : List (Option Nat)} {ta : TA} {fs : Ev → Option (List D × Ev)} {r : List V → Hp → (It → Hp → Prop) → Prop} {g : List D → Option (List D)} (h : SatA K q ld ta fs) (o : WalkOp K r g) (gn : ∀ ds xs, ds.all D.noOwn = true → g ds = some xs → xs.all D.noOwn = true) :
    SatJ K q (fun σ H R => ta σ H fun vs H1 => r vs H1 R) (itOp g fs) := by
  refine ⟨fun σ H env ts td L Lo hl s xs env' e R k => ?_⟩
  unfold itOp at e
  cases e1 : fs env with
  | none => rw [e1] at e; cases e
  | some p =>
    obtain ⟨ds, en1⟩ := p
    simp only [e1] at e
    cases e2 : g (ds.map D.frz) with
    | none => simp only [e2] at e; cases e
    | some ys =>
      simp only [e2] at e
      obtain ⟨rfl, rfl⟩ := Prod.mk.inj (Option.some.inj e)
      refine h.run σ H env ts td L Lo hl s ds en1 e1 _ fun vs H1 Lr Lb c _ => ?_
      have c2 := c.freeze
      exact o H1 _ vs (ds.map D.frz) c2.top (frz_all ds) ys e2 R fun J w => k J H1 vs (ds.map D.frz) Lb c2 w (gn _ _ (frz_all ds) e2)
theorem SatJ.or {q : Bool} {t t' : TI} {f f' : Ev → Option (List D × Ev)} (h : SatJ K q t f) (h' : SatJ K q t' f') : SatJ K q (fun σ H R => t σ H R ∨ t' σ H R) fun env => (f env).or (f' env) := by
  refine ⟨fun σ H env ts td L Lo hl s xs env' e R k => ?_⟩
  have e : (f env).or (f' env) = some (xs, env') := e
  cases e1 : f env with
  | some p =>
    rw [e1] at e; cases e
    exact .inl (h.run σ H env ts td L Lo hl s _ _ e1 R k)
  | none =>
    rw [e1] at e
    exact .inr (h'.run σ H env ts td L Lo hl s _ _ e R k)

/-! ### the comprehension -/
def lcL (q : Bool) (vs : List Nat) (bind : D → Ev → Option Ev) (test : Ev → Option (Bool × Ev)) (elt : Ev → Option (D × Ev)) : List D → List D → Ev → Option (List D × Ev)
  | acc, [], env => some (acc, env)
  | acc, x :: xs, env => if flatAt vs env = true ∧ acc.length < sizeLine then (match bind x (wipeD env vs) with
    | none => none
    | some e1 => match test e1 with
      | none => none
      | some (false, e2) => lcL q vs bind test elt acc xs (if q then env else restD env (wipeDrop e2 vs) vs)
      | some (true, e2) => match elt e2 with
        | none => none
        | some (d, e3) => lcL q vs bind test elt (acc ++ [d]) xs (if q then env else restD env (wipeDrop e3 vs) vs)) else none
where wipeDrop (e : Ev) (vs : List Nat) : Ev := wipeD e vs
def eLc (q : Bool) (vs : List Nat) (fi : Ev → Option (List D × Ev)) (bind : D → Ev → Option Ev) (test : Ev → Option (Bool × Ev)) (elt : Ev → Option (D × Ev)) : Ev → Option (D × Ev) := fun env =>
  match fi env with
  | none => none
  | some (xs, e) => match lcL q vs bind test elt [] xs e with
    | none => none
    | some (ds, e2) => some (.lst .own ds, e2)
/-- wiping what may own -/
theorem Dens.wipeS {H : Hp} {N : Fl → Addr → Prop} {σ : List (Option V)} {env : Ev} {L : List Addr} (h : Dens K H N σ env L) : ∀ vs : List Nat, ∃ L9, (∀ a ∈ L9, a ∈ L) ∧ (L.Nodup → L9.Nodup) ∧ Dens K H N (L2.wipe σ vs) (wipeD env vs) L9
  | [] => ⟨L, fun _ h => h, fun h => h, h⟩
  | v :: vs => by
    obtain ⟨L9, m2, n2, q2⟩ := h.wipeS vs
    by_cases hv : v < (wipeD env vs).length
    · obtain ⟨M, L3, sb, pm, q⟩ := Dens.setAt (o := none) (d := .und) (L1 := []) (.und .nil) q2 v hv
      exact ⟨L3, fun a ha => m2 a (sb.subset (pm.mem_iff.mp ha)), fun nd => pm.nodup_iff.mpr (sb.nodup (n2 nd)), q⟩
    · refine ⟨L9, m2, n2, ?_⟩
      show Dens K H N ((L2.wipe σ vs).set v none) ((wipeD env vs).set v .und) L9
      have hl := q2.length
      rw [set_oob (by omega), set_oob (by omega)]
      exact q2
theorem Dens.back {H0 H : Hp} {N0 N : Fl → Addr → Prop} {σ σ2 : List (Option V)} {env0 e : Ev} {L0 L : List Addr} {vs : List Nat} (h0 : Dens K H0 N0 σ env0 L0) (nd : vs.Nodup) (f : flatAt vs env0 = true) (hw : L2.wipe σ2 vs = L2.wipe σ vs) (h : Dens K H N σ2 e L) :
    ∃ L9, (∀ a ∈ L9, a ∈ L) ∧ (L.Nodup → L9.Nodup) ∧ Dens K H N σ (restD env0 (wipeD e vs) vs) L9 := by
  obtain ⟨L9, m2, n2, q2⟩ := h.wipeS vs
  rw [hw] at q2
  obtain ⟨L3, m3, n3, q3⟩ := Dens.unwipe h0 vs nd f q2
  exact ⟨L3, fun a ha => m2 a (m3 a ha), fun ndL => n3 (n2 ndL), q3⟩

theorem dens_nil_noOwn {H : Hp} {N : Fl → Addr → Prop} {σ : List (Option V)} {ds : List D} {L : List Addr} (h : Dens K H N σ ds L) : L = [] → ds.all D.noOwn = true := by
  have ap : ∀ {L1 L2 : List Addr}, L1 ++ L2 = [] → L1 = [] ∧ L2 = [] := fun h => List.append_eq_nil_iff.mp h
  have c1 : ∀ {d : D} {ds : List D}, d.noOwn = true → ds.all D.noOwn = true → (d :: ds).all D.noOwn = true := fun a b => by rw [List.all_cons, a, b]; rfl
  have nf : ∀ {f : Fl}, f.ro = true → decide (f ≠ .own) = true := fun {f} h => by cases f <;> first | rfl | cases h
  induction h with
  | nil => intro _; rfl
  | und _ ih => intro e; exact c1 rfl (ih e)
  | non _ ih => intro e; exact c1 rfl (ih e)
  | bl _ ih => intro e; exact c1 rfl (ih e)
  | int _ ih => intro e; exact c1 rfl (ih e)
  | str _ ih => intro e; exact c1 rfl (ih e)
  | ty _ ih => intro e; exact c1 rfl (ih e)
  | cls _ ih => intro e; exact c1 rfl (ih e)
  | tup _ _ _ _ i1 i2 => intro e; obtain ⟨a, b⟩ := ap e; exact c1 (by rw [D.noOwn, D.allF, allFs_all]; exact i1 a) (i2 b)
  | tupK _ _ _ i1 i2 => intro e; obtain ⟨a, b⟩ := ap e; exact c1 (by rw [D.noOwn, D.allF, allFs_all]; exact i1 a) (i2 b)
  | lstO _ _ _ _ _ => intro e; cases e
  | lstR r _ _ _ _ i1 i2 => intro e; obtain ⟨a, b⟩ := ap e; exact c1 (by rw [D.noOwn, D.allF, allFs_all, nf r]; exact i1 a) (i2 b)
  | lstE _ _ _ i1 i2 => intro e; obtain ⟨a, b⟩ := ap e; exact c1 (by rw [D.noOwn, D.allF, allFs_all]; exact i1 a) (i2 b)
  | lstX _ _ _ _ i1 i2 => intro e; obtain ⟨a, b⟩ := ap e; exact c1 (by rw [D.noOwn, D.allF, allFs_all]; exact i1 a) (i2 b)
  | dKO _ _ _ _ _ _ => intro e; cases e
  | dKR r _ _ _ _ _ i1 i2 => intro e; obtain ⟨a, b⟩ := ap e; exact c1 (by rw [D.noOwn, D.allF, allFk_all, nf r]; have := i1 a; rw [List.all_map] at this; exact this) (i2 b)
  | dTO _ _ _ _ _ _ => intro e; cases e
  | dTR r _ _ _ _ _ i1 i2 => intro e; obtain ⟨a, b⟩ := ap e; exact c1 (by rw [D.noOwn, D.allF, allFt_all, nf r]; have := i1 a; rw [List.all_map] at this; exact this) (i2 b)
  | insO _ _ _ _ _ _ => intro e; cases e
  | insR r _ _ _ _ _ i1 i2 => intro e; obtain ⟨a, b⟩ := ap e; exact c1 (by rw [D.noOwn, D.allF, allFf_all, nf r]; have := i1 a; rw [List.all_map] at this; exact this) (i2 b)

/-- what a comprehension asks behind its iterable -/
def lcK (J : It) (H1 : Hp) (g : TG) (tt : TT) (te : TE) (vs : List Nat) (σ : L2.St) (Q : VK) : Prop :=
    ∀ (D : Addr), H1 D = none → ∃ W : Nat → Nat → Hp → Prop, (∃ m, W 0 m (upd H1 D (HO.lst []))) ∧ ∀ (i m : Nat) (H : Hp), W i m H →
                J.stop i H ∧ Q (V.ref D) H ∨ J.go i H ∧ ∃ Nx : Hp → Prop, (∀ (H' : Hp), Nx H' → ∃ m', m' < m ∧ W (i + 1) m' H') ∧
                        ∀ (x : V) (H' : Hp), J.yld i H x H' → g x (wipe σ vs) H' fun σ2 H2 => wipe σ2 vs = wipe σ vs ∧ tt σ2 H2 fun b H3 => if b = true then
                                    te σ2 H3 fun y H4 => ∃ acc, H4 D = some (HO.lst acc) ∧ acc.length < sizeLine ∧ Nx (upd H4 D (HO.lst (acc ++ [y])))
                                  else Nx H3
theorem lc_rest {q : Bool} {g : TG} {tt : TT} {te : TE} {vs : List Nat} {fg : D → Ev → Option Ev} {ft : Ev → Option (Bool × Ev)} {fe : Ev → Option (D × Ev)} {qi : Bool} (nd : vs.Nodup) (hg : SatV K vs g fg) (ht : SatB K q tt ft) (he : Sat K q te fe)
    {σ : L2.St} {H H1 : Hp} {env en1 enR : Ev} {ts : List (Option V)} {td hd xs res : List D} {L L1 : List Addr} {Lo : Lent} (hl : ts.length = td.length) {J : It} {hv : List V} (e2 : lcL q vs fg ft fe [] xs en1 = some (res, enR)) (c0 : Came K Lo qi H (ts ++ σ) td env L H1 hv hd en1 [] L1) {pin : Hp → Prop} (wk : WalkP K pin J hv hd xs)
    (hpin : ∀ H', (∀ a, H1 a ≠ none → a ∉ L1 → H' a = H1 a) → pin H') (nox : xs.all D.noOwn = true) {Q : VK} (k : ∀ v H' Lr Lb, Came K Lo (qi && q) H (ts ++ σ) td env L H' [v] [.lst .own res] enR Lr Lb → Q v H') : lcK J H1 g tt te vs σ Q := by
  have hhl : (so hv).length = hd.length := c0.top.length
  have s1 : Sta K Lo H1 (so hv ++ (ts ++ σ)) (hd ++ (td ++ en1)) L1 := ⟨by simpa using c0.good, by have := c0.top.app c0.base; simpa using this⟩
  intro p0 hD
  have st0 : Still H1 (upd H1 p0 (.lst [])) := upd_still hD
  have nD : p0 ∉ L1 := fun z => s1.dens.live p0 z hD
  have start : Came K Lo q H1 (so hv ++ (ts ++ σ)) (hd ++ td) en1 L1 (upd H1 p0 (.lst [])) [.ref p0] [.lst .own []] en1 [p0] L1 := by
    have ow : ∀ a ∈ [p0] ++ L1, a ∈ L1 ∨ H1 a = none := fun a ha => by
      rcases List.mem_cons.mp ha with rfl | z
      · exact .inr hD
      · exact .inl z
    refine ⟨⟨List.nodup_cons.mpr ⟨nD, s1.good.nd⟩, fun f a ha lo => ?_, fun f a lo => ?_, s1.good.nov⟩, ?_, ?_, Ext.of_still st0 ow, fun _ => ⟨rfl, st0, rfl, fun a ha => by rcases List.mem_cons.mp ha with rfl | z; exact hD; cases z⟩⟩
    · exact (ow a ha).elim (fun z => s1.good.no f a z lo) fun z => (s1.good.lent f a lo).1 z
    · obtain ⟨l1, l2⟩ := s1.good.lent f a lo
      rw [st0 a l1]; exact ⟨l1, l2⟩
    · exact Dens.lstO (us := []) (xs := []) upd_same .nil .nil
    · rw [List.append_assoc]; exact s1.dens.still st0 ow
  refine ⟨fun i m Hi => m = xs.length - i ∧ i ≤ xs.length ∧ ∃ acc eni Lr Lb, Came K Lo q H1 (so hv ++ (ts ++ σ)) (hd ++ td) en1 L1 Hi [.ref p0] [.lst .own acc] eni Lr Lb ∧ lcL q vs fg ft fe acc (xs.drop i) eni = some (res, enR),
    ⟨xs.length, by simp, Nat.zero_le _, [], en1, _, _, start, by simpa using e2⟩, ?_⟩
  rintro i m Hi ⟨rfl, hile, acc, eni, Lr, Lb, c, el⟩
  have bl : (so hv ++ ts).length = (hd ++ td).length := by rw [List.length_append, List.length_append, hhl, hl]
  have cb : Dens K Hi (Nw (Lr ++ Lb) Lo) ((so hv ++ ts) ++ σ) ((hd ++ td) ++ eni) Lb := by rw [List.append_assoc (so hv)]; exact c.base
  by_cases hlt : i < xs.length
  · -- a turn
    refine .inr ?_
    rw [List.drop_eq_getElem_cons hlt] at el
    unfold lcL at el
    split at el
    · rename_i cnd
      obtain ⟨fl, accl⟩ := cnd
      -- the state within
      obtain ⟨Lp, Le, rfl, b1, b2⟩ := Dens.split bl cb
      obtain ⟨Lh, Lt, rfl, b3, b4⟩ := Dens.split hhl b1
      have topD := c.top
      have pm : (Lr ++ ((Lh ++ Lt) ++ Le)).Perm (Lh ++ (Lr ++ (Lt ++ Le))) := by
        rw [List.append_assoc Lh Lt Le, ← List.append_assoc Lr Lh, ← List.append_assoc Lh Lr]
        exact List.Perm.append_right _ List.perm_append_comm
      have s2 : Sta K Lo Hi (so hv ++ (some (.ref p0) :: (ts ++ wipe σ vs))) (hd ++ (.lst .own acc :: (td ++ wipeD eni vs))) (Lh ++ (Lr ++ (Lt ++ Le))) :=
        ⟨c.good.perm pm, (b3.app (topD.put (b4.app (b2.wipe vs fl)))).know fun f a n _ => nw_sub (fun x hx => pm.mem_iff.mpr hx) f a n⟩
      obtain ⟨go, yl⟩ := wk.go i Hi _ _ _ Lo hlt s2 (hpin Hi fun a h n => c.ext.keep a h n)
      -- what a turn is to reach
      refine ⟨go, fun H' => ∃ acc' eni' Lr' Lb', Came K Lo q H1 (so hv ++ (ts ++ σ)) (hd ++ td) en1 L1 H' [.ref p0] [.lst .own acc'] eni' Lr' Lb' ∧ lcL q vs fg ft fe acc' (xs.drop (i + 1)) eni' = some (res, enR),
        fun H' ⟨acc', eni', Lr', Lb', c', el'⟩ => ⟨xs.length - (i + 1), by omega, rfl, hlt, acc', eni', Lr', Lb', c', el'⟩, fun x H2 y => ?_⟩
      obtain ⟨stY, sY⟩ := yl x H2 y
      cases e3 : fg xs[i] (wipeD eni vs) with
      | none => rw [e3] at el; cases el
      | some en2 =>
        simp only [e3] at el
        have hl3 : (so hv ++ (some (.ref p0) :: ts)).length = (hd ++ (.lst .own acc :: td)).length := by simp [hl]; simpa using hhl
        have sY' : Sta K Lo H2 (some x :: ((so hv ++ (some (.ref p0) :: ts)) ++ wipe σ vs)) (xs[i] :: ((hd ++ (.lst .own acc :: td)) ++ wipeD eni vs)) (Lh ++ (Lr ++ (Lt ++ Le))) := by
          rw [List.append_assoc, List.append_assoc]; exact sY
        have nx : D.noOwn xs[i] = true := List.all_eq_true.mp nox _ (List.getElem_mem ..)
        refine hg.run (wipe σ vs) H2 _ _ _ _ Lo x xs[i] hl3 nx sY' en2 e3 _ fun σ2 w2 s4 => ?_
        have w3 : wipe σ2 vs = wipe σ vs := w2.trans (wipe_idem fun _ h => h)
        refine ⟨w3, ?_⟩
        -- how a turn ends: what was yielded goes into the list
        have finish : ∀ (H4 : Hp) (b : Bool) (ys : List V) (ds : List D) (en3 : Ev) (Lr4 Lb4 : List Addr) (up : List V → Hp), (∀ us, H4 p0 = some (.lst us) → up us = if ys = [] then H4 else upd H4 p0 (.lst (us ++ ys))) →
            Came K Lo q H2 ((so hv ++ (some (.ref p0) :: ts)) ++ σ2) (hd ++ (.lst .own acc :: td)) en2 (Lh ++ (Lr ++ (Lt ++ Le))) H4 ys ds en3 Lr4 Lb4 →
            ∃ us, H4 p0 = some (.lst us) ∧ us.length = acc.length ∧ ∃ Lr' Lb', Came K Lo q H1 (so hv ++ (ts ++ σ)) (hd ++ td) en1 L1 (up us) [.ref p0] [.lst .own (acc ++ ds)] (if q = true then eni else restD eni (wipeD en3 vs) vs) Lr' Lb' := by
          intro H4 b ys ds en3 Lr4 Lb4 up hup c4
          -- the parts at H4
          have parts : ∃ us La LB, H4 p0 = some (.lst us) ∧ Dens K H4 (Nw (Lr4 ++ Lb4) Lo) (so us) acc La ∧ Dens K H4 (Nw (Lr4 ++ Lb4) Lo) (so hv ++ (ts ++ σ)) (hd ++ (td ++ (if q = true then eni else restD eni (wipeD en3 vs) vs))) LB ∧
              (p0 :: (La ++ LB)).Nodup ∧ (∀ a ∈ p0 :: (La ++ LB), a ∈ Lb4) ∧ (q = true → LB = (Lh ++ Lt) ++ Le ∧ ∀ a ∈ p0 :: La, a ∈ Lr) := by
            cases q with
            | true =>
              obtain ⟨rfl, st4, rfl, fr4⟩ := c4.quiet rfl
              have stA : Still Hi H4 := stY.trans st4
              have ow : ∀ a ∈ Lr4 ++ (Lh ++ (Lr ++ (Lt ++ Le))), a ∈ (Lr ++ ((Lh ++ Lt) ++ Le)) ∨ Hi a = none := fun a ha => (List.mem_append.mp ha).elim (fun z => .inr (Classical.byContradiction fun w => (by rw [stY a w]; exact w : H2 a ≠ none) (fr4 a z))) fun z => .inl (pm.mem_iff.mpr z)
              have t4 := topD.still stA ow
              have b4' := cb.still stA ow
              rw [List.append_assoc, List.append_assoc hd] at b4'
              cases t4 with
              | @lstO _ us _ _ _ La L9 ee hh tt =>
                cases tt
                refine ⟨us, La, _, ee, hh, b4', ?_, fun a ha => ?_, fun _ => ⟨rfl, fun a ha => by rw [List.append_nil]; exact ha⟩⟩
                · have := c.good.nd
                  rw [List.append_nil] at this; exact this
                · refine pm.mem_iff.mp ?_
                  rw [List.append_nil]; exact ha
              | lstR ro => cases ro
            | false =>
              have b5 : Dens K H4 (Nw (Lr4 ++ Lb4) Lo) (so hv ++ (some (.ref p0) :: (ts ++ σ2))) (hd ++ (.lst .own acc :: (td ++ en3))) Lb4 := by
                have := c4.base; rw [List.append_assoc, List.append_assoc hd] at this; exact this
              obtain ⟨Mh, M1, rfl, p1, p2⟩ := Dens.split hhl b5
              obtain ⟨MD, M2, rfl, p3, p4⟩ := Dens.cons p2
              obtain ⟨Mt, Me, rfl, p5, p6⟩ := Dens.split hl p4
              obtain ⟨L9, m9, n9, p7⟩ := Dens.back b2 nd fl w3 p6
              have ndb := (List.nodup_append.mp c4.good.nd).2.1
              cases p3 with
              | @lstO _ us _ _ _ LL1 _ ee hh tt =>
                cases tt
                have sub : (p0 :: (LL1 ++ (Mh ++ (Mt ++ L9)))).Nodup ∧ ∀ a ∈ p0 :: (LL1 ++ (Mh ++ (Mt ++ L9))), a ∈ Mh ++ ((p0 :: (LL1 ++ [])) ++ (Mt ++ Me)) := by
                  rw [List.append_nil] at ndb ⊢
                  have pp : (Mh ++ ((p0 :: LL1) ++ (Mt ++ Me))).Perm ((p0 :: LL1) ++ (Mh ++ (Mt ++ Me))) := by
                    rw [← List.append_assoc, ← List.append_assoc (p0 :: LL1)]
                    exact List.Perm.append_right _ List.perm_append_comm
                  have n1 := List.nodup_append.mp (pp.nodup_iff.mp ndb)
                  have n2 := List.nodup_append.mp n1.2.1
                  have n3 := List.nodup_append.mp n2.2.1
                  have mem : ∀ a ∈ Mh ++ (Mt ++ L9), a ∈ Mh ++ (Mt ++ Me) := fun a ha => by
                    rcases List.mem_append.mp ha with z | z
                    · exact List.mem_append_left _ z
                    · rcases List.mem_append.mp z with z | z
                      · exact List.mem_append_right _ (List.mem_append_left _ z)
                      · exact List.mem_append_right _ (List.mem_append_right _ (m9 a z))
                  have nn : (Mh ++ (Mt ++ L9)).Nodup := List.nodup_append.mpr ⟨n2.1, List.nodup_append.mpr ⟨n3.1, n9 n3.2.1, fun a ha b hb e => n3.2.2 a ha b (m9 b hb) e⟩, fun a ha b hb e => n2.2.2 a ha b (by
                    rcases List.mem_append.mp hb with z | z
                    · exact List.mem_append_left _ z
                    · exact List.mem_append_right _ (m9 b z)) e⟩
                  refine ⟨?_, fun a ha => pp.mem_iff.mpr ?_⟩
                  · exact List.nodup_append.mpr ⟨n1.1, nn, fun a ha b hb e => n1.2.2 a ha b (mem b hb) e⟩
                  · rcases List.mem_append.mp (show a ∈ (p0 :: LL1) ++ (Mh ++ (Mt ++ L9)) from ha) with z | z
                    · exact List.mem_append_left _ z
                    · exact List.mem_append_right _ (mem a z)
                exact ⟨us, LL1, Mh ++ (Mt ++ L9), ee, hh, p1.app (p5.app p7), sub.1, sub.2, fun z => by cases z⟩
              | lstR ro => cases ro
          obtain ⟨us, La, LB, hus, dA, dB, ndP, inP, qP⟩ := parts
          have len := len_so dA
          refine ⟨us, hus, len, p0 :: (La ++ Lr4), LB, ?_⟩
          have eup := hup us hus
          have n4 := List.nodup_append.mp c4.good.nd
          have ndP' := List.nodup_cons.mp ndP
          have nDb : p0 ∈ Lb4 := inP p0 (List.mem_cons_self ..)
          have memN : ∀ a ∈ (p0 :: (La ++ Lr4)) ++ LB, a ∈ Lr4 ++ Lb4 := fun a ha => by
            rcases List.mem_cons.mp (show a ∈ p0 :: ((La ++ Lr4) ++ LB) from ha) with rfl | z
            · exact List.mem_append_right _ nDb
            · rcases List.mem_append.mp z with z | z
              · rcases List.mem_append.mp z with z | z
                · exact List.mem_append_right _ (inP a (List.mem_cons_of_mem _ (List.mem_append_left _ z)))
                · exact List.mem_append_left _ z
              · exact List.mem_append_right _ (inP a (List.mem_cons_of_mem _ (List.mem_append_right _ z)))
          have ndN : ((p0 :: (La ++ Lr4)) ++ LB).Nodup := by
            have nA := List.nodup_append.mp ndP'.2
            refine List.nodup_cons.mpr ⟨fun z => ?_, List.nodup_append.mpr ⟨List.nodup_append.mpr ⟨nA.1, n4.1, fun a ha b hb e => ?_⟩, nA.2.1, fun a ha b hb e => ?_⟩⟩
            · rcases List.mem_append.mp z with z | z
              · rcases List.mem_append.mp z with z | z
                · exact ndP'.1 (List.mem_append_left _ z)
                · exact n4.2.2 p0 z p0 nDb rfl
              · exact ndP'.1 (List.mem_append_right _ z)
            · subst e; exact n4.2.2 a hb a (inP a (List.mem_cons_of_mem _ (List.mem_append_left _ ha))) rfl
            · subst e
              rcases List.mem_append.mp ha with z | z
              · exact nA.2.2 a z a hb rfl
              · exact n4.2.2 a z a (inP a (List.mem_cons_of_mem _ (List.mem_append_right _ hb))) rfl
          -- the heap of the end: H4, or with p0 rewritten
          have same : ∀ a, a ≠ p0 → up us a = H4 a := fun a ha => by
            rw [eup]; split
            · rfl
            · exact upd_ne ha
          have atD : up us p0 = some (.lst (us ++ ys)) := by
            rw [eup]; split
            · rename_i z; rw [z, List.append_nil]; exact hus
            · exact upd_same
          have kn : ∀ f a, Nw (Lr4 ++ Lb4) Lo f a → H4 a ≠ none → Nw ((p0 :: (La ++ Lr4)) ++ LB) Lo f a ∧ Keep H4 (up us) a := fun f a n _ =>
            ⟨nw_sub memN f a n, Keep.of (same a fun z => n.1 (by rw [z]; exact List.mem_append_right _ nDb))⟩
          have xAll : Ext L1 H1 ((p0 :: (La ++ Lr4)) ++ LB) (up us) := by
            have x1 : Ext (Lr ++ ((Lh ++ Lt) ++ Le)) Hi (Lr4 ++ Lb4) H4 := ((Ext.of_still stY (L := Lr ++ ((Lh ++ Lt) ++ Le)) (L' := Lh ++ (Lr ++ (Lt ++ Le))) fun a ha => .inl (pm.mem_iff.mpr ha)).trans c4.ext)
            have x2 : Ext (Lr4 ++ Lb4) H4 ((p0 :: (La ++ Lr4)) ++ LB) (up us) := ⟨fun a _ n => same a fun z => n (by rw [z]; exact List.mem_append_right _ nDb), fun a ha => .inl (memN a ha), fun a h => by
              by_cases z : a = p0
              · rw [z, atD]; exact Option.some_ne_none _
              · rw [same a z]; exact h⟩
            exact (c.ext.trans x1).trans x2
          refine ⟨⟨ndN, fun f a ha lo => c4.good.no f a (memN a ha) lo, fun f a lo => ?_, c4.good.nov⟩, ?_, ?_, xAll, fun qq => ?_⟩
          · have nz : a ≠ p0 := fun z => c4.good.no f a (by rw [z]; exact List.mem_append_right _ nDb) lo
            rw [same a nz]; exact c4.good.lent f a lo
          · have hA := dA.mono (H' := up us) (N' := Nw ((p0 :: (La ++ Lr4)) ++ LB) Lo) (fun a ha => same a fun z => ndP'.1 (by rw [← z]; exact List.mem_append_left _ ha)) kn
            have hY := c4.top.mono (H' := up us) (N' := Nw ((p0 :: (La ++ Lr4)) ++ LB) Lo) (fun a ha => same a fun z => n4.2.2 a ha p0 nDb z) kn
            have := Dens.lstO (K := K) (N := Nw ((p0 :: (La ++ Lr4)) ++ LB) Lo) (vs := []) (ds := []) (L2 := []) atD (by rw [so_app]; exact hA.app hY) .nil
            rw [List.append_nil] at this
            exact this
          · rw [List.append_assoc]
            exact dB.mono (fun a ha => same a fun z => ndP'.1 (by rw [← z]; exact List.mem_append_right _ ha)) kn
          · subst qq
            obtain ⟨e5, st5, l5, f5⟩ := c.quiet rfl
            obtain ⟨e6, st6, l6, f6⟩ := c4.quiet rfl
            obtain ⟨qL, qR⟩ := qP rfl
            have dD : H1 p0 = none := hD
            refine ⟨by rw [if_pos rfl]; exact e5, fun a ha => ?_, qL.trans l5, fun a ha => ?_⟩
            · have hz : a ≠ p0 := fun z => ha (by rw [z]; exact dD)
              have h1 := st5 a ha
              have h2 := stY a (by rw [h1]; exact ha)
              have h3 := st6 a (by rw [h2, h1]; exact ha)
              rw [same a hz, h3, h2, h1]
            · rcases List.mem_cons.mp (show a ∈ p0 :: (La ++ Lr4) from ha) with rfl | z
              · exact dD
              · rcases List.mem_append.mp z with z | z
                · exact f5 a (qR a (List.mem_cons_of_mem _ z))
                · refine Classical.byContradiction fun w => ?_
                  have h1 := st5 a w
                  have h2 := stY a (by rw [h1]; exact w)
                  exact (by rw [h2, h1]; exact w : H2 a ≠ none) (f6 a z)
        cases e4 : ft en2 with
        | none => simp only [e4] at el; cases el
        | some pt =>
          obtain ⟨b, en3⟩ := pt
          refine ht.run σ2 H2 en2 _ _ _ Lo hl3 s4 b en3 e4 _ fun H3 Lb3 c3 => ?_
          cases b with
          | false =>
            simp only [e4] at el
            rw [if_neg Bool.false_ne_true]
            obtain ⟨us, _, _, Lr', Lb', cc⟩ := finish H3 false [] [] en3 [] Lb3 (fun _ => H3) (fun us h => by rw [if_pos rfl]) c3
            rw [List.append_nil] at cc
            exact ⟨acc, _, Lr', Lb', cc, el⟩
          | true =>
            simp only [e4] at el
            rw [if_pos rfl]
            cases e5 : fe en3 with
            | none => simp only [e5] at el; cases el
            | some pe =>
              obtain ⟨d, en4⟩ := pe
              simp only [e5] at el
              refine he.run σ2 H3 en3 _ _ _ Lo hl3 c3.base0 d en4 e5 _ fun y2 H4 Lr4 Lb4 c5 => ?_
              have c6 := (c3.then c5).q2 (q' := q) fun z => by rw [z]; rfl
              obtain ⟨us, hus, len, Lr', Lb', cc⟩ := finish H4 true [y2] [d] en4 Lr4 Lb4 (fun us => upd H4 p0 (.lst (us ++ [y2]))) (fun us h => by rw [if_neg (by simp)]) c6
              exact ⟨us, hus, by rw [len]; exact accl, acc ++ [d], _, Lr', Lb', cc, el⟩
    · cases el
  · -- the end
    have hi : i = xs.length := by omega
    obtain ⟨Lp, Le, rfl, b1, b2⟩ := Dens.split bl cb
    obtain ⟨Lh, Lt, rfl, b3, b4⟩ := Dens.split hhl b1
    have pm : (Lr ++ ((Lh ++ Lt) ++ Le)).Perm (Lh ++ (Lr ++ (Lt ++ Le))) := by
      rw [List.append_assoc Lh Lt Le, ← List.append_assoc Lr Lh, ← List.append_assoc Lh Lr]
      exact List.Perm.append_right _ List.perm_append_comm
    have s2 : Sta K Lo Hi (so hv ++ (some (.ref p0) :: (ts ++ σ))) (hd ++ (.lst .own acc :: (td ++ eni))) (Lh ++ (Lr ++ (Lt ++ Le))) :=
      ⟨c.good.perm pm, (b3.app (c.top.put (b4.app b2))).know fun f a n _ => nw_sub (fun x hx => pm.mem_iff.mpr hx) f a n⟩
    refine .inl ⟨wk.stop i Hi _ _ _ Lo (Nat.le_of_eq hi.symm) s2 (hpin Hi fun a h n => c.ext.keep a h n), ?_⟩
    subst hi
    rw [List.drop_length] at el
    unfold lcL at el
    obtain ⟨rfl, rfl⟩ := Prod.mk.inj (Option.some.inj el)
    have mem : ∀ a ∈ Lr ++ (Lt ++ Le), a ∈ Lr ++ ((Lh ++ Lt) ++ Le) := fun a ha => pm.mem_iff.mpr (List.mem_append_right _ ha)
    have ndl := (List.nodup_append.mp (pm.nodup_iff.mp c.good.nd)).2.1
    refine k (.ref p0) Hi Lr (Lt ++ Le) ⟨c.good.sub ndl mem, c.top.know fun f a n _ => nw_sub mem f a n, (b4.app b2).know fun f a n _ => nw_sub mem f a n, ?_, fun qq => ?_⟩
    · have x0 : Ext L H L1 H1 := by simpa using c0.ext
      exact (x0.trans c.ext).sub mem
    · rw [Bool.and_eq_true] at qq
      obtain ⟨rfl, rfl⟩ := qq
      obtain ⟨e5, st5, l5, f5⟩ := c.quiet rfl
      obtain ⟨e6, st6, l6, f6⟩ := c0.quiet rfl
      subst e5 e6
      have lh : Lh = [] := by
        have : Dens K H1 (Nw ([] ++ L1) Lo) (so hv) hd [] := c0.top
        exact noOwn_nil b3 (by
          have := this
          exact dens_nil_noOwn this rfl)
      subst lh
      refine ⟨rfl, st6.trans st5, by rw [← l6, ← l5]; rfl, fun a ha => Classical.byContradiction fun w => (by rw [st6 a w]; exact w : H1 a ≠ none) (f5 a ha)⟩
theorem wpl {q : Bool} {wi : TI} {g : TG} {tt : TT} {te : TE} {vs : List Nat} {fi : Ev → Option (List D × Ev)} {fg : D → Ev → Option Ev} {ft : Ev → Option (Bool × Ev)} {fe : Ev → Option (D × Ev)} {qi : Bool} (nd : vs.Nodup) (hi : SatJ K qi wi fi) (hg : SatV K vs g fg) (ht : SatB K q tt ft) (he : Sat K q te fe) :
    Sat K (qi && q) (tLc wi g tt te vs) (eLc q vs fi fg ft fe) := by
  refine ⟨fun σ H env ts td L Lo hl s d env' e Q k => ?_⟩
  unfold eLc at e
  cases e1 : fi env with
  | none => rw [e1] at e; cases e
  | some pr =>
    obtain ⟨xs, en1⟩ := pr
    simp only [e1] at e
    cases e2 : lcL q vs fg ft fe [] xs en1 with
    | none => simp only [e2] at e; cases e
    | some pr2 =>
      obtain ⟨res, enR⟩ := pr2
      simp only [e2] at e
      obtain ⟨rfl, rfl⟩ := Prod.mk.inj (Option.some.inj e)
      refine hi.run σ H env ts td L Lo hl s xs en1 e1 _ fun J H1 hv hd L1 c0 wk nox => ?_
      exact lc_rest nd hg ht he hl e2 c0 wk.p (fun _ _ => trivial) nox k
end
end TL

set_option Elab.async false
set_option linter.all false
set_option maxRecDepth 100000
/-! TL13: iterables, for, while, comprehensions over families of contexts. -/
namespace TL
open PySem PySem.Spec PyProof.Rows L2 RZ

theorem pi_or {X : Cx} {tg e : Expr} {t t' : TI} (h : PI X tg e t) (h' : PI X tg e t') : PI X tg e (fun σ H R => t σ H R ∨ t' σ H R) :=
  ⟨fun pins s σ H R I q => q.elim (h.run pins s σ H R I) (h'.run pins s σ H R I)⟩

section
variable {K : PySem.W.Frag}
/-! more kinds -/
abbrev rwR1 : List V → Hp → (It → Hp → Prop) → Prop := fun vs H R => ∃ j : Int, vs = [.int j] ∧ -(2 ^ 62) ≤ j ∧ j < 2 ^ 62 ∧ R (Itr 0 j.toNat) H
abbrev rwR2 : List V → Hp → (It → Hp → Prop) → Prop := fun vs H R => ∃ i j : Int, vs = [.int i, .int j] ∧ (-(2 ^ 62) ≤ i ∧ i < 2 ^ 62 ∧ -(2 ^ 62) ≤ j ∧ j < 2 ^ 62) ∧ R (Itr i (j - i).toNat) H
theorem walk_itr (lo : Int) (n : Nat) {hv : List V} {hd : List D} : Walk K (Itr lo n) hv hd ((List.range n).map fun i => .int (lo + ((i : Nat) : Int))) := by
  refine ⟨fun i H σs ds L Lo hi s => ?_, fun i H σs ds L Lo hi s => ?_⟩
  · have hi' : i < n := by simpa using hi
    refine ⟨hi', fun v H' y => ?_⟩
    obtain ⟨rfl, rfl⟩ := y
    refine ⟨Still.refl _, s.good, ?_⟩
    have : ((List.range n).map fun i => D.int (lo + ((i : Nat) : Int)))[i] = .int (lo + i) := by simp
    rw [this]
    exact .int s.dens
  · show n ≤ i
    simpa using hi
theorem walk_R1 : WalkOp K rwR1 wR1 := by
  intro H N vs ds hd no xs e R k
  unfold wR1 at e
  split at e
  · rename_i j
    split at e
    · rename_i c
      cases e
      obtain ⟨v, rfl, h1⟩ := apart1 hd
      cases (one_int h1).1
      refine ⟨j, rfl, c.1, c.2, k _ ?_⟩
      have := walk_itr (K := K) 0 j.toNat (hv := [.int j]) (hd := [.int j])
      simp only [Int.zero_add] at this
      exact this
    · cases e
  · cases e
theorem walk_R2 : WalkOp K rwR2 wR2 := by
  intro H N vs ds hd no xs e R k
  unfold wR2 at e
  split at e
  · rename_i i j
    split at e
    · rename_i c
      cases e
      obtain ⟨x, y, L1, L2, rfl, hh, h1, h2⟩ := apart2 hd
      cases (one_int h1).1
      cases (one_int h2).1
      exact ⟨i, j, rfl, c, k _ (walk_itr i _)⟩
    · cases e
  · cases e
/-- pairs that a walk lays -/
theorem pair_step {Lo : Lent} {H : Hp} {σs : List (Option V)} {ds : List D} {L : List Addr} {x y : V} {a b : D} {T : Addr} (s : Sta K Lo H σs ds L) (hT : H T = none) (h1 : Dens K H (Nw L Lo) [some x] [a] []) (h2 : Dens K H (Nw L Lo) [some y] [b] []) :
    Still H (upd H T (.tup [x, y])) ∧ Sta K Lo (upd H T (.tup [x, y])) (some (.ref T) :: σs) (.tup [a, b] :: ds) L := by
  have st : Still H (upd H T (.tup [x, y])) := upd_still hT
  have kn : ∀ f a, Nw L Lo f a → H a ≠ none → Nw L Lo f a := fun _ _ n _ => n
  have nT : Nw L Lo .frz T := ⟨fun z => s.dens.live T z hT, fun lo => (s.good.lent _ T lo).1 hT⟩
  refine ⟨st, ⟨s.good.nd, s.good.no, fun f a lo => ?_, s.good.nov⟩, ?_⟩
  · obtain ⟨l1, l2⟩ := s.good.lent f a lo
    rw [st a l1]; exact ⟨l1, l2⟩
  · have hp : Dens K (upd H T (.tup [x, y])) (Nw L Lo) (so [x, y]) [a, b] ([] ++ []) := (h1.newer hT kn).put (h2.newer hT kn)
    exact Dens.tup (L1 := []) (L2 := L) upd_same nT hp (s.dens.newer hT kn)
/-- zip -/
def wZip : List D → Option (List D)
  | [.lst _ xs, .lst _ ys] => some ((xs.zip ys).map fun p => .tup [p.1, p.2])
  | [.tup xs, .tup ys] => some ((xs.zip ys).map fun p => .tup [p.1, p.2])
  | [.tup xs, .tupE ys] => some ((xs.zip ys).map fun p => .tup [p.1, p.2])
  | [.tupE xs, .tup ys] => some ((xs.zip ys).map fun p => .tup [p.1, p.2])
  | [.tupE xs, .tupE ys] => some ((xs.zip ys).map fun p => .tup [p.1, p.2])
  | _ => none
abbrev rwZip (K : PySem.W.Frag) : List V → Hp → (It → Hp → Prop) → Prop := fun vs H R => ∃ a b xs ys, vs = [.ref a, .ref b] ∧ ((SqL K H a xs ∧ SqL K H b ys ∧ R (Itz K a b) H) ∨ (SqT K H a xs ∧ SqT K H b ys ∧ R (ItzT K a b) H))
theorem noOwn_seq {d : D} {xs : List D} (e : d.seq? = some xs) (no : d.noOwn = true) : xs.all D.noOwn = true := by
  cases d <;> try (cases e; done)
  · cases e; unfold D.noOwn at no; rw [D.allF, allFs_all] at no; exact no
  · cases e; unfold D.noOwn at no; rw [D.allF, allFs_all] at no; exact no
  · cases e; unfold D.noOwn at no; rw [D.allF, allFs_all, Bool.and_eq_true] at no; exact no.2
theorem at_no {H : Hp} {N : Fl → Addr → Prop} {us : List V} {xs : List D} (h : Dens K H N (so us) xs []) {i : Nat} (hi : i < xs.length) : ∃ v, us[i]? = some v ∧ Dens K H N [some v] [xs[i]] [] := by
  obtain ⟨o, M, e1, e2, e3⟩ := h.at (i := i) (d := xs[i]) (List.getElem?_eq_getElem hi)
  have m0 : M = [] := List.eq_nil_of_length_eq_zero (Nat.le_zero.mp e3.length_le)
  subst m0
  rw [List.getElem?_map] at e1
  obtain ⟨x0, e4, e5⟩ := Option.map_eq_some_iff.mp e1
  subst e5
  exact ⟨x0, e4, e2⟩
theorem sqt_of {d : D} {xs : List D} (e : d.seq? = some xs) (nl : ∀ f ys, d ≠ .lst f ys) (no : d.noOwn = true) {H : Hp} {N : Fl → Addr → Prop} {v : V} {L : List Addr} (h : Dens K H N [some v] [d] L) : ∃ a us, v = .ref a ∧ SqT K H a us ∧ Dens K H N (so us) xs [] := by
  obtain ⟨a, us, M, rfl, q1, q2, _⟩ := inv_seqT e nl h
  have := noOwn_nil q2 (noOwn_seq e no)
  subst this
  exact ⟨a, us, rfl, q1, q2⟩
theorem sql_of {f : Fl} {xs : List D} (no : (D.lst f xs).noOwn = true) {H : Hp} {N : Fl → Addr → Prop} {v : V} {L : List Addr} (h : Dens K H N [some v] [.lst f xs] L) : ∃ a us, v = .ref a ∧ SqL K H a us ∧ Dens K H N (so us) xs [] := by
  obtain ⟨a, us, M, rfl, q1, _, q2, _⟩ := inv_lst h
  have := noOwn_nil q2 (noOwn_seq rfl no)
  subst this
  exact ⟨a, us, rfl, q1, q2⟩
theorem walk_zipL {f g : Fl} {xs ys : List D} {a b : Addr} (n1 : (D.lst f xs).noOwn = true) (n2 : (D.lst g ys).noOwn = true) : Walk K (Itz K a b) [.ref a, .ref b] [.lst f xs, .lst g ys] ((xs.zip ys).map fun p => .tup [p.1, p.2]) := by
  have look : ∀ {H : Hp} {σs : List (Option V)} {ds : List D} {L : List Addr} {Lo : Lent}, Sta K Lo H (so [V.ref a, V.ref b] ++ σs) ([.lst f xs, .lst g ys] ++ ds) L → ∃ us ws, SqL K H a us ∧ SqL K H b ws ∧ Dens K H (Nw L Lo) (so us) xs [] ∧ Dens K H (Nw L Lo) (so ws) ys [] := by
    intro H σs ds L Lo s
    obtain ⟨L1, M1, rfl, h1, h2⟩ := Dens.cons (o := some (.ref a)) (d := .lst f xs) (σ := some (.ref b) :: σs) (ds := .lst g ys :: ds) s.dens
    obtain ⟨L3, M3, rfl, h3, _⟩ := Dens.cons h2
    obtain ⟨a', us, e, q1, q2⟩ := sql_of n1 h1
    obtain ⟨b', ws, e', q3, q4⟩ := sql_of n2 h3
    cases e; cases e'
    exact ⟨us, ws, q1, q3, q2, q4⟩
  refine ⟨fun i H σs ds L Lo hi s => ?_, fun i H σs ds L Lo hi s => ?_⟩
  · obtain ⟨us, ws, q1, q2, d1, d2⟩ := look s
    have hh : i < xs.length ∧ i < ys.length := by simp at hi; omega
    obtain ⟨x, e1, dx⟩ := at_no d1 hh.1
    obtain ⟨y, e2, dy⟩ := at_no d2 hh.2
    refine ⟨⟨us, ws, x, y, q1, q2, e1, e2⟩, fun v H' yy => ?_⟩
    obtain ⟨T, x', y', rfl, hT, rfl, f1, f2⟩ := yy
    have := f1 us q1; rw [e1] at this; cases this
    have := f2 ws q2; rw [e2] at this; cases this
    have := pair_step s hT dx dy
    have eq : ((xs.zip ys).map fun p => D.tup [p.1, p.2])[i] = .tup [xs[i], ys[i]] := by simp
    rw [eq]
    exact this
  · obtain ⟨us, ws, q1, q2, d1, d2⟩ := look s
    refine ⟨us, ws, q1, q2, ?_⟩
    rw [len_so d1, len_so d2]
    simp at hi
    omega
theorem walk_zipT {d e : D} {xs ys : List D} {a b : Addr} (s1 : d.seq? = some xs) (s2 : e.seq? = some ys) (l1 : ∀ f ys, d ≠ .lst f ys) (l2 : ∀ f ys, e ≠ .lst f ys) (n1 : d.noOwn = true) (n2 : e.noOwn = true) : Walk K (ItzT K a b) [.ref a, .ref b] [d, e] ((xs.zip ys).map fun p => .tup [p.1, p.2]) := by
  have look : ∀ {H : Hp} {σs : List (Option V)} {ds : List D} {L : List Addr} {Lo : Lent}, Sta K Lo H (so [V.ref a, V.ref b] ++ σs) ([d, e] ++ ds) L → ∃ us ws, SqT K H a us ∧ SqT K H b ws ∧ Dens K H (Nw L Lo) (so us) xs [] ∧ Dens K H (Nw L Lo) (so ws) ys [] := by
    intro H σs ds L Lo s
    obtain ⟨L1, M1, rfl, h1, h2⟩ := Dens.cons (o := some (.ref a)) (d := d) (σ := some (.ref b) :: σs) (ds := e :: ds) s.dens
    obtain ⟨L3, M3, rfl, h3, _⟩ := Dens.cons h2
    obtain ⟨a', us, z, q1, q2⟩ := sqt_of s1 l1 n1 h1
    obtain ⟨b', ws, z', q3, q4⟩ := sqt_of s2 l2 n2 h3
    cases z; cases z'
    exact ⟨us, ws, q1, q3, q2, q4⟩
  refine ⟨fun i H σs ds L Lo hi s => ?_, fun i H σs ds L Lo hi s => ?_⟩
  · obtain ⟨us, ws, q1, q2, d1, d2⟩ := look s
    have hh : i < xs.length ∧ i < ys.length := by simp at hi; omega
    obtain ⟨x, e1, dx⟩ := at_no d1 hh.1
    obtain ⟨y, e2, dy⟩ := at_no d2 hh.2
    refine ⟨⟨us, ws, x, y, q1, q2, e1, e2⟩, fun v H' yy => ?_⟩
    obtain ⟨T, x', y', rfl, hT, rfl, f1, f2⟩ := yy
    have := f1 us q1; rw [e1] at this; cases this
    have := f2 ws q2; rw [e2] at this; cases this
    have := pair_step s hT dx dy
    have eq : ((xs.zip ys).map fun p => D.tup [p.1, p.2])[i] = .tup [xs[i], ys[i]] := by simp
    rw [eq]
    exact this
  · obtain ⟨us, ws, q1, q2, d1, d2⟩ := look s
    refine ⟨us, ws, q1, q2, ?_⟩
    rw [len_so d1, len_so d2]
    simp at hi
    omega
theorem walk_Zip : WalkOp K (rwZip K) wZip := by
  intro H N vs ds hd no xs e R k
  have ft : ∀ {d d' : D} {xs ys : List D}, vs.length = 2 → ds = [d, d'] → d.seq? = some xs → d'.seq? = some ys → (∀ f ys, d ≠ .lst f ys) → (∀ f ys, d' ≠ .lst f ys) → (∀ J, Walk K J vs ds ((xs.zip ys).map fun p => .tup [p.1, p.2]) → R J H) → rwZip K vs H R := by
    intro d d' xs ys hl ed e1 e2 l1 l2 k
    subst ed
    obtain ⟨x, y, L1, L2, rfl, hh, h1, h2⟩ := apart2 hd
    simp only [List.all_cons, List.all_nil, Bool.and_true, Bool.and_eq_true] at no
    obtain ⟨a, us, rfl, q1, _⟩ := sqt_of e1 l1 no.1 h1
    obtain ⟨b, ws, rfl, q2, _⟩ := sqt_of e2 l2 no.2 h2
    exact ⟨a, b, us, ws, rfl, .inr ⟨q1, q2, k _ (walk_zipT e1 e2 l1 l2 no.1 no.2)⟩⟩
  have hlen : vs.length = ds.length := len_so hd
  unfold wZip at e
  split at e
  · rename_i f xs g ys
    cases e
    obtain ⟨x, y, L1, L2, rfl, hh, h1, h2⟩ := apart2 hd
    simp only [List.all_cons, List.all_nil, Bool.and_true, Bool.and_eq_true] at no
    obtain ⟨a, us, rfl, q1, _⟩ := sql_of no.1 h1
    obtain ⟨b, ws, rfl, q2, _⟩ := sql_of no.2 h2
    exact ⟨a, b, us, ws, rfl, .inl ⟨q1, q2, k _ (walk_zipL no.1 no.2)⟩⟩
  · cases e; exact ft hlen rfl rfl rfl (fun _ _ z => by cases z) (fun _ _ z => by cases z) k
  · cases e; exact ft hlen rfl rfl rfl (fun _ _ z => by cases z) (fun _ _ z => by cases z) k
  · cases e; exact ft hlen rfl rfl rfl (fun _ _ z => by cases z) (fun _ _ z => by cases z) k
  · cases e; exact ft hlen rfl rfl rfl (fun _ _ z => by cases z) (fun _ _ z => by cases z) k
  · cases e
/-- enumerate(list) -/
def wEnum : List D → Option (List D)
  | [.lst _ xs] => some ((List.range xs.length).map fun i => .tup [.int ((i : Nat) : Int), xs.getD i .non])
  | _ => none
abbrev rwEnum (K : PySem.W.Frag) : List V → Hp → (It → Hp → Prop) → Prop := fun vs H R => ∃ a xs, vs = [.ref a] ∧ SqL K H a xs ∧ R (Ite K a) H
theorem walk_Enum : WalkOp K (rwEnum K) wEnum := by
  intro H N vs ds hd no xs e R k
  unfold wEnum at e
  split at e
  · rename_i f ys
    cases e
    obtain ⟨x, rfl, h1⟩ := apart1 hd
    have n1 : (D.lst f ys).noOwn = true := by simpa using no
    obtain ⟨a, us, rfl, q1, _⟩ := sql_of n1 h1
    have look : ∀ {H : Hp} {σs : List (Option V)} {ds : List D} {L : List Addr} {Lo : Lent}, Sta K Lo H (so [V.ref a] ++ σs) ([.lst f ys] ++ ds) L → ∃ us, SqL K H a us ∧ Dens K H (Nw L Lo) (so us) ys [] := by
      intro H σs ds L Lo s
      obtain ⟨L1, M1, rfl, h1, h2⟩ := Dens.cons (o := some (.ref a)) (d := .lst f ys) (σ := σs) (ds := ds) s.dens
      obtain ⟨a', us, e, q1, q2⟩ := sql_of n1 h1
      cases e
      exact ⟨us, q1, q2⟩
    refine ⟨a, us, rfl, q1, k _ ⟨fun i H σs ds L Lo hi s => ?_, fun i H σs ds L Lo hi s => ?_⟩⟩
    · obtain ⟨us, q1, d1⟩ := look s
      have hh : i < ys.length := by simpa using hi
      obtain ⟨x, e1, dx⟩ := at_no d1 hh
      refine ⟨⟨us, x, q1, e1⟩, fun v H' yy => ?_⟩
      obtain ⟨T, x', rfl, hT, rfl, f1⟩ := yy
      have := f1 us q1; rw [e1] at this; cases this
      have := pair_step s hT (Flat.int (i : Nat) _ _ _) dx
      have eq : ((List.range ys.length).map fun i => D.tup [.int ((i : Nat) : Int), ys.getD i .non])[i] = .tup [.int (i : Nat), ys[i]] := by simp [List.getD_eq_getElem?_getD, hh]
      rw [eq]
      exact this
    · obtain ⟨us, q1, d1⟩ := look s
      refine ⟨us, q1, ?_⟩
      rw [len_so d1]
      simpa using hi
  · cases e
/-- reversed(list) -/
def wRev : List D → Option (List D)
  | [.lst _ xs] => some xs.reverse
  | _ => none
abbrev rwRev (K : PySem.W.Frag) : List V → Hp → (It → Hp → Prop) → Prop := fun vs H R => ∃ (a : Addr) (xs : List V), vs = [.ref a] ∧ SqL K H a xs ∧ R (Itv K a xs.length) H
theorem walk_Rev : WalkOp K (rwRev K) wRev := by
  intro H N vs ds hd no xs e R k
  unfold wRev at e
  split at e
  · rename_i f ys
    cases e
    obtain ⟨x, rfl, h1⟩ := apart1 hd
    have n1 : (D.lst f ys).noOwn = true := by simpa using no
    obtain ⟨a, us, rfl, q1, d0⟩ := sql_of n1 h1
    have l0 := len_so d0
    have look : ∀ {H : Hp} {σs : List (Option V)} {ds : List D} {L : List Addr} {Lo : Lent}, Sta K Lo H (so [V.ref a] ++ σs) ([.lst f ys] ++ ds) L → ∃ us, SqL K H a us ∧ Dens K H (Nw L Lo) (so us) ys [] := by
      intro H σs ds L Lo s
      obtain ⟨L1, M1, rfl, h1, h2⟩ := Dens.cons (o := some (.ref a)) (d := .lst f ys) (σ := σs) (ds := ds) s.dens
      obtain ⟨a', us, e, q1, q2⟩ := sql_of n1 h1
      cases e
      exact ⟨us, q1, q2⟩
    refine ⟨a, us, rfl, q1, k _ ⟨fun i H σs ds L Lo hi s => ?_, fun i H σs ds L Lo hi s => ?_⟩⟩
    · obtain ⟨ws, q1, d1⟩ := look s
      have hh : i < ys.length := by simpa using hi
      obtain ⟨x, e1, dx⟩ := at_no d1 (i := ys.length - 1 - i) (by omega)
      refine ⟨⟨by omega, ws, x, q1, by rw [l0]; exact e1⟩, fun v H' yy => ?_⟩
      obtain ⟨rfl, f1⟩ := yy
      have := f1 ws q1; rw [l0, e1] at this; cases this
      refine ⟨Still.refl _, s.good, ?_⟩
      have eq : ys.reverse[i]'(by simpa using hh) = ys[ys.length - 1 - i] := by simp
      rw [eq]
      exact dx.put s.dens
    · show us.length ≤ i
      rw [l0]
      simpa using hi
  · cases e
theorem gn_L : ∀ (ds xs : List D), ds.all D.noOwn = true → wL ds = some xs → xs.all D.noOwn = true := fun ds xs no e => by
  unfold wL at e
  split at e
  · cases e; exact noOwn_seq rfl (by simpa using no)
  · cases e
theorem gn_T : ∀ (ds xs : List D), ds.all D.noOwn = true → wT ds = some xs → xs.all D.noOwn = true := fun ds xs no e => by
  unfold wT at e
  split at e
  · cases e; exact noOwn_seq (d := .tup xs) rfl (by simpa using no)
  · cases e; exact noOwn_seq (d := .tupE xs) rfl (by simpa using no)
  · cases e
theorem gn_S : ∀ (ds xs : List D), ds.all D.noOwn = true → wS ds = some xs → xs.all D.noOwn = true := fun ds xs no e => by
  unfold wS at e
  split at e
  · cases e; rw [List.all_map]; exact List.all_eq_true.mpr fun _ _ => rfl
  · cases e
theorem gn_R1 : ∀ (ds xs : List D), ds.all D.noOwn = true → wR1 ds = some xs → xs.all D.noOwn = true := fun ds xs no e => by
  unfold wR1 at e
  split at e
  · split at e
    · cases e; rw [List.all_map]; exact List.all_eq_true.mpr fun _ _ => rfl
    · cases e
  · cases e
theorem gn_R2 : ∀ (ds xs : List D), ds.all D.noOwn = true → wR2 ds = some xs → xs.all D.noOwn = true := fun ds xs no e => by
  unfold wR2 at e
  split at e
  · split at e
    · cases e; rw [List.all_map]; exact List.all_eq_true.mpr fun _ _ => rfl
    · cases e
  · cases e
theorem zip_no {xs ys : List D} (h1 : xs.all D.noOwn = true) (h2 : ys.all D.noOwn = true) : ((xs.zip ys).map fun p => D.tup [p.1, p.2]).all D.noOwn = true := by
  rw [List.all_map]
  refine List.all_eq_true.mpr fun p hp => ?_
  obtain ⟨a, b⟩ := p
  have := List.of_mem_zip hp
  have ha := List.all_eq_true.mp h1 a this.1
  have hb := List.all_eq_true.mp h2 b this.2
  show D.allFs _ [a, b] = true
  rw [D.allFs, D.allFs, D.allFs]
  unfold D.noOwn at ha hb
  rw [ha, hb]; rfl
theorem gn_Zip : ∀ (ds xs : List D), ds.all D.noOwn = true → wZip ds = some xs → xs.all D.noOwn = true := fun ds xs no e => by
  unfold wZip at e
  split at e <;> first
    | (cases e; done)
    | (cases e
       simp only [List.all_cons, List.all_nil, Bool.and_true, Bool.and_eq_true] at no
       exact zip_no (noOwn_seq rfl no.1) (noOwn_seq rfl no.2))
theorem gn_Enum : ∀ (ds xs : List D), ds.all D.noOwn = true → wEnum ds = some xs → xs.all D.noOwn = true := fun ds xs no e => by
  unfold wEnum at e
  split at e
  · rename_i f ys
    cases e
    have n1 := noOwn_seq (d := .lst f ys) rfl (by simpa using no)
    rw [List.all_map]
    refine List.all_eq_true.mpr fun i hi => ?_
    have hi' : i < ys.length := by simpa using hi
    have := List.all_eq_true.mp n1 (ys[i]'hi') (List.getElem_mem hi')
    show D.allFs _ [.int ((i : Nat) : Int), ys.getD i .non] = true
    have eq : ys.getD i .non = ys[i]'hi' := by simp [List.getD_eq_getElem?_getD, hi']
    rw [eq, D.allFs, D.allFs, D.allFs]
    unfold D.noOwn at this
    rw [this]; rfl
  · cases e
theorem gn_Rev : ∀ (ds xs : List D), ds.all D.noOwn = true → wRev ds = some xs → xs.all D.noOwn = true := fun ds xs no e => by
  unfold wRev at e
  split at e
  · rename_i f ys
    cases e
    have n1 := noOwn_seq (d := .lst f ys) rfl (by simpa using no)
    rw [List.all_reverse]; exact n1
  · cases e
theorem SatJ.seq {q : Bool} {te : TE} {f : Ev → Option (D × Ev)} (h : Sat K q te f) : SatJ K (q && true) (tiSeq K te) (itSeqQ f) :=
  SatJ.or (t := iList K te) (SatJ.op (r := rwL K) (SatA.cons h (SatA.nil (q := true))) walk_L gn_L) (SatJ.or (t := iTup K te) (t' := iStr te) (SatJ.op (r := rwT K) (SatA.cons h SatA.nil) walk_T gn_T) (SatJ.op (r := rwS) (SatA.cons h SatA.nil) walk_S gn_S))
end

section
variable {α : Type} {M : α → Cx} {K : PySem.W.Frag} {P : Program} {w : World} {mg : Str → Option Value} {base : Heap} {k : Nat} {pn : List Nat}
variable {tg e e2 : Expr} {es : List Expr} {p pos : Pos} {q q' : Bool} {f f2 : Ev → Option (D × Ev)} {fs : Ev → Option (List D × Ev)} {fi : Ev → Option (List D × Ev)}
def SI (M : α → Cx) (K : PySem.W.Frag) (tg e : Expr) (f : Ev → Option (List D × Ev)) : Prop := ∃ t : TI, (∀ a, PI (M a) tg e t) ∧ SatIC K t f
def SJ (M : α → Cx) (K : PySem.W.Frag) (q : Bool) (tg e : Expr) (f : Ev → Option (List D × Ev)) : Prop := ∃ t : TI, (∀ a, PI (M a) tg e t) ∧ SatJ K q t f
def SAC (M : α → Cx) (K : PySem.W.Frag) (es : List Expr) (f : Ev → Option (List D × Ev)) : Prop := ∃ t : TA, (∀ a, PA (M a) es t) ∧ SatAC K t f
theorem sac_nil : SAC M K [] aNil := ⟨_, fun _ => pa_nil, SatAC.nil⟩
theorem sac_cons (h : SEC M K e f) (h' : SAC M K es fs) (hs : ∀ a, starEach (e :: es) (M a).env = (false, eval e (M a).env) :: starEach es (M a).env := by intro _; rfl) : SAC M K (e :: es) (aConsK f fs) :=
  let ⟨t, h1, h2⟩ := h; let ⟨u, h3, h4⟩ := h'; ⟨_, fun a => pa_cons (h1 a) (h3 a) (hs a), SatAC.cons h2 h4⟩
theorem pi_seq {X : Cx} {te : TE} (h : PE X e te) : PI X tg e (tiSeq X.K te) := pi_or (pi_list h) (pi_or (pi_tup h) (pi_str h))
theorem si_seq (hK : ∀ a, (M a).K = K) (h : SEC M K e f) : SI M K tg e (itSeq f) := let ⟨t, h1, h2⟩ := h; ⟨tiSeq K t, fun a => by have := pi_seq (tg := tg) (h1 a); rw [hK a] at this; exact this, SatIC.seq h2⟩
theorem sj_seq (hK : ∀ a, (M a).K = K) (h : SE M K q e f) : SJ M K (q && true) tg e (itSeqQ f) := let ⟨t, h1, h2⟩ := h; ⟨tiSeq K t, fun a => by have := pi_seq (tg := tg) (h1 a); rw [hK a] at this; exact this, SatJ.seq h2⟩
theorem si_range1 (F : Fm M P w K mg base k) (hm : mg "range" = none) (h : SAC M K [e] fs) (hg : ∀ a, Gl (M a) "range" := by intro _; rfl) (hs : ∀ a, starEach [e] (M a).env = [(false, eval e (M a).env)] := by intro _; rfl) : SI M K tg (.Call (.Name "range" p) [e] [] pos) (itOp wR1 fs) :=
  let ⟨t, h1, h2⟩ := h; ⟨iRng1 t, fun a => pi_range1 (hg a) (by rw [F.mg a]; exact hm) (h1 a) (hs a), SatIC.op (r := rwR1) h2 walk_R1⟩
theorem sj_range1 {ld} (F : Fm M P w K mg base k) (hm : mg "range" = none) (h : SA M K q ld [e] fs) (hg : ∀ a, Gl (M a) "range" := by intro _; rfl) (hs : ∀ a, starEach [e] (M a).env = [(false, eval e (M a).env)] := by intro _; rfl) : SJ M K q tg (.Call (.Name "range" p) [e] [] pos) (itOp wR1 fs) :=
  let ⟨t, h1, h2⟩ := h; ⟨iRng1 t, fun a => pi_range1 (hg a) (by rw [F.mg a]; exact hm) (h1 a) (hs a), SatJ.op (r := rwR1) h2 walk_R1 gn_R1⟩
theorem si_range2 (F : Fm M P w K mg base k) (hm : mg "range" = none) (h : SAC M K [e, e2] fs) (hg : ∀ a, Gl (M a) "range" := by intro _; rfl) (hs : ∀ a, starEach [e, e2] (M a).env = [(false, eval e (M a).env), (false, eval e2 (M a).env)] := by intro _; rfl) (hs2 : ∀ a, starEach [e2] (M a).env = [(false, eval e2 (M a).env)] := by intro _; rfl) : SI M K tg (.Call (.Name "range" p) [e, e2] [] pos) (itOp wR2 fs) :=
  let ⟨t, h1, h2⟩ := h; ⟨iRng2 t, fun a => pi_range2 (hg a) (by rw [F.mg a]; exact hm) (h1 a) (hs a) (hs2 a), SatIC.op (r := rwR2) h2 walk_R2⟩
theorem sj_range2 {ld} (F : Fm M P w K mg base k) (hm : mg "range" = none) (h : SA M K q ld [e, e2] fs) (hg : ∀ a, Gl (M a) "range" := by intro _; rfl) (hs : ∀ a, starEach [e, e2] (M a).env = [(false, eval e (M a).env), (false, eval e2 (M a).env)] := by intro _; rfl) (hs2 : ∀ a, starEach [e2] (M a).env = [(false, eval e2 (M a).env)] := by intro _; rfl) : SJ M K q tg (.Call (.Name "range" p) [e, e2] [] pos) (itOp wR2 fs) :=
  let ⟨t, h1, h2⟩ := h; ⟨iRng2 t, fun a => pi_range2 (hg a) (by rw [F.mg a]; exact hm) (h1 a) (hs a) (hs2 a), SatJ.op (r := rwR2) h2 walk_R2 gn_R2⟩
theorem si_zip {elts : List Expr} {kk : Nat} {tpos : Pos} (F : Fm M P w K mg base k) (hm : mg "zip" = none) (h : SAC M K [e, e2] fs) (hg : ∀ a, Gl (M a) "zip" := by intro _; rfl) (hs : ∀ a, starEach [e, e2] (M a).env = (false, eval e (M a).env) :: starEach [e2] (M a).env := by intro _; rfl) (hpl : ∀ a, (backTo pos (starEach [e2] (M a).env)).any (·.1) = false := by intro _; rfl) : SI M K (.Tuple elts kk tpos) (.Call (.Name "zip" p) [e, e2] [] pos) (itOp wZip fs) :=
  let ⟨t, h1, h2⟩ := h; ⟨iZipA K t, fun a => by have := pi_zipA (X := M a) (p := p) (tpos := tpos) (elts := elts) (kk := kk) (hg a) (by rw [F.mg a]; exact hm) (h1 a) (hs a) (hpl a); rw [F.K a] at this; exact this, SatIC.op (r := rwZip K) h2 walk_Zip⟩
theorem sj_zip {ld} {elts : List Expr} {kk : Nat} {tpos : Pos} (F : Fm M P w K mg base k) (hm : mg "zip" = none) (h : SA M K q ld [e, e2] fs) (hg : ∀ a, Gl (M a) "zip" := by intro _; rfl) (hs : ∀ a, starEach [e, e2] (M a).env = (false, eval e (M a).env) :: starEach [e2] (M a).env := by intro _; rfl) (hpl : ∀ a, (backTo pos (starEach [e2] (M a).env)).any (·.1) = false := by intro _; rfl) : SJ M K q (.Tuple elts kk tpos) (.Call (.Name "zip" p) [e, e2] [] pos) (itOp wZip fs) :=
  let ⟨t, h1, h2⟩ := h; ⟨iZipA K t, fun a => by have := pi_zipA (X := M a) (p := p) (tpos := tpos) (elts := elts) (kk := kk) (hg a) (by rw [F.mg a]; exact hm) (h1 a) (hs a) (hpl a); rw [F.K a] at this; exact this, SatJ.op (r := rwZip K) h2 walk_Zip gn_Zip⟩
theorem si_enum {elts : List Expr} {kk : Nat} {tpos : Pos} (F : Fm M P w K mg base k) (hm : mg "enumerate" = none) (h : SAC M K [e] fs) (hg : ∀ a, Gl (M a) "enumerate" := by intro _; rfl) (hs : ∀ a, starEach [e] (M a).env = [(false, eval e (M a).env)] := by intro _; rfl) : SI M K (.Tuple elts kk tpos) (.Call (.Name "enumerate" p) [e] [] pos) (itOp wEnum fs) :=
  let ⟨t, h1, h2⟩ := h; ⟨iEnum K t, fun a => by have := pi_enum (X := M a) (p := p) (pos := pos) (tpos := tpos) (elts := elts) (kk := kk) (hg a) (by rw [F.mg a]; exact hm) (h1 a) (hs a); rw [F.K a] at this; exact this, SatIC.op (r := rwEnum K) h2 walk_Enum⟩
theorem sj_enum {ld} {elts : List Expr} {kk : Nat} {tpos : Pos} (F : Fm M P w K mg base k) (hm : mg "enumerate" = none) (h : SA M K q ld [e] fs) (hg : ∀ a, Gl (M a) "enumerate" := by intro _; rfl) (hs : ∀ a, starEach [e] (M a).env = [(false, eval e (M a).env)] := by intro _; rfl) : SJ M K q (.Tuple elts kk tpos) (.Call (.Name "enumerate" p) [e] [] pos) (itOp wEnum fs) :=
  let ⟨t, h1, h2⟩ := h; ⟨iEnum K t, fun a => by have := pi_enum (X := M a) (p := p) (pos := pos) (tpos := tpos) (elts := elts) (kk := kk) (hg a) (by rw [F.mg a]; exact hm) (h1 a) (hs a); rw [F.K a] at this; exact this, SatJ.op (r := rwEnum K) h2 walk_Enum gn_Enum⟩
theorem si_rev (F : Fm M P w K mg base k) (hm : mg "reversed" = none) (h : SAC M K [e] fs) (hg : ∀ a, Gl (M a) "reversed" := by intro _; rfl) (hs : ∀ a, starEach [e] (M a).env = [(false, eval e (M a).env)] := by intro _; rfl) : SI M K tg (.Call (.Name "reversed" p) [e] [] pos) (itOp wRev fs) :=
  let ⟨t, h1, h2⟩ := h; ⟨iRev K t, fun a => by have := pi_reversed (X := M a) (tg := tg) (p := p) (pos := pos) (hg a) (by rw [F.mg a]; exact hm) (h1 a) (hs a); rw [F.K a] at this; exact this, SatIC.op (r := rwRev K) h2 walk_Rev⟩
theorem sj_rev {ld} (F : Fm M P w K mg base k) (hm : mg "reversed" = none) (h : SA M K q ld [e] fs) (hg : ∀ a, Gl (M a) "reversed" := by intro _; rfl) (hs : ∀ a, starEach [e] (M a).env = [(false, eval e (M a).env)] := by intro _; rfl) : SJ M K q tg (.Call (.Name "reversed" p) [e] [] pos) (itOp wRev fs) :=
  let ⟨t, h1, h2⟩ := h; ⟨iRev K t, fun a => by have := pi_reversed (X := M a) (tg := tg) (p := p) (pos := pos) (hg a) (by rw [F.mg a]; exact hm) (h1 a) (hs a); rw [F.K a] at this; exact this, SatJ.op (r := rwRev K) h2 walk_Rev gn_Rev⟩

/-! for, while -/
theorem ss_for {body : List Stmt} {fg : D → Ev → Option Ev} {fb : Ev → Option Out} (F : Fm M P w K mg base k) (hi : SI M K tg e fi) (hg : SG M K pn tg fg) (hb : SB M K pn body fb) (hp : ∀ a, PassesOwn (model (M a).prog (M a).w) (M a).A (M a).env (M a).xe := by exact fun _ => PassesOwn.never)
    (hs : ∀ a x, foldedSetIterable e (M a).env x = pure x := by intro _ _; rfl) : SS M K pn (.For tg e body [] pos) (sFor fi fg fb) :=
  let ⟨t, h1, h2⟩ := hi; let ⟨u, h3, h4⟩ := hg; let ⟨v, h5, h6⟩ := hb
  ⟨_, fun a => ps_for (hp a) (F.calm a) (h1 a) (h3 a) (h5 a) (hs a), SatS.loop h2 h4 h6⟩
theorem ss_while {c : Expr} {body : List Stmt} {cc : Ev → Option (Bool × Ev)} {fb : Ev → Option Out} (n : Nat) (hc : STC M K c cc) (hb : SB M K pn body fb) (hp : ∀ a, PassesOwn (model (M a).prog (M a).w) (M a).A (M a).env (M a).xe := by exact fun _ => PassesOwn.never) : SS M K pn (.While c body [] pos) (whileL cc fb n) :=
  let ⟨t, h1, h2⟩ := hc; let ⟨v, h5, h6⟩ := hb
  ⟨_, fun a => ps_while (hp a) (h1 a) (h5 a), SatS.while h2 h6⟩

/-! comprehensions -/
abbrev Blk : Type := Shared × Hp × Addr × List (Str × Addr) × List Addr
abbrev blkF (M : α → Cx) (scope : Scope) : α × Blk → Cx := fun x => (M x.1).blk x.2.1 x.2.2.1 scope (compEnvC scope x.2.2.2.2.1 x.2.2.2.1 (M x.1).env) x.2.2.2.2.2
theorem Fm.blk (F : Fm M P w K mg base k) (scope : Scope) : Fm (blkF M scope) P w K mg base k :=
  ⟨fun a => F.prog a.1, fun a => F.w a.1, fun a => F.K a.1, fun a => F.mg a.1, fun a => F.base a.1, fun a => F.calm a.1, fun a => F.room a.1⟩
def STs (M : α → Cx) (K : PySem.W.Frag) (q : Bool) (es : List Expr) (f : Ev → Option (Bool × Ev)) : Prop := ∃ t : TT, (∀ a, PTs (M a) es t) ∧ SatB K q t f
def tyes : Ev → Option (Bool × Ev) := fun env => some (true, env)
theorem sts_nil : STs M K q [] tyes := ⟨tYes, fun _ => pts_nil, ⟨fun σ H env ts td L Lo hl s b env' e Q k => by
  cases e
  exact k H L ⟨by simpa using s.good, .nil, s.dens, Ext.refl _ _, fun _ => ⟨rfl, Still.refl _, rfl, fun _ h => (List.not_mem_nil h).elim⟩⟩⟩⟩
theorem sts_one {f : Ev → Option (Bool × Ev)} (h : ST M K q e f) : STs M K q [e] f := let ⟨t, h1, h2⟩ := h; ⟨t, fun a => pts_one (h1 a), h2⟩
theorem SatB.weak {t : TT} {f : Ev → Option (Bool × Ev)} (h : SatB K q t f) : SatB K false t f := ⟨fun σ H env ts td L Lo hl s b env' e Q k => h.run σ H env ts td L Lo hl s b env' e Q fun H' Lb c => k H' Lb (c.q2 fun z => by cases z)⟩
theorem ST.weak {f : Ev → Option (Bool × Ev)} (h : ST M K q e f) : ST M K false e f := let ⟨t, h1, h2⟩ := h; ⟨t, h1, h2.weak⟩
theorem Sat.eqq {t : TE} (h : Sat K q t f) (e : q = q') : Sat K q' t f := e ▸ h
theorem SE.eqq (h : SE M K q e f) (e' : q = q') : SE M K q' e f := e' ▸ h
theorem ST.eqq {f : Ev → Option (Bool × Ev)} (h : ST M K q e f) (e' : q = q') : ST M K q' e f := e' ▸ h
/-- targets -/
def SV (M : α → Cx) (K : PySem.W.Frag) (vs : List Nat) (e : Expr) (f : D → Ev → Option Ev) : Prop := ∃ t : TG, (∀ a, PG (M a) e t) ∧ SatV K vs t f
def SVs (M : α → Cx) (K : PySem.W.Frag) (vs : List Nat) (es : List Expr) (f : List D → Ev → Option Ev) : Prop := ∃ t : TGs, (∀ a, PGs (M a) es t) ∧ SatVs K vs t f
theorem sv_name {x : Str} {vs : List Nat} {i : Nat} (hi : i ∈ vs := by decide) (hN : ∀ a, (M a).N.Nodup) (hx : ∀ a, (M a).N[i]? = some x := by intro _; rfl) (hl : ∀ a, Loc (M a).env.scope x := by intro _; first | exact Or.inl rfl | exact Or.inr rfl)
    (hf : ∀ a, (M a).fn x = true ∨ (M a).env.scope.names.lookup x = some .local := by intro _; first | exact .inr rfl | exact .inl rfl) : SV M K vs (.Name x pos) (tvName i) := ⟨_, fun a => pg_name (hN a) (hx a) (hl a) (hf a), .name hi⟩
theorem svs_nil {vs : List Nat} : SVs M K vs [] tgNil := ⟨_, fun _ => pgs_nil, .nil⟩
theorem svs_cons {vs : List Nat} {f : D → Ev → Option Ev} {g : List D → Ev → Option Ev} (h1 : SV M K vs e f) (h2 : SVs M K vs es g) (hs : ∀ a, (assignEach (e :: es) (M a).env).map (·.2) = assign e (M a).env :: (assignEach es (M a).env).map (·.2) := by intro _; rfl) : SVs M K vs (e :: es) (tgCons f g) := let ⟨t, a, b⟩ := h1; let ⟨u, c, d⟩ := h2; ⟨_, fun x => pgs_cons (a x) (c x) (hs x), SatVs.cons b d⟩
theorem sv_tup {vs : List Nat} {j n : Nat} {g : List D → Ev → Option Ev} (hK : ∀ a, (M a).K = K) (hc : ∀ a, (M a).calm = true) (h : SVs M K vs es g) (hn : ∀ a, (assignEach es (M a).env).length = n := by intro _; rfl) (hst : ∀ a, (assignEach es (M a).env).findIdx? (·.1) = none := by intro _; rfl) : SV M K vs (.Tuple es j pos) (tgTup n g) :=
  let ⟨t, a, b⟩ := h; ⟨L2.gTup K n t, fun x => by have := pg_tup (X := M x) (pos := pos) (k := j) (hc x) (a x) (hn x) (hst x); rw [hK x] at this; exact this, SatV.tup b⟩
section
variable {elt iter : Expr} {ifs : List Expr} {scope : Scope} {own : List (Str × Nat)} {fg : D → Ev → Option Ev} {ft : Ev → Option (Bool × Ev)} {fe : Ev → Option (D × Ev)} {qi : Bool}
theorem se_lc (F : Fm M P w K mg base k) (own : List (Str × Nat)) (hN : ∀ a, (M a).N.Nodup) (ok : ∀ a, blkC (M a).N (M a).env.scope scope own = true) (hi : SJ M K qi tg iter fi) (hg : SV (blkF M scope) K (own.map (·.2)) tg fg) (ht : STs (blkF M scope) K q ifs ft) (he : SE (blkF M scope) K q elt fe)
    (nd : (own.map (·.2)).Nodup := by decide) (hs : ∀ a x, foldedSetIterable iter (M a).env x = pure x := by intro _ _; rfl) : SE M K (qi && q) (.ListComp elt [⟨tg, iter, ifs, 0⟩] scope pos) (eLc q (own.map (·.2)) fi fg ft fe) :=
  let ⟨t, h1, h2⟩ := hi; let ⟨u, h3, h4⟩ := hg; let ⟨v, h5, h6⟩ := ht; let ⟨x, h7, h8⟩ := he
  ⟨tLc t u v x (own.map (·.2)), fun a => pe_lc (F.calm a) (hN a) (h1 a) (blkOk_by (ok a)) (fun s H C cl fp => h3 (a, s, H, C, cl, fp)) (fun s H C cl fp => h5 (a, s, H, C, cl, fp)) (fun s H C cl fp => h7 (a, s, H, C, cl, fp)) (hs a), wpl nd h2 h4 h6 h8⟩
/-- name = [..], on one line -/
theorem ss_setLc {y : Str} {py spos : Pos} {i : Nat} {f' : Ev → Option (D × Ev)} (F : Fm M P w K mg base k) (own : List (Str × Nat)) (hN : ∀ a, (M a).N.Nodup) (ok : ∀ a, blkC (M a).N (M a).env.scope scope own = true) (hi : SJ M K qi tg iter fi) (hg : SV (blkF M scope) K (own.map (·.2)) tg fg) (ht : STs (blkF M scope) K q ifs ft) (he : SE (blkF M scope) K q elt fe)
    (tr : ∀ t, Sat K (qi && q) t (eLc q (own.map (·.2)) fi fg ft fe) → SatC K t f') (hip : i ∉ pn := by decide)
    (nd : (own.map (·.2)).Nodup := by decide) (hs : ∀ a x, foldedSetIterable iter (M a).env x = pure x := by intro _ _; rfl)
    (hx : ∀ a, (M a).N[i]? = some y := by intro _; rfl) (hyl : ∀ a, (M a).env.scope.names.lookup y = some .local := by intro _; rfl) (hk : ∀ a, (M a).env.scope.kind = .function := by intro _; rfl) (hl : (py.line == pos.line) = true := by rfl) (hn : (scope.names.any fun (n, k) => n == y && (k == .local || k == .cell)) = false := by decide +kernel) :
    SS M K pn (.Assign [.Name y py] (.ListComp elt [⟨tg, iter, ifs, 0⟩] scope pos) spos) (sAsg f' (tgName i)) :=
  let ⟨t, h1, h2⟩ := hi; let ⟨u, h3, h4⟩ := hg; let ⟨v, h5, h6⟩ := ht; let ⟨x, h7, h8⟩ := he
  ⟨tAsg (tLc t u v x (own.map (·.2))) (gName i), fun a => ps_setLc (F.calm a) (hN a) (hx a) (hyl a) (sw_true (hk a) (hyl a) hl hn) (h1 a) (blkOk_by (ok a)) (fun s H C cl fp => h3 (a, s, H, C, cl, fp)) (fun s H C cl fp => h5 (a, s, H, C, cl, fp)) (fun s H C cl fp => h7 (a, s, H, C, cl, fp)) (hs a), .asg (tr _ (wpl nd h2 h4 h6 h8)) (.name hip)⟩
end
/-- what comes of it changes no more -/
def eFrz (f : Ev → Option (D × Ev)) : Ev → Option (D × Ev) := fun env => match f env with
  | some (d, e) => some (d.frz, e)
  | none => none
theorem Sat.frz {t : TE} (h : Sat K q t f) : Sat K q t (eFrz f) := by
  refine ⟨fun σ H env ts td L Lo hl s d env' e Q k => ?_⟩
  unfold eFrz at e
  split at e
  · rename_i d0 e0 e1
    cases e
    exact h.run σ H env ts td L Lo hl s _ _ e1 Q fun v H' Lr Lb c => k v H' [] Lb c.freeze
  · cases e
theorem SatC.frz {t : TE} (h : SatC K t f) : SatC K t (eFrz f) := by
  refine ⟨fun σ H env ts td L Lo hl hcl s d env' e Q k => ?_⟩
  unfold eFrz at e
  split at e
  · rename_i d0 e0 e1
    cases e
    exact h.run σ H env ts td L Lo hl hcl s _ _ e1 Q fun v H' Lr Lb c => k v H' [] Lb c.freeze
  · cases e
theorem SE.frz (h : SE M K q e f) : SE M K q e (eFrz f) := let ⟨t, a, b⟩ := h; ⟨t, a, b.frz⟩
theorem SEC.frz (h : SEC M K e f) : SEC M K e (eFrz f) := let ⟨t, a, b⟩ := h; ⟨t, a, b.frz⟩
end
end TL

set_option Elab.async false
set_option linter.all false
set_option maxRecDepth 100000
/-! TL14: built-in functions. -/
namespace TL
open PySem PySem.Spec PyProof.Rows L2 PySem.W SkE

/-! ### sorted -/
def rSortedD (K : PySem.W.Frag) : List V → Hp → VK → Prop := fun vs H Q => ∃ (a : Addr) (bs : List (V × PyData)), vs = [.ref a] ∧ SqL K H a (bs.map (·.1)) ∧ (∀ b ∈ bs, Dp K H b.1 b.2) ∧ PySem.W.AllAlike (bs.map (·.2)) ∧ PySem.W.Sortable (bs.map (·.2)) ∧ (∀ b ∈ bs, b.2.depth ≤ 60) ∧
  ∀ p, H p = none → Q (.ref p) (upd H p (.lst ((bs.mergeSort (PySem.W.dataLe false (·.2))).map (·.1))))
theorem each_of_vals : ∀ {bs : List (V × PyData)} {its : List Value}, Vals (bs.map (·.1)) its → PySem.W.EachIs (fun (v : Value) (b : V × PyData) => RelV b.1 v) its bs
  | [], _, h => by cases h; exact .nil
  | b :: bs, _, h => by
    cases h with
    | cons r t => exact .cons r (each_of_vals t)
theorem vals_of_each : ∀ {bs : List (V × PyData)} {its : List Value}, PySem.W.EachIs (fun (v : Value) (b : V × PyData) => RelV b.1 v) its bs → Vals (bs.map (·.1)) its
  | [], _, h => by cases h; exact .nil
  | b :: bs, _, h => by
    cases h with
    | cons r t => exact .cons r (vals_of_each t)
theorem each_mem {α β : Type} {R R' : α → β → Prop} : ∀ {as : List α} {bs : List β}, PySem.W.EachIs R as bs → (∀ a b, b ∈ bs → R a b → R' a b) → PySem.W.EachIs R' as bs
  | _, _, .nil, _ => .nil
  | _, _, .cons r t, h => .cons (h _ _ (List.mem_cons_self ..) r) (each_mem t fun a b hb => h a b (List.mem_cons_of_mem _ hb))
theorem call_sortedData {X : Cx} (hu : X.A.units + 100 < cLine) : CallR X (.builtin "sorted") (rSortedD X.K) := by
  intro pins s σ H vs us Q I r h
  obtain ⟨a, bs, rfl, hs, hd, hal, hk, hdp, q⟩ := h
  obtain ⟨its, rv, hl, hz⟩ := I.list hs
  rw [Vals.ref1 r]
  have e := each_of_vals rv
  have er : PySem.W.EachIs (fun (v : Value) (b : V × PyData) => ∃ as, Reads s.heap v b.2 as) its bs := each_mem e fun v b hb rb => Dp.reads I b.2 b.1 v (hd b hb) rb
  have hlen := rv.length
  rw [List.length_map] at hlen
  rw [List.length_map] at hz
  refine PySem.W.sorted_data (vs := its) (bs := bs) (enc := fun b => b.2) hl.isList e er hal hk hz (fun b hb => by have := hdp b hb; omega) fun out h1 h2 => ?_
  have ev := vals_of_each h2
  obtain ⟨ep, he'⟩ := PyProof.Rows.sortedAll_at s.heap its out.toArray
  have hlen2 : ((bs.mergeSort (PySem.W.dataLe false fun b => b.2)).map (·.1)).length ≤ sizeLine := by rw [List.length_map, List.length_mergeSort]; exact hz
  exact ⟨.ref _, upd H (s.heap.objs.size + 1) (.lst ((bs.mergeSort (PySem.W.dataLe false fun b => b.2)).map (·.1))), I.laid (t' := s.toks) (fun _ _ => PyProof.Rows.sortedAll_old) (Nat.le_succ _) ⟨hlen2, out, ep, ev, he'⟩, rfl, q _ (I.hok.fresh (Nat.le_succ _))⟩
def D.pyd (d : D) : PyData := d.py.getD .none
def leD (a b : D) : Bool := PySem.W.dataLe false D.pyd a b
def isTup1 : PyData → Bool
  | .tuple (_ :: _) => true
  | _ => false
def notTupN : PyData → Bool
  | .tuple _ => false
  | .none => false
  | _ => true
def sortOk (xs : List D) : Bool := xs.all (fun d => d.py.isSome && d.noOwn && decide (d.pyd.depth ≤ 60)) && ((xs.all fun d => xs.all fun e => PySem.W.alike d.pyd e.pyd) && ((xs.all fun d => isTup1 d.pyd) || xs.all fun d => notTupN d.pyd))
def gSorted : List D → Option D
  | [.lst _ xs] => if sortOk xs then some (.lst .own (xs.mergeSort leD)) else none
  | _ => none
theorem dens_each {K : PySem.W.Frag} {H : Hp} {N : Fl → Addr → Prop} : ∀ {us : List V} {xs : List D}, us.length = xs.length → (∀ p ∈ us.zip xs, Dens K H N [some p.1] [p.2] []) → Dens K H N (so us) xs []
  | [], [], _, _ => .nil
  | u :: us, x :: xs, hl, h => (h (u, x) (List.mem_cons_self ..)).put (dens_each (Nat.succ.inj hl) fun p hp => h p (List.mem_cons_of_mem _ hp))
  | [], _ :: _, e, _ => by cases e
  | _ :: _, [], e, _ => by cases e
theorem each_dens {K : PySem.W.Frag} {H : Hp} {N : Fl → Addr → Prop} : ∀ {us : List V} {xs : List D}, Dens K H N (so us) xs [] → ∀ p ∈ us.zip xs, Dens K H N [some p.1] [p.2] []
  | [], [], _ => fun p hp => by cases hp
  | u :: us, x :: xs, h => fun p hp => by
    obtain ⟨L1, L2, e, h1, h2⟩ := Dens.cons (σ := so us) h
    obtain ⟨rfl, rfl⟩ := List.append_eq_nil_iff.mp e.symm
    rcases List.mem_cons.mp hp with rfl | hp
    · exact h1
    · exact each_dens h2 p hp
  | [], _ :: _, h => by cases h.length
  | _ :: _, [], h => by cases h.length
theorem map_zip_fst {α β : Type} : ∀ {us : List α} {xs : List β}, us.length = xs.length → (us.zip xs).map Prod.fst = us
  | [], [], _ => rfl
  | u :: us, x :: xs, h => by rw [List.zip_cons_cons, List.map_cons, map_zip_fst (Nat.succ.inj h)]
  | [], _ :: _, e => by cases e
  | _ :: _, [], e => by cases e
theorem map_zip_snd {α β : Type} : ∀ {us : List α} {xs : List β}, us.length = xs.length → (us.zip xs).map Prod.snd = xs
  | [], [], _ => rfl
  | u :: us, x :: xs, h => by rw [List.zip_cons_cons, List.map_cons, map_zip_snd (Nat.succ.inj h)]
  | [], _ :: _, e => by cases e
  | _ :: _, [], e => by cases e
theorem v_sorted {K : PySem.W.Frag} : OpN K (rSortedD K) gSorted := by
  intro H N vs ds Lt hd nd d e Q k
  unfold gSorted at e
  split at e
  · rename_i f xs
    split at e
    · rename_i c
      cases e
      unfold sortOk at c
      simp only [Bool.and_eq_true, Bool.or_eq_true, List.all_eq_true, decide_eq_true_eq] at c
      obtain ⟨c1, c2, c3⟩ := c
      obtain ⟨x, rfl, h1⟩ := apart1 hd
      obtain ⟨a, us, L1, rfl, q1, _, q2, s1⟩ := inv_lst h1
      have l1 : L1 = [] := noOwn_nil q2 (List.all_eq_true.mpr fun d hd => (c1 d hd).1.2)
      subst l1
      have len := len_so q2
      have ed := each_dens q2
      let bs : List (V × D) := us.zip xs
      have fstb : bs.map Prod.fst = us := map_zip_fst len
      have sndb : bs.map Prod.snd = xs := map_zip_snd len
      have inx : ∀ b ∈ bs, b.2 ∈ xs := fun b hb => by rw [← sndb]; exact List.mem_map_of_mem hb
      have pyb : ∀ b ∈ bs, b.2.py = some b.2.pyd := fun b hb => by
        have := (c1 b.2 (inx b hb)).1.1
        obtain ⟨p, hp⟩ := Option.isSome_iff_exists.mp this
        unfold D.pyd; rw [hp]; rfl
      refine ⟨a, bs.map fun b => (b.1, b.2.pyd), rfl, ?_, ?_, ?_, ?_, ?_, fun p hp => ?_⟩
      · rw [List.map_map]; show SqL K H a (bs.map Prod.fst); rw [fstb]; exact q1
      · intro b hb
        obtain ⟨b', hb', rfl⟩ := List.mem_map.mp hb
        exact py_dp (ed b' hb') (pyb b' hb')
      · intro d hd d' hd'
        simp only [List.map_map, List.mem_map] at hd hd'
        obtain ⟨b, hb, rfl⟩ := hd
        obtain ⟨b', hb', rfl⟩ := hd'
        exact c2 b.2 (inx b hb) b'.2 (inx b' hb')
      · rcases c3 with c3 | c3
        · refine .inl fun d hd => ?_
          simp only [List.map_map, List.mem_map] at hd
          obtain ⟨b, hb, rfl⟩ := hd
          have := c3 b.2 (inx b hb)
          show ∃ x r, b.2.pyd = .tuple (x :: r)
          revert this
          cases b.2.pyd <;> intro z <;> try (cases z; done)
          rename_i l
          cases l with
          | nil => cases z
          | cons x r => exact ⟨x, r, rfl⟩
        · refine .inr fun d hd => ?_
          simp only [List.map_map, List.mem_map] at hd
          obtain ⟨b, hb, rfl⟩ := hd
          have := c3 b.2 (inx b hb)
          show b.2.pyd ≠ .none ∧ ∀ xs, b.2.pyd ≠ .tuple xs
          revert this
          cases b.2.pyd <;> intro z <;> first | (cases z; done) | exact ⟨(fun q => by cases q), (fun _ q => by cases q)⟩
      · intro b hb
        obtain ⟨b', hb', rfl⟩ := List.mem_map.mp hb
        exact (c1 b'.2 (inx b' hb')).2
      · -- the sorted pairs
        have e1 : (bs.map fun b => (b.1, b.2.pyd)).mergeSort (PySem.W.dataLe false (·.2)) = (bs.mergeSort (PySem.W.dataLe false fun b => b.2.pyd)).map fun b => (b.1, b.2.pyd) := by
          rw [← List.map_mergeSort (r := PySem.W.dataLe false fun b : V × D => b.2.pyd) (f := fun b : V × D => (b.1, b.2.pyd))]
          intro a _ b _
          rfl
        have e2 : (bs.mergeSort (PySem.W.dataLe false fun b => b.2.pyd)).map Prod.snd = xs.mergeSort leD := by
          rw [← sndb, ← List.map_mergeSort (r := PySem.W.dataLe false fun b : V × D => b.2.pyd) (f := Prod.snd)]
          intro a _ b _
          rfl
        rw [e1, List.map_map]
        have dn : Dens K H N (so ((bs.mergeSort (PySem.W.dataLe false fun b => b.2.pyd)).map Prod.fst)) (xs.mergeSort leD) [] := by
          rw [← e2]
          refine dens_each (by rw [List.length_map, List.length_map]) fun p hp => ?_
          have : p ∈ bs.mergeSort (PySem.W.dataLe false fun b => b.2.pyd) := by
            have z : ∀ l : List (V × D), (l.map Prod.fst).zip (l.map Prod.snd) = l := fun l => by
              induction l with
              | nil => rfl
              | cons a l ih => rw [List.map_cons, List.map_cons, List.zip_cons_cons, ih]
            rw [z] at hp; exact hp
          exact ed p ((List.mergeSort_perm bs _).mem_iff.mp this)
        exact k _ _ _ (Res.newL (L1 := []) nd dn (List.nil_sublist _) hp)
    · cases e
  · cases e

/-! ### len, int, list, tuple -/
theorem op_or1 {K : PySem.W.Frag} {r r' : List V → Hp → VK → Prop} {g g' : List D → Option D} (h : OpN K r g) (h' : OpN K r' g') : OpN K (fun vs H Q => r vs H Q ∨ r' vs H Q) fun ds => (g ds).or (g' ds) := by
  intro H N vs ds Lt hd nd d e Q k
  have e : (g ds).or (g' ds) = some d := e
  cases e1 : g ds with
  | some d' => rw [e1] at e; cases e; exact .inl (h H N vs ds Lt hd nd _ e1 Q k)
  | none => rw [e1] at e; exact .inr (h' H N vs ds Lt hd nd d e Q k)
def gLen : List D → Option D
  | [.lst _ xs] => some (.int xs.length)
  | [.tup xs] => some (.int xs.length)
  | [.tupE xs] => some (.int xs.length)
  | [.str x] => if x.length ≤ sizeLine then some (.int x.length) else none
  | [.dK _ kvs] => some (.int kvs.length)
  | _ => none
theorem call_lenR {X : Cx} : CallR X (.builtin "len") (fun xs H Q => ∃ a kvs, xs = [V.ref a] ∧ Rd H a (.dK kvs) ∧ Q (.int kvs.length) H) := by
  intro pins s σ H xs us Q I r h
  obtain ⟨a, kvs, rfl, ha, q⟩ := h
  obtain ⟨u, rfl, ru⟩ := vals1 r
  cases ru
  exact d_len I ha fun t s' I' => ⟨.int kvs.length, H, I', ⟨t, rfl⟩, q⟩
abbrev rLen (K : PySem.W.Frag) : List V → Hp → VK → Prop := fun vs H Q => (∃ x n, vs = [x] ∧ LenV K x H n ∧ Q (.int n) H) ∨ ∃ a kvs, vs = [V.ref a] ∧ Rd H a (.dK kvs) ∧ Q (.int kvs.length) H
theorem v_len {K : PySem.W.Frag} : OpN K (rLen K) gLen := by
  intro H N vs ds Lt hd nd d e Q k
  unfold gLen at e
  split at e
  · cases e
    obtain ⟨x, rfl, h1⟩ := apart1 hd
    obtain ⟨a, us, L1, rfl, q1, _, q2, s1⟩ := inv_lst h1
    exact .inl ⟨_, _, rfl, .inl ⟨us, q1, (len_so q2).symm⟩, k _ _ _ (Res.flat fun N' => Flat.int _ _ _ _)⟩
  · cases e
    obtain ⟨x, rfl, h1⟩ := apart1 hd
    obtain ⟨a, us, L1, rfl, q1, q2, s1⟩ := inv_tup h1
    exact .inl ⟨_, _, rfl, .inr ⟨us, .inl (.inl q1), (len_so q2).symm⟩, k _ _ _ (Res.flat fun N' => Flat.int _ _ _ _)⟩
  · cases e
    obtain ⟨x, rfl, h1⟩ := apart1 hd
    obtain ⟨a, us, L1, rfl, q1, q2, s1⟩ := inv_tupE h1
    exact .inl ⟨_, _, rfl, .inr ⟨us, q1, (len_so q2).symm⟩, k _ _ _ (Res.flat fun N' => Flat.int _ _ _ _)⟩
  · split at e
    · rename_i x hl
      cases e
      obtain ⟨v, rfl, h1⟩ := apart1 hd
      cases (one_str h1).1
      exact .inl ⟨_, _, rfl, ⟨hl, rfl⟩, k _ _ _ (Res.flat fun N' => Flat.int _ _ _ _)⟩
    · cases e
  · cases e
    obtain ⟨x, rfl, h1⟩ := apart1 hd
    obtain ⟨a, kvs, L1, rfl, q1, _, q2, q3, s1⟩ := inv_dK h1
    have hl := congrArg List.length q2
    rw [List.length_map, List.length_map] at hl
    exact .inr ⟨a, kvs, rfl, q1, by rw [hl]; exact k _ _ _ (Res.flat fun N' => Flat.int _ _ _ _)⟩
  · cases e
def gInt : List D → Option D
  | [.int i] => some (.int i)
  | [.bl b] => some (.int (if b then 1 else 0))
  | _ => none
abbrev rInt : List V → Hp → VK → Prop := fun xs H Q => (∃ i, xs = [.int i] ∧ Q (.int i) H) ∨ ∃ k, xs = [.bl k] ∧ Q (.int (if k then 1 else 0)) H
theorem v_int {K : PySem.W.Frag} : OpN K rInt gInt := by
  intro H N vs ds Lt hd nd d e Q k
  unfold gInt at e
  split at e
  · cases e
    obtain ⟨x, rfl, h1⟩ := apart1 hd
    cases (one_int h1).1
    exact .inl ⟨_, rfl, k _ _ _ (Res.flat fun N' => Flat.int _ _ _ _)⟩
  · cases e
    obtain ⟨x, rfl, h1⟩ := apart1 hd
    cases (one_bl h1).1
    exact .inr ⟨_, rfl, k _ _ _ (Res.flat fun N' => Flat.int _ _ _ _)⟩
  · cases e
def keyD : Key → D
  | .inl i => .int i
  | .inr x => .str x
theorem dens_keys {K : PySem.W.Frag} {H : Hp} {N : Fl → Addr → Prop} : ∀ ks : List Key, Dens K H N (so (ks.map kV)) (ks.map keyD) []
  | [] => .nil
  | .inl _ :: r => .int (dens_keys r)
  | .inr _ :: r => .str (dens_keys r)
def gList : List D → Option D
  | [.lst _ xs] => some (.lst .own xs)
  | [.tup xs] => some (.lst .own xs)
  | [.tupE xs] => some (.lst .own xs)
  | [.dK _ kds] => some (.lst .own ((kds.map (·.1)).map keyD))
  | _ => none
abbrev rList (K : PySem.W.Frag) : List V → Hp → VK → Prop := fun xs H Q => (∃ p ys, xs = [.ref p] ∧ (SqL K H p ys ∨ SqT K H p ys) ∧ ∀ l, H l = none → Q (.ref l) (upd H l (.lst ys))) ∨ ∃ (a : Addr) (kvs : List (Key × V)), xs = [.ref a] ∧ Rd H a (.dK kvs) ∧ ∀ p, H p = none → Q (.ref p) (upd H p (.lst (kvs.map fun kv => kV kv.1)))
theorem v_list {K : PySem.W.Frag} : OpN K (rList K) gList := by
  intro H N vs ds Lt hd nd d e Q k
  have go : ∀ {d0 : D} {xs : List D}, ds = [d0] → d0.seq? = some xs → d = .lst .own xs → rList K vs H Q := by
    intro d0 xs ed es ee
    subst ed ee
    obtain ⟨x, rfl, h1⟩ := apart1 hd
    obtain ⟨a, us, L1, rfl, q1, q2, s1⟩ := inv_seq es h1
    exact .inl ⟨a, us, rfl, q1, fun l hl => k _ _ _ (Res.newL nd q2 s1 hl)⟩
  unfold gList at e
  split at e <;> first | (cases e; done) | (cases e; exact go rfl rfl rfl) | skip
  cases e
  obtain ⟨x, rfl, h1⟩ := apart1 hd
  obtain ⟨a, kvs, L1, rfl, rd, _, ek, _, _⟩ := inv_dK h1
  refine .inr ⟨a, kvs, rfl, rd, fun l hl => ?_⟩
  have e2 : (kvs.map fun kv => kV kv.1) = (kvs.map (·.1)).map kV := by rw [List.map_map]; rfl
  rw [e2, ek]
  exact k _ _ _ (Res.newL (L1 := []) nd (dens_keys _) (List.nil_sublist _) hl)
def gTuple : List D → Option D
  | [.lst _ xs] => some (.tup xs)
  | [.tup xs] => some (.tup xs)
  | [.tupE xs] => some (.tupE xs)
  | _ => none
abbrev rTuple (K : PySem.W.Frag) : List V → Hp → VK → Prop := fun xs H Q => ∃ p ys, xs = [.ref p] ∧ ((SqL K H p ys ∧ ∀ l, H l = none → Q (.ref l) (upd H l (.tup ys))) ∨ (SqT K H p ys ∧ Q (.ref p) H))
theorem v_tuple {K : PySem.W.Frag} : OpN K (rTuple K) gTuple := by
  intro H N vs ds Lt hd nd d e Q k
  unfold gTuple at e
  split at e
  · cases e
    obtain ⟨x, rfl, h1⟩ := apart1 hd
    obtain ⟨a, us, L1, rfl, q1, _, q2, s1⟩ := inv_lst h1
    exact ⟨a, us, rfl, .inl ⟨q1, fun l hl => k _ _ _ (Res.newT nd q2 s1 hl)⟩⟩
  · cases e
    obtain ⟨x, rfl, h1⟩ := apart1 hd
    obtain ⟨a, us, L1, rfl, q1, q2, s1⟩ := inv_tup h1
    exact ⟨a, us, rfl, .inr ⟨.inl (.inl q1), k _ _ _ (Res.old nd h1 (List.Sublist.refl _))⟩⟩
  · cases e
    obtain ⟨x, rfl, h1⟩ := apart1 hd
    obtain ⟨a, us, L1, rfl, q1, q2, s1⟩ := inv_tupE h1
    exact ⟨a, us, rfl, .inr ⟨q1, k _ _ _ (Res.old nd h1 (List.Sublist.refl _))⟩⟩
  · cases e

/-! ### isinstance -/
def D.tyN : D → Option String
  | .non => some "NoneType"
  | .bl _ => some "bool"
  | .int _ => some "int"
  | .str _ => some "str"
  | .lst _ _ => some "list"
  | .tup _ => some "tuple"
  | .tupE _ => some "tuple"
  | .dK _ _ => some "dict"
  | _ => none
theorem ty_of {K : PySem.W.Frag} {H : Hp} {N : Fl → Addr → Prop} {v : V} {d : D} {L : List Addr} {n : String} (e : d.tyN = some n) (h : Dens K H N [some v] [d] L) : TyX K H v (.type n) := by
  cases d <;> cases e
  · cases (one_non h).1; exact .base .non
  · cases (one_bl h).1; exact .base (.bl _)
  · cases (one_int h).1; exact .base (.int _)
  · cases (one_str h).1; exact .base (.str _)
  · obtain ⟨a, us, L1, rfl, q, _⟩ := inv_tup h
    exact .base (.tup q)
  · obtain ⟨a, us, L1, rfl, q, _⟩ := inv_tupE h
    rcases q with (q | ⟨o, q⟩) | ⟨o, its, n, q, c, _⟩
    · exact .base (.tup q)
    · exact .fTuple q
    · exact .kTuple q c
  · obtain ⟨a, us, L1, rfl, q, _⟩ := inv_lst h
    rcases q with (q | ⟨o, q⟩) | ⟨o, its, n, q, c, _⟩
    · exact .base (.lst q)
    · exact .base (.frz q)
    · exact .kList q c
  · obtain ⟨a, us, L1, rfl, q, _⟩ := inv_dK h
    rcases q with q | ⟨o, q⟩
    · exact .base (.dK q)
    · exact .fDict q
def gIsi : List D → Option D
  | [d, .ty n] => d.tyN.bind fun m => (kitB m n).map .bl
  | _ => none
theorem v_isi {K : PySem.W.Frag} : OpN K (rIsi K) gIsi := by
  intro H N vs ds Lt hd nd d e Q k
  unfold gIsi at e
  split at e
  · rename_i d0 n
    obtain ⟨m, e1, e2⟩ := Option.bind_eq_some_iff.mp e
    obtain ⟨b, e3, rfl⟩ := Option.map_eq_some_iff.mp e2
    obtain ⟨x, y, L1, L2, rfl, rfl, h1, h2⟩ := apart2 hd
    cases h2
    exact ⟨x, _, _, _, b, rfl, .ty n, ty_of e1 h1, kit_ty e3, k _ _ _ (Res.flat fun N' => Flat.bl _ _ _ _)⟩
  · cases e
/-- what isinstance tells of the built-in classes that the texts name -/
theorem kit_table : kitB "list" "list" = some true ∧ kitB "list" "tuple" = some false ∧ kitB "list" "str" = some false ∧ kitB "list" "int" = some false ∧ kitB "list" "bool" = some false ∧ kitB "list" "dict" = some false ∧
    kitB "tuple" "list" = some false ∧ kitB "tuple" "tuple" = some true ∧ kitB "tuple" "str" = some false ∧ kitB "tuple" "int" = some false ∧ kitB "tuple" "bool" = some false ∧ kitB "tuple" "dict" = some false ∧
    kitB "str" "list" = some false ∧ kitB "str" "tuple" = some false ∧ kitB "str" "str" = some true ∧ kitB "str" "int" = some false ∧ kitB "str" "bool" = some false ∧ kitB "str" "dict" = some false ∧
    kitB "int" "list" = some false ∧ kitB "int" "tuple" = some false ∧ kitB "int" "str" = some false ∧ kitB "int" "int" = some true ∧ kitB "int" "bool" = some false ∧ kitB "int" "dict" = some false ∧
    kitB "bool" "list" = some false ∧ kitB "bool" "tuple" = some false ∧ kitB "bool" "str" = some false ∧ kitB "bool" "int" = some true ∧ kitB "bool" "bool" = some true ∧ kitB "bool" "dict" = some false ∧
    kitB "NoneType" "list" = some false ∧ kitB "NoneType" "tuple" = some false ∧ kitB "NoneType" "str" = some false ∧ kitB "NoneType" "int" = some false ∧ kitB "NoneType" "bool" = some false ∧ kitB "NoneType" "dict" = some false ∧
    kitB "dict" "list" = some false ∧ kitB "dict" "tuple" = some false ∧ kitB "dict" "str" = some false ∧ kitB "dict" "int" = some false ∧ kitB "dict" "bool" = some false ∧ kitB "dict" "dict" = some true := by
  decide +kernel

/-! ### lists of numbers, of bools -/
def D.ints : List D → Option (List Int)
  | [] => some []
  | .int i :: r => (D.ints r).map (i :: ·)
  | _ :: _ => none
def D.bools : List D → Option (List Bool)
  | [] => some []
  | .bl i :: r => (D.bools r).map (i :: ·)
  | _ :: _ => none
def D.strs : List D → Option (List Str)
  | [] => some []
  | .str i :: r => (D.strs r).map (i :: ·)
  | _ :: _ => none
theorem ints_v {K : PySem.W.Frag} {H : Hp} {N : Fl → Addr → Prop} : ∀ {us : List V} {xs : List D} {L : List Addr}, Dens K H N (so us) xs L → ∀ {ns : List Int}, D.ints xs = some ns → us = ns.map V.int
  | [], [], _, h, ns, e => by cases e; rfl
  | u :: us, .int i :: r, _, h, ns, e => by
    obtain ⟨L1, L2, rfl, h1, h2⟩ := Dens.cons (σ := so us) h
    obtain ⟨ms, e1, rfl⟩ := Option.map_eq_some_iff.mp (show (D.ints r).map (i :: ·) = some ns from e)
    have := Option.some.inj (one_int h1).1
    rw [this, ints_v h2 e1]; rfl
  | [], _ :: _, _, h, _, _ => by cases h.length
  | _ :: _, [], _, h, _, _ => by cases h.length
theorem bools_v {K : PySem.W.Frag} {H : Hp} {N : Fl → Addr → Prop} : ∀ {us : List V} {xs : List D} {L : List Addr}, Dens K H N (so us) xs L → ∀ {ns : List Bool}, D.bools xs = some ns → us = ns.map V.bl
  | [], [], _, h, ns, e => by cases e; rfl
  | u :: us, .bl i :: r, _, h, ns, e => by
    obtain ⟨L1, L2, rfl, h1, h2⟩ := Dens.cons (σ := so us) h
    obtain ⟨ms, e1, rfl⟩ := Option.map_eq_some_iff.mp (show (D.bools r).map (i :: ·) = some ns from e)
    have := Option.some.inj (one_bl h1).1
    rw [this, bools_v h2 e1]; rfl
  | [], _ :: _, _, h, _, _ => by cases h.length
  | _ :: _, [], _, h, _, _ => by cases h.length
theorem strs_v {K : PySem.W.Frag} {H : Hp} {N : Fl → Addr → Prop} : ∀ {us : List V} {xs : List D} {L : List Addr}, Dens K H N (so us) xs L → ∀ {ns : List Str}, D.strs xs = some ns → us = ns.map V.str
  | [], [], _, h, ns, e => by cases e; rfl
  | u :: us, .str i :: r, _, h, ns, e => by
    obtain ⟨L1, L2, rfl, h1, h2⟩ := Dens.cons (σ := so us) h
    obtain ⟨ms, e1, rfl⟩ := Option.map_eq_some_iff.mp (show (D.strs r).map (i :: ·) = some ns from e)
    have := Option.some.inj (one_str h1).1
    rw [this, strs_v h2 e1]; rfl
  | [], _ :: _, _, h, _, _ => by cases h.length
  | _ :: _, [], _, h, _, _ => by cases h.length
def gSum : List D → Option D
  | [.lst _ xs] => (D.ints xs).map fun ns => .int ns.sum
  | _ => none
theorem v_sum {K : PySem.W.Frag} : OpN K (rSum K) gSum := by
  intro H N vs ds Lt hd nd d e Q k
  unfold gSum at e
  split at e
  · obtain ⟨ns, e1, rfl⟩ := Option.map_eq_some_iff.mp e
    obtain ⟨x, rfl, h1⟩ := apart1 hd
    obtain ⟨a, us, L1, rfl, q1, _, q2, s1⟩ := inv_lst h1
    rw [ints_v q2 e1] at q1
    exact ⟨a, ns, rfl, q1, k _ _ _ (Res.flat fun N' => Flat.int _ _ _ _)⟩
  · cases e
def gAny : List D → Option D
  | [.lst _ xs] => (D.bools xs).map fun ns => .bl (ns.any id)
  | _ => none
theorem v_any {K : PySem.W.Frag} : OpN K (rAny K) gAny := by
  intro H N vs ds Lt hd nd d e Q k
  unfold gAny at e
  split at e
  · obtain ⟨ns, e1, rfl⟩ := Option.map_eq_some_iff.mp e
    obtain ⟨x, rfl, h1⟩ := apart1 hd
    obtain ⟨a, us, L1, rfl, q1, _, q2, s1⟩ := inv_lst h1
    rw [bools_v q2 e1] at q1
    exact ⟨a, ns, rfl, q1, k _ _ _ (Res.flat fun N' => Flat.bl _ _ _ _)⟩
  · cases e
def gAll : List D → Option D
  | [.lst _ xs] => (D.bools xs).map fun ns => .bl (ns.all id)
  | _ => none
theorem v_all {K : PySem.W.Frag} : OpN K (rAll K) gAll := by
  intro H N vs ds Lt hd nd d e Q k
  unfold gAll at e
  split at e
  · obtain ⟨ns, e1, rfl⟩ := Option.map_eq_some_iff.mp e
    obtain ⟨x, rfl, h1⟩ := apart1 hd
    obtain ⟨a, us, L1, rfl, q1, _, q2, s1⟩ := inv_lst h1
    rw [bools_v q2 e1] at q1
    exact ⟨a, ns, rfl, q1, k _ _ _ (Res.flat fun N' => Flat.bl _ _ _ _)⟩
  · cases e
/-- the greatest, the least of two or of a list -/
def maxI : List Int → Option Int
  | [] => none
  | x :: r => some (r.foldl max x)
def minI : List Int → Option Int
  | [] => none
  | x :: r => some (r.foldl min x)
theorem maxI_mem : ∀ {l : List Int} {m : Int}, maxI l = some m → m ∈ l ∧ ∀ y ∈ l, y ≤ m
  | [], m, h => by cases h
  | x :: r, m, h => by
    cases h
    have go : ∀ (r : List Int) (x : Int), (r.foldl max x = x ∨ r.foldl max x ∈ r) ∧ x ≤ r.foldl max x ∧ ∀ y ∈ r, y ≤ r.foldl max x := by
      intro r
      induction r with
      | nil => intro x; exact ⟨.inl rfl, Int.le_refl _, fun y h => by cases h⟩
      | cons z r ih =>
        intro x
        obtain ⟨a, b, c⟩ := ih (max x z)
        rw [List.foldl_cons]
        refine ⟨?_, by omega, fun y hy => ?_⟩
        · rcases a with a | a
          · rw [a]
            rcases Int.le_total x z with h | h
            · right; rw [Int.max_eq_right h]; exact List.mem_cons_self ..
            · left; exact Int.max_eq_left h
          · exact .inr (List.mem_cons_of_mem _ a)
        · rcases List.mem_cons.mp hy with rfl | hy
          · omega
          · exact c y hy
    obtain ⟨a, b, c⟩ := go r x
    refine ⟨?_, fun y hy => ?_⟩
    · rcases a with a | a
      · rw [a]; exact List.mem_cons_self ..
      · exact List.mem_cons_of_mem _ a
    · rcases List.mem_cons.mp hy with rfl | hy
      · exact b
      · exact c y hy
theorem minI_mem : ∀ {l : List Int} {m : Int}, minI l = some m → m ∈ l ∧ ∀ y ∈ l, m ≤ y
  | [], m, h => by cases h
  | x :: r, m, h => by
    cases h
    have go : ∀ (r : List Int) (x : Int), (r.foldl min x = x ∨ r.foldl min x ∈ r) ∧ r.foldl min x ≤ x ∧ ∀ y ∈ r, r.foldl min x ≤ y := by
      intro r
      induction r with
      | nil => intro x; exact ⟨.inl rfl, Int.le_refl _, fun y h => by cases h⟩
      | cons z r ih =>
        intro x
        obtain ⟨a, b, c⟩ := ih (min x z)
        rw [List.foldl_cons]
        refine ⟨?_, by omega, fun y hy => ?_⟩
        · rcases a with a | a
          · rw [a]
            rcases Int.le_total x z with h | h
            · left; exact Int.min_eq_left h
            · right; rw [Int.min_eq_right h]; exact List.mem_cons_self ..
          · exact .inr (List.mem_cons_of_mem _ a)
        · rcases List.mem_cons.mp hy with rfl | hy
          · omega
          · exact c y hy
    obtain ⟨a, b, c⟩ := go r x
    refine ⟨?_, fun y hy => ?_⟩
    · rcases a with a | a
      · rw [a]; exact List.mem_cons_self ..
      · exact List.mem_cons_of_mem _ a
    · rcases List.mem_cons.mp hy with rfl | hy
      · exact b
      · exact c y hy
def gMax : List D → Option D
  | [.int i, .int j] => some (.int (if j > i then j else i))
  | [.lst _ xs] => ((D.ints xs).bind maxI).map .int
  | _ => none
def gMin : List D → Option D
  | [.int i, .int j] => some (.int (if j < i then j else i))
  | [.lst _ xs] => ((D.ints xs).bind minI).map .int
  | _ => none
abbrev rMaxA (K : PySem.W.Frag) : List V → Hp → VK → Prop := fun xs H Q => (∃ i j, xs = [.int i, .int j] ∧ Q (.int (if j > i then j else i)) H) ∨ rMax K xs H Q
abbrev rMinA (K : PySem.W.Frag) : List V → Hp → VK → Prop := fun xs H Q => (∃ i j, xs = [.int i, .int j] ∧ Q (.int (if j < i then j else i)) H) ∨ rMin K xs H Q
theorem v_max {K : PySem.W.Frag} : OpN K (rMaxA K) gMax := by
  intro H N vs ds Lt hd nd d e Q k
  unfold gMax at e
  split at e
  · cases e
    obtain ⟨x, y, L1, L2, rfl, rfl, h1, h2⟩ := apart2 hd
    cases (one_int h1).1
    cases (one_int h2).1
    exact .inl ⟨_, _, rfl, k _ _ _ (Res.flat fun N' => Flat.int _ _ _ _)⟩
  · obtain ⟨m, e1, rfl⟩ := Option.map_eq_some_iff.mp e
    obtain ⟨ns, e2, e3⟩ := Option.bind_eq_some_iff.mp e1
    obtain ⟨x, rfl, h1⟩ := apart1 hd
    obtain ⟨a, us, L1, rfl, q1, _, q2, s1⟩ := inv_lst h1
    rw [ints_v q2 e2] at q1
    obtain ⟨mm, mg⟩ := maxI_mem e3
    refine .inr ⟨a, ns, rfl, q1, List.length_pos_of_mem mm, fun m' h3 h4 => ?_⟩
    have : m' = m := Int.le_antisymm (mg _ h3) (h4 _ mm)
    rw [this]
    exact k _ _ _ (Res.flat fun N' => Flat.int _ _ _ _)
  · cases e
theorem v_min {K : PySem.W.Frag} : OpN K (rMinA K) gMin := by
  intro H N vs ds Lt hd nd d e Q k
  unfold gMin at e
  split at e
  · cases e
    obtain ⟨x, y, L1, L2, rfl, rfl, h1, h2⟩ := apart2 hd
    cases (one_int h1).1
    cases (one_int h2).1
    exact .inl ⟨_, _, rfl, k _ _ _ (Res.flat fun N' => Flat.int _ _ _ _)⟩
  · obtain ⟨m, e1, rfl⟩ := Option.map_eq_some_iff.mp e
    obtain ⟨ns, e2, e3⟩ := Option.bind_eq_some_iff.mp e1
    obtain ⟨x, rfl, h1⟩ := apart1 hd
    obtain ⟨a, us, L1, rfl, q1, _, q2, s1⟩ := inv_lst h1
    rw [ints_v q2 e2] at q1
    obtain ⟨mm, mg⟩ := minI_mem e3
    refine .inr ⟨a, ns, rfl, q1, List.length_pos_of_mem mm, fun m' h3 h4 => ?_⟩
    have : m' = m := Int.le_antisymm (h4 _ mm) (mg _ h3)
    rw [this]
    exact k _ _ _ (Res.flat fun N' => Flat.int _ _ _ _)
  · cases e
def gAbs : List D → Option D
  | [.int i] => some (.int (if i < 0 then -i else i))
  | _ => none
abbrev rAbs : List V → Hp → VK → Prop := fun xs H Q => ∃ i, xs = [.int i] ∧ Q (.int (if i < 0 then -i else i)) H
theorem v_abs {K : PySem.W.Frag} : OpN K rAbs gAbs := by
  intro H N vs ds Lt hd nd d e Q k
  unfold gAbs at e
  split at e
  · cases e
    obtain ⟨x, rfl, h1⟩ := apart1 hd
    cases (one_int h1).1
    exact ⟨_, rfl, k _ _ _ (Res.flat fun N' => Flat.int _ _ _ _)⟩
  · cases e
def gStr : List D → Option D
  | [.str x] => some (.str x)
  | [.int i] => if i.natAbs.log2 < 1920 then some (.str (toString i)) else none
  | _ => none
abbrev rStr : List V → Hp → VK → Prop := fun xs H Q => (∃ i, xs = [.int i] ∧ i.natAbs.log2 < 1920 ∧ Q (.str (toString i)) H) ∨ ∃ a, xs = [.str a] ∧ Q (.str a) H
theorem v_str {K : PySem.W.Frag} : OpN K rStr gStr := by
  intro H N vs ds Lt hd nd d e Q k
  unfold gStr at e
  split at e
  · cases e
    obtain ⟨x, rfl, h1⟩ := apart1 hd
    cases (one_str h1).1
    exact .inr ⟨_, rfl, k _ _ _ (Res.flat fun N' => Flat.str _ _ _ _)⟩
  · split at e
    · rename_i c
      cases e
      obtain ⟨x, rfl, h1⟩ := apart1 hd
      cases (one_int h1).1
      exact .inl ⟨_, rfl, c, k _ _ _ (Res.flat fun N' => Flat.str _ _ _ _)⟩
    · cases e
  · cases e

/-! ### calls of them -/
section
variable {α : Type} {M : α → Cx} {K : PySem.W.Frag} {P : Program} {w : World} {mg : Str → Option Value} {base : Heap} {k : Nat}
variable {e o : Expr} {es : List Expr} {p pos apos : Pos} {q q' : Bool} {f : Ev → Option (D × Ev)} {fs : Ev → Option (List D × Ev)} {ld : List (Option Nat)} {x : Str}
theorem se_callB {id : String} {r : PySem.W.Frag → List V → Hp → VK → Prop} {g : List D → Option D} (F : Fm M P w K mg base k) (hc : ∀ a, CallR (M a) (.builtin id) (r (M a).K)) (ho : OpN K (r K) g) (ha : SA M K q ld (e :: es) fs) (hm : mg x = none) (hv : bootBuiltins x = some (.builtin id)) (hg : ∀ a, Gl (M a) x := by intro _; rfl) (hn : x ≠ "__name__" := by decide) (hdb : (x == ("__debug__" : Str)) = false := by decide)
    (he : ∀ a, starEach (e :: es) (M a).env = (false, eval e (M a).env) :: starEach es (M a).env := by intro _; rfl) (hpl : ∀ a, (backTo pos (starEach es (M a).env)).any (·.1) = false := by intro _; rfl) : SE M K q (.Call (.Name x p) (e :: es) [] pos) (eOp g fs) :=
  let ⟨t, h1, h2⟩ := ha; ⟨_, fun a => pe_callB (by have := hc a; rw [F.K a] at this; exact this) (hg a) (by rw [F.mg a]; exact hm) hv (h1 a) hn hdb (he a) (hpl a), Sat.op h2 ho⟩
theorem se_callT {id : String} {r : PySem.W.Frag → List V → Hp → VK → Prop} {g : List D → Option D} (F : Fm M P w K mg base k) (hc : ∀ a, CallR (M a) (.type id) (r (M a).K)) (ho : OpN K (r K) g) (ha : SA M K q ld (e :: es) fs) (hm : mg x = none) (hv : bootBuiltins x = some (.type id)) (hg : ∀ a, Gl (M a) x := by intro _; rfl) (hn : x ≠ "__name__" := by decide) (hdb : (x == ("__debug__" : Str)) = false := by decide)
    (he : ∀ a, starEach (e :: es) (M a).env = (false, eval e (M a).env) :: starEach es (M a).env := by intro _; rfl) (hpl : ∀ a, (backTo pos (starEach es (M a).env)).any (·.1) = false := by intro _; rfl) : SE M K q (.Call (.Name x p) (e :: es) [] pos) (eOp g fs) :=
  let ⟨t, h1, h2⟩ := ha; ⟨_, fun a => pe_callTy (by have := hc a; rw [F.K a] at this; exact this) (hg a) (by rw [F.mg a]; exact hm) hv (h1 a) hn hdb (he a) (hpl a), Sat.op h2 ho⟩
section
variable (F : Fm M P w K mg base k) (ha : SA M K q ld (e :: es) fs)
include F ha
theorem se_len (hm : mg "len" = none) (hg : ∀ a, Gl (M a) "len" := by intro _; rfl) (he : ∀ a, starEach (e :: es) (M a).env = (false, eval e (M a).env) :: starEach es (M a).env := by intro _; rfl) (hpl : ∀ a, (backTo pos (starEach es (M a).env)).any (·.1) = false := by intro _; rfl) : SE M K q (.Call (.Name "len" p) (e :: es) [] pos) (eOp gLen fs) :=
  se_callB F (r := fun K => rLen K) (fun a => (call_len (X := M a)).or call_lenR) v_len ha hm PySem.boot_len hg (by decide) (by decide) he hpl
theorem se_sorted (hm : mg "sorted" = none) (hg : ∀ a, Gl (M a) "sorted" := by intro _; rfl) (he : ∀ a, starEach (e :: es) (M a).env = (false, eval e (M a).env) :: starEach es (M a).env := by intro _; rfl) (hpl : ∀ a, (backTo pos (starEach es (M a).env)).any (·.1) = false := by intro _; rfl) : SE M K q (.Call (.Name "sorted" p) (e :: es) [] pos) (eOp gSorted fs) :=
  se_callB F (r := fun K => rSortedD K) (fun a => call_sortedData (F.units a)) v_sorted ha hm (by decide +kernel) hg (by decide) (by decide) he hpl
theorem se_isi (hm : mg "isinstance" = none) (hg : ∀ a, Gl (M a) "isinstance" := by intro _; rfl) (he : ∀ a, starEach (e :: es) (M a).env = (false, eval e (M a).env) :: starEach es (M a).env := by intro _; rfl) (hpl : ∀ a, (backTo pos (starEach es (M a).env)).any (·.1) = false := by intro _; rfl) : SE M K q (.Call (.Name "isinstance" p) (e :: es) [] pos) (eOp gIsi fs) :=
  se_callB F (r := fun K => rIsi K) (fun a => call_isi) v_isi ha hm (by decide +kernel) hg (by decide) (by decide) he hpl
theorem se_sum (hm : mg "sum" = none) (hg : ∀ a, Gl (M a) "sum" := by intro _; rfl) (he : ∀ a, starEach (e :: es) (M a).env = (false, eval e (M a).env) :: starEach es (M a).env := by intro _; rfl) (hpl : ∀ a, (backTo pos (starEach es (M a).env)).any (·.1) = false := by intro _; rfl) : SE M K q (.Call (.Name "sum" p) (e :: es) [] pos) (eOp gSum fs) :=
  se_callB F (r := fun K => rSum K) (fun a => cr_sum (F.calm a)) v_sum ha hm (by decide +kernel) hg (by decide) (by decide) he hpl
theorem se_any (hm : mg "any" = none) (hg : ∀ a, Gl (M a) "any" := by intro _; rfl) (he : ∀ a, starEach (e :: es) (M a).env = (false, eval e (M a).env) :: starEach es (M a).env := by intro _; rfl) (hpl : ∀ a, (backTo pos (starEach es (M a).env)).any (·.1) = false := by intro _; rfl) : SE M K q (.Call (.Name "any" p) (e :: es) [] pos) (eOp gAny fs) :=
  se_callB F (r := fun K => rAny K) (fun a => cr_any (F.calm a)) v_any ha hm (by decide +kernel) hg (by decide) (by decide) he hpl
theorem se_all (hm : mg "all" = none) (hg : ∀ a, Gl (M a) "all" := by intro _; rfl) (he : ∀ a, starEach (e :: es) (M a).env = (false, eval e (M a).env) :: starEach es (M a).env := by intro _; rfl) (hpl : ∀ a, (backTo pos (starEach es (M a).env)).any (·.1) = false := by intro _; rfl) : SE M K q (.Call (.Name "all" p) (e :: es) [] pos) (eOp gAll fs) :=
  se_callB F (r := fun K => rAll K) (fun a => cr_all (F.calm a)) v_all ha hm (by decide +kernel) hg (by decide) (by decide) he hpl
theorem se_max (hm : mg "max" = none) (hg : ∀ a, Gl (M a) "max" := by intro _; rfl) (he : ∀ a, starEach (e :: es) (M a).env = (false, eval e (M a).env) :: starEach es (M a).env := by intro _; rfl) (hpl : ∀ a, (backTo pos (starEach es (M a).env)).any (·.1) = false := by intro _; rfl) : SE M K q (.Call (.Name "max" p) (e :: es) [] pos) (eOp gMax fs) :=
  se_callB F (r := fun K => rMaxA K) (fun a => (call_max2 (F.calm a)).or (cr_max (F.calm a))) v_max ha hm (by decide +kernel) hg (by decide) (by decide) he hpl
theorem se_min (hm : mg "min" = none) (hg : ∀ a, Gl (M a) "min" := by intro _; rfl) (he : ∀ a, starEach (e :: es) (M a).env = (false, eval e (M a).env) :: starEach es (M a).env := by intro _; rfl) (hpl : ∀ a, (backTo pos (starEach es (M a).env)).any (·.1) = false := by intro _; rfl) : SE M K q (.Call (.Name "min" p) (e :: es) [] pos) (eOp gMin fs) :=
  se_callB F (r := fun K => rMinA K) (fun a => (call_min2 (F.calm a)).or (cr_min (F.calm a))) v_min ha hm (by decide +kernel) hg (by decide) (by decide) he hpl
theorem se_abs (hm : mg "abs" = none) (hg : ∀ a, Gl (M a) "abs" := by intro _; rfl) (he : ∀ a, starEach (e :: es) (M a).env = (false, eval e (M a).env) :: starEach es (M a).env := by intro _; rfl) (hpl : ∀ a, (backTo pos (starEach es (M a).env)).any (·.1) = false := by intro _; rfl) : SE M K q (.Call (.Name "abs" p) (e :: es) [] pos) (eOp gAbs fs) :=
  se_callB F (r := fun K => rAbs) (fun a => call_abs) v_abs ha hm (by decide +kernel) hg (by decide) (by decide) he hpl
theorem se_intT (hm : mg "int" = none) (hg : ∀ a, Gl (M a) "int" := by intro _; rfl) (he : ∀ a, starEach (e :: es) (M a).env = (false, eval e (M a).env) :: starEach es (M a).env := by intro _; rfl) (hpl : ∀ a, (backTo pos (starEach es (M a).env)).any (·.1) = false := by intro _; rfl) : SE M K q (.Call (.Name "int" p) (e :: es) [] pos) (eOp gInt fs) :=
  se_callT F (r := fun K => rInt) (fun a => call_int1) v_int ha hm (by decide +kernel) hg (by decide) (by decide) he hpl
theorem se_list (hm : mg "list" = none) (hg : ∀ a, Gl (M a) "list" := by intro _; rfl) (he : ∀ a, starEach (e :: es) (M a).env = (false, eval e (M a).env) :: starEach es (M a).env := by intro _; rfl) (hpl : ∀ a, (backTo pos (starEach es (M a).env)).any (·.1) = false := by intro _; rfl) : SE M K q (.Call (.Name "list" p) (e :: es) [] pos) (eOp gList fs) :=
  se_callT F (r := fun K => rList K) (fun a => call_list_of.or (call_listD (F.calm a))) v_list ha hm (by decide +kernel) hg (by decide) (by decide) he hpl
theorem se_tuple (hm : mg "tuple" = none) (hg : ∀ a, Gl (M a) "tuple" := by intro _; rfl) (he : ∀ a, starEach (e :: es) (M a).env = (false, eval e (M a).env) :: starEach es (M a).env := by intro _; rfl) (hpl : ∀ a, (backTo pos (starEach es (M a).env)).any (·.1) = false := by intro _; rfl) : SE M K q (.Call (.Name "tuple" p) (e :: es) [] pos) (eOp gTuple fs) :=
  se_callT F (r := fun K => rTuple K) (fun a => call_tuple_of) v_tuple ha hm (by decide +kernel) hg (by decide) (by decide) he hpl
theorem se_strT (hm : mg "str" = none) (hg : ∀ a, Gl (M a) "str" := by intro _; rfl) (he : ∀ a, starEach (e :: es) (M a).env = (false, eval e (M a).env) :: starEach es (M a).env := by intro _; rfl) (hpl : ∀ a, (backTo pos (starEach es (M a).env)).any (·.1) = false := by intro _; rfl) : SE M K q (.Call (.Name "str" p) (e :: es) [] pos) (eOp gStr fs) :=
  se_callT F (r := fun K => rStr) (fun a => (call_str_int (X := M a)).or call_str_str) v_str ha hm (by decide +kernel) hg (by decide) (by decide) he hpl
end
/-- sep.join(a list | a tuple of texts) -/
def gJoin : List D → Option D
  | [.str a, d] => d.seq?.bind fun xs => (D.strs xs).bind fun ys => if (ys.map (·.length)).sum + ys.length * a.length ≤ 16777216 then some (.str (Txt.join a ys)) else none
  | _ => none
def D.isStr : D → Bool
  | .str _ => true
  | _ => false
abbrev rJoin (K : PySem.W.Frag) : V → List V → Hp → VK → Prop := fun x xs H Q => ∃ a p, ∃ ys : List Str, x = .str a ∧ xs = [.ref p] ∧ (SqL K H p (ys.map V.str) ∨ SqT K H p (ys.map V.str)) ∧
      (ys.map (·.length)).sum + ys.length * a.length ≤ 16777216 ∧ Q (.str (Txt.join a ys)) H
theorem v_join {K : PySem.W.Frag} : OpN K (fun vs H Q => match vs with
      | x :: xs => rJoin K x xs H Q
      | [] => False) gJoin := by
  intro H N vs ds Lt hd nd d e Q k
  unfold gJoin at e
  split at e
  · rename_i a d0
    obtain ⟨xs, e1, e2⟩ := Option.bind_eq_some_iff.mp e
    obtain ⟨ys, e3, e4⟩ := Option.bind_eq_some_iff.mp e2
    split at e4
    · rename_i c
      cases e4
      obtain ⟨x, y, L1, L2, rfl, rfl, h1, h2⟩ := apart2 hd
      cases (one_str h1).1
      obtain ⟨b, us, L3, rfl, q1, q2, s1⟩ := inv_seq e1 h2
      rw [strs_v q2 e3] at q1
      exact ⟨a, b, ys, rfl, rfl, q1, c, k _ _ _ (Res.flat fun N' => Flat.str _ _ _ _)⟩
    · cases e4
  · cases e
theorem se_join (hK : ∀ a, (M a).K = K) (ho : SE M K q o f) {fe : Ev → Option (D × Ev)} (he : SE M K q' e fe) (hs : ∀ a, starEach [e] (M a).env = [(false, eval e (M a).env)] := by intro _; rfl) (hbase : ∀ a, attributeBase o "join" (M a).env (eval o (M a).env) = eval o (M a).env := by intro _; rfl) (hline : (apos.endLine == pos.line) = true := by rfl) :
    SE M K (q && (q' && true)) (.Call (.Attribute o "join" apos) [e] [] pos) (eRecv D.isStr gJoin f (aCons fe aNil)) :=
  let ⟨t, h1, h2⟩ := ho; let ⟨u, h3, h4⟩ := he
  ⟨tM1 (rJoin K) t u, fun a => by have := pe_join (X := M a) (apos := apos) (pos := pos) (h1 a) (h3 a) (hs a) (hbase a) hline; rw [hK a] at this; exact this,
    Sat.recv (C := fun v _ => ∃ a, v = .str a) (r := rJoin K) h2 (SatA.cons h4 (SatA.nil (q := true))) (fun H N v d L ok hd => by
      cases d <;> try (cases ok; done)
      rename_i z
      exact ⟨z, Option.some.inj (one_str hd).1⟩) v_join⟩
end
end TL

set_option Elab.async false
set_option linter.all false
set_option maxRecDepth 100000
/-! TL15: what changes a slot's own list, dict or object. -/
namespace TL
open PySem PySem.Spec PyProof.Rows L2

/-- what an operation makes of the object (Ld) and of its operands (Lt) -/
structure MRes (K : PySem.W.Frag) (H : Hp) (N : Fl → Addr → Prop) (Ld Lt : List Addr) (x v : V) (r d' : D) (H' : Hp) (Lr Ld' : List Addr) : Prop where
  keep : ∀ a, H a ≠ none → a ∉ Ld → H' a = H a
  live : ∀ a, H a ≠ none → H' a ≠ none
  sub : ∀ a ∈ Lr ++ Ld', a ∈ Ld ++ Lt ∨ H a = none
  nd : (Lr ++ Ld').Nodup
  res : ∀ N' : Fl → Addr → Prop, (∀ f a, N f a → H a ≠ none → N' f a) → (∀ f p, H p = none → p ∉ Lr ++ Ld' → N' f p) → Dens K H' N' [some v] [r] Lr ∧ Dens K H' N' [some x] [d'] Ld'
def OpM (K : PySem.W.Frag) (r : V → List V → Hp → VK → Prop) (g : D → List D → Option (D × D)) : Prop :=
  ∀ (H : Hp) (N : Fl → Addr → Prop) (x : V) (vs : List V) (d : D) (ds : List D) (Ld Lt : List Addr), Dens K H N [some x] [d] Ld → Dens K H N (so vs) ds Lt → (Ld ++ Lt).Nodup → (∀ f a, N f a → a ∉ Ld) → ∀ r' d', g d ds = some (r', d') → ∀ Q : VK,
    (∀ v H' Lr Ld', MRes K H N Ld Lt x v r' d' H' Lr Ld' → Q v H') → r x vs H Q

section
variable {K : PySem.W.Frag}
theorem lst_own {H : Hp} {N : Fl → Addr → Prop} {xs : List D} {v : V} {L : List Addr} (h : Dens K H N [some v] [.lst .own xs] L) : ∃ a us L1, v = .ref a ∧ H a = some (.lst us) ∧ L = a :: L1 ∧ Dens K H N (so us) xs L1 := by
  cases h with
  | lstO e h t => cases t; exact ⟨_, _, _, rfl, e, by rw [List.append_nil], h⟩
  | lstR f => cases f
theorem dK_own {H : Hp} {N : Fl → Addr → Prop} {kds : List (Key × D)} {v : V} {L : List Addr} (h : Dens K H N [some v] [.dK .own kds] L) : ∃ a kvs L1, v = .ref a ∧ H a = some (.dK kvs) ∧ L = a :: L1 ∧ kvs.map (·.1) = kds.map (·.1) ∧ Dens K H N (sv kvs) (kds.map (·.2)) L1 := by
  cases h with
  | dKO e q h t => cases t; exact ⟨_, _, _, rfl, e, by rw [List.append_nil], q, h⟩
  | dKR f => cases f
theorem dT_own {H : Hp} {N : Fl → Addr → Prop} {kds : List (List Key × D)} {v : V} {L : List Addr} (h : Dens K H N [some v] [.dT .own kds] L) : ∃ a kvs L1, v = .ref a ∧ H a = some (.dT kvs) ∧ L = a :: L1 ∧ kvs.map (·.1) = kds.map (·.1) ∧ Dens K H N (sv kvs) (kds.map (·.2)) L1 := by
  cases h with
  | dTO e q h t => cases t; exact ⟨_, _, _, rfl, e, by rw [List.append_nil], q, h⟩
  | dTR f => cases f
theorem ins_own {H : Hp} {N : Fl → Addr → Prop} {C : Addr} {kds : List (Str × D)} {v : V} {L : List Addr} (h : Dens K H N [some v] [.ins .own C kds] L) : ∃ a dx kvs L1, v = .ref a ∧ H a = some (.ins C dx kvs) ∧ L = a :: L1 ∧ kvs.map (·.1) = kds.map (·.1) ∧ Dens K H N (sv kvs) (kds.map (·.2)) L1 := by
  cases h with
  | insO e q h t => cases t; exact ⟨_, _, _, _, rfl, e, by rw [List.append_nil], q, h⟩
  | insR f => cases f

/-- the object at p is rewritten: its parts are old parts and operands -/
theorem MRes.write {H : Hp} {N : Fl → Addr → Prop} {p : Addr} {L1 Lt L9 Lr : List Addr} {o : HO} {σ : List (Option V)} {ys : List D} {v : V} {r d' : D} (hp : H p ≠ none) (nd : ((p :: L1) ++ Lt).Nodup) (hN : ∀ f a, N f a → a ∉ p :: L1) (hparts : Dens K H N σ ys L9) (hres : Dens K H N [some v] [r] Lr) (sub : ∀ a ∈ Lr ++ L9, a ∈ L1 ++ Lt) (ndp : (Lr ++ L9).Nodup)
    (mk : ∀ N', Dens K (upd H p o) N' σ ys L9 → Dens K (upd H p o) N' [some (.ref p)] [d'] (p :: L9)) : MRes K H N (p :: L1) Lt (.ref p) v r d' (upd H p o) Lr (p :: L9) := by
  have np : p ∉ L1 ++ Lt := (List.nodup_cons.mp (show (p :: (L1 ++ Lt)).Nodup from nd)).1
  have npp : ∀ a ∈ Lr ++ L9, a ≠ p := fun a ha e => np (by rw [← e]; exact sub a ha)
  have pm : (Lr ++ p :: L9).Perm (p :: (Lr ++ L9)) := List.perm_middle
  have same : ∀ a, a ≠ p → upd H p o a = H a := fun a h => upd_ne h
  have tr : ∀ {τ : List (Option V)} {zs : List D} {M : List Addr} (N' : Fl → Addr → Prop), (∀ f a, N f a → H a ≠ none → N' f a) → (∀ a ∈ M, a ≠ p) → Dens K H N τ zs M → Dens K (upd H p o) N' τ zs M := fun N' h1 hM h =>
    h.mono (fun a ha => same a (hM a ha)) fun f a n e => ⟨h1 f a n e, Keep.of (same a fun z => hN f a n (by rw [z]; exact List.mem_cons_self ..))⟩
  refine ⟨fun a _ n => same a fun e => n (by rw [e]; exact List.mem_cons_self ..), fun a h => ?_, fun a ha => ?_, ?_, fun N' h1 _ => ⟨tr N' h1 (fun a ha => npp a (List.mem_append_left _ ha)) hres, mk N' (tr N' h1 (fun a ha => npp a (List.mem_append_right _ ha)) hparts)⟩⟩
  · by_cases e : a = p
    · rw [e, upd_same]; exact Option.some_ne_none _
    · rw [same a e]; exact h
  · rcases List.mem_cons.mp (pm.mem_iff.mp ha) with rfl | z
    · exact .inl (List.mem_append_left _ (List.mem_cons_self ..))
    · rcases List.mem_append.mp (sub a z) with y | y
      · exact .inl (List.mem_append_left _ (List.mem_cons_of_mem _ y))
      · exact .inl (List.mem_append_right _ y)
  · exact pm.nodup_iff.mpr (List.nodup_cons.mpr ⟨fun z => npp p z rfl, ndp⟩)
theorem mk_lst {H : Hp} {p : Addr} {us : List V} {ys : List D} {L9 : List Addr} (N' : Fl → Addr → Prop) (h : Dens K (upd H p (.lst us)) N' (so us) ys L9) : Dens K (upd H p (.lst us)) N' [some (.ref p)] [.lst .own ys] (p :: L9) := by
  have := Dens.lstO (K := K) (N := N') (vs := []) (ds := []) (L2 := []) upd_same h .nil
  rw [List.append_nil] at this
  exact this
theorem mk_dK {H : Hp} {p : Addr} {kvs : List (Key × V)} {kds : List (Key × D)} {L9 : List Addr} (e : kvs.map (·.1) = kds.map (·.1)) (N' : Fl → Addr → Prop) (h : Dens K (upd H p (.dK kvs)) N' (sv kvs) (kds.map (·.2)) L9) : Dens K (upd H p (.dK kvs)) N' [some (.ref p)] [.dK .own kds] (p :: L9) := by
  have := Dens.dKO (K := K) (N := N') (vs := []) (ds := []) (L2 := []) upd_same e h .nil
  rw [List.append_nil] at this
  exact this
theorem mk_dT {H : Hp} {p : Addr} {kvs : List (List Key × V)} {kds : List (List Key × D)} {L9 : List Addr} (e : kvs.map (·.1) = kds.map (·.1)) (N' : Fl → Addr → Prop) (h : Dens K (upd H p (.dT kvs)) N' (sv kvs) (kds.map (·.2)) L9) : Dens K (upd H p (.dT kvs)) N' [some (.ref p)] [.dT .own kds] (p :: L9) := by
  have := Dens.dTO (K := K) (N := N') (vs := []) (ds := []) (L2 := []) upd_same e h .nil
  rw [List.append_nil] at this
  exact this
theorem mk_ins {H : Hp} {p C dx : Addr} {kvs : List (Str × V)} {kds : List (Str × D)} {L9 : List Addr} (e : kvs.map (·.1) = kds.map (·.1)) (N' : Fl → Addr → Prop) (h : Dens K (upd H p (.ins C dx kvs)) N' (sv kvs) (kds.map (·.2)) L9) : Dens K (upd H p (.ins C dx kvs)) N' [some (.ref p)] [.ins .own C kds] (p :: L9) := by
  have := Dens.insO (K := K) (N := N') (vs := []) (ds := []) (L2 := []) upd_same e h .nil
  rw [List.append_nil] at this
  exact this
theorem non0 {H : Hp} {N : Fl → Addr → Prop} : Dens K H N [some .non] [.non] [] := .non .nil
theorem nd_tail {p : Addr} {L1 Lt : List Addr} (nd : ((p :: L1) ++ Lt).Nodup) : (L1 ++ Lt).Nodup := (List.nodup_cons.mp (show (p :: (L1 ++ Lt)).Nodup from nd)).2

/-! ### lists -/
def mAppend : D → List D → Option (D × D)
  | .lst .own xs, [d] => if xs.length < sizeLine then some (.non, .lst .own (xs ++ [d])) else none
  | _, _ => none
theorem o_append : OpM K rAppend mAppend := by
  intro H N x vs d ds Ld Lt h1 h2 nd hN r' d' e Q k
  unfold mAppend at e
  split at e
  · rename_i xs d0
    split at e
    · rename_i hl
      cases e
      obtain ⟨a, us, L1, rfl, ha, rfl, q⟩ := lst_own h1
      obtain ⟨y, rfl, h3⟩ := apart1 h2
      refine ⟨a, us, y, rfl, rfl, ha, by rw [len_so q]; exact hl, ?_⟩
      have hp : Dens K H N (so (us ++ [y])) (xs ++ [d0]) (L1 ++ Lt) := by rw [so_app]; exact q.app h3
      exact k _ _ _ _ (MRes.write (Lr := []) (by rw [ha]; exact Option.some_ne_none _) nd hN hp non0 (fun a h => h) (nd_tail nd) (fun N' h => mk_lst N' h))
    · cases e
  · cases e
def mExtend : D → List D → Option (D × D)
  | .lst .own xs, [.lst f ys] => if f ≠ .ext ∧ xs.length + ys.length ≤ sizeLine then some (.non, .lst .own (xs ++ ys)) else none
  | _, _ => none
theorem o_extend : OpM K rExtend mExtend := by
  intro H N x vs d ds Ld Lt h1 h2 nd hN r' d' e Q k
  unfold mExtend at e
  split at e
  · rename_i xs f ys
    split at e
    · rename_i hl
      cases e
      obtain ⟨a, us, L1, rfl, ha, rfl, q⟩ := lst_own h1
      obtain ⟨y, rfl, h3⟩ := apart1 h2
      obtain ⟨b, ws, M, rfl, _, e1, q2, s2⟩ := inv_lst h3
      refine ⟨a, b, us, ws, rfl, rfl, ha, e1 hl.1, by rw [len_so q, len_so q2]; exact hl.2, ?_⟩
      have hp : Dens K H N (so (us ++ ws)) (xs ++ ys) (L1 ++ M) := by rw [so_app]; exact q.app q2
      have sb : (L1 ++ M).Sublist (L1 ++ Lt) := List.Sublist.append (List.Sublist.refl _) s2
      exact k _ _ _ _ (MRes.write (Lr := []) (by rw [ha]; exact Option.some_ne_none _) nd hN hp non0 (fun a h => sb.subset h) (sb.nodup (nd_tail nd)) (fun N' h => mk_lst N' h))
    · cases e
  · cases e
/-- a list cut at its last item -/
theorem dens_last {H : Hp} {N : Fl → Addr → Prop} : ∀ {us : List V} {xs : List D} {L : List Addr} {z : D}, Dens K H N (so us) (xs ++ [z]) L → ∃ ws y L1 L2, us = ws ++ [y] ∧ L = L1 ++ L2 ∧ Dens K H N (so ws) xs L1 ∧ Dens K H N [some y] [z] L2 := by
  intro us xs L z h
  have hl := len_so h
  rw [List.length_append] at hl
  have e : us = us.take xs.length ++ us.drop xs.length := (List.take_append_drop _ _).symm
  have h' : Dens K H N (so (us.take xs.length) ++ so (us.drop xs.length)) (xs ++ [z]) L := by rw [← so_app, ← e]; exact h
  have hl1 : (so (us.take xs.length)).length = xs.length := by simp [so]; simp at hl; omega
  obtain ⟨L1, L2, rfl, q1, q2⟩ := Dens.split hl1 h'
  obtain ⟨y, ey, q3⟩ := apart1 q2
  exact ⟨_, y, L1, L2, by rw [← ey]; exact e, rfl, q1, by rw [ey] at q2; exact q2⟩
def mPop : D → List D → Option (D × D)
  | .lst .own xs, [] => match xs.getLast? with
    | some z => if z.isUnd then none else some (z, .lst .own xs.dropLast)
    | none => none
  | _, _ => none
theorem o_pop : OpM K rPop mPop := by
  intro H N x vs d ds Ld Lt h1 h2 nd hN r' d' e Q k
  unfold mPop at e
  split at e
  · rename_i xs
    split at e
    · rename_i z hz
      split at e
      · cases e
      · cases e
        obtain ⟨a, us, L1, rfl, ha, rfl, q⟩ := lst_own h1
        obtain rfl : vs = [] := by
          have := len_so h2
          exact List.eq_nil_of_length_eq_zero this
        have ex : xs = xs.dropLast ++ [r'] := by
          have hne : xs ≠ [] := by intro z; rw [z] at hz; cases hz
          have := List.dropLast_concat_getLast hne
          rw [List.getLast?_eq_some_getLast hne] at hz
          rw [← Option.some.inj hz]; exact this.symm
        rw [ex] at q
        obtain ⟨ws, y, L2, L3, rfl, rfl, q2, q3⟩ := dens_last q
        have ed : (xs.dropLast ++ [r']).dropLast = xs.dropLast := List.dropLast_concat
        refine ⟨a, _, y, rfl, rfl, ha, by simp, ?_⟩
        rw [List.dropLast_concat]
        have nd' := nd_tail nd
        have pm : (L3 ++ L2).Perm (L2 ++ L3) := List.perm_append_comm
        refine k _ _ _ _ (MRes.write (by rw [ha]; exact Option.some_ne_none _) nd hN q2 q3 (fun a h => List.mem_append_left _ (pm.mem_iff.mp h)) (pm.nodup_iff.mpr (List.nodup_append.mp nd').1) (fun N' h => mk_lst N' h))
    · cases e
  · cases e

/-! ### the rule for a slot -/
def eInpl (i : Nat) (ok : D → Bool) (g : D → List D → Option (D × D)) (fs : Ev → Option (List D × Ev)) : Ev → Option (D × Ev) := fun env =>
  match env[i]? with
  | none => none
  | some d0 => if ok d0 then (match fs env with
    | none => none
    | some (ds, e1) => match e1[i]? with
      | none => none
      | some d => if d.isUnd then none else match g d ds with
        | none => none
        | some (r, d') => some (r, e1.set i d')) else none
theorem Came.inpl {Lo : Lent} {q : Bool} {H H1 : Hp} {ts σ : List (Option V)} {td : List D} {env e1 : Ev} {L Lr Lb : List Addr} {vs : List V} {ds : List D} {i : Nat} {d : D} (hl : ts.length = td.length)
    (c : Came K Lo q H (ts ++ σ) td env L H1 vs ds e1 Lr Lb) (ei : e1[i]? = some d) (hd : d ≠ .und) : ∃ x Ld Lx, σ[i]? = some (some x) ∧ Dens K H1 (Nw (Lr ++ Lb) Lo) [some x] [d] Ld ∧ Lb.Perm (Ld ++ Lx) ∧ (Ld ++ Lr).Nodup ∧
      ∀ v H2 r d' Lr' Ld', MRes K H1 (Nw (Lr ++ Lb) Lo) Ld Lr x v r d' H2 Lr' Ld' → ∃ Lb', Came K Lo false H (ts ++ σ) td env L H2 [v] [r] (e1.set i d') Lr' Lb' := by
  obtain ⟨Lt, Le, rfl, h1, h2⟩ := Dens.split hl c.base
  obtain ⟨o, L1, L2, q1, q2, q3, q4⟩ := h2.take ei
  obtain ⟨x, rfl⟩ := q3.some1 hd
  have pmb : (Lt ++ Le).Perm (L1 ++ (Lt ++ L2)) := (List.Perm.append_left Lt q2).trans (by rw [← List.append_assoc, ← List.append_assoc]; exact List.Perm.append_right _ List.perm_append_comm)
  have ndA := List.nodup_append.mp c.good.nd
  have nb := List.nodup_append.mp (pmb.nodup_iff.mp ndA.2.1)
  have inb : ∀ a ∈ L1, a ∈ Lt ++ Le := fun a ha => pmb.mem_iff.mpr (List.mem_append_left _ ha)
  have inb2 : ∀ a ∈ Lt ++ L2, a ∈ Lt ++ Le := fun a ha => pmb.mem_iff.mpr (List.mem_append_right _ ha)
  refine ⟨x, L1, Lt ++ L2, q1, q3, pmb, List.nodup_append.mpr ⟨nb.1, ndA.1, fun a ha b hb e => ndA.2.2 b hb a (inb a ha) e.symm⟩, fun v H2 r d' Lr' Ld' m => ?_⟩
  have hi : i < e1.length := (List.getElem?_eq_some_iff.mp ei).1
  have dead : ∀ a ∈ Lr' ++ Ld', a ∉ Lt ++ L2 := fun a ha z => by
    rcases m.sub a ha with y | y
    · rcases List.mem_append.mp y with y | y
      · exact nb.2.2 a y a z rfl
      · exact ndA.2.2 a y a (inb2 a z) rfl
    · exact c.base.live a (inb2 a z) y
  have own : ∀ a ∈ (Lr' ++ Ld') ++ (Lt ++ L2), a ∈ (Lr ++ (Lt ++ Le)) ∨ H1 a = none := fun a ha => by
    rcases List.mem_append.mp ha with z | z
    · rcases m.sub a z with y | y
      · rcases List.mem_append.mp y with y | y
        · exact .inl (List.mem_append_right _ (inb a y))
        · exact .inl (List.mem_append_left _ y)
      · exact .inr y
    · exact .inl (List.mem_append_right _ (inb2 a z))
  -- what stays
  have kn : ∀ f a, Nw (Lr ++ (Lt ++ Le)) Lo f a → H1 a ≠ none → Nw ((Lr' ++ Ld') ++ (Lt ++ L2)) Lo f a := fun f a n e => nw_ext own f a n e
  have kp : ∀ f a, Nw (Lr ++ (Lt ++ Le)) Lo f a → H1 a ≠ none → Nw ((Lr' ++ Ld') ++ (Lt ++ L2)) Lo f a ∧ Keep H1 H2 a := fun f a n e => ⟨kn f a n e, Keep.of (m.keep a e fun z => n.1 (List.mem_append_right _ (inb a z)))⟩
  have tmp := h1.mono (H' := H2) (N' := Nw ((Lr' ++ Ld') ++ (Lt ++ L2)) Lo) (fun a ha => m.keep a (h1.live a ha) fun z => nb.2.2 a z a (List.mem_append_left _ ha) rfl) kp
  have sl := q4.mono (H' := H2) (N' := Nw ((Lr' ++ Ld') ++ (Lt ++ L2)) Lo) (fun a ha => m.keep a (q4.live a ha) fun z => nb.2.2 a z a (List.mem_append_right _ ha) rfl) kp
  have fresh : ∀ f p, H1 p = none → p ∉ Lr' ++ Ld' → Nw ((Lr' ++ Ld') ++ (Lt ++ L2)) Lo f p := fun f p hp n => ⟨fun z => (List.mem_append.mp z).elim n fun z => c.base.live p (inb2 p z) hp, fun lo => (c.good.lent f p lo).1 hp⟩
  obtain ⟨r1, r2⟩ := m.res _ kn fresh
  obtain ⟨M, L5, sb, pm5, q5⟩ := Dens.setAt r2 sl i (by rw [List.length_set]; exact hi)
  rw [set_same q1, List.set_set] at q5
  have mem5 : ∀ a ∈ L5, a ∈ Ld' ++ L2 := fun a ha => (List.Sublist.append (List.Sublist.refl Ld') sb).subset (pm5.mem_iff.mp ha)
  have memF : ∀ a ∈ Lr' ++ (Lt ++ L5), a ∈ (Lr' ++ Ld') ++ (Lt ++ L2) := fun a ha => by
    rcases List.mem_append.mp ha with z | z
    · exact List.mem_append_left _ (List.mem_append_left _ z)
    · rcases List.mem_append.mp z with z | z
      · exact List.mem_append_right _ (List.mem_append_left _ z)
      · rcases List.mem_append.mp (mem5 a z) with z | z
        · exact List.mem_append_left _ (List.mem_append_right _ z)
        · exact List.mem_append_right _ (List.mem_append_right _ z)
  have ndM := List.nodup_append.mp m.nd
  have nLt := List.nodup_append.mp nb.2.1
  have nd5 : L5.Nodup := pm5.nodup_iff.mpr (List.nodup_append.mpr ⟨ndM.2.1, sb.nodup nLt.2.1, fun a ha b hb e => by subst e; exact dead a (List.mem_append_right _ ha) (List.mem_append_right _ (sb.subset hb))⟩)
  have ndF : (Lr' ++ (Lt ++ L5)).Nodup := by
    refine List.nodup_append.mpr ⟨ndM.1, List.nodup_append.mpr ⟨nLt.1, nd5, fun a ha b hb e => ?_⟩, fun a ha b hb e => ?_⟩
    · subst e
      rcases List.mem_append.mp (mem5 a hb) with z | z
      · exact dead a (List.mem_append_right _ z) (List.mem_append_left _ ha)
      · exact nLt.2.2 a ha a z rfl
    · subst e
      rcases List.mem_append.mp hb with z | z
      · exact dead a (List.mem_append_left _ ha) (List.mem_append_left _ z)
      · rcases List.mem_append.mp (mem5 a z) with z | z
        · exact ndM.2.2 a ha a z rfl
        · exact dead a (List.mem_append_left _ ha) (List.mem_append_right _ z)
  have fin : ∀ f a, Nw ((Lr' ++ Ld') ++ (Lt ++ L2)) Lo f a → Nw (Lr' ++ (Lt ++ L5)) Lo f a := nw_sub memF
  refine ⟨Lt ++ L5, ⟨ndF, fun f a ha lo => ?_, fun f a lo => ?_, c.good.nov⟩, r1.know fun f a n _ => fin f a n, (tmp.know fun f a n _ => fin f a n).app (q5.know fun f a n _ => fin f a n), c.ext.trans ⟨fun a h n => m.keep a h fun z => n (List.mem_append_right _ (inb a z)), fun a ha => own a (memF a ha), m.live⟩, fun z => by cases z⟩
  · exact (own a (memF a ha)).elim (fun z => c.good.no f a z lo) fun z => (c.good.lent f a lo).1 z
  · have := m.keep a (c.good.lent f a lo).1 fun z => c.good.no f a (List.mem_append_right _ (inb a z)) lo
    rw [this]; exact c.good.lent f a lo
theorem und_ne' {d : D} (h : ¬ d.isUnd = true) : d ≠ .und := fun e => h (by rw [e]; rfl)
theorem Sat.inpl {q' : Bool} {ld : List (Option Nat)} {ta : TA} {fs : Ev → Option (List D × Ev)} {T : String} {r : V → List V → Hp → VK → Prop} {ok : D → Bool} {g : D → List D → Option (D × D)} (i : Nat) (h : SatA K q' ld ta fs) (o : OpM K r g)
    (hok : ∀ H N v d L, ok d = true → Dens K H N [some v] [d] L → tyV K T v H) : Sat K false (tBM K T r (tVar i) ta) (eInpl i ok g fs) := by
  refine ⟨fun σ H env ts td L Lo hl s d env' e Q k => ?_⟩
  unfold eInpl at e
  cases e0 : env[i]? with
  | none => rw [e0] at e; cases e
  | some d0 =>
    simp only [e0] at e
    split at e
    · rename_i okd
      cases e1 : fs env with
      | none => simp only [e1] at e; cases e
      | some p =>
        obtain ⟨ds, en1⟩ := p
        simp only [e1] at e
        cases e2 : en1[i]? with
        | none => simp only [e2] at e; cases e
        | some d1 =>
          simp only [e2] at e
          split at e
          · cases e
          · rename_i nu
            cases e3 : g d1 ds with
            | none => simp only [e3] at e; cases e
            | some p3 =>
              obtain ⟨r3, d3⟩ := p3
              simp only [e3] at e
              obtain ⟨rfl, rfl⟩ := Prod.mk.inj (Option.some.inj e)
              -- the receiver
              obtain ⟨Lt, Le, rfl, h1, h2⟩ := Dens.split hl s.dens
              obtain ⟨o0, L1, q1, q2, q3⟩ := h2.at e0
              have nd0 : d0 ≠ .und := fun z => by
                have := hok (fun _ => none) (fun _ _ => True) .non d0 [] okd
                subst z
                have := hok (fun _ => none) (fun _ _ => True) .non .und [] okd (.und .nil)
                exact this
              obtain ⟨x, rfl⟩ := q2.some1 nd0
              refine ⟨x, q1, hok _ _ _ _ _ okd q2, ?_⟩
              refine h.run σ H env ts td (Lt ++ Le) Lo hl s ds en1 e1 _ fun vs H1 Lr Lb c _ => ?_
              obtain ⟨x', Ld, Lx, f1, f2, f3, f4, f5⟩ := c.inpl hl e2 (und_ne' nu)
              rw [q1] at f1
              cases f1
              exact o H1 _ x vs d1 ds Ld Lr f2 c.top f4 (fun f a n z => n.1 (List.mem_append_right _ (f3.mem_iff.mpr (List.mem_append_left _ z)))) _ _ e3 Q fun v H2 Lr' Ld' m => by
                obtain ⟨Lb', c'⟩ := f5 v H2 _ _ _ _ m
                exact k v H2 Lr' Lb' c'
    · cases e
/-- `o` is a list, or a dict, of one's own -/
def okL : D → Bool
  | .lst .own _ => true
  | _ => false
theorem okL_ty (H : Hp) (N : Fl → Addr → Prop) (v : V) (d : D) (L : List Addr) (h : okL d = true) (hd : Dens K H N [some v] [d] L) : tyV K "list" v H := by
  unfold okL at h
  split at h
  · obtain ⟨a, us, L1, rfl, ha, _⟩ := lst_own hd
    exact .inl ⟨rfl, us, .inl (.inl ha)⟩
  · cases h

/-! ### o[i] = v -/
abbrev rSetLD : TSet := fun o i v H Q => rSetL o i v H Q ∨ rSetD o i v H Q
theorem set_LD {X : Cx} (hu : X.A.units + 1 < cLine) : PSet X rSetLD := by
  intro pins s σ H o i v ov iv u Q I ro ri rv h
  exact h.elim (set_list pins s σ H o i v ov iv u Q I ro ri rv) (set_dict hu pins s σ H o i v ov iv u Q I ro ri rv)
abbrev rSetN : V → List V → Hp → VK → Prop := fun x vs H Q => match vs with
  | [v, i] => rSetLD x i v H (Q .non)
  | _ => False
def putKD {κ : Type} [DecidableEq κ] (kds : List (κ × D)) (k : κ) (d : D) : List (κ × D) :=
  if (kds.any fun p => decide (p.1 = k)) = true then kds.map (fun p => if p.1 = k then (p.1, d) else p) else kds ++ [(k, d)]
def mSet : D → List D → Option (D × D)
  | .lst .own xs, [d, .int i] => (ixN xs.length i).map fun j => (.non, .lst .own (xs.set j d))
  | .dK .own kds, [d, k] => (D.key k).bind fun kk => if kds.length < sizeLine ∧ (kds.map (·.1)).Nodup then some (.non, .dK .own (putKD kds kk d)) else none
  | .dT .own kds, [d, .tup xs] => (D.keys xs).bind fun kk => if kds.length < sizeLine ∧ (kds.map (·.1)).Nodup then some (.non, .dT .own (putKD kds kk d)) else none
  | _, _ => none
theorem put_dens {κ : Type} [DecidableEq κ] {H : Hp} {N : Fl → Addr → Prop} {y : V} {d : D} {Ly : List Addr} (hy : Dens K H N [some y] [d] Ly) (k : κ) : ∀ {kvs : List (κ × V)} {kds : List (κ × D)} {L : List Addr}, kvs.map (·.1) = kds.map (·.1) → (kds.map (·.1)).Nodup → Dens K H N (sv kvs) (kds.map (·.2)) L →
    ∃ L9, (∀ a ∈ L9, a ∈ L ++ Ly) ∧ ((L ++ Ly).Nodup → L9.Nodup) ∧ (putK kvs k y).map (·.1) = (putKD kds k d).map (·.1) ∧ Dens K H N (sv (putK kvs k y)) ((putKD kds k d).map (·.2)) L9 := by
  intro kvs kds L ek ndk h
  have anyEq : (kvs.any fun p => decide (p.1 = k)) = kds.any fun p => decide (p.1 = k) := by
    have h1 : ∀ l : List (κ × V), (l.any fun p => decide (p.1 = k)) = (l.map (·.1)).any fun z => decide (z = k) := fun l => by rw [List.any_map]; rfl
    have h2 : ∀ l : List (κ × D), (l.any fun p => decide (p.1 = k)) = (l.map (·.1)).any fun z => decide (z = k) := fun l => by rw [List.any_map]; rfl
    rw [h1, h2, ek]
  by_cases c : (kds.any fun p => decide (p.1 = k)) = true
  · unfold putK putKD
    rw [anyEq, if_pos c, if_pos c]
    clear anyEq
    induction kds generalizing kvs L with
    | nil => simp at c
    | cons p kds ih =>
      obtain ⟨k1, d1⟩ := p
      cases kvs with
      | nil => cases ek
      | cons pv kvs =>
        obtain ⟨k2, v2⟩ := pv
        have ek' := List.cons.inj ek
        obtain rfl : k2 = k1 := ek'.1
        obtain ⟨M1, M2, rfl, h1, h2⟩ := Dens.cons (o := some v2) (d := d1) (σ := sv kvs) (ds := kds.map (·.2)) h
        have nd' := List.nodup_cons.mp (show (k2 :: kds.map (·.1)).Nodup from ndk)
        by_cases z : k2 = k
        · subst z
          -- the others stay
          have st1 : kvs.map (fun p => if p.1 = k2 then (p.1, y) else p) = kvs := by
            have : ∀ p ∈ kvs, (if p.1 = k2 then (p.1, y) else p) = p := fun p hp => by
              rw [if_neg]
              intro e
              exact nd'.1 (by rw [← ek'.2, ← e]; exact List.mem_map_of_mem (f := Prod.fst) hp)
            rw [List.map_congr_left this, List.map_id']
          have st2 : kds.map (fun p => if p.1 = k2 then (p.1, d) else p) = kds := by
            have : ∀ p ∈ kds, (if p.1 = k2 then (p.1, d) else p) = p := fun p hp => by
              rw [if_neg]
              intro e
              exact nd'.1 (by rw [← e]; exact List.mem_map_of_mem (f := Prod.fst) hp)
            rw [List.map_congr_left this, List.map_id']
          refine ⟨Ly ++ M2, fun a ha => ?_, fun nd => ?_, ?_, ?_⟩
          · rcases List.mem_append.mp ha with z | z
            · exact List.mem_append_right _ z
            · exact List.mem_append_left _ (List.mem_append_right _ z)
          · have n1 := List.nodup_append.mp nd
            have n2 := List.nodup_append.mp n1.1
            exact List.nodup_append.mpr ⟨n1.2.1, n2.2.1, fun a ha b hb e => n1.2.2 b (List.mem_append_right _ hb) a ha e.symm⟩
          · simp only [List.map_cons, if_true, st1, st2]
            exact congrArg (k2 :: ·) ek'.2
          · simp only [List.map_cons, if_true, st1, st2]
            exact hy.put h2
        · have c' : (kds.any fun p => decide (p.1 = k)) = true := by simpa [z] using c
          obtain ⟨L9, m9, n9, e9, q9⟩ := ih ek'.2 nd'.2 h2 c'
          refine ⟨M1 ++ L9, fun a ha => ?_, fun nd => ?_, ?_, ?_⟩
          · rcases List.mem_append.mp ha with z | z
            · exact List.mem_append_left _ (List.mem_append_left _ z)
            · rcases List.mem_append.mp (m9 a z) with z | z
              · exact List.mem_append_left _ (List.mem_append_right _ z)
              · exact List.mem_append_right _ z
          · have n1 := List.nodup_append.mp nd
            have n2 := List.nodup_append.mp n1.1
            have n3 : (M2 ++ Ly).Nodup := List.nodup_append.mpr ⟨n2.2.1, n1.2.1, fun a ha b hb e => n1.2.2 a (List.mem_append_right _ ha) b hb e⟩
            refine List.nodup_append.mpr ⟨n2.1, n9 n3, fun a ha b hb e => ?_⟩
            rcases List.mem_append.mp (m9 b hb) with z | z
            · exact n2.2.2 a ha b z e
            · exact n1.2.2 a (List.mem_append_left _ ha) b z e
          · simp only [List.map_cons, if_neg z, e9]
          · simp only [List.map_cons, if_neg z]
            exact h1.put q9
  · unfold putK putKD
    rw [anyEq, if_neg c, if_neg c]
    refine ⟨L ++ Ly, fun a h => h, fun h => h, ?_, ?_⟩
    · rw [List.map_append, List.map_append, ek]; rfl
    · have e1 : sv (kvs ++ [(k, y)]) = sv kvs ++ [some y] := by simp [sv]
      rw [e1, List.map_append]
      exact h.app hy
theorem set_dens {H : Hp} {N : Fl → Addr → Prop} {us : List V} {xs : List D} {L Ly : List Addr} {y : V} {d : D} {j : Nat} (h : Dens K H N (so us) xs L) (hy : Dens K H N [some y] [d] Ly) (hj : j < xs.length) : ∃ L9, (∀ a ∈ L9, a ∈ L ++ Ly) ∧ ((L ++ Ly).Nodup → L9.Nodup) ∧ Dens K H N (so (us.set j y)) (xs.set j d) L9 := by
  obtain ⟨M, L9, sb, pm, q⟩ := Dens.setAt hy h j hj
  have e : so (us.set j y) = (so us).set j (some y) := by simp [so, List.map_set]
  refine ⟨L9, fun a ha => ?_, fun nd => ?_, by rw [e]; exact q⟩
  · rcases List.mem_append.mp (pm.mem_iff.mp ha) with z | z
    · exact List.mem_append_right _ z
    · exact List.mem_append_left _ (sb.subset z)
  · have n1 := List.nodup_append.mp nd
    exact pm.nodup_iff.mpr (List.nodup_append.mpr ⟨n1.2.1, sb.nodup n1.1, fun a ha b hb e => n1.2.2 b (sb.subset hb) a ha e.symm⟩)

theorem o_set : OpM K (rSetN) mSet := by
  intro H N x vs d ds Ld Lt h1 h2 nd hN r' d' e Q k
  unfold mSet at e
  split at e
  · rename_i xs dv i
    obtain ⟨j, e1, e2⟩ := Option.map_eq_some_iff.mp e
    cases e2
    obtain ⟨a, us, L1, rfl, ha, rfl, q⟩ := lst_own h1
    obtain ⟨y, z, L3, L4, rfl, rfl, h3, h4⟩ := apart2 h2
    cases (one_int h4).1
    have hj : j < xs.length := (ixN_seq e1).2.1
    obtain ⟨L9, m9, n9, q9⟩ := set_dens q h3 hj
    have nd' := nd_tail nd
    have sub : ∀ a ∈ L9, a ∈ L1 ++ (L3 ++ L4) := fun a ha => (List.mem_append.mp (m9 a ha)).elim (List.mem_append_left _) fun z => List.mem_append_right _ (List.mem_append_left _ z)
    have ndd : L9.Nodup := n9 (by rw [← List.append_assoc] at nd'; exact (List.nodup_append.mp nd').1)
    refine .inl ⟨a, us, i, j, rfl, rfl, ha, by rw [len_so q]; exact e1, ?_⟩
    exact k _ _ _ _ (MRes.write (Lr := []) (by rw [ha]; exact Option.some_ne_none _) nd hN q9 non0 sub ndd (fun N' h => mk_lst N' h))
  · rename_i kds dv kt
    obtain ⟨kk, e1, e2⟩ := Option.bind_eq_some_iff.mp e
    split at e2
    · rename_i c
      cases e2
      obtain ⟨a, kvs, L1, rfl, ha, rfl, ek, q⟩ := dK_own h1
      obtain ⟨y, z, L3, L4, rfl, rfl, h3, h4⟩ := apart2 h2
      have ez := key_v h4 e1
      obtain ⟨L9, m9, n9, e9, q9⟩ := put_dens h3 kk ek c.2 q
      have nd' := nd_tail nd
      have sub : ∀ a ∈ L9, a ∈ L1 ++ (L3 ++ L4) := fun a ha => (List.mem_append.mp (m9 a ha)).elim (List.mem_append_left _) fun z => List.mem_append_right _ (List.mem_append_left _ z)
      have ndd : L9.Nodup := n9 (by rw [← List.append_assoc] at nd'; exact (List.nodup_append.mp nd').1)
      have hl := congrArg List.length ek
      rw [List.length_map, List.length_map] at hl
      refine .inr ⟨a, _, rfl, by rw [ez]; exact DPut.k ha (by rw [hl]; exact c.1), ?_⟩
      exact k _ _ _ _ (MRes.write (Lr := []) (by rw [ha]; exact Option.some_ne_none _) nd hN q9 non0 sub ndd (fun N' h => mk_dK e9 N' h))
    · cases e2
  · rename_i kds dv xs
    obtain ⟨kk, e1, e2⟩ := Option.bind_eq_some_iff.mp e
    split at e2
    · rename_i c
      cases e2
      obtain ⟨a, kvs, L1, rfl, ha, rfl, ek, q⟩ := dT_own h1
      obtain ⟨y, z, L3, L4, rfl, rfl, h3, h4⟩ := apart2 h2
      obtain ⟨b, us, M2, rfl, eb, q5, _, _⟩ := inv_tup h4
      rw [keys_v q5 e1] at eb
      obtain ⟨L9, m9, n9, e9, q9⟩ := put_dens h3 kk ek c.2 q
      have nd' := nd_tail nd
      have sub : ∀ a ∈ L9, a ∈ L1 ++ (L3 ++ L4) := fun a ha => (List.mem_append.mp (m9 a ha)).elim (List.mem_append_left _) fun z => List.mem_append_right _ (List.mem_append_left _ z)
      have ndd : L9.Nodup := n9 (by rw [← List.append_assoc] at nd'; exact (List.nodup_append.mp nd').1)
      have hl := congrArg List.length ek
      rw [List.length_map, List.length_map] at hl
      refine .inr ⟨a, _, rfl, DPut.t ha eb (by rw [hl]; exact c.1), ?_⟩
      exact k _ _ _ _ (MRes.write (Lr := []) (by rw [ha]; exact Option.some_ne_none _) nd hN q9 non0 sub ndd (fun N' h => mk_dT e9 N' h))
    · cases e2
  · cases e
/-- o[i] = v: the value, then the index, then the store; o a slot -/
def sSetI (j : Nat) (f : Ev → Option (D × Ev)) (fx : Ev → Option (D × Ev)) : Ev → Option Out := fun env =>
  match f env with
  | none => none
  | some (d, e1) => match e1[j]? with
    | none => none
    | some d0 => if d0.isUnd then none else match fx e1 with
      | none => none
      | some (di, _) => match mSet d0 [d, di] with
        | none => none
        | some (_, d') => some (.nx (e1.set j d'))
theorem SatS.setI {pn : List Nat} {te ti : TE} {f fx : Ev → Option (D × Ev)} (j : Nat) (h : SatC K te f) (hx : Sat K true ti fx) : SatS K pn (tAsg te (L2.gSub (tVar j) ti rSetLD)) (sSetI j f fx) := by
  refine ⟨fun σ H env ts td L Lo pv hl hcl p s o e E k => ?_⟩
  unfold sSetI at e
  split at e
  · cases e
  · rename_i d e1 ee1
    split at e
    · cases e
    · rename_i d0 ee3
      split at e
      · cases e
      · rename_i nu
        split at e
        · cases e
        · rename_i di e2 ee2
          split at e
          · cases e
          · rename_i rr d' ee4
            cases e
            refine h.run σ H env ts td L Lo hl hcl s d e1 ee1 _ fun v H1 Lr Lb c => ?_
            obtain ⟨Lt, Le, rfl, _, h2⟩ := Dens.split hl c.base
            obtain ⟨o0, L1, q1, q2, q3⟩ := h2.at ee3
            obtain ⟨x, rfl⟩ := q2.some1 (und_ne' nu)
            refine ⟨x, q1, ?_⟩
            refine hx.run σ H1 e1 (some v :: ts) (d :: td) _ Lo (by simp [hl]) c.sta di e2 ee2 _ fun iv H2 Lr2 Lb2 c2 => ?_
            obtain ⟨rfl, _⟩ := c2.quiet rfl
            obtain ⟨R, B, c3⟩ := c.more c2
            obtain ⟨x', Ld, Lx, f1, f2, f3, f4, f5⟩ := c3.inpl hl ee3 (und_ne' nu)
            rw [q1] at f1
            cases f1
            have := o_set (K := K) H2 _ x [v, iv] d0 [d, di] Ld R f2 c3.top f4 (fun f a n z => n.1 (List.mem_append_right _ (f3.mem_iff.mpr (List.mem_append_left _ z)))) _ _ ee4 (fun _ H3 => E.nx σ H3) fun w H3 Lr' Ld' m => by
              obtain ⟨Lb', c'⟩ := f5 w H3 _ _ _ _ m
              exact k σ H3 Lb' p c'.drop.base0 c'.drop.ext
            exact this
/-- name op= e, whole numbers -/
def sAug (i : Nat) (g : Int → Int → Int) (f : Ev → Option (D × Ev)) : Ev → Option Out := fun env =>
  match env[i]? with
  | some (.int a) => match f env with
    | some (.int b, e1) => if i < e1.length then some (.nx (e1.set i (.int (g a b)))) else none
    | _ => none
  | _ => none
theorem SatS.aug {pn : List Nat} {te : TE} {f : Ev → Option (D × Ev)} (i : Nat) (g : Int → Int → Int) (hi : i ∉ pn) (h : SatC K te f) : SatS K pn (tAug i te (ipI g)) (sAug i g f) := by
  refine ⟨fun σ H env ts td L Lo pv hl hcl p s o e E k => ?_⟩
  unfold sAug at e
  split at e
  · rename_i a ea
    split at e
    · rename_i b e1 ee1
      split at e
      · rename_i hlt
        cases e
        obtain ⟨Lt, Le, rfl, _, h2⟩ := Dens.split hl s.dens
        obtain ⟨o0, L1, q1, q2, q3⟩ := h2.at ea
        cases (one_int q2).1
        refine ⟨_, q1, ?_⟩
        refine h.run σ H env ts td _ Lo hl hcl s _ e1 ee1 _ fun v H1 Lr Lb c => ?_
        cases (one_int c.top).1
        refine ⟨a, b, rfl, rfl, ?_⟩
        have c' := c.drop
        have st : Sta K Lo H1 (some (.int (g a b)) :: (ts ++ σ)) (.int (g a b) :: (td ++ e1)) Lb := ⟨c'.good, .int c'.base⟩
        obtain ⟨L', s', m⟩ := st.setSlot hl i hlt
        exact k _ H1 L' (p.set hi) s' (c'.ext.sub m)
      · cases e
    · cases e
  · cases e
/-- o.f = v, o a slot -/
def mFld (C : Addr) (x : Str) : D → List D → Option (D × D)
  | .ins .own C' kds, [d] => if C' = C ∧ kds.length < 1000 ∧ (kds.map (·.1)).Nodup then some (.non, .ins .own C (putKD kds x d)) else none
  | _, _ => none
abbrev rFldS (K : PySem.W.Frag) (f : Str) : V → List V → Hp → VK → Prop := fun x vs H Q => match vs with
  | [y] => ∃ a C dx fs, x = .ref a ∧ H a = some (.ins C dx fs) ∧ Cls K C ∧ NoAttr K C f ∧ fs.length < 1000 ∧ Q .non (upd H a (.ins C dx (putF f y fs)))
  | _ => False
theorem putF_putK (f : Str) (y : V) : ∀ fs : List (Str × V), (fs.map (·.1)).Nodup → putF f y fs = putK fs f y
  | [], _ => rfl
  | (g, v) :: r, nd => by
    have nd' := List.nodup_cons.mp (show (g :: r.map (·.1)).Nodup from nd)
    have ih := putF_putK f y r nd'.2
    by_cases z : g = f
    · subst z
      have st1 : r.map (fun p => if p.1 = g then (p.1, y) else p) = r := by
        have : ∀ p ∈ r, (if p.1 = g then (p.1, y) else p) = p := fun p hp => by
          rw [if_neg]
          intro e
          exact nd'.1 (by rw [← e]; exact List.mem_map_of_mem (f := Prod.fst) hp)
        rw [List.map_congr_left this, List.map_id']
      simp [putF, putK, st1]
    · unfold putK at ih ⊢
      rw [List.any_cons, decide_eq_false (show ¬ ((g, v) : Str × V).1 = f from z), Bool.false_or]
      show (if g = f then _ else _) = _
      rw [if_neg z, ih]
      split
      · rw [List.map_cons, if_neg (show ¬ ((g, v) : Str × V).1 = f from z)]
      · rfl
theorem o_fld {C : Addr} {x : Str} (cl : Cls K C) (na : NoAttr K C x) : OpM K (rFldS K x) (mFld C x) := by
  intro H N v vs d ds Ld Lt h1 h2 nd hN r' d' e Q k
  unfold mFld at e
  split at e
  · rename_i C' kds dv
    split at e
    · rename_i c
      cases e
      obtain ⟨rfl, c1, c2⟩ := c
      obtain ⟨a, dx, fs, L1, rfl, ha, rfl, ek, q⟩ := ins_own h1
      obtain ⟨y, rfl, h3⟩ := apart1 h2
      obtain ⟨L9, m9, n9, e9, q9⟩ := put_dens h3 x ek c2 q
      have hl := congrArg List.length ek
      rw [List.length_map, List.length_map] at hl
      have ef : putF x y fs = putK fs x y := putF_putK x y fs (by rw [ek]; exact c2)
      refine ⟨a, _, dx, fs, rfl, ha, cl, na, by rw [hl]; exact c1, ?_⟩
      rw [ef]
      exact k _ _ _ _ (MRes.write (Lr := []) (by rw [ha]; exact Option.some_ne_none _) nd hN q9 non0 m9 (n9 (nd_tail nd)) (fun N' h => mk_ins e9 N' h))
    · cases e
  · cases e
def sFldS (j : Nat) (C : Addr) (x : Str) (f : Ev → Option (D × Ev)) : Ev → Option Out := fun env =>
  match f env with
  | none => none
  | some (d, e1) => match e1[j]? with
    | none => none
    | some d0 => if d0.isUnd then none else match mFld C x d0 [d] with
      | none => none
      | some (_, d') => some (.nx (e1.set j d'))
theorem SatS.fldS {pn : List Nat} {C : Addr} {x : Str} {te : TE} {f : Ev → Option (D × Ev)} (cl : Cls K C) (na : NoAttr K C x) (j : Nat) (h : SatC K te f) : SatS K pn (sFld K (tVar j) te x) (sFldS j C x f) := by
  refine ⟨fun σ H env ts td L Lo pv hl hcl p s o e E k => ?_⟩
  unfold sFldS at e
  split at e
  · cases e
  · rename_i d e1 ee1
    split at e
    · cases e
    · rename_i d0 ee3
      split at e
      · cases e
      · rename_i nu
        split at e
        · cases e
        · rename_i rr d' ee4
          cases e
          refine h.run σ H env ts td L Lo hl hcl s d e1 ee1 _ fun v H1 Lr Lb c => ?_
          obtain ⟨y, Ld, Lx, f1, f2, f3, f4, f5⟩ := c.inpl hl ee3 (und_ne' nu)
          refine ⟨y, f1, ?_⟩
          have := o_fld (K := K) cl na H1 _ y [v] d0 [d] Ld Lr f2 c.top f4 (fun f a n z => n.1 (List.mem_append_right _ (f3.mem_iff.mpr (List.mem_append_left _ z)))) _ _ ee4 (fun _ H3 => E.nx σ H3) fun w H3 Lr' Ld' m => by
            obtain ⟨Lb', c'⟩ := f5 w H3 _ _ _ _ m
            exact k σ H3 Lb' p c'.drop.base0 c'.drop.ext
          exact this
end

section
variable {α : Type} {M : α → Cx} {K : PySem.W.Frag} {P : Program} {w : World} {mg : Str → Option Value} {base : Heap} {k : Nat} {pn : List Nat}
variable {e o : Expr} {es : List Expr} {p pos apos pos' tpos : Pos} {q q' : Bool} {f fx : Ev → Option (D × Ev)} {fs : Ev → Option (List D × Ev)} {ld : List (Option Nat)} {x : Str}
/-- x.m(e, ..), x a slot's own list -/
theorem se_lm {m : Str} {id : String} {r : V → List V → Hp → VK → Prop} {g : D → List D → Option (D × D)} (i : Nat) (F : Fm M P w K mg base k) (slot : Slot "list" m id) (hty : typeOf (.builtin id) = pure (.type "method_descriptor")) (hm : ∀ a, MtR (M a) id r) (o : OpM K r g) (ha : SA M K q ld (e :: es) fs)
    (hN : ∀ a, (M a).N[i]? = some x := by intro _; rfl) (hv : ∀ a, Vis (M a).env.scope x := by intro _; first | exact Or.inl rfl | exact Or.inr (Or.inl rfl) | exact Or.inr (Or.inr rfl)) (hd : (x == ("__debug__" : Str)) = false := by decide) (hcd : (x == ("__classdict__" : Str)) = false := by decide)
    (hbase : ∀ a, attributeBase (.Name x p) m (M a).env (eval (.Name x p) (M a).env) = eval (.Name x p) (M a).env := by intro _; rfl)
    (hfew : ∀ a, ((backTo pos (starEach (e :: es) (M a).env)).all (fun x => !x.1) && (backToKw pos (keywordEach [] (M a).env)).all (fun x => x.1.isSome)
      && decide ((e :: es).length + ([] : List Keyword).length + (if ([] : List Keyword).isEmpty then 0 else 1) < 30)) = true := by intro _; rfl)
    (hline : (apos.endLine == pos.line) = true := by rfl) (hs : ∀ a, starEach (e :: es) (M a).env = (false, eval e (M a).env) :: starEach es (M a).env := by intro _; rfl) (hplain : ∀ a, (backTo pos (starEach es (M a).env)).any (·.1) = false := by intro _; rfl) :
    SE M K false (.Call (.Attribute (.Name x p) m apos) (e :: es) [] pos) (eInpl i okL g fs) :=
  let ⟨t, h1, h2⟩ := ha
  ⟨tBM K "list" r (tVar i) t, fun a => by have := pe_bm (X := M a) (apos := apos) (cpos := pos) PySem.F.plainAttrs_list slot hty (hm a) (pe_var (pos := p) (hN a) (hv a) hd hcd) (h1 a) (hbase a) (hfew a) hline (hs a) (hplain a); rw [F.K a] at this; exact this, Sat.inpl i h2 o okL_ty⟩
theorem mtm_r {X : Cx} {id : String} {r : V → List V → Hp → VK → Prop} (h : MtM X id r) : MtR X id r := h
theorem ss_setI {j : Nat} {i : Expr} (F : Fm M P w K mg base k) (he : SEC M K e f) (hx : SE M K true i fx)
    (hN : ∀ a, (M a).N[j]? = some x := by intro _; rfl) (hv : ∀ a, Vis (M a).env.scope x := by intro _; first | exact Or.inl rfl | exact Or.inr (Or.inl rfl) | exact Or.inr (Or.inr rfl)) (hd : (x == ("__debug__" : Str)) = false := by decide) (hcd : (x == ("__classdict__" : Str)) = false := by decide)
    (ha : ∀ a v, assign (.Subscript (.Name x p) i tpos) (M a).env v = (do
      let ov ← holding [v] (eval (.Name x p) (M a).env)
      let iv ← holding [v, ov] (eval i (M a).env)
      standAt tpos
      holding [v, ov, iv] (setItem ov iv v)
      release [v, ov, iv] []) := by intro _ _; rfl)
    (hs : ∀ a, swapsWithSole [.Subscript (.Name x p) i tpos] e pos.line (M a).env = pure false := by intro _; rfl) (hw : ∀ a, swappedStores [.Subscript (.Name x p) i tpos] e (M a).env = pure none := by intro _; rfl) (h1 : ∀ a, (assignEach [.Subscript (.Name x p) i tpos] (M a).env).map (·.2) = [assign (.Subscript (.Name x p) i tpos) (M a).env] := by intro _; rfl) :
    SS M K pn (.Assign [.Subscript (.Name x p) i tpos] e pos) (sSetI j f fx) :=
  let ⟨t, a, b⟩ := he; let ⟨u, c, d⟩ := hx
  ⟨_, fun y => ps_asg (a y) (pg_sub (pe_var (pos := p) (hN y) (hv y) hd hcd) (c y) (set_LD (F.u1 y)) (ha y)) (hs y) (hw y) (h1 y), SatS.setI j b d⟩
theorem ss_aug {i : Nat} {op : Operator} {g : Int → Int → Int} (ho : ∀ a, PIp (M a) op (ipI g)) (he : SEC M K e f) (hi : i ∉ pn := by decide) (hN : ∀ a, (M a).N.Nodup) (hx : ∀ a, (M a).N[i]? = some x := by intro _; rfl) (hl : ∀ a, Loc (M a).env.scope x := by intro _; first | exact Or.inl rfl | exact Or.inr rfl)
    (hf : ∀ a, (M a).fn x = true ∨ (M a).env.scope.names.lookup x = some .local := by intro _; first | exact .inl rfl | exact .inr rfl) : SS M K pn (.AugAssign (.Name x pos') op e pos) (sAug i g f) :=
  let ⟨t, a, b⟩ := he; ⟨_, fun y => ps_aug (hN y) (hx y) (hl y) (a y) (ho y) (hf y), .aug i g hi b⟩
theorem ss_fld {j : Nat} {C : Addr} {y : Str} (hK : ∀ a, (M a).K = K) (cl : Cls K C) (na : NoAttr K C y) (he : SEC M K e f) (hN : ∀ a, (M a).N[j]? = some x := by intro _; rfl) (hv : ∀ a, Vis (M a).env.scope x := by intro _; first | exact Or.inl rfl | exact Or.inr (Or.inl rfl) | exact Or.inr (Or.inr rfl)) (hd : (x == ("__debug__" : Str)) = false := by decide) (hcd : (x == ("__classdict__" : Str)) = false := by decide)
    (hs : ∀ a, swapsWith e (some (.Attribute (.Name x p) y pos')) pos.line (M a).env = pure false := by intro _; rfl) : SS M K pn (.Assign [.Attribute (.Name x p) y pos'] e pos) (sFldS j C y f) :=
  let ⟨t, a, b⟩ := he; ⟨sFld K (tVar j) t y, fun z => by have := ps_fld (X := M z) (f := y) (pos := pos) (pos' := pos') (pe_var (pos := p) (hN z) (hv z) hd hcd) (a z) (hs z); rw [hK z] at this; exact this, SatS.fldS cl na j b⟩
section
variable (F : Fm M P w K mg base k) (i : Nat) (ha : SA M K q ld (e :: es) fs)
include F ha
theorem se_append (hN : ∀ a, (M a).N[i]? = some x := by intro _; rfl) (hv : ∀ a, Vis (M a).env.scope x := by intro _; first | exact Or.inl rfl | exact Or.inr (Or.inl rfl) | exact Or.inr (Or.inr rfl)) (hd : (x == ("__debug__" : Str)) = false := by decide) (hcd : (x == ("__classdict__" : Str)) = false := by decide)
    (hbase : ∀ a, attributeBase (.Name x p) "append" (M a).env (eval (.Name x p) (M a).env) = eval (.Name x p) (M a).env := by intro _; rfl)
    (hfew : ∀ a, ((backTo pos (starEach (e :: es) (M a).env)).all (fun x => !x.1) && (backToKw pos (keywordEach [] (M a).env)).all (fun x => x.1.isSome)
      && decide ((e :: es).length + ([] : List Keyword).length + (if ([] : List Keyword).isEmpty then 0 else 1) < 30)) = true := by intro _; rfl)
    (hline : (apos.endLine == pos.line) = true := by rfl) (hs : ∀ a, starEach (e :: es) (M a).env = (false, eval e (M a).env) :: starEach es (M a).env := by intro _; rfl) (hplain : ∀ a, (backTo pos (starEach es (M a).env)).any (·.1) = false := by intro _; rfl) :
    SE M K false (.Call (.Attribute (.Name x p) "append" apos) (e :: es) [] pos) (eInpl i okL mAppend fs) := se_lm i F PySem.F.slot_list_append PySem.F.type_list_append (fun _ => mt_append) o_append ha hN hv hd hcd hbase hfew hline hs hplain
theorem se_extend (hN : ∀ a, (M a).N[i]? = some x := by intro _; rfl) (hv : ∀ a, Vis (M a).env.scope x := by intro _; first | exact Or.inl rfl | exact Or.inr (Or.inl rfl) | exact Or.inr (Or.inr rfl)) (hd : (x == ("__debug__" : Str)) = false := by decide) (hcd : (x == ("__classdict__" : Str)) = false := by decide)
    (hbase : ∀ a, attributeBase (.Name x p) "extend" (M a).env (eval (.Name x p) (M a).env) = eval (.Name x p) (M a).env := by intro _; rfl)
    (hfew : ∀ a, ((backTo pos (starEach (e :: es) (M a).env)).all (fun x => !x.1) && (backToKw pos (keywordEach [] (M a).env)).all (fun x => x.1.isSome)
      && decide ((e :: es).length + ([] : List Keyword).length + (if ([] : List Keyword).isEmpty then 0 else 1) < 30)) = true := by intro _; rfl)
    (hline : (apos.endLine == pos.line) = true := by rfl) (hs : ∀ a, starEach (e :: es) (M a).env = (false, eval e (M a).env) :: starEach es (M a).env := by intro _; rfl) (hplain : ∀ a, (backTo pos (starEach es (M a).env)).any (·.1) = false := by intro _; rfl) :
    SE M K false (.Call (.Attribute (.Name x p) "extend" apos) (e :: es) [] pos) (eInpl i okL mExtend fs) := se_lm i F PySem.F.slot_list_extend PySem.F.type_list_extend (fun _ => mt_extend) o_extend ha hN hv hd hcd hbase hfew hline hs hplain
end
end
end TL

set_option Elab.async false
set_option linter.all false
set_option maxRecDepth 100000
/-! TL16: dict displays; a slot that changes no more; defs from the top's facts. -/
namespace TL
open PySem PySem.Spec PyProof.Rows L2

section
variable {K : PySem.W.Frag}
/-! ### {k: v, ..} -/
structure SatP (K : PySem.W.Frag) (q : Bool) (ks : List Key) (trs : List (TE × TE)) (f : Ev → Option (List D × Ev)) : Prop where
  run : ∀ (σ : L2.St) (H : Hp) (env : Ev) (ts : List (Option V)) (td : List D) (L : List Addr) (Lo : Lent), ts.length = td.length → Sta K Lo H (ts ++ σ) (td ++ env) L → ∀ ds env', f env = some (ds, env') → ∀ Q : List (V × V) → Hp → Prop,
    (∀ vs H' Lr Lb, Came K Lo q H (ts ++ σ) td env L H' vs ds env' Lr Lb → vs.length = ks.length → Q ((ks.map kV).zip vs) H') → tPairs trs σ H Q
theorem SatP.nil {q : Bool} : SatP K q [] [] aNil := ⟨fun σ H env ts td L Lo hl s d env' e Q k => by
  cases e
  exact k [] H [] L ⟨s.good, .nil, s.dens, Ext.refl _ _, fun _ => ⟨rfl, Still.refl _, rfl, fun _ h => by cases h⟩⟩ rfl⟩
theorem SatP.cons {q q' : Bool} {k : Key} {ks : List Key} {tk tv : TE} {trs : List (TE × TE)} {f : Ev → Option (D × Ev)} {fs : Ev → Option (List D × Ev)} (hk : ∀ σ H Q, Q (kV k) H → tk σ H Q) (h : Sat K q tv f) (h' : SatP K q' ks trs fs) : SatP K (q && q') (k :: ks) ((tk, tv) :: trs) (aCons f fs) := by
  refine ⟨fun σ H env ts td L Lo hl s ds env' e Q kq => ?_⟩
  unfold aCons at e
  cases e1 : f env with
  | none => rw [e1] at e; cases e
  | some p =>
    obtain ⟨d, en1⟩ := p
    simp only [e1] at e
    cases e2 : fs en1 with
    | none => simp only [e2] at e; cases e
    | some p2 =>
      obtain ⟨ds2, en2⟩ := p2
      simp only [e2] at e
      obtain ⟨rfl, rfl⟩ := Prod.mk.inj (Option.some.inj e)
      show tk σ H _
      refine hk _ _ _ ?_
      refine h.run σ H env ts td L Lo hl s d en1 e1 _ fun v H1 Lr Lb c => ?_
      refine h'.run σ H1 en1 (some v :: ts) (d :: td) (Lr ++ Lb) Lo (by simp [hl]) c.sta ds2 en2 e2 _ fun vs H2 Mr Mb c2 hv => ?_
      obtain ⟨R, B, c3⟩ := c.more c2
      exact kq (v :: vs) H2 R B c3 (by rw [List.length_cons, List.length_cons, hv])
theorem mergeK_nd : ∀ (more kvs : List (Key × V)), ((kvs ++ more).map (·.1)).Nodup → mergeK kvs more = kvs ++ more
  | [], kvs, _ => by rw [List.append_nil]; rfl
  | (k, v) :: r, kvs, h => by
    show mergeK (putK kvs k v) r = _
    have e : putK kvs k v = kvs ++ [(k, v)] := by
      unfold putK
      rw [if_neg]
      intro z
      obtain ⟨p, hp, e⟩ := List.any_eq_true.mp z
      rw [List.map_append] at h
      exact (List.nodup_append.mp h).2.2 p.1 (List.mem_map_of_mem (f := Prod.fst) hp) k (by simp) (of_decide_eq_true e)
    rw [e, mergeK_nd r (kvs ++ [(k, v)]) (by rw [List.append_assoc]; exact h), List.append_assoc]
    rfl
def eDisp (ks : List Key) (fs : Ev → Option (List D × Ev)) : Ev → Option (D × Ev) := fun env => match fs env with
  | some (ds, e) => some (.dK .own (ks.zip ds), e)
  | none => none
theorem Sat.disp {q : Bool} {ks : List Key} {trs : List (TE × TE)} {fs : Ev → Option (List D × Ev)} (nk : ks.Nodup) (h15 : ks.length ≤ 15) (h : SatP K q ks trs fs) : Sat K q (tDisp trs) (eDisp ks fs) := by
  refine ⟨fun σ H env ts td L Lo hl s d env' e Q kq => ?_⟩
  unfold eDisp at e
  split at e
  · rename_i ds e2 e1
    obtain ⟨rfl, rfl⟩ := Prod.mk.inj (Option.some.inj e)
    intro p hp
    have c0 : Came K Lo true H (ts ++ σ) td env L (upd H p (.dK [])) [.ref p] [.dK .own []] env [p] L := by
      have c00 : Came K Lo true H (ts ++ σ) td env L H [] [] env [] L := ⟨by simpa using s.good, .nil, s.dens, Ext.refl _ _, fun _ => ⟨rfl, Still.refl _, rfl, fun _ h => (List.not_mem_nil h).elim⟩⟩
      exact c00.op (Res.newD (kvs := []) (kds := []) (L1 := []) List.nodup_nil rfl .nil (List.Sublist.refl _) hp)
    refine h.run σ (upd H p (.dK [])) env (some (.ref p) :: ts) (.dK .own [] :: td) _ Lo (by simp [hl]) c0.sta ds e2 e1 _ fun vs H2 Mr Mb c2 hv => ?_
    obtain ⟨R, B, c⟩ := c0.more c2
    have c := c.q2 (q' := q) fun z => by rw [z]; rfl
    obtain ⟨R1, R2, rfl, t1, t2⟩ := Dens.cons (o := some (.ref p)) (σ := so vs) (d := .dK .own []) (ds := ds) c.top
    obtain ⟨a, kv0, L1, ea, hpa, rfl, ek, qn⟩ := dK_own t1
    cases ea
    have kv0n : kv0 = [] := List.map_eq_nil_iff.mp ek
    subst kv0n
    have hl1 : L1 = [] := (one_nil (show Dens K H2 _ (sv []) [] L1 from qn)).2
    subst hl1
    have hvd := len_so t2
    -- the pairs
    have zf : ∀ {α : Type} (ks : List Key) (xs : List α), xs.length = ks.length → (ks.zip xs).map Prod.fst = ks := fun ks xs h => map_zip_fst h.symm
    have zs : ∀ {α : Type} (ks : List Key) (xs : List α), xs.length = ks.length → (ks.zip xs).map Prod.snd = xs := fun ks xs h => map_zip_snd h.symm
    have hds : ds.length = ks.length := hvd.symm.trans hv
    refine ⟨hpa, ks.zip vs, ?_, by rw [List.length_zip]; omega, ?_⟩
    · have : ∀ (ks : List Key) (vs : List V), (ks.map kV).zip vs = (ks.zip vs).map fun kv => (kV kv.1, kv.2) := fun ks vs => by
        rw [List.zip_map_left]; rfl
      exact this ks vs
    · rw [mergeK_nd _ [] (by rw [List.nil_append]; show ((ks.zip vs).map Prod.fst).Nodup; rw [zf ks vs hv]; exact nk), List.nil_append]
      have nd0 := List.nodup_append.mp c.good.nd
      have nd1 := List.nodup_cons.mp (show (p :: R2).Nodup from nd0.1)
      have npb : p ∉ B := fun z => nd0.2.2 p (List.mem_cons_self ..) p z rfl
      have same : ∀ a, a ≠ p → upd H2 p (.dK (ks.zip vs)) a = H2 a := fun a h => upd_ne h
      have kn : ∀ f a, Nw (([p] ++ R2) ++ B) Lo f a → H2 a ≠ none → Nw ((p :: R2) ++ B) Lo f a ∧ Keep H2 (upd H2 p (.dK (ks.zip vs))) a := fun f a n _ => ⟨n, Keep.of (same a fun z => n.1 (by rw [z]; exact List.mem_cons_self ..))⟩
      have x2 : Ext (([p] ++ R2) ++ B) H2 ((p :: R2) ++ B) (upd H2 p (.dK (ks.zip vs))) := ⟨fun a _ n => same a fun z => n (by rw [z]; exact List.mem_cons_self ..), fun a ha => .inl ha, fun a h => by
        by_cases z : a = p
        · rw [z, upd_same]; exact Option.some_ne_none _
        · rw [same a z]; exact h⟩
      refine kq (.ref p) _ (p :: R2) B ⟨⟨c.good.nd, c.good.no, fun f a lo => ?_, c.good.nov⟩, ?_, c.base.mono (fun a ha => same a fun z => npb (by rw [← z]; exact ha)) kn, c.ext.trans x2, fun qq => ?_⟩
      · have nz : a ≠ p := fun z => c.good.no f a (by rw [z]; exact List.mem_cons_self ..) lo
        rw [same a nz]; exact c.good.lent f a lo
      · have hq := t2.mono (H' := upd H2 p (.dK (ks.zip vs))) (N' := Nw ((p :: R2) ++ B) Lo) (fun a ha => same a fun z => nd1.1 (by rw [← z]; exact ha)) kn
        refine mk_dK ?_ _ ?_
        · show (ks.zip vs).map Prod.fst = (ks.zip ds).map Prod.fst
          rw [zf ks vs hv, zf ks ds hds]
        · have e1 : sv (ks.zip vs) = so vs := by
            show ((ks.zip vs).map fun p => some p.2) = vs.map some
            rw [← zs ks vs hv, List.map_map, zs ks vs hv]; rfl
          have e2 : (ks.zip ds).map (·.2) = ds := zs ks ds hds
          rw [e1, e2]
          exact hq
      · obtain ⟨e3, st, l3, fr⟩ := c.quiet qq
        refine ⟨e3, fun a ha => ?_, l3, fr⟩
        rw [same a fun z => ha (by rw [z]; exact hp)]
        exact st a ha
  · cases e
/-- an empty dict, for keys that are numbers or texts; for keys that are tuples -/
def gDNewK (ds : List D) : Option D := match ds with
    | [] => some (.dK .own [])
    | _ => none
theorem v_dnewK : OpN K (fun vs H Q => ∀ p, H p = none → Q (.ref p) (upd H p (.dK []))) gDNewK := by
  intro H N vs ds Lt hd nd d e Q k
  unfold gDNewK at e
  split at e
  · cases e
    exact fun p hp => k _ _ _ (Res.newD (kvs := []) (kds := []) (L1 := []) nd rfl .nil (List.nil_sublist _) hp)
  · cases e
/-! ### a slot changes no more -/
def frzAt (i : Nat) (env : Ev) : Ev := env.set i (env.getD i .und).frz
theorem frz_und {d : D} : d.frz = .und → d = .und := by cases d <;> intro h <;> first | rfl | cases h
theorem Dens.frzAt {H : Hp} {N : Fl → Addr → Prop} : ∀ {σ : List (Option V)} {env : Ev} {L : List Addr}, Dens K H N σ env L → L.Nodup → ∀ i : Nat, ∃ M L9, L.Perm (M ++ L9) ∧ ∀ N' : Fl → Addr → Prop, (∀ f a, N f a → N' f a) → (∀ a ∈ M, N' .frz a) → Dens K H N' σ (TL.frzAt i env) L9
  | [], [], _, h, _, i => ⟨[], _, List.Perm.refl _, fun N' h1 _ => h.know fun f a n _ => h1 f a n⟩
  | [], _ :: _, _, h, _, _ => by cases h.length
  | _ :: _, [], _, h, _, _ => by cases h.length
  | o :: σ, d :: env, L, h, nd, 0 => by
    obtain ⟨L1, L2, rfl, h1, h2⟩ := h.cons
    refine ⟨L1, L2, List.Perm.refl _, fun N' k1 k2 => ?_⟩
    have t := Dens.turn (g := zf) (N' := N') rfl (fun f hf => by cases f <;> first | rfl | cases hf) h1 (.inr ⟨rfl, k2⟩)
      (fun f a hno n _ => by
        cases f with
        | own => exact absurd rfl hno
        | frz => exact k1 _ a n
        | pv => exact k1 _ a n
        | view => exact k1 _ a n
        | ext => exact k1 _ a n) (fun a n _ => k1 _ a n)
    have t' : Dens K H N' [o] [d.frz] [] := t
    exact t'.put (h2.know fun f a n _ => k1 f a n)
  | o :: σ, d :: env, L, h, nd, i + 1 => by
    obtain ⟨L1, L2, rfl, h1, h2⟩ := h.cons
    obtain ⟨M, L9, pm, k⟩ := Dens.frzAt h2 (List.nodup_append.mp nd).2.1 i
    refine ⟨M, L1 ++ L9, ?_, fun N' k1 k2 => (h1.know fun f a n _ => k1 f a n).put (k N' k1 k2)⟩
    exact (List.Perm.append_left L1 pm).trans (by rw [← List.append_assoc, ← List.append_assoc]; exact List.Perm.append_right _ List.perm_append_comm)
def sFz (i : Nat) (f : Ev → Option Out) : Ev → Option Out := fun env => f (frzAt i env)
theorem SatS.fz {pn : List Nat} {t : TS} {f : Ev → Option Out} (i : Nat) (h : SatS K pn t f) : SatS K pn t (sFz i f) := by
  refine ⟨fun σ H env ts td L Lo pv hl hcl p s o e E k => ?_⟩
  obtain ⟨Lt, Le, rfl, h1, h2⟩ := Dens.split hl s.dens
  have nd := List.nodup_append.mp s.good.nd
  obtain ⟨M, L9, pm, kk⟩ := h2.frzAt nd.2.1 i
  have pm2 : (Lt ++ Le).Perm (M ++ (Lt ++ L9)) := (List.Perm.append_left Lt pm).trans (by rw [← List.append_assoc, ← List.append_assoc]; exact List.Perm.append_right _ List.perm_append_comm)
  have n2 := List.nodup_append.mp (pm2.nodup_iff.mp s.good.nd)
  have mem : ∀ a ∈ Lt ++ L9, a ∈ Lt ++ Le := fun a ha => pm2.mem_iff.mpr (List.mem_append_right _ ha)
  have kn : ∀ f a, Nw (Lt ++ Le) Lo f a → Nw (Lt ++ L9) Lo f a := nw_sub mem
  have s' : Sta K Lo H (ts ++ σ) (td ++ frzAt i env) (Lt ++ L9) := ⟨s.good.sub n2.2.1 mem, (h1.know fun f a n _ => kn f a n).app (kk _ kn fun a ha => ⟨fun z => n2.2.2 a ha a z rfl, fun lo => s.good.no _ a (pm2.mem_iff.mpr (List.mem_append_left _ ha)) lo⟩)⟩
  exact h.run σ H _ ts td (Lt ++ L9) Lo pv hl hcl p s' o e E (k.step ((Ext.refl _ _).sub mem))
theorem SatS.never {pn : List Nat} : SatS K pn tNever fun _ => none := ⟨fun σ H env ts td L Lo pv hl hcl p s o e E k => by cases e⟩
/-- a test chain a < b < c -/
def eChain (g g' : List D → Option D) (fa fb fc : Ev → Option (D × Ev)) : Ev → Option (D × Ev) := fun env =>
  match fa env with
  | none => none
  | some (a, e1) => match fb e1 with
    | none => none
    | some (b, e2) => match g [a, b] with
      | some (.bl false) => some (.bl false, e2)
      | some (.bl true) => match fc e2 with
        | none => none
        | some (c, e3) => match g' [b, c] with
          | some r => some (r, e3)
          | none => none
      | _ => none
end

section
variable {α : Type} {M : α → Cx} {K : PySem.W.Frag} {P : Program} {w : World} {mg : Str → Option Value} {base : Heap} {k : Nat} {pn : List Nat}
variable {e : Expr} {st : Stmt} {rest : List Stmt} {pos : Pos} {q q' : Bool} {f : Ev → Option (D × Ev)} {fs : Ev → Option (List D × Ev)}
def SP2 (M : α → Cx) (K : PySem.W.Frag) (q : Bool) (pos : Pos) (ks : List Key) (keys : List (Option Expr)) (values : List Expr) (f : Ev → Option (List D × Ev)) : Prop := ∃ trs, (∀ a, PPs (M a) pos keys values trs) ∧ SatP K q ks trs f
theorem sp_nil : SP2 M K q pos [] [] [] aNil := ⟨[], fun _ => pps_nil, .nil⟩
theorem sp_str {ks : List Key} {keys : List (Option Expr)} {values : List Expr} {z : Str} {j : Nat} {p : Pos} (h : SE M K q e f) (h' : SP2 M K q' pos ks keys values fs) : SP2 M K (q && q') pos (.inr z :: ks) (some (.Constant (.str z) j p) :: keys) (e :: values) (aCons f fs) :=
  let ⟨t, a, b⟩ := h; let ⟨ts, c, d⟩ := h'; ⟨(tC (.str z), t) :: ts, fun x => pps_cons pe_str (a x) (c x), SatP.cons (fun _ _ _ h => h) b d⟩
theorem sp_int {ks : List Key} {keys : List (Option Expr)} {values : List Expr} {z : Int} {j : Nat} {p : Pos} (h : SE M K q e f) (h' : SP2 M K q' pos ks keys values fs) : SP2 M K (q && q') pos (.inl z :: ks) (some (.Constant (.int z) j p) :: keys) (e :: values) (aCons f fs) :=
  let ⟨t, a, b⟩ := h; let ⟨ts, c, d⟩ := h'; ⟨(tC (.int z), t) :: ts, fun x => pps_cons pe_int (a x) (c x), SatP.cons (fun _ _ _ h => h) b d⟩
theorem se_disp {ks : List Key} {keys : List (Option Expr)} {values : List Expr} (h : SP2 M K q pos ks keys values fs) (nk : ks.Nodup := by decide +kernel) (hall : keys.all (·.isSome) = true := by rfl) (hl : keys.length = values.length := by rfl) (h0 : keys ≠ [] := by exact fun z => by cases z) (h15 : keys.length ≤ 15 := by decide) (hk : ks.length ≤ 15 := by decide) : SE M K q (.Dict keys values pos) (eDisp ks fs) :=
  let ⟨trs, a, b⟩ := h; ⟨tDisp trs, fun x => pe_disp (a x) hall hl h0 h15, Sat.disp nk hk b⟩
theorem se_dnewK : SE M K true (.Dict [] [] pos) (eOp gDNewK aNil) := ⟨tDNewK, fun _ => pe_dnewK, Sat.imp (Sat.op (SatA.nil (q := true)) v_dnewK) fun σ H Q h => h⟩
theorem SS.fz {g : Ev → Option Out} (i : Nat) (h : SS M K pn st g) : SS M K pn st (sFz i g) := let ⟨t, a, b⟩ := h; ⟨t, a, b.fz i⟩
theorem sb_never {sts : List Stmt} : SB M K pn sts fun _ => none := ⟨tNever, fun _ => pss_never, .never⟩

/-! ### defs by the facts of the top -/
structure DefFct (K : PySem.W.Frag) (mg : Str → Option Value) (x : Str) (st : Stmt) (ps : List Str) : Prop where
  ex : ∃ (ff : Addr) (fd : FuncData), mg x = some (.ref ff) ∧ PySem.W.keepIn K (.ref ff) = true ∧ Binds K fd ps [] ∧ L2.Fun K x x st ff fd
abbrev FamOf (P : Program) (w : World) (K : PySem.W.Frag) (mg : Str → Option Value) (base : Heap) (N : List Str) (x : Str) (st : Stmt) (ff : Addr) (cdv : Value) {β : Type} (mk : β → Around × List PySem.Env × Shared × Hp × XK) : β → Cx := fun b => (cxOf CX0 P w K mg base N x (defScope st) ff cdv (mk b).1 (mk b).2.1 (mk b).2.2.1 (mk b).2.2.2.1 (mk b).2.2.2.2).nox
theorem DefFct.def {x : Str} {ps N : List Str} {n : Nat} {body : Ev → Option Out} (D : DefFct K mg x st ps) (S : FnScope N ps (defScope st)) (hn : N.length = n) (hpn : ∀ i ∈ pn, i < ps.length)
    (hb : ∀ (ff : Addr) (cdv : Value) (β : Type) (mk : β → Around × List PySem.Env × Shared × Hp × XK) (FM : Fm (FamOf P w K mg base N x st ff cdv mk) P w K mg base k), SB0 (FamOf P w K mg base N x st ff cdv mk) K pn (defBody st) body) :
    Def P w K mg base (k + 1) x ps.length (fnD n ps.length pn body) :=
  let ⟨ff, fd, h1, h2, h3, h4⟩ := D.ex
  ⟨⟨ff, fd, ps, h1, h2, h3, fn_ok h4 S hn hpn fun cdv β mk hr => hb ff cdv β mk ⟨fun _ => rfl, fun _ => rfl, fun _ => rfl, fun _ => rfl, fun _ => rfl, fun _ => rfl, hr⟩⟩⟩
end
end TL

set_option Elab.async false
set_option linter.all false
set_option maxRecDepth 100000
/-! TL17: the end of a law: from what its def computes on trees to the statement. -/
namespace TL
open PySem PySem.Spec PyProof.Rows L2

/-- the script as a tree -/
def scr (ns : List Int) : D := .lst .ext (ns.map .int)
theorem dens_ints {K : PySem.W.Frag} {H : Hp} {N : Fl → Addr → Prop} : ∀ ns : List Int, Dens K H N (so (ns.map V.int)) (ns.map D.int) []
  | [] => .nil
  | _ :: r => .int (dens_ints r)
theorem sta_scr {K : PySem.W.Frag} {H : Hp} {a : Addr} {ns : List Int} (hO : Only H) (hS : SqL K H a (ns.map V.int)) : Sta K (fun _ _ => False) H (so [.ref a]) [scr ns] [] := by
  refine ⟨⟨List.nodup_nil, fun f a h => (List.not_mem_nil h).elim, fun f a h => False.elim h, fun a h => h⟩, ?_⟩
  rcases hS with (h | ⟨o, h⟩) | h
  · rcases hO a with z | ⟨o, xs, z⟩
    · rw [z] at h; cases h
    · rw [z] at h; cases h
  · exact .lstX h ⟨by simp, fun z => z⟩ (dens_ints ns) .nil
  · exact .lstE (.inr h) (dens_ints ns) .nil
/-- THE END: the def computes F; F tells True -/
theorem ends {l : PySem.W.OpenLaw} {k : Nat} {q : Program} {loose : List Str} {XP : (Str → Option Value) → Heap → Prop} {YP : World → Heap → Prop} {d : DefRec} {K : Params → PySem.W.Frag} {x : Str} {F : List D → Option (D × List D)}
    (hn : l.most = some 63) (hdf : d.params.defaults = []) (hr : Room k callerA)
    (hY : ∀ (w : World) (h : Heap), YP w h → (K w.params).In h)
    (hF : ∀ (w : World) (mg : Str → Option Value) (fa : Addr) (h : Heap), (K w.params).In h → h.Ns mainGlobals mg → mg d.name = some (.ref fa) →
      ∃ fd : FuncData, (∀ (s : Shared) (u : Value), BindsTo s fd ⟨[u], []⟩ [(x, u)]) ∧
        ∀ base : Heap, (K w.params).In base → base.Ns mainGlobals mg → FnOk l.prog w (K w.params) mg base CX0 k fa fd [x] (spF (K w.params) 1 F))
    (pl : ∀ ns : List Int, ns.length ≤ 63 → (∀ z ∈ ns, Builtin.Int.intBits z ≤ 1048576) → ∃ ds', F [scr ns] = some (.bl true, ds')) :
    PySem.W.WalkO q loose XP YP l.row.toRowW d [] (fun f vs => PySem.call f vs) := by
  refine L2.walk_ofB (K := K) (CX := fun _ => CX0) (sp := fun w => spF (K w.params) 1 F) hn (by decide) hdf hr hY hF (fun w H a ns h1 hb h2 h3 => ?_) fun _ H s e s' h => h
  obtain ⟨ds', e⟩ := pl ns h1 hb
  refine ⟨[scr ns], [], fun _ _ => False, .bl true, ds', rfl, sta_scr h2 h3, by simp [scr, D.closed, D.allF, allFs_all], e, fun v H' L' _ st => ?_⟩
  have := st.dens
  cases this
  rfl

/-! ### a slot is known no more -/
def sWp (i : Nat) (f : Ev → Option Out) : Ev → Option Out := fun env => f (env.set i .und)
theorem SatS.wp {K : PySem.W.Frag} {pn : List Nat} {t : TS} {f : Ev → Option Out} (i : Nat) (h : SatS K pn t f) : SatS K pn t (sWp i f) := by
  refine ⟨fun σ H env ts td L Lo pv hl hcl p s o e E k => ?_⟩
  unfold sWp at e
  cases hi : env[i]? with
  | none =>
    have : env.set i .und = env := List.set_eq_of_length_le (by simpa using hi)
    rw [this] at e
    exact h.run σ H _ ts td L Lo pv hl hcl p s o e E k
  | some d =>
    obtain ⟨Lt, Le, rfl, h1, h2⟩ := Dens.split hl s.dens
    obtain ⟨_, M, L9, _, pm, _, q⟩ := h2.take hi
    have pm2 : (Lt ++ Le).Perm (M ++ (Lt ++ L9)) := (List.Perm.append_left Lt pm).trans (by rw [← List.append_assoc, ← List.append_assoc]; exact List.Perm.append_right _ List.perm_append_comm)
    have n2 := List.nodup_append.mp (pm2.nodup_iff.mp s.good.nd)
    have mem : ∀ a ∈ Lt ++ L9, a ∈ Lt ++ Le := fun a ha => pm2.mem_iff.mpr (List.mem_append_right _ ha)
    have kn : ∀ f a, Nw (Lt ++ Le) Lo f a → Nw (Lt ++ L9) Lo f a := nw_sub mem
    have s' : Sta K Lo H (ts ++ σ) (td ++ env.set i .und) (Lt ++ L9) := ⟨s.good.sub n2.2.1 mem, (h1.know fun f a n _ => kn f a n).app (q.know fun f a n _ => kn f a n)⟩
    exact h.run σ H _ ts td (Lt ++ L9) Lo pv hl hcl p s' o e E (k.step ((Ext.refl _ _).sub mem))
theorem SS.wp {α : Type} {M : α → Cx} {K : PySem.W.Frag} {pn : List Nat} {st : Stmt} {g : Ev → Option Out} (i : Nat) (h : SS M K pn st g) : SS M K pn st (sWp i g) := let ⟨t, a, b⟩ := h; ⟨t, a, b.wp i⟩
end TL

set_option Elab.async false
set_option linter.all false
set_option maxRecDepth 100000
/-! TL18: plain laws: what the combinators tell of trees in common shapes. -/
namespace TL
open PySem PySem.Spec PyProof.Rows L2

/-- a tree without a flag -/
def D.inert (d : D) : Prop := (∀ g, D.mapF g d = d) ∧ (∀ p, D.allF p d = true) ∧ d.isUnd = false
theorem inert_int (i : Int) : (D.int i).inert := ⟨fun _ => rfl, fun _ => rfl, rfl⟩
theorem inert_str (i : Str) : (D.str i).inert := ⟨fun _ => rfl, fun _ => rfl, rfl⟩
theorem inert_bl (i : Bool) : (D.bl i).inert := ⟨fun _ => rfl, fun _ => rfl, rfl⟩
theorem inert_non : D.non.inert := ⟨fun _ => rfl, fun _ => rfl, rfl⟩
theorem inert_mapFs {xs : List D} (h : ∀ x ∈ xs, x.inert) (g : Fl → Fl) : D.mapFs g xs = xs := by
  rw [mapFs_map]
  exact (List.map_congr_left fun x hx => (h x hx).1 g).trans (List.map_id' xs)
theorem inert_allFs {xs : List D} (h : ∀ x ∈ xs, x.inert) (p : Fl → Bool) : D.allFs p xs = true := by
  rw [allFs_all, List.all_eq_true]
  exact fun x hx => (h x hx).2.1 p
theorem inert_tup {xs : List D} (h : ∀ x ∈ xs, x.inert) : (D.tup xs).inert := ⟨fun g => by rw [D.mapF, inert_mapFs h], fun p => by rw [D.allF, inert_allFs h], rfl⟩
theorem inert_map {α : Type} {f : α → D} (h : ∀ a, (f a).inert) (xs : List α) : ∀ x ∈ xs.map f, x.inert := fun x hx => by
  obtain ⟨a, _, rfl⟩ := List.mem_map.mp hx
  exact h a

/-! flags of common shapes -/
@[simp] theorem mapF_int (g : Fl → Fl) (i : Int) : D.mapF g (.int i) = .int i := rfl
@[simp] theorem mapF_str (g : Fl → Fl) (i : Str) : D.mapF g (.str i) = .str i := rfl
@[simp] theorem mapF_bl (g : Fl → Fl) (i : Bool) : D.mapF g (.bl i) = .bl i := rfl
@[simp] theorem mapF_non (g : Fl → Fl) : D.mapF g .non = .non := rfl
@[simp] theorem mapF_und (g : Fl → Fl) : D.mapF g .und = .und := rfl
@[simp] theorem mapF_ty (g : Fl → Fl) (n : String) : D.mapF g (.ty n) = .ty n := rfl
@[simp] theorem mapF_tup (g : Fl → Fl) (xs : List D) : D.mapF g (.tup xs) = .tup (D.mapFs g xs) := rfl
@[simp] theorem mapF_lst (g : Fl → Fl) (f : Fl) (xs : List D) : D.mapF g (.lst f xs) = .lst (g f) (D.mapFs g xs) := rfl
@[simp] theorem mapF_dK (g : Fl → Fl) (f : Fl) (xs : List (Key × D)) : D.mapF g (.dK f xs) = .dK (g f) (D.mapFk g xs) := rfl
@[simp] theorem mapFs_nil (g : Fl → Fl) : D.mapFs g [] = [] := rfl
@[simp] theorem mapFs_cons (g : Fl → Fl) (x : D) (r : List D) : D.mapFs g (x :: r) = D.mapF g x :: D.mapFs g r := rfl
@[simp] theorem mapFk_nil (g : Fl → Fl) : D.mapFk g [] = [] := rfl
@[simp] theorem mapFk_cons (g : Fl → Fl) (k : Key) (x : D) (r : List (Key × D)) : D.mapFk g ((k, x) :: r) = (k, D.mapF g x) :: D.mapFk g r := rfl
@[simp] theorem allF_int (g : Fl → Bool) (i : Int) : D.allF g (.int i) = true := rfl
@[simp] theorem allF_str (g : Fl → Bool) (i : Str) : D.allF g (.str i) = true := rfl
@[simp] theorem allF_bl (g : Fl → Bool) (i : Bool) : D.allF g (.bl i) = true := rfl
@[simp] theorem allF_non (g : Fl → Bool) : D.allF g .non = true := rfl
@[simp] theorem allF_und (g : Fl → Bool) : D.allF g .und = true := rfl
@[simp] theorem allF_ty (g : Fl → Bool) (n : String) : D.allF g (.ty n) = true := rfl
@[simp] theorem allF_tup (g : Fl → Bool) (xs : List D) : D.allF g (.tup xs) = D.allFs g xs := rfl
@[simp] theorem allF_lst (g : Fl → Bool) (f : Fl) (xs : List D) : D.allF g (.lst f xs) = (g f && D.allFs g xs) := rfl
@[simp] theorem allF_dK (g : Fl → Bool) (f : Fl) (xs : List (Key × D)) : D.allF g (.dK f xs) = (g f && D.allFk g xs) := rfl
@[simp] theorem allFs_nil (g : Fl → Bool) : D.allFs g [] = true := rfl
@[simp] theorem allFs_cons (g : Fl → Bool) (x : D) (r : List D) : D.allFs g (x :: r) = (D.allF g x && D.allFs g r) := rfl
@[simp] theorem allFk_nil (g : Fl → Bool) : D.allFk g [] = true := rfl
@[simp] theorem allFk_cons (g : Fl → Bool) (k : Key) (x : D) (r : List (Key × D)) : D.allFk g ((k, x) :: r) = (D.allF g x && D.allFk g r) := rfl
@[simp] theorem mapFs_ints (g : Fl → Fl) (xs : List Int) : D.mapFs g (xs.map .int) = xs.map .int := inert_mapFs (inert_map inert_int xs) g
@[simp] theorem allFs_ints (g : Fl → Bool) (xs : List Int) : D.allFs g (xs.map .int) = true := inert_allFs (inert_map inert_int xs) g
@[simp] theorem mapFs_strs (g : Fl → Fl) (xs : List Str) : D.mapFs g (xs.map .str) = xs.map .str := inert_mapFs (inert_map inert_str xs) g
@[simp] theorem allFs_strs (g : Fl → Bool) (xs : List Str) : D.allFs g (xs.map .str) = true := inert_allFs (inert_map inert_str xs) g
@[simp] theorem mapFs_app (g : Fl → Fl) (xs ys : List D) : D.mapFs g (xs ++ ys) = D.mapFs g xs ++ D.mapFs g ys := by rw [mapFs_map, mapFs_map, mapFs_map, List.map_append]
@[simp] theorem allFs_app (g : Fl → Bool) (xs ys : List D) : D.allFs g (xs ++ ys) = (D.allFs g xs && D.allFs g ys) := by rw [allFs_all, allFs_all, allFs_all, List.all_append]
@[simp] theorem vw_own : vw .own = .view := rfl
@[simp] theorem vw_frz : vw .frz = .frz := rfl
@[simp] theorem vw_pv : vw .pv = .pv := rfl
@[simp] theorem vw_view : vw .view = .view := rfl
@[simp] theorem vw_ext : vw .ext = .ext := rfl
@[simp] theorem v2p_own : v2p .own = .own := rfl
@[simp] theorem v2p_frz : v2p .frz = .frz := rfl
@[simp] theorem v2p_pv : v2p .pv = .pv := rfl
@[simp] theorem v2p_view : v2p .view = .pv := rfl
@[simp] theorem v2p_ext : v2p .ext = .ext := rfl
@[simp] theorem zf_own : zf .own = .frz := rfl
@[simp] theorem zf_frz : zf .frz = .frz := rfl
@[simp] theorem zf_ext : zf .ext = .ext := rfl
@[simp] theorem p2v_own : p2v .own = .own := rfl
@[simp] theorem p2v_frz : p2v .frz = .frz := rfl
@[simp] theorem p2v_pv : p2v .pv = .view := rfl
@[simp] theorem p2v_ext : p2v .ext = .ext := rfl
@[simp] theorem isUnd_int (i : Int) : (D.int i).isUnd = false := rfl
@[simp] theorem isUnd_str (i : Str) : (D.str i).isUnd = false := rfl
@[simp] theorem isUnd_bl (i : Bool) : (D.bl i).isUnd = false := rfl
@[simp] theorem isUnd_non : D.non.isUnd = false := rfl
@[simp] theorem isUnd_ty (n : String) : (D.ty n).isUnd = false := rfl
@[simp] theorem isUnd_tup (i : List D) : (D.tup i).isUnd = false := rfl
@[simp] theorem isUnd_lst (f : Fl) (i : List D) : (D.lst f i).isUnd = false := rfl
@[simp] theorem isUnd_dK (f : Fl) (i : List (Key × D)) : (D.dK f i).isUnd = false := rfl
@[simp] theorem isUnd_und : D.und.isUnd = true := rfl
@[simp] theorem isFlat_int (i : Int) : (D.int i).isFlat = true := rfl
@[simp] theorem isFlat_str (i : Str) : (D.str i).isFlat = true := rfl
@[simp] theorem isFlat_bl (i : Bool) : (D.bl i).isFlat = true := rfl
@[simp] theorem isFlat_und : D.und.isFlat = true := rfl
@[simp] theorem isFlat_non : D.non.isFlat = true := rfl

@[simp] theorem ev_view (d : D) : d.view = D.mapF vw d := rfl
@[simp] theorem ev_frzD (d : D) : d.frz = D.mapF zf d := rfl
@[simp] theorem ev_closed (d : D) : d.closed = D.allF (fun f => decide (f ≠ .view)) d := rfl
@[simp] theorem ev_noOwn (d : D) : d.noOwn = D.allF (fun f => decide (f ≠ .own)) d := rfl
@[simp] theorem ev_noPv (d : D) : d.noPv = D.allF (fun f => decide (f ≠ .pv ∧ f ≠ .view)) d := rfl
/-! operations on scalars -/
@[simp] theorem gAdd_int (i j : Int) : gAdd [.int i, .int j] = some (.int (i + j)) := rfl
theorem gAdd_str {i j : Str} (h : i.length + j.length ≤ sizeLine) : gAdd [.str i, .str j] = some (.str (i ++ j)) := by
  unfold gAdd gAddI gAddS gI2 gS2
  simp [h]
theorem gAdd_lst {f g : Fl} {xs ys : List D} (hf : f ≠ .ext) (hg : g ≠ .ext) (h : xs.length + ys.length ≤ sizeLine) : gAdd [.lst f xs, .lst g ys] = some (.lst .own (xs ++ ys)) := by
  unfold gAdd gAddI gAddS gAddL gI2 gS2
  simp [h, hf, hg]
@[simp] theorem gSub_int (i j : Int) : TL.gSub [.int i, .int j] = some (.int (i - j)) := rfl
theorem gMul_int {i j : Int} (h : smallI i = true ∨ smallI j = true) : gMul [.int i, .int j] = some (.int (i * j)) := by
  unfold gMul gMulI gI2
  rw [← Bool.or_eq_true] at h
  simp [h]
theorem gMul_rep {f : Fl} {xs : List D} {k : Int} (hf : f ≠ .ext) (h0 : 0 ≤ k) (h1 : k < 9223372036854775808) (h2 : xs.length * k.toNat ≤ sizeLine) (h3 : xs.all D.noOwn = true) : gMul [.lst f xs, .int k] = some (.lst .own (List.replicate k.toNat xs).flatten) := by
  unfold gMul gMulI gI2 gMulL
  have : -9223372036854775808 ≤ k := by omega
  simp only [Option.none_or]
  rw [if_pos ⟨hf, this, h1, h2, h3⟩]
theorem gDiv_int {i j : Int} (h : 0 < j) (h2 : j < 18446744073709551616) : gDiv [.int i, .int j] = some (.int (i / j)) := by
  unfold gDiv gI2
  simp [h, h2]
theorem gMod_int {i j : Int} (h : 0 < j) : gMod [.int i, .int j] = some (.int (i % j)) := by
  unfold gMod gI2
  simp [h]
@[simp] theorem gLt_int (i j : Int) : gLt [.int i, .int j] = some (.bl (decide (i < j))) := rfl
@[simp] theorem gLe_int (i j : Int) : gLe [.int i, .int j] = some (.bl (decide (i ≤ j))) := rfl
@[simp] theorem gGt_int (i j : Int) : gGt [.int i, .int j] = some (.bl (decide (j < i))) := rfl
@[simp] theorem gGe_int (i j : Int) : gGe [.int i, .int j] = some (.bl (decide (j ≤ i))) := rfl
@[simp] theorem gLt_str (i j : Str) : gLt [.str i, .str j] = some (.bl (strLt i j)) := rfl
@[simp] theorem gLe_str (i j : Str) : gLe [.str i, .str j] = some (.bl (!strLt j i)) := rfl
@[simp] theorem gGt_str (i j : Str) : gGt [.str i, .str j] = some (.bl (strLt j i)) := rfl
@[simp] theorem gGe_str (i j : Str) : gGe [.str i, .str j] = some (.bl (!strLt i j)) := rfl
/-- equality of what can be told equal -/
theorem gEq_of {x y : D} {b : Bool} (h : pyEq x y = some b) : gEq [x, y] = some (.bl b) := by show (pyEq x y).map _ = _; rw [h]; rfl
theorem gNe_of {x y : D} {b : Bool} (h : pyEq x y = some b) : gNe [x, y] = some (.bl (!b)) := by show (pyEq x y).map _ = _; rw [h]; rfl
@[simp] theorem pyEq_int (i j : Int) : pyEq (.int i) (.int j) = some (decide (i = j)) := by
  unfold pyEq
  simp [D.py, SeqAt.shaped, PyData.eqv, PyData.canLay0, PyData.depth]
  rfl
theorem pyEq_str {i j : Str} (hi : PyData.strOk i = true) (hj : PyData.strOk j = true) : pyEq (.str i) (.str j) = some (decide (i = j)) := by
  unfold pyEq
  simp [D.py, SeqAt.shaped, PyData.eqv, PyData.canLay0, hi, hj, PyData.depth]
  rfl
@[simp] theorem pyEq_bl (i j : Bool) : pyEq (.bl i) (.bl j) = some (i == j) := by
  unfold pyEq
  cases i <;> cases j <;> rfl

@[simp] theorem gEq_int (i j : Int) : gEq [.int i, .int j] = some (.bl (decide (i = j))) := gEq_of (pyEq_int i j)
@[simp] theorem gNe_int (i j : Int) : gNe [.int i, .int j] = some (.bl (!decide (i = j))) := gNe_of (pyEq_int i j)
@[simp] theorem gEq_bl (i j : Bool) : gEq [.bl i, .bl j] = some (.bl (i == j)) := gEq_of (pyEq_bl i j)
@[simp] theorem gNe_bl (i j : Bool) : gNe [.bl i, .bl j] = some (.bl (!(i == j))) := gNe_of (pyEq_bl i j)
@[simp] theorem gLen_lst (f : Fl) (xs : List D) : gLen [.lst f xs] = some (.int xs.length) := rfl
@[simp] theorem gLen_tup (xs : List D) : gLen [.tup xs] = some (.int xs.length) := rfl
@[simp] theorem gInt_int (i : Int) : gInt [.int i] = some (.int i) := rfl
@[simp] theorem gInt_bl (i : Bool) : gInt [.bl i] = some (.int (if i then 1 else 0)) := rfl
@[simp] theorem gList_lst (f : Fl) (xs : List D) : gList [.lst f xs] = some (.lst .own xs) := rfl
@[simp] theorem gList_tup (xs : List D) : gList [.tup xs] = some (.lst .own xs) := rfl
theorem gLst_ok (ds : List D) (h : ds.length ≤ 16777216) : gLst ds = some (.lst .own ds) := by
  unfold gLst
  exact if_pos h
theorem gTup_ok (ds : List D) (h : ds.length ≤ 16777216) : gTupD ds = some (.tup ds) := by
  unfold gTupD
  exact if_pos h
@[simp] theorem gLst_0 : gLst [] = some (.lst .own []) := rfl
@[simp] theorem gLst_1 (a : D) : gLst [a] = some (.lst .own [a]) := gLst_ok _ (by simp)
@[simp] theorem gLst_2 (a b : D) : gLst [a, b] = some (.lst .own [a, b]) := gLst_ok _ (by simp)
@[simp] theorem gLst_3 (a b c : D) : gLst [a, b, c] = some (.lst .own [a, b, c]) := gLst_ok _ (by simp)
@[simp] theorem gTup_0 : gTupD [] = some (.tup []) := rfl
@[simp] theorem gTup_1 (a : D) : gTupD [a] = some (.tup [a]) := gTup_ok _ (by simp)
@[simp] theorem gTup_2 (a b : D) : gTupD [a, b] = some (.tup [a, b]) := gTup_ok _ (by simp)
@[simp] theorem gTup_3 (a b c : D) : gTupD [a, b, c] = some (.tup [a, b, c]) := gTup_ok _ (by simp)
@[simp] theorem gTup_4 (a b c d : D) : gTupD [a, b, c, d] = some (.tup [a, b, c, d]) := gTup_ok _ (by simp)
@[simp] theorem gIsN_non (d : D) : gIsN [d, .non] = if d.isUnd then none else some (.bl d.isNon) := rfl
@[simp] theorem gNotN_non (d : D) : gNotN [d, .non] = if d.isUnd then none else some (.bl (!d.isNon)) := rfl
@[simp] theorem isNon_non : D.non.isNon = true := rfl
@[simp] theorem isNon_int (i : Int) : (D.int i).isNon = false := rfl
@[simp] theorem isNon_str (i : Str) : (D.str i).isNon = false := rfl
@[simp] theorem isNon_bl (i : Bool) : (D.bl i).isNon = false := rfl
@[simp] theorem isNon_tup (i : List D) : (D.tup i).isNon = false := rfl
@[simp] theorem isNon_lst (f : Fl) (i : List D) : (D.lst f i).isNon = false := rfl
@[simp] theorem isi_lst (f : Fl) (xs : List D) : gIsi [.lst f xs, .ty "list"] = some (.bl true) ∧ gIsi [.lst f xs, .ty "tuple"] = some (.bl false) ∧ gIsi [.lst f xs, .ty "str"] = some (.bl false) ∧ gIsi [.lst f xs, .ty "int"] = some (.bl false) ∧ gIsi [.lst f xs, .ty "bool"] = some (.bl false) ∧ gIsi [.lst f xs, .ty "dict"] = some (.bl false) := by
  simp [gIsi, D.tyN, kit_table]
@[simp] theorem isi_tup (xs : List D) : gIsi [.tup xs, .ty "list"] = some (.bl false) ∧ gIsi [.tup xs, .ty "tuple"] = some (.bl true) ∧ gIsi [.tup xs, .ty "str"] = some (.bl false) ∧ gIsi [.tup xs, .ty "int"] = some (.bl false) ∧ gIsi [.tup xs, .ty "bool"] = some (.bl false) ∧ gIsi [.tup xs, .ty "dict"] = some (.bl false) := by
  simp [gIsi, D.tyN, kit_table]
@[simp] theorem isi_str (x : Str) : gIsi [.str x, .ty "list"] = some (.bl false) ∧ gIsi [.str x, .ty "tuple"] = some (.bl false) ∧ gIsi [.str x, .ty "str"] = some (.bl true) ∧ gIsi [.str x, .ty "int"] = some (.bl false) ∧ gIsi [.str x, .ty "bool"] = some (.bl false) ∧ gIsi [.str x, .ty "dict"] = some (.bl false) := by
  simp [gIsi, D.tyN, kit_table]
@[simp] theorem isi_int (x : Int) : gIsi [.int x, .ty "list"] = some (.bl false) ∧ gIsi [.int x, .ty "tuple"] = some (.bl false) ∧ gIsi [.int x, .ty "str"] = some (.bl false) ∧ gIsi [.int x, .ty "int"] = some (.bl true) ∧ gIsi [.int x, .ty "bool"] = some (.bl false) ∧ gIsi [.int x, .ty "dict"] = some (.bl false) := by
  simp [gIsi, D.tyN, kit_table]
@[simp] theorem isi_bl (x : Bool) : gIsi [.bl x, .ty "list"] = some (.bl false) ∧ gIsi [.bl x, .ty "tuple"] = some (.bl false) ∧ gIsi [.bl x, .ty "str"] = some (.bl false) ∧ gIsi [.bl x, .ty "int"] = some (.bl true) ∧ gIsi [.bl x, .ty "bool"] = some (.bl true) ∧ gIsi [.bl x, .ty "dict"] = some (.bl false) := by
  simp [gIsi, D.tyN, kit_table]
@[simp] theorem isi_non : gIsi [.non, .ty "list"] = some (.bl false) ∧ gIsi [.non, .ty "tuple"] = some (.bl false) ∧ gIsi [.non, .ty "str"] = some (.bl false) ∧ gIsi [.non, .ty "int"] = some (.bl false) ∧ gIsi [.non, .ty "bool"] = some (.bl false) ∧ gIsi [.non, .ty "dict"] = some (.bl false) := by
  simp [gIsi, D.tyN, kit_table]
@[simp] theorem ka_0 (pn : List Nat) (env : Ev) : keepArgs pn 0 env = [] := rfl
@[simp] theorem ka_n1 (env : Ev) : keepArgs [] 1 env = [.und] := rfl
@[simp] theorem ka_n2 (env : Ev) : keepArgs [] 2 env = [.und, .und] := rfl
@[simp] theorem ka_n3 (env : Ev) : keepArgs [] 3 env = [.und, .und, .und] := rfl
@[simp] theorem ka_n4 (env : Ev) : keepArgs [] 4 env = [.und, .und, .und, .und] := rfl
@[simp] theorem ka_01 (a : D) (env : Ev) : keepArgs [0] 1 (a :: env) = [a] := rfl
@[simp] theorem ka_02 (a : D) (env : Ev) : keepArgs [0] 2 (a :: env) = [a, .und] := rfl
@[simp] theorem ka_03 (a : D) (env : Ev) : keepArgs [0] 3 (a :: env) = [a, .und, .und] := rfl
@[simp] theorem ka_04 (a : D) (env : Ev) : keepArgs [0] 4 (a :: env) = [a, .und, .und, .und] := rfl
/-! ### the combinators applied -/
def opO (g : List D → Option D) : Option (List D × Ev) → Option (D × Ev)
  | some (ds, e) => match g ds with
    | some d => some (d, e)
    | none => none
  | none => none
@[simp] theorem ev_op (g : List D → Option D) (fs : Ev → Option (List D × Ev)) (env : Ev) : eOp g fs env = opO g (fs env) := by
  unfold eOp opO
  cases fs env with
  | none => rfl
  | some p => obtain ⟨a, b⟩ := p; cases h : g a <;> simp [h]
theorem opO_some {g : List D → Option D} {ds : List D} {e : Ev} {d : D} (h : g ds = some d) : opO g (some (ds, e)) = some (d, e) := by unfold opO; simp only [h]
def opR (o : Option D) (e : Ev) : Option (D × Ev) := o.map fun d => (d, e)
@[simp] theorem ev_opO (g : List D → Option D) (ds : List D) (e : Ev) : opO g (some (ds, e)) = opR (g ds) e := by
  unfold opR
  show (match g ds with | some d => some (d, e) | none => none) = _
  cases h : g ds <;> rfl
@[simp] theorem ev_opR (d : D) (e : Ev) : opR (some d) e = some (d, e) := rfl
def consO (o : Option (D × Ev)) (fs : Ev → Option (List D × Ev)) : Option (List D × Ev) := match o with
  | none => none
  | some (d, e1) => match fs e1 with
    | none => none
    | some (ds, e2) => some (d :: ds, e2)
def consR (d : D) (o : Option (List D × Ev)) : Option (List D × Ev) := o.map fun p => (d :: p.1, p.2)
@[simp] theorem ev_nil (env : Ev) : aNil env = some ([], env) := rfl
@[simp] theorem ev_cons (f : Ev → Option (D × Ev)) (fs : Ev → Option (List D × Ev)) (env : Ev) : aCons f fs env = consO (f env) fs := rfl
@[simp] theorem ev_consO (d : D) (e : Ev) (fs : Ev → Option (List D × Ev)) : consO (some (d, e)) fs = consR d (fs e) := by
  unfold consO consR
  cases h : fs e <;> simp [h]
@[simp] theorem ev_consR (d : D) (ds : List D) (e : Ev) : consR d (some (ds, e)) = some (d :: ds, e) := rfl
@[simp] theorem ev_C (d : D) (env : Ev) : eC d env = some (d, env) := rfl
def varO : Option D → Ev → Option (D × Ev)
  | some d, env => if d.isUnd || !d.noOwn then none else some (d, env)
  | none, _ => none
@[simp] theorem ev_var (i : Nat) (env : Ev) : eVar i env = varO env[i]? env := by
  unfold eVar varO
  cases env[i]? <;> rfl
@[simp] theorem ev_varO (d : D) (env : Ev) : varO (some d) env = if d.isUnd || !d.noOwn then none else some (d, env) := rfl
def movO (i : Nat) : Option D → Ev → Option (D × Ev)
  | some d, env => if d.isUnd then none else some (d, env.set i .und)
  | none, _ => none
@[simp] theorem ev_mov (i : Nat) (env : Ev) : eMove i env = movO i env[i]? env := by
  unfold eMove movO
  cases env[i]? <;> rfl
@[simp] theorem ev_movO (i : Nat) (d : D) (env : Ev) : movO i (some d) env = if d.isUnd then none else some (d, env.set i .und) := rfl
def borO (env : Ev) : Option (D × Ev) → Option (D × Ev)
  | some (d, _) => if d.closed then some (d, env) else none
  | none => none
@[simp] theorem ev_bor (f : Ev → Option (D × Ev)) (env : Ev) : eBorrow f env = borO env (f (env.map D.view)) := by
  unfold eBorrow borO
  cases f (env.map D.view) <;> rfl
@[simp] theorem ev_borO (env e : Ev) (d : D) : borO env (some (d, e)) = if d.closed then some (d, env) else none := rfl
def tstO : Option (D × Ev) → Option (Bool × Ev)
  | some (.bl b, e) => some (b, e)
  | _ => none
@[simp] theorem ev_tst (f : Ev → Option (D × Ev)) (env : Ev) : bTest f env = tstO (f env) := by
  unfold bTest tstO
  cases h : f env with
  | none => rfl
  | some p => obtain ⟨d, e⟩ := p; cases d <;> rfl
@[simp] theorem ev_tstO (b : Bool) (e : Ev) : tstO (some (.bl b, e)) = some (b, e) := rfl
def notO : Option (Bool × Ev) → Option (Bool × Ev)
  | some (b, e) => some (!b, e)
  | none => none
@[simp] theorem ev_bnot (f : Ev → Option (Bool × Ev)) (env : Ev) : bNot f env = notO (f env) := by
  unfold bNot notO
  cases f env <;> rfl
@[simp] theorem ev_notO (b : Bool) (e : Ev) : notO (some (b, e)) = some (!b, e) := rfl
def andO (o : Option (Bool × Ev)) (g : Ev → Option (Bool × Ev)) : Option (Bool × Ev) := match o with
  | some (true, e) => g e
  | some (false, e) => some (false, e)
  | none => none
def orO (o : Option (Bool × Ev)) (g : Ev → Option (Bool × Ev)) : Option (Bool × Ev) := match o with
  | some (true, e) => some (true, e)
  | some (false, e) => g e
  | none => none
@[simp] theorem ev_and (f g : Ev → Option (Bool × Ev)) (env : Ev) : bAnd f g env = andO (f env) g := rfl
@[simp] theorem ev_or (f g : Ev → Option (Bool × Ev)) (env : Ev) : bOr f g env = orO (f env) g := rfl
@[simp] theorem ev_andT (e : Ev) (g : Ev → Option (Bool × Ev)) : andO (some (true, e)) g = g e := rfl
@[simp] theorem ev_andF (e : Ev) (g : Ev → Option (Bool × Ev)) : andO (some (false, e)) g = some (false, e) := rfl
@[simp] theorem ev_orT (e : Ev) (g : Ev → Option (Bool × Ev)) : orO (some (true, e)) g = some (true, e) := rfl
@[simp] theorem ev_orF (e : Ev) (g : Ev → Option (Bool × Ev)) : orO (some (false, e)) g = g e := rfl
def bborO (env : Ev) : Option (Bool × Ev) → Option (Bool × Ev)
  | some (b, _) => some (b, env)
  | none => none
@[simp] theorem ev_bbor (f : Ev → Option (Bool × Ev)) (env : Ev) : bBorrow f env = bborO env (f (env.map D.view)) := by
  unfold bBorrow bborO
  cases f (env.map D.view) <;> rfl
@[simp] theorem ev_bborO (env e : Ev) (b : Bool) : bborO env (some (b, e)) = some (b, env) := rfl
def ifO (o : Option (Bool × Ev)) (f g : Ev → Option (D × Ev)) : Option (D × Ev) := match o with
  | some (true, e) => f e
  | some (false, e) => g e
  | none => none
@[simp] theorem ev_if (c : Ev → Option (Bool × Ev)) (f g : Ev → Option (D × Ev)) (env : Ev) : eIf c f g env = ifO (c env) f g := rfl
@[simp] theorem ev_ifT (e : Ev) (f g : Ev → Option (D × Ev)) : ifO (some (true, e)) f g = f e := rfl
@[simp] theorem ev_ifF (e : Ev) (f g : Ev → Option (D × Ev)) : ifO (some (false, e)) f g = g e := rfl
def enotO : Option (D × Ev) → Option (D × Ev)
  | some (.bl b, e) => some (.bl (!b), e)
  | _ => none
@[simp] theorem ev_enot (f : Ev → Option (D × Ev)) (env : Ev) : eNot f env = enotO (f env) := by
  unfold eNot enotO
  cases h : f env with
  | none => rfl
  | some p => obtain ⟨d, e⟩ := p; cases d <;> rfl
@[simp] theorem ev_enotO (b : Bool) (e : Ev) : enotO (some (.bl b, e)) = some (.bl (!b), e) := rfl
def frzO : Option (D × Ev) → Option (D × Ev)
  | some (d, e) => some (d.frz, e)
  | none => none
@[simp] theorem ev_frz (f : Ev → Option (D × Ev)) (env : Ev) : eFrz f env = frzO (f env) := by
  unfold eFrz frzO
  cases f env <;> rfl
@[simp] theorem ev_frzO (d : D) (e : Ev) : frzO (some (d, e)) = some (d.frz, e) := rfl
def modO (mask : List Bool) (env : Ev) : Option (D × Ev) → Option (D × Ev)
  | some (d, e') => if d.closed && (keepM mask e').all D.closed then some (d, mergeM mask e' env) else none
  | none => none
@[simp] theorem ev_mod (mask : List Bool) (f : Ev → Option (D × Ev)) (env : Ev) : eMode mask f env = modO mask env (f (mergeM mask env (env.map D.view))) := by
  unfold eMode modO
  cases f (mergeM mask env (env.map D.view)) <;> rfl
@[simp] theorem ev_modO (mask : List Bool) (env e' : Ev) (d : D) : modO mask env (some (d, e')) = if d.closed && (keepM mask e').all D.closed then some (d, mergeM mask e' env) else none := rfl
@[simp] theorem mergeM_nil (a b : Ev) : mergeM [] a b = b := by cases a <;> rfl
@[simp] theorem mergeM_t (m : List Bool) (a b : D) (r s : Ev) : mergeM (true :: m) (a :: r) (b :: s) = a :: mergeM m r s := rfl
@[simp] theorem mergeM_f (m : List Bool) (a b : D) (r s : Ev) : mergeM (false :: m) (a :: r) (b :: s) = b :: mergeM m r s := rfl
@[simp] theorem keepM_nil (r : Ev) : keepM [] r = r.map fun _ => .und := by cases r <;> rfl
@[simp] theorem keepM_t (m : List Bool) (a : D) (r : Ev) : keepM (true :: m) (a :: r) = a :: keepM m r := rfl
@[simp] theorem keepM_f (m : List Bool) (a : D) (r : Ev) : keepM (false :: m) (a :: r) = .und :: keepM m r := rfl
/-! calls -/
def calO (n : Nat) (ld : List (Option Nat)) (F : List D → Option (D × List D)) : Option (List D × Ev) → Option (D × Ev)
  | some (ds, e1) => if ds.length = n then (match F (ds.map (D.mapF v2p)) with
    | none => none
    | some (r, ds') => callOut ld ds r ds' e1) else none
  | none => none
@[simp] theorem ev_call (n : Nat) (ld : List (Option Nat)) (F : List D → Option (D × List D)) (fs : Ev → Option (List D × Ev)) (env : Ev) : eCall n ld F fs env = calO n ld F (fs env) := by
  unfold eCall calO
  cases fs env <;> rfl
def calR (ld : List (Option Nat)) (ds : List D) (e1 : Ev) : Option (D × List D) → Option (D × Ev)
  | some (r, ds') => callOut ld ds r ds' e1
  | none => none
@[simp] theorem ev_calO (n : Nat) (ld : List (Option Nat)) (F : List D → Option (D × List D)) (ds : List D) (e1 : Ev) : calO n ld F (some (ds, e1)) = if ds.length = n then calR ld ds e1 (F (ds.map (D.mapF v2p))) else none := by
  unfold calO calR
  dsimp only
  split
  · cases F (ds.map (D.mapF v2p)) <;> rfl
  · rfl
@[simp] theorem ev_calR (ld : List (Option Nat)) (ds ds' : List D) (e1 : Ev) (r : D) : calR ld ds e1 (some (r, ds')) = callOut ld ds r ds' e1 := rfl
def outO (ok : Bool) (r : D) : Option Ev → Option (D × Ev)
  | some e2 => some (if ok then r else D.mapF p2v r, e2)
  | none => none
@[simp] theorem ev_out (ld : List (Option Nat)) (ds ds' : List D) (r : D) (e1 : Ev) : callOut ld ds r ds' e1 = if r.closed && ((ds.map (D.mapF v2p)).all D.closed && (lentOnly ld ds').all D.noPv) then outO (ds.all D.closed) r (giveBack ld (lentOnly ld ds') e1) else none := by
  unfold callOut outO
  split
  · cases giveBack ld (lentOnly ld ds') e1 <;> rfl
  · rfl
@[simp] theorem ev_outT (r : D) (e2 : Ev) : outO true r (some e2) = some (r, e2) := rfl
@[simp] theorem ev_outF (r : D) (e2 : Ev) : outO false r (some e2) = some (D.mapF p2v r, e2) := rfl
@[simp] theorem lent_nil (ds : List D) : lentOnly [] ds = ds.map fun _ => .und := by cases ds <;> rfl
@[simp] theorem lent_n (ld : List (Option Nat)) (d : D) (ds : List D) : lentOnly (none :: ld) (d :: ds) = .und :: lentOnly ld ds := rfl
@[simp] theorem lent_s (i : Nat) (ld : List (Option Nat)) (d : D) (ds : List D) : lentOnly (some i :: ld) (d :: ds) = d :: lentOnly ld ds := rfl
@[simp] theorem give_nil (ds : List D) (env : Ev) : giveBack [] ds env = some env := by cases ds <;> rfl
@[simp] theorem give_n (ld : List (Option Nat)) (d : D) (ds : List D) (env : Ev) : giveBack (none :: ld) (d :: ds) env = giveBack ld ds env := rfl
@[simp] theorem give_s (i : Nat) (ld : List (Option Nat)) (d : D) (ds : List D) (env : Ev) : giveBack (some i :: ld) (d :: ds) env = if (env.getD i .non).isUnd then giveBack ld ds (env.set i d) else none := rfl
/-! statements -/
def seqO (o : Option Out) (g : Ev → Option Out) : Option Out := match o with
  | some (.nx e) => g e
  | r => r
@[simp] theorem ev_seq (f g : Ev → Option Out) (env : Ev) : sSeq f g env = seqO (f env) g := rfl
@[simp] theorem ev_seqN (e : Ev) (g : Ev → Option Out) : seqO (some (.nx e)) g = g e := rfl
@[simp] theorem ev_seqR (d : D) (e : Ev) (g : Ev → Option Out) : seqO (some (.rt d e)) g = some (.rt d e) := rfl
@[simp] theorem ev_seqB (e : Ev) (g : Ev → Option Out) : seqO (some (.bk e)) g = some (.bk e) := rfl
@[simp] theorem ev_seqC (e : Ev) (g : Ev → Option Out) : seqO (some (.ct e)) g = some (.ct e) := rfl
@[simp] theorem ev_skip (env : Ev) : sSkip env = some (.nx env) := rfl
@[simp] theorem ev_bk (env : Ev) : sBk env = some (.bk env) := rfl
@[simp] theorem ev_ct (env : Ev) : sCt env = some (.ct env) := rfl
@[simp] theorem ev_retN (env : Ev) : sRetN env = some (.rt .non env) := rfl
def retO : Option (D × Ev) → Option Out
  | some (d, e) => some (.rt d e)
  | none => none
@[simp] theorem ev_ret (f : Ev → Option (D × Ev)) (env : Ev) : sRet f env = retO (f env) := by
  unfold sRet retO
  cases f env <;> rfl
@[simp] theorem ev_retO (d : D) (e : Ev) : retO (some (d, e)) = some (.rt d e) := rfl
def exprO : Option (D × Ev) → Option Out
  | some (_, e) => some (.nx e)
  | none => none
@[simp] theorem ev_expr (f : Ev → Option (D × Ev)) (env : Ev) : sExpr f env = exprO (f env) := by
  unfold sExpr exprO
  cases f env <;> rfl
@[simp] theorem ev_exprO (d : D) (e : Ev) : exprO (some (d, e)) = some (.nx e) := rfl
def sifO (o : Option (Bool × Ev)) (f g : Ev → Option Out) : Option Out := match o with
  | some (true, e) => f e
  | some (false, e) => g e
  | none => none
@[simp] theorem ev_sif (c : Ev → Option (Bool × Ev)) (f g : Ev → Option Out) (env : Ev) : sIf c f g env = sifO (c env) f g := rfl
@[simp] theorem ev_sifT (e : Ev) (f g : Ev → Option Out) : sifO (some (true, e)) f g = f e := rfl
@[simp] theorem ev_sifF (e : Ev) (f g : Ev → Option Out) : sifO (some (false, e)) f g = g e := rfl
def asgO (g : D → Ev → Option Ev) : Option (D × Ev) → Option Out
  | some (d, e) => (g d e).map .nx
  | none => none
@[simp] theorem ev_asg (f : Ev → Option (D × Ev)) (g : D → Ev → Option Ev) (env : Ev) : sAsg f g env = asgO g (f env) := by
  unfold sAsg asgO
  cases h : f env with
  | none => rfl
  | some p => obtain ⟨d, e⟩ := p; dsimp only; cases h2 : g d e <;> rfl
@[simp] theorem ev_asgO (g : D → Ev → Option Ev) (d : D) (e : Ev) : asgO g (some (d, e)) = (g d e).map .nx := rfl
@[simp] theorem ev_name (i : Nat) (d : D) (env : Ev) : tgName i d env = if i < env.length then some (env.set i d) else none := rfl
@[simp] theorem ev_tgNil (env : Ev) : tgNil [] env = some env := rfl
def tgO (g : List D → Ev → Option Ev) (r : List D) : Option Ev → Option Ev
  | some e => g r e
  | none => none
@[simp] theorem ev_tgCons (f : D → Ev → Option Ev) (g : List D → Ev → Option Ev) (d : D) (r : List D) (env : Ev) : tgCons f g (d :: r) env = tgO g r (f d env) := by
  unfold tgO
  show (match f d env with | some e => g r e | none => none) = _
  cases f d env <;> rfl
@[simp] theorem ev_tgO (g : List D → Ev → Option Ev) (r : List D) (e : Ev) : tgO g r (some e) = g r e := rfl
@[simp] theorem ev_tgTup (n : Nat) (f : List D → Ev → Option Ev) (xs : List D) (env : Ev) : tgTup n f (.tup xs) env = if xs.length = n then f xs env else none := rfl
@[simp] theorem ev_tvName (i : Nat) (d : D) (env : Ev) : tvName i d env = if i < env.length ∧ (env.getD i .und).isFlat = true then some (env.set i d) else none := rfl
def forO (bind : D → Ev → Option Ev) (body : Ev → Option Out) : Option (List D × Ev) → Option Out
  | some (xs, e) => loopL bind body xs e
  | none => none
@[simp] theorem ev_for (fi : Ev → Option (List D × Ev)) (bind : D → Ev → Option Ev) (body : Ev → Option Out) (env : Ev) : sFor fi bind body env = forO bind body (fi env) := by
  unfold sFor forO
  cases fi env <;> rfl
@[simp] theorem ev_forO (bind : D → Ev → Option Ev) (body : Ev → Option Out) (xs : List D) (e : Ev) : forO bind body (some (xs, e)) = loopL bind body xs e := rfl
@[simp] theorem ev_sfz (i : Nat) (f : Ev → Option Out) (env : Ev) : sFz i f env = f (frzAt i env) := rfl
@[simp] theorem ev_swp (i : Nat) (f : Ev → Option Out) (env : Ev) : sWp i f env = f (env.set i .und) := rfl
def setO (j : Nat) (fx : Ev → Option (D × Ev)) : Option (D × Ev) → Option Out
  | some (d, e1) => match e1[j]? with
    | none => none
    | some d0 => if d0.isUnd then none else match fx e1 with
      | none => none
      | some (di, _) => match mSet d0 [d, di] with
        | none => none
        | some (_, d') => some (.nx (e1.set j d'))
  | none => none
def setR (j : Nat) (d : D) (e1 : Ev) (d0 : Option D) (o : Option (D × Ev)) : Option Out := match d0 with
  | none => none
  | some d0 => if d0.isUnd then none else match o with
    | none => none
    | some (di, _) => (mSet d0 [d, di]).map fun p => .nx (e1.set j p.2)
@[simp] theorem ev_set (j : Nat) (f fx : Ev → Option (D × Ev)) (env : Ev) : sSetI j f fx env = setO j fx (f env) := by
  unfold sSetI setO
  cases f env <;> rfl
@[simp] theorem ev_setO (j : Nat) (fx : Ev → Option (D × Ev)) (d : D) (e1 : Ev) : setO j fx (some (d, e1)) = setR j d e1 e1[j]? (fx e1) := by
  unfold setO setR
  dsimp only
  cases h : e1[j]? with
  | none => rfl
  | some d0 =>
    dsimp only
    split
    · rfl
    · cases h2 : fx e1 with
      | none => rfl
      | some p =>
        obtain ⟨di, e⟩ := p
        dsimp only
        cases mSet d0 [d, di] <;> rfl
@[simp] theorem ev_setR (j : Nat) (d d0 di : D) (e1 e : Ev) : setR j d e1 (some d0) (some (di, e)) = if d0.isUnd then none else (mSet d0 [d, di]).map fun p => .nx (e1.set j p.2) := rfl
def inpO (i : Nat) (ok : D → Bool) (g : D → List D → Option (D × D)) (fs : Ev → Option (List D × Ev)) (env : Ev) : Option D → Option (D × Ev)
  | none => none
  | some d0 => if ok d0 then (match fs env with
    | none => none
    | some (ds, e1) => match e1[i]? with
      | none => none
      | some d => if d.isUnd then none else match g d ds with
        | none => none
        | some (r, d') => some (r, e1.set i d')) else none
def inpR (i : Nat) (g : D → List D → Option (D × D)) : Option (List D × Ev) → Option (D × Ev)
  | some (ds, e1) => match e1[i]? with
    | none => none
    | some d => if d.isUnd then none else (g d ds).map fun p => (p.1, e1.set i p.2)
  | none => none
def inpS (i : Nat) (g : D → List D → Option (D × D)) (ds : List D) (e1 : Ev) : Option D → Option (D × Ev)
  | some d => if d.isUnd then none else (g d ds).map fun p => (p.1, e1.set i p.2)
  | none => none
@[simp] theorem ev_inp (i : Nat) (ok : D → Bool) (g : D → List D → Option (D × D)) (fs : Ev → Option (List D × Ev)) (env : Ev) : eInpl i ok g fs env = inpO i ok g fs env env[i]? := by
  unfold eInpl inpO
  cases env[i]? <;> rfl
@[simp] theorem ev_inpO (i : Nat) (ok : D → Bool) (g : D → List D → Option (D × D)) (fs : Ev → Option (List D × Ev)) (env : Ev) (d0 : D) : inpO i ok g fs env (some d0) = if ok d0 then inpR i g (fs env) else none := by
  unfold inpO inpR
  dsimp only
  split
  · cases h : fs env with
    | none => rfl
    | some p =>
      obtain ⟨ds, e1⟩ := p
      dsimp only
      cases h2 : e1[i]? with
      | none => rfl
      | some d =>
        dsimp only
        split
        · rfl
        · cases g d ds <;> rfl
  · rfl
@[simp] theorem ev_inpR (i : Nat) (g : D → List D → Option (D × D)) (ds : List D) (e1 : Ev) : inpR i g (some (ds, e1)) = inpS i g ds e1 e1[i]? := by
  unfold inpR inpS
  dsimp only
  cases e1[i]? <;> rfl
@[simp] theorem ev_inpS (i : Nat) (g : D → List D → Option (D × D)) (ds : List D) (e1 : Ev) (d : D) : inpS i g ds e1 (some d) = if d.isUnd then none else (g d ds).map fun p => (p.1, e1.set i p.2) := rfl
@[simp] theorem okL_lst (xs : List D) : okL (.lst .own xs) = true := rfl
theorem mAppend_lst {xs : List D} (d : D) (h : xs.length < sizeLine) : mAppend (.lst .own xs) [d] = some (.non, .lst .own (xs ++ [d])) := by
  show (if xs.length < sizeLine then _ else _) = _
  rw [if_pos h]
theorem mExtend_lst {xs ys : List D} {f : Fl} (hf : f ≠ .ext) (h : xs.length + ys.length ≤ sizeLine) : mExtend (.lst .own xs) [.lst f ys] = some (.non, .lst .own (xs ++ ys)) := by
  show (if f ≠ .ext ∧ xs.length + ys.length ≤ sizeLine then _ else _) = _
  rw [if_pos ⟨hf, h⟩]
/-! receivers -/
def rcvO (ok : D → Bool) (g : List D → Option D) (fs : Ev → Option (List D × Ev)) : Option (D × Ev) → Option (D × Ev)
  | some (d, e1) => if ok d then opO (fun ds => g (d :: ds)) (fs e1) else none
  | none => none
@[simp] theorem ev_rcv (ok : D → Bool) (g : List D → Option D) (fo : Ev → Option (D × Ev)) (fs : Ev → Option (List D × Ev)) (env : Ev) : eRecv ok g fo fs env = rcvO ok g fs (fo env) := by
  unfold eRecv rcvO opO
  cases h : fo env with
  | none => rfl
  | some p =>
    obtain ⟨d, e1⟩ := p
    dsimp only
    split
    · cases h2 : fs e1 with
      | none => rfl
      | some p =>
        obtain ⟨ds, e2⟩ := p
        dsimp only
        cases g (d :: ds) <;> rfl
    · rfl
@[simp] theorem ev_rcvO (ok : D → Bool) (g : List D → Option D) (fs : Ev → Option (List D × Ev)) (d : D) (e1 : Ev) : rcvO ok g fs (some (d, e1)) = if ok d then opO (fun ds => g (d :: ds)) (fs e1) else none := rfl
@[simp] theorem isStr_str (s : Str) : (D.str s).isStr = true := rfl
/-! dicts -/
def dspO (ks : List Key) : Option (List D × Ev) → Option (D × Ev)
  | some (ds, e) => some (.dK .own (ks.zip ds), e)
  | none => none
@[simp] theorem ev_dsp (ks : List Key) (fs : Ev → Option (List D × Ev)) (env : Ev) : eDisp ks fs env = dspO ks (fs env) := by
  unfold eDisp dspO
  cases fs env <;> rfl
@[simp] theorem ev_dspO (ks : List Key) (ds : List D) (e : Ev) : dspO ks (some (ds, e)) = some (.dK .own (ks.zip ds), e) := rfl
/-! what is walked -/
def itO (g : List D → Option (List D)) : Option (List D × Ev) → Option (List D × Ev)
  | some (ds, e) => (g (ds.map D.frz)).map fun xs => (xs, e)
  | none => none
@[simp] theorem ev_it (g : List D → Option (List D)) (fs : Ev → Option (List D × Ev)) (env : Ev) : itOp g fs env = itO g (fs env) := by
  unfold itOp itO
  cases h : fs env with
  | none => rfl
  | some p => obtain ⟨ds, e⟩ := p; dsimp only; cases g (ds.map D.frz) <;> rfl
@[simp] theorem ev_itO (g : List D → Option (List D)) (ds : List D) (e : Ev) : itO g (some (ds, e)) = (g (ds.map D.frz)).map fun xs => (xs, e) := rfl
/-- the items of what is walked -/
def wSeq (ds : List D) : Option (List D) := (wL ds).or ((wT ds).or (wS ds))
@[simp] theorem wSeq_lst (f : Fl) (xs : List D) : wSeq [.lst f xs] = some xs := rfl
@[simp] theorem wSeq_tup (xs : List D) : wSeq [.tup xs] = some xs := rfl
theorem itO_or (g h : List D → Option (List D)) (o : Option (List D × Ev)) : (itO g o).or (itO h o) = itO (fun ds => (g ds).or (h ds)) o := by
  cases o with
  | none => rfl
  | some p =>
    obtain ⟨ds, e⟩ := p
    show ((g (ds.map D.frz)).map _).or ((h (ds.map D.frz)).map _) = ((g (ds.map D.frz)).or (h (ds.map D.frz))).map _
    cases g (ds.map D.frz) <;> rfl
@[simp] theorem ev_seqQ (f : Ev → Option (D × Ev)) (env : Ev) : itSeqQ f env = itO wSeq (consO (f env) aNil) := by
  unfold itSeqQ
  rw [ev_it, ev_it, ev_it, ev_cons, itO_or, itO_or]
  rfl
def consKO (o : Option (D × Ev)) (fs : Ev → Option (List D × Ev)) : Option (List D × Ev) := match o with
  | none => none
  | some (d, e1) => if d.closed then consR d (fs e1) else none
@[simp] theorem ev_consK (f : Ev → Option (D × Ev)) (fs : Ev → Option (List D × Ev)) (env : Ev) : aConsK f fs env = consKO (f env) fs := by
  unfold aConsK consKO consR
  cases h : f env with
  | none => rfl
  | some p =>
    obtain ⟨d, e1⟩ := p
    dsimp only
    split
    · cases fs e1 <;> rfl
    · rfl
@[simp] theorem ev_consKO (d : D) (e : Ev) (fs : Ev → Option (List D × Ev)) : consKO (some (d, e)) fs = if d.closed then consR d (fs e) else none := rfl
@[simp] theorem ev_seqC' (f : Ev → Option (D × Ev)) (env : Ev) : itSeq f env = itO wSeq (consKO (f env) aNil) := by
  unfold itSeq
  rw [ev_it, ev_it, ev_it, ev_consK, itO_or, itO_or]
  rfl
theorem wR1_ok {j : Int} (h0 : -4611686018427387904 ≤ j) (h : j < 4611686018427387904) : wR1 [.int j] = some ((List.range j.toNat).map fun i => .int ((i : Nat) : Int)) := by
  show (if -(2 ^ 62) ≤ j ∧ j < 2 ^ 62 then _ else _) = _
  rw [if_pos ⟨h0, h⟩]
@[simp] theorem wZip_lst (f g : Fl) (xs ys : List D) : wZip [.lst f xs, .lst g ys] = some ((xs.zip ys).map fun p => .tup [p.1, p.2]) := rfl
@[simp] theorem wZip_tup (xs ys : List D) : wZip [.tup xs, .tup ys] = some ((xs.zip ys).map fun p => .tup [p.1, p.2]) := rfl

def loopM (bind : D → Ev → Option Ev) (body : Ev → Option Out) (xs : List D) : Option Out → Option Out
  | some (.nx e2) => loopL bind body xs e2
  | some (.ct e2) => loopL bind body xs e2
  | some (.bk e2) => some (.nx e2)
  | some (.rt d e2) => some (.rt d e2)
  | none => none
def loopN (bind : D → Ev → Option Ev) (body : Ev → Option Out) (xs : List D) : Option Ev → Option Out
  | some e1 => loopM bind body xs (body e1)
  | none => none
@[simp] theorem loop_nil (bind : D → Ev → Option Ev) (body : Ev → Option Out) (env : Ev) : loopL bind body [] env = some (.nx env) := rfl
@[simp] theorem loop_cons (bind : D → Ev → Option Ev) (body : Ev → Option Out) (x : D) (xs : List D) (env : Ev) : loopL bind body (x :: xs) env = loopN bind body xs (bind x env) := by
  show (match bind x env with | none => none | some e1 => _) = _
  cases bind x env with
  | none => rfl
  | some e1 =>
    cases h : body e1 with
    | none => simp only [loopN, loopM, h]
    | some o => cases o <;> simp only [loopN, loopM, h]
@[simp] theorem loopN_some (bind : D → Ev → Option Ev) (body : Ev → Option Out) (xs : List D) (e : Ev) : loopN bind body xs (some e) = loopM bind body xs (body e) := rfl
@[simp] theorem loopM_nx (bind : D → Ev → Option Ev) (body : Ev → Option Out) (xs : List D) (e : Ev) : loopM bind body xs (some (.nx e)) = loopL bind body xs e := rfl
@[simp] theorem loopM_ct (bind : D → Ev → Option Ev) (body : Ev → Option Out) (xs : List D) (e : Ev) : loopM bind body xs (some (.ct e)) = loopL bind body xs e := rfl
@[simp] theorem loopM_bk (bind : D → Ev → Option Ev) (body : Ev → Option Out) (xs : List D) (e : Ev) : loopM bind body xs (some (.bk e)) = some (.nx e) := rfl
@[simp] theorem loopM_rt (bind : D → Ev → Option Ev) (body : Ev → Option Out) (xs : List D) (d : D) (e : Ev) : loopM bind body xs (some (.rt d e)) = some (.rt d e) := rfl
/-! ### loops by what stays true -/
theorem loop_inv {bind : D → Ev → Option Ev} {body : Ev → Option Out} {I : List D → Ev → Prop} {R : Out → Prop} (hnil : ∀ env, I [] env → R (.nx env))
    (hstep : ∀ x xs env, I (x :: xs) env → ∃ e1 o, bind x env = some e1 ∧ body e1 = some o ∧ (match o with
      | .nx e2 => I xs e2
      | .ct e2 => I xs e2
      | .bk e2 => R (.nx e2)
      | .rt d e2 => R (.rt d e2))) : ∀ xs env, I xs env → ∃ o, loopL bind body xs env = some o ∧ R o
  | [], env, h => ⟨_, rfl, hnil env h⟩
  | x :: xs, env, h => by
    obtain ⟨e1, o, h1, h2, h3⟩ := hstep x xs env h
    unfold loopL
    simp only [h1]
    cases o with
    | nx e2 =>
      simp only [h2]
      exact loop_inv hnil hstep xs e2 h3
    | ct e2 =>
      simp only [h2]
      exact loop_inv hnil hstep xs e2 h3
    | bk e2 =>
      simp only [h2]
      exact ⟨_, rfl, h3⟩
    | rt d e2 =>
      simp only [h2]
      exact ⟨_, rfl, h3⟩
/-- a loop whose body goes on each time -/
theorem loop_nx {bind : D → Ev → Option Ev} {body : Ev → Option Out} {I : List D → Ev → Prop}
    (hstep : ∀ x xs env, I (x :: xs) env → ∃ e1 e2, bind x env = some e1 ∧ body e1 = some (.nx e2) ∧ I xs e2) (xs : List D) (env : Ev) (h : I xs env) : ∃ e, loopL bind body xs env = some (.nx e) ∧ I [] e := by
  obtain ⟨o, h1, h2⟩ := loop_inv (R := fun o => ∃ e, o = .nx e ∧ I [] e) (bind := bind) (body := body) (fun env h => ⟨env, rfl, h⟩) (fun x xs env h => by
    obtain ⟨e1, e2, a, b, c⟩ := hstep x xs env h
    exact ⟨e1, .nx e2, a, b, c⟩) xs env h
  obtain ⟨e, rfl, h3⟩ := h2
  exact ⟨e, h1, h3⟩
/-! ### comprehensions by what stays true -/
def lcO (q : Bool) (vs : List Nat) (bind : D → Ev → Option Ev) (test : Ev → Option (Bool × Ev)) (elt : Ev → Option (D × Ev)) : Option (List D × Ev) → Option (D × Ev)
  | some (xs, e) => (lcL q vs bind test elt [] xs e).map fun p => (.lst .own p.1, p.2)
  | none => none
@[simp] theorem ev_lc (q : Bool) (vs : List Nat) (fi : Ev → Option (List D × Ev)) (bind : D → Ev → Option Ev) (test : Ev → Option (Bool × Ev)) (elt : Ev → Option (D × Ev)) (env : Ev) : eLc q vs fi bind test elt env = lcO q vs bind test elt (fi env) := by
  unfold eLc lcO
  cases h : fi env with
  | none => rfl
  | some p =>
    obtain ⟨xs, e⟩ := p
    dsimp only
    cases lcL q vs bind test elt [] xs e <;> rfl
@[simp] theorem ev_lcO (q : Bool) (vs : List Nat) (bind : D → Ev → Option Ev) (test : Ev → Option (Bool × Ev)) (elt : Ev → Option (D × Ev)) (xs : List D) (e : Ev) : lcO q vs bind test elt (some (xs, e)) = (lcL q vs bind test elt [] xs e).map fun p => (.lst .own p.1, p.2) := rfl
theorem lc_inv {q : Bool} {vs : List Nat} {bind : D → Ev → Option Ev} {test : Ev → Option (Bool × Ev)} {elt : Ev → Option (D × Ev)} {I : List D → List D → Ev → Prop}
    (hstep : ∀ acc x xs env, I acc (x :: xs) env → flatAt vs env = true ∧ acc.length < sizeLine ∧ ∃ e1 b e2, bind x (wipeD env vs) = some e1 ∧ test e1 = some (b, e2) ∧
      if b then ∃ d e3, elt e2 = some (d, e3) ∧ I (acc ++ [d]) xs (if q then env else restD env (lcL.wipeDrop e3 vs) vs) else I acc xs (if q then env else restD env (lcL.wipeDrop e2 vs) vs)) :
    ∀ xs acc env, I acc xs env → ∃ acc' env', lcL q vs bind test elt acc xs env = some (acc', env') ∧ I acc' [] env'
  | [], acc, env, h => ⟨acc, env, rfl, h⟩
  | x :: xs, acc, env, h => by
    obtain ⟨h1, h2, e1, b, e2, h3, h4, h5⟩ := hstep acc x xs env h
    unfold lcL
    rw [if_pos ⟨h1, h2⟩]
    simp only [h3]
    cases b with
    | true =>
      rw [if_pos rfl] at h5
      obtain ⟨d, e3, h6, h7⟩ := h5
      simp only [h4, h6]
      exact lc_inv hstep xs _ _ h7
    | false =>
      rw [if_neg Bool.false_ne_true] at h5
      simp only [h4]
      exact lc_inv hstep xs _ _ h5
/-- a quiet comprehension: map and filter -/
theorem lc_pure {α : Type} {vs : List Nat} {bind : D → Ev → Option Ev} {test : Ev → Option (Bool × Ev)} {elt : Ev → Option (D × Ev)} {env : Ev} {g h : α → D} {p : α → Bool} (hf : flatAt vs env = true) (ys : List α)
    (hs : ∀ y ∈ ys, ∃ e1 e2 e3, bind (g y) (wipeD env vs) = some e1 ∧ test e1 = some (p y, e2) ∧ (p y = true → elt e2 = some (h y, e3))) : ∀ acc : List D, acc.length + ys.length ≤ sizeLine → lcL true vs bind test elt acc (ys.map g) env = some (acc ++ (ys.filter p).map h, env) := by
  induction ys with
  | nil =>
    intro acc _
    simp [lcL]
  | cons y ys ih =>
    intro acc hl
    rw [List.length_cons] at hl
    obtain ⟨e1, e2, e3, h1, h2, h3⟩ := hs y (List.mem_cons_self ..)
    rw [List.map_cons]
    unfold lcL
    rw [if_pos ⟨hf, by omega⟩]
    simp only [h1]
    cases hp : p y with
    | true =>
      rw [hp] at h2
      simp only [h2, h3 hp, if_true]
      rw [ih (fun z hz => hs z (List.mem_cons_of_mem _ hz)) (acc ++ [h y]) (by rw [List.length_append, List.length_singleton]; omega)]
      rw [List.filter_cons, if_pos hp, List.map_cons, List.append_assoc]
      rfl
    | false =>
      rw [hp] at h2
      simp only [h2, if_true]
      rw [ih (fun z hz => hs z (List.mem_cons_of_mem _ hz)) acc (by omega)]
      rw [List.filter_cons, hp]
      rfl
@[simp] theorem wipeD_nil (env : Ev) : wipeD env [] = env := rfl
@[simp] theorem wipeD_cons (env : Ev) (v : Nat) (vs : List Nat) : wipeD env (v :: vs) = (wipeD env vs).set v .und := rfl
@[simp] theorem restD_nil (e0 e : Ev) : restD e0 e [] = e := rfl
@[simp] theorem restD_cons (e0 e : Ev) (v : Nat) (vs : List Nat) : restD e0 e (v :: vs) = restD e0 (e.set v (e0.getD v .und)) vs := rfl
@[simp] theorem flatAt_nil (e : Ev) : flatAt [] e = true := rfl
@[simp] theorem flatAt_cons (e : Ev) (v : Nat) (vs : List Nat) : flatAt (v :: vs) e = ((e.getD v .und).isFlat && decide (v < e.length) && flatAt vs e) := rfl
@[simp] theorem ev_tyes (e : Ev) : tyes e = some (true, e) := rfl
@[simp] theorem wipeDrop_eq (e : Ev) (vs : List Nat) : lcL.wipeDrop e vs = wipeD e vs := rfl
/-! ### defs -/
def fnO (k : Nat) (pn : List Nat) : Option Out → Option (D × List D)
  | some (.rt d env) => if d.closed then some (d, keepArgs pn k env) else none
  | some (.nx env) => some (.non, keepArgs pn k env)
  | _ => none
theorem ev_fn (n k : Nat) (pn : List Nat) (body : Ev → Option Out) (ds : List D) : fnD n k pn body ds = if ds.length = k then fnO k pn (body (ds ++ List.replicate (n - k) .und)) else none := by
  unfold fnD fnO
  split
  · cases h : body (ds ++ List.replicate (n - k) .und) with
    | none => rfl
    | some o => cases o <;> rfl
  · rfl
@[simp] theorem ev_fnR (k : Nat) (pn : List Nat) (d : D) (env : Ev) : fnO k pn (some (.rt d env)) = if d.closed then some (d, keepArgs pn k env) else none := rfl
@[simp] theorem ev_fnN (k : Nat) (pn : List Nat) (env : Ev) : fnO k pn (some (.nx env)) = some (.non, keepArgs pn k env) := rfl
end TL

set_option Elab.async false
set_option linter.all false
set_option maxRecDepth 100000
/-! TL19: the order of texts. -/
namespace TL
open PySem PySem.Spec PyProof.Rows L2

theorem sl_iff {a b : Str} : strLt a b = true ↔ a.cps.toList < b.cps.toList := by unfold strLt; exact decide_eq_true_iff
theorem sl_not {a b : Str} : strLt a b = false ↔ b.cps.toList ≤ a.cps.toList := by unfold strLt; rw [decide_eq_false_iff_not]; exact List.not_lt
theorem sl_irr (a : Str) : strLt a a = false := sl_not.mpr (List.le_refl _)
theorem sl_trans {a b c : Str} (h : strLt a b = true) (h' : strLt b c = true) : strLt a c = true := sl_iff.mpr (List.lt_trans (sl_iff.mp h) (sl_iff.mp h'))
theorem sl_le_lt {a b c : Str} (h : strLt b a = false) (h' : strLt b c = true) : strLt a c = true := sl_iff.mpr (List.lt_of_le_of_lt (sl_not.mp h) (sl_iff.mp h'))
theorem sl_asym {a b : Str} (h : strLt a b = true) : strLt b a = false := by
  cases q : strLt b a with
  | false => rfl
  | true => rw [← sl_irr a]; exact (sl_trans h q).symm
theorem sl_lt_le {a b c : Str} (h : strLt a b = true) (h' : strLt c b = false) : strLt a c = true := by
  cases q : strLt a c with
  | true => rfl
  | false => 
    have := sl_le_lt q h
    rw [h'] at this
    cases this
theorem sl_le_le {a b c : Str} (h : strLt b a = false) (h' : strLt c b = false) : strLt c a = false := by
  cases q : strLt c a with
  | false => rfl
  | true =>
    have := sl_lt_le q h
    rw [h'] at this
    cases this
theorem sl_anti {a b : Str} (h : strLt a b = false) (h' : strLt b a = false) : a = b := by
  have e := List.le_antisymm (sl_not.mp h') (sl_not.mp h)
  cases a; cases b
  simpa using e
theorem sl_ne {a b : Str} (h : strLt a b = true) : a ≠ b := fun e => by rw [e, sl_irr] at h; cases h
theorem sl_le_ne {a b : Str} (h : strLt b a = false) (h' : a ≠ b) : strLt a b = true := by
  cases q : strLt a b with
  | true => rfl
  | false => exact absurd (sl_anti q h) h'
theorem emp_cps : (Str.ofString "").cps.toList = [] := by decide +kernel
theorem sl_emp (a : Str) : strLt a "" = false := sl_not.mpr (by rw [emp_cps]; exact List.nil_le _)
theorem emp_iff {a : Str} : a = "" ↔ a.cps.toList = [] := by
  constructor
  · intro h; rw [h]; exact emp_cps
  · intro h
    have : a.cps.toList = (Str.ofString "").cps.toList := h.trans emp_cps.symm
    have h2 : a.cps = (Str.ofString "").cps := Array.toList_inj.mp this
    cases a
    generalize Str.ofString "" = z at *
    cases z
    simpa using h2
theorem emp_lt {a : Str} (h : a ≠ "") : strLt "" a = true := sl_le_ne (sl_emp a) (Ne.symm h)
/-- a text that begins with a small letter, or what is beyond -/
def low97 (s : Str) : Prop := ∃ c r, s.cps.toList = c :: r ∧ 97 ≤ c
theorem a_cps : (Str.ofString "a").cps.toList = [97] := by decide +kernel
theorem low97_iff {s : Str} : low97 s ↔ strLt s "a" = false := by
  rw [sl_not, a_cps]
  constructor
  · rintro ⟨c, r, e, h⟩
    rw [e]
    rcases Nat.lt_or_eq_of_le h with h | h
    · exact List.le_of_lt (List.Lex.rel h)
    · subst h
      exact List.cons_le_cons_iff.mpr (.inr ⟨rfl, List.nil_le _⟩)
  · intro h
    cases e : s.cps.toList with
    | nil => rw [e] at h; exact absurd (List.nil_lt_cons 97 []) h
    | cons c r =>
      rw [e] at h
      refine ⟨c, r, e, ?_⟩
      rcases List.cons_le_cons_iff.mp h with h | h
      · exact Nat.le_of_lt h
      · exact Nat.le_of_eq h.1
theorem low97_app {a b : Str} (h : low97 a) : low97 (a ++ b) := by
  obtain ⟨c, r, e, h⟩ := h
  refine ⟨c, r ++ b.cps.toList, ?_, h⟩
  show (a.cps ++ b.cps).toList = _
  rw [Array.toList_append, e]
  rfl
theorem low97_ne {s : Str} (h : low97 s) : s ≠ "" := fun e => by
  obtain ⟨c, r, e1, _⟩ := h
  rw [emp_iff.mp e] at e1
  cases e1
/-- the order that sorting goes by -/
theorem leD_str (a b : Str) : leD (.str a) (.str b) = !strLt b a := by
  show (!lexLt itemOrd [.inr b.cps.toList] [.inr a.cps.toList]) = _
  congr 1
  show ((PyProof.Rows.strKind.blt b.cps.toList a.cps.toList) || (!(PyProof.Rows.strKind.blt a.cps.toList b.cps.toList) && false)) = _
  rw [Bool.and_false, Bool.or_false]
  rfl
end TL

set_option Elab.async false
set_option linter.all false
set_option maxRecDepth 100000
/-! TL20: loops over the images of a list. -/
namespace TL
open PySem PySem.Spec PyProof.Rows L2

theorem loop_pre {α : Type} {bind : D → Ev → Option Ev} {body : Ev → Option Out} {g : α → D} {E : List α → Ev → Prop} (ys : List α)
    (step : ∀ done y rest env, ys = done ++ y :: rest → E done env → ∃ e1 e2, bind (g y) env = some e1 ∧ body e1 = some (.nx e2) ∧ E (done ++ [y]) e2) (env : Ev) (h : E [] env) : ∃ e, loopL bind body (ys.map g) env = some (.nx e) ∧ E ys e := by
  have go : ∀ (rest done : List α) (env : Ev), ys = done ++ rest → E done env → ∃ e, loopL bind body (rest.map g) env = some (.nx e) ∧ E ys e := by
    intro rest
    induction rest with
    | nil => intro done env e h; rw [List.append_nil] at e; subst e; exact ⟨env, rfl, h⟩
    | cons y r ih =>
      intro done env e h
      obtain ⟨e1, e2, h1, h2, h3⟩ := step done y r env e h
      rw [List.map_cons, loop_cons, h1, loopN_some, h2, loopM_nx]
      exact ih (done ++ [y]) e2 (by rw [e]; simp) h3
  exact go ys [] env rfl h
@[simp] theorem ev_frzAt (i : Nat) (env : Ev) : frzAt i env = env.set i (D.mapF zf (env.getD i .und)) := rfl
@[simp] theorem zf_pv : zf .pv = .pv := rfl
@[simp] theorem zf_view : zf .view = .view := rfl
/-- a loop that returns at the first that is meant -/
theorem loop_ret {α : Type} {bind : D → Ev → Option Ev} {body : Ev → Option Out} {g : α → D} {E : Ev → Prop} {p : α → Bool} {r : α → D} (ys : List α)
    (step : ∀ y env, y ∈ ys → E env → ∃ e1 e2, bind (g y) env = some e1 ∧ (if p y = true then body e1 = some (.rt (r y) e2) else body e1 = some (.nx e2) ∧ E e2)) (env : Ev) (h : E env) :
    (∃ y e, ys.find? p = some y ∧ loopL bind body (ys.map g) env = some (.rt (r y) e)) ∨ (∃ e, ys.find? p = none ∧ loopL bind body (ys.map g) env = some (.nx e) ∧ E e) := by
  induction ys generalizing env with
  | nil => exact .inr ⟨env, rfl, rfl, h⟩
  | cons y ys ih =>
    obtain ⟨e1, e2, h1, h2⟩ := step y env (List.mem_cons_self ..) h
    rw [List.map_cons, loop_cons, h1, loopN_some, List.find?_cons]
    cases q : p y with
    | true =>
      rw [q, if_pos rfl] at h2
      rw [h2]
      exact .inl ⟨y, e2, rfl, rfl⟩
    | false =>
      rw [q, if_neg Bool.false_ne_true] at h2
      rw [h2.1, loopM_nx]
      exact ih (fun z env hz => step z env (List.mem_cons_of_mem _ hz)) e2 h2.2
/-- the same with a Boolean: `for ..: if p: return True` and a last `return False` -/
theorem find_any {α : Type} {p : α → Bool} {ys : List α} : (∃ y, ys.find? p = some y) ↔ ys.any p = true := by
  rw [List.any_eq_true]
  constructor
  · rintro ⟨y, h⟩
    exact ⟨y, List.mem_of_find?_eq_some h, List.find?_some h⟩
  · rintro ⟨y, hy, hp⟩
    cases h : ys.find? p with
    | some z => exact ⟨z, rfl⟩
    | none => exact absurd hp (by simpa using List.find?_eq_none.mp h y hy)
theorem find_none_any {α : Type} {p : α → Bool} {ys : List α} (h : ys.find? p = none) : ys.any p = false := by
  rw [List.any_eq_false]
  exact fun y hy => List.find?_eq_none.mp h y hy
mutual
theorem eqv_refl : ∀ d : PyData, d.canLay0 = true → PyData.eqv d d = true
  | .none, _ => rfl
  | .bool b, _ => by cases b <;> rfl
  | .int i, _ => by simp [PyData.eqv]
  | .str x, _ => by simp [PyData.eqv]
  | .list xs, h => by simp only [PyData.eqv]; exact eqvAll_refl xs (by simpa [PyData.canLay0] using h)
  | .tuple xs, h => by simp only [PyData.eqv]; exact eqvAll_refl xs (by simpa [PyData.canLay0] using h)
  | .dict _, h => by simp [PyData.canLay0] at h
theorem eqvAll_refl : ∀ xs : List PyData, PyData.canLayAll0 xs = true → PyData.eqvAll xs xs = true
  | [], _ => rfl
  | x :: r, h => by
    have h' : x.canLay0 = true ∧ PyData.canLayAll0 r = true := by simpa [PyData.canLayAll0] using h
    simp only [PyData.eqvAll, eqv_refl x h'.1, eqvAll_refl r h'.2, Bool.and_self]
end
theorem pyEq_same {x y : D} {p : PyData} (hx : x.py = some p) (hy : y.py = some p) (hs : SeqAt.shaped p = true) : pyEq x y = some true := by
  unfold pyEq
  rw [hx, hy]
  show (if SeqAt.shaped p && SeqAt.shaped p then some (PyData.eqv p p) else none) = _
  rw [hs, eqv_refl p (SeqAt.canLay_of_shaped hs)]
  rfl
end TL

set_option Elab.async false
set_option linter.all false
set_option maxRecDepth 100000
/-! TL21: dicts: copies, get, items as a list. -/
namespace TL
open PySem PySem.Spec PyProof.Rows L2
section
variable {K : PySem.W.Frag}
def gDict : List D → Option D
  | [.dK _ kds] => some (.dK .own kds)
  | _ => none
theorem v_dict : OpN K (fun xs H Q => ∃ (a : Addr) (kvs : List (Key × V)), xs = [.ref a] ∧ Rd H a (.dK kvs) ∧ ∀ p, H p = none → Q (.ref p) (upd H p (.dK kvs))) gDict := by
  intro H N vs ds Lt hd nd d e Q k
  unfold gDict at e
  split at e
  · cases e
    obtain ⟨x, rfl, h1⟩ := apart1 hd
    obtain ⟨a, kvs, L1, rfl, rd, _, ek, q3, s1⟩ := inv_dK h1
    exact ⟨a, kvs, rfl, rd, fun p hp => k _ _ _ (Res.newD nd ek q3 s1 hp)⟩
  · cases e
/-- d.get(k, x) -/
def D.isD : D → Bool
  | .dK _ _ => true
  | .dT _ _ => true
  | _ => false
def gGet2 : List D → Option D
  | [d, k, x] => (dictLook d k).bind fun o => match o with
    | some r => if r.isUnd then none else some r
    | none => some x
  | _ => none
theorem isD_ty {H : Hp} {N : Fl → Addr → Prop} {v : V} {d : D} {L : List Addr} (ok : d.isD = true) (h : Dens K H N [some v] [d] L) : ∃ a, v = .ref a ∧ IsD H a := by
  cases d <;> try (cases ok; done)
  · obtain ⟨a, kvs, L1, rfl, rd, _⟩ := inv_dK h
    exact ⟨a, rfl, .inl ⟨kvs, rd⟩⟩
  · obtain ⟨a, kvs, L1, rfl, rd, _⟩ := inv_dT h
    exact ⟨a, rfl, .inr ⟨kvs, rd⟩⟩
theorem v_get2 : OpN K (fun vs H Q => match vs with
    | x :: xs => (∃ y z a o, xs = [y, z] ∧ x = .ref a ∧ DGet H a y o ∧ Q (o.getD z) H)
    | [] => False) gGet2 := by
  intro H N vs ds Lt hd nd d e Q k
  unfold gGet2 at e
  split at e
  · rename_i d0 k0 x0
    obtain ⟨o, e1, e2⟩ := Option.bind_eq_some_iff.mp e
    obtain ⟨x, y, z, L1, L2, L3, rfl, rfl, h1, h2, h3⟩ := apart3 hd
    obtain ⟨a, ov, rfl, dg, _, hh⟩ := dict_look h1 h2 e1
    refine ⟨y, z, a, ov, rfl, rfl, dg, ?_⟩
    rcases hh with ⟨rfl, rfl⟩ | ⟨v, d', M, rfl, rfl, hv, s⟩
    · cases e2
      exact k _ _ _ (Res.old nd h3 ((List.sublist_append_right L2 L3).trans (List.sublist_append_right L1 (L2 ++ L3))))
    · dsimp only at e2
      split at e2
      · cases e2
      · cases e2
        exact k _ _ _ (Res.old nd hv (s.trans (List.sublist_append_left ..)))
  · cases e
theorem Sat.get2 {td ty tx : TE} {f g h : Ev → Option (D × Ev)} {q q' q2 : Bool} (ho : Sat K q td f) (ha : Sat K q' ty g) (hb : Sat K q2 tx h) : Sat K (q && (q' && q2)) (tDGet2 td ty tx) (eRecv D.isD gGet2 f (aCons g (aCons h aNil))) := by
  refine ⟨fun σ H env ts td0 L Lo hl s d env' e Q k => ?_⟩
  unfold eRecv at e
  cases e1 : f env with
  | none => rw [e1] at e; cases e
  | some p =>
    obtain ⟨d0, en1⟩ := p
    simp only [e1] at e
    split at e
    · rename_i okd
      cases e2 : g en1 with
      | none => simp only [aCons, e2] at e; cases e
      | some p2 =>
        obtain ⟨dk, en2⟩ := p2
        cases e3 : h en2 with
        | none => simp only [aCons, e2, e3] at e; cases e
        | some p3 =>
          obtain ⟨dx, en3⟩ := p3
          simp only [aCons, e2, e3, aNil] at e
          cases e4 : gGet2 [d0, dk, dx] with
          | none => simp only [e4] at e; cases e
          | some d3 =>
            simp only [e4] at e
            obtain ⟨rfl, rfl⟩ := Prod.mk.inj (Option.some.inj e)
            refine ho.run σ H env ts td0 L Lo hl s d0 en1 e1 _ fun v H1 Lr Lb c => ?_
            obtain ⟨a, rfl, isd⟩ := isD_ty okd c.top
            refine ⟨a, rfl, isd, ?_⟩
            refine ha.run σ H1 en1 (some (.ref a) :: ts) (d0 :: td0) (Lr ++ Lb) Lo (by simp [hl]) c.sta dk en2 e2 _ fun y H2 Mr Mb c2 => ?_
            refine hb.run σ H2 en2 (some y :: some (.ref a) :: ts) (dk :: d0 :: td0) (Mr ++ Mb) Lo (by simp [hl]) c2.sta dx en3 e3 _ fun z H3 Nr Nb c3 => ?_
            obtain ⟨R1, B1, c23⟩ := c2.more c3
            obtain ⟨R, B, c4⟩ := c.more c23
            have hv := v_get2 H3 _ [.ref a, y, z] [d0, dk, dx] R c4.top (List.nodup_append.mp c4.good.nd).1 _ e4 Q fun v' H4 Lr r => k v' H4 Lr _ (c4.op r)
            obtain ⟨y', z', a', o, he, ha', dg, hq⟩ := hv
            cases he
            cases ha'
            exact ⟨o, dg, hq⟩
    · cases e
/-- list(d.items()), the dict perhaps locked -/
def rItemsR : V → Hp → VK → Prop := fun x H Q => ∃ (d : Addr) (kvs : List (Key × V)), x = .ref d ∧ Rd H d (.dK kvs) ∧
  ∀ (H' : Hp) (p : Addr) (ts : List Addr), (∀ b o, H b = some o → H' b = some o) → H p = none → (∀ t ∈ ts, H t = none) → p ∉ ts → H' p = some (.lst (ts.map V.ref)) → Paired (fun (t : Addr) (q : Key × V) => H' t = some (.tup [kV q.1, q.2])) ts kvs → Q (.ref p) H'
def tListItemsR (te : TE) : TE := fun σ H Q => te σ H fun x H1 => rItemsR x H1 Q
theorem pe_listItemsR {X : Cx} {e : Expr} {te : TE} {p apos cpos pos : Pos} (hc : X.calm = true) (he : PE X e te) (hg : Gl X "list") (hm : X.mg "list" = none) (hv : bootBuiltins "list" = some (.type "list")) (hbase : attributeBase e "items" X.env (eval e X.env) = eval e X.env := by rfl) (hline : (apos.endLine == cpos.line) = true := by rfl)
    (hs : starEach [.Call (.Attribute e "items" apos) [] [] cpos] X.env = (false, eval (.Call (.Attribute e "items" apos) [] [] cpos) X.env) :: starEach [] X.env := by rfl) :
    PE X (.Call (.Name "list" p) [.Call (.Attribute e "items" apos) [] [] cpos] [] pos) (tListItemsR te) := by
  refine ⟨fun pins s σ H Q I hq => ?_⟩
  refine wpAny_Call_Name_kw (ld_blt I hg hm hv ?_)
  refine PyProof.Rows.callWith_type1 ?_ hs rfl
  rw [hs]
  show wpAny _ _ (spliced ((false, eval (.Call (.Attribute e "items" apos) [] [] cpos) X.env) :: backTo pos (starEach [] X.env))) _ _ s
  refine Calls.spliced_cons ?_
  refine wpAny_Call_method (T := "dict") (id := "dict.items") hbase rfl hline F.plainAttrs_dict F.slot_dict_items F.type_dict_items (thn (he.run pins s σ H _ I hq) fun u s1 ⟨x, H1, I1, rx, d, kvs, ex, hd, q⟩ => ?_)
  subst ex
  obtain rfl : u = Value.ref d := rx
  obtain ⟨hz, hs0, vs, kv, hdo⟩ := hd.ok I1.hok
  obtain ⟨ep, hat⟩ := hdo.dictAt
  have lk : kvs.length = vs.length := Paired.length kv
  have I2 : Inv X pins σ H1 { s1 with heap := s1.heap.push { cls := .type "dict_items", data := .fields #[.ref d] } } := I1.kept (t' := s1.toks) fun b ob q => Heap.get?_push_of_some _ q
  refine ⟨hdo.typeIs, hdo.mapOf.noDict, ?_⟩
  show wpAny _ _ (callWith cpos (.builtin "dict.items") [.ref d] [] []) _ X.xe s1
  refine method_meetsIn F.slot_dict_items F.entry_dict_items rfl (PySem.evalArgs_none ⟨rfl, hdo.typeIs, F.args_dict_items_1 _, _, meets_dict_items (mixKind X.prog X.w) d hs0, ⟨vs, hdo⟩, ?_⟩)
  refine Calls.spliced_nil ?_
  refine PySem.W.kdx_call (knd := mixKind X.prog X.w) (kvs := vs) (ep := ep) (I1.ok.hd hc) ⟨_, Heap.get?_push_size _ rfl, rfl, rfl⟩ (hat.push _) (by omega) fun h' tk acc c as hk hS hl hG hacc => ?_
  obtain ⟨H', k1, k2, k3, k4, k5, k6, J⟩ := LiI.items_laid (tk := tk) I2 hz kv hk hS hl hG hacc
  exact ⟨.ref _, H', J, rfl, q H' _ as k1 k2 k3 k4 k5 k6⟩
/-- list(d.items()) -/
def gItems : List D → Option D
  | [.dK _ kds] => if (kds.all fun p => p.2.noOwn) = true then some (.lst .own (kds.map fun p => .tup [keyD p.1, p.2])) else none
  | _ => none
theorem noOwn_nil1 {H : Hp} {N : Fl → Addr → Prop} {o : Option V} {d : D} {L : List Addr} (h : Dens K H N [o] [d] L) (no : d.noOwn = true) : L = [] := noOwn_nil h (by rw [List.all_cons, no]; rfl)
theorem dens_items {H H' : Hp} {N N' : Fl → Addr → Prop} (hm : ∀ f a, N f a → H a ≠ none → N' f a ∧ Keep H H' a) : ∀ {kvs : List (Key × V)} {kds : List (Key × D)} {ts : List Addr} {L : List Addr}, kvs.map (·.1) = kds.map (·.1) → Dens K H N (sv kvs) (kds.map (·.2)) L → (kds.all fun p => p.2.noOwn) = true →
    Paired (fun (t : Addr) (q : Key × V) => H' t = some (.tup [kV q.1, q.2])) ts kvs → (∀ t ∈ ts, N' .frz t) → Dens K H' N' (so (ts.map V.ref)) (kds.map fun p => .tup [keyD p.1, p.2]) []
  | [], [], _, _, _, _, _, .nil, _ => .nil
  | [], _ :: _, _, _, e, _, _, _, _ => by cases e
  | _ :: _, [], _, _, e, _, _, _, _ => by cases e
  | (k1, v) :: kvs, (k2, d) :: kds, t :: ts, L, e, h, no, .cons ht hp, hn => by
    have e' := List.cons.inj e
    obtain rfl : k1 = k2 := e'.1
    rw [List.all_cons, Bool.and_eq_true] at no
    obtain ⟨L1, L2, rfl, h1, h2⟩ := Dens.cons (o := some v) (d := d) (σ := sv kvs) (ds := kds.map (·.2)) h
    obtain rfl : L1 = [] := noOwn_nil1 h1 no.1
    have ih := dens_items hm e'.2 h2 no.2 hp fun t ht => hn t (List.mem_cons_of_mem _ ht)
    have hv : Dens K H' N' [some v] [d] [] := h1.mono (fun a ha => (List.not_mem_nil ha).elim) hm
    have hk : Dens K H' N' (so [kV k1, v]) [keyD k1, d] [] := by
      cases k1 with
      | inl i => exact .int hv
      | inr x => exact .str hv
    exact Dens.tup (L1 := []) (L2 := []) ht (hn t (List.mem_cons_self ..)) hk ih
theorem v_items : OpN K (fun xs H Q => match xs with
    | [x] => rItemsR x H Q
    | _ => False) gItems := by
  intro H N vs ds Lt hd nd d e Q k
  unfold gItems at e
  split at e
  · split at e
    · rename_i no
      cases e
      obtain ⟨x, rfl, h1⟩ := apart1 hd
      obtain ⟨a, kvs, L1, rfl, ea, _, ek, q3, s1⟩ := inv_dK h1
      refine ⟨a, kvs, rfl, ea, fun H' p ts hkeep hp hts hpn hl hpair => ?_⟩
      refine k (.ref p) H' [p] ⟨fun b hb => ?_, fun b hb => .inr (by rw [List.mem_singleton.mp hb]; exact hp), List.nodup_cons.mpr ⟨List.not_mem_nil, List.nodup_nil⟩, fun N' hN hnew => ?_⟩
      · cases q : H b with
        | none => exact absurd q hb
        | some o => exact hkeep b o q
      · have di := dens_items (N' := N') (H' := H') (fun f a n hne => ⟨hN f a n hne, Keep.of (by
          cases q : H a with
          | none => exact absurd q hne
          | some o => exact hkeep a o q)⟩) ek q3 no hpair (fun t ht => hnew .frz t (hts t ht) fun z => hpn (by rw [← List.mem_singleton.mp z]; exact ht))
        exact Dens.lstO (L1 := []) (L2 := []) hl di .nil
    · cases e
  · cases e
end
section
variable {α : Type} {M : α → Cx} {K : PySem.W.Frag} {P : Program} {w : World} {mg : Str → Option Value} {base : Heap} {k : Nat}
variable {e a b o : Expr} {es : List Expr} {p apos cpos pos : Pos} {q q' q2 : Bool} {f g h : Ev → Option (D × Ev)} {fs : Ev → Option (List D × Ev)} {ld : List (Option Nat)}
theorem se_dict (F : Fm M P w K mg base k) (ha : SA M K q ld (e :: es) fs) (hm : mg "dict" = none) (hg : ∀ a, Gl (M a) "dict" := by intro _; rfl) (he : ∀ a, starEach (e :: es) (M a).env = (false, eval e (M a).env) :: starEach es (M a).env := by intro _; rfl) (hpl : ∀ a, (backTo pos (starEach es (M a).env)).any (·.1) = false := by intro _; rfl) : SE M K q (.Call (.Name "dict" p) (e :: es) [] pos) (eOp gDict fs) :=
  se_callT F (r := fun K => fun xs H Q => ∃ (a : Addr) (kvs : List (Key × V)), xs = [.ref a] ∧ Rd H a (.dK kvs) ∧ ∀ p, H p = none → Q (.ref p) (upd H p (.dK kvs))) (fun a => call_dictD) v_dict ha hm (by decide +kernel) hg (by decide) (by decide) he hpl
theorem se_get2 (hu : ∀ a, (M a).A.units + 1 < cLine) (ho : SE M K q o f) (ha : SE M K q' a g) (hb : SE M K q2 b h)
    (h1 : ∀ y, attributeBase o "get" (M y).env (eval o (M y).env) = eval o (M y).env := by intro _; rfl)
    (h2 : ∀ y, ((backTo cpos (starEach [a, b] (M y).env)).all (fun x => !x.1) && (backToKw cpos (keywordEach [] (M y).env)).all (fun x => x.1.isSome)
    && decide (([a, b] : List Expr).length + ([] : List Keyword).length + (if ([] : List Keyword).isEmpty then 0 else 1) < 30)) = true := by intro _; rfl)
    (h3 : (apos.endLine == cpos.line) = true := by rfl) (h4 : ∀ y, backTo cpos (starEach [a, b] (M y).env) = [(false, eval a (M y).env), (false, eval b (M y).env)] := by intro _; rfl) :
    SE M K (q && (q' && q2)) (.Call (.Attribute o "get" apos) [a, b] [] cpos) (eRecv D.isD gGet2 f (aCons g (aCons h aNil))) :=
  let ⟨t, a1, a2⟩ := ho; let ⟨u, a3, a4⟩ := ha; let ⟨x, a5, a6⟩ := hb
  ⟨tDGet2 t u x, fun y => pe_dget2 (hu y) (a1 y) (a3 y) (a5 y) ⟨h1 y, h2 y, h3, h4 y⟩,
    Sat.get2 a2 a4 a6⟩
theorem se_items (F : Fm M P w K mg base k) (ho : SE M K q o f) (hm : mg "list" = none) (hg : ∀ a, Gl (M a) "list" := by intro _; rfl)
    (hbase : ∀ y, attributeBase o "items" (M y).env (eval o (M y).env) = eval o (M y).env := by intro _; rfl) (hline : (apos.endLine == cpos.line) = true := by rfl)
    (hs : ∀ y, starEach [.Call (.Attribute o "items" apos) [] [] cpos] (M y).env = (false, eval (.Call (.Attribute o "items" apos) [] [] cpos) (M y).env) :: starEach [] (M y).env := by intro _; rfl) :
    SE M K (q && true) (.Call (.Name "list" p) [.Call (.Attribute o "items" apos) [] [] cpos] [] pos) (eOp gItems (aCons f aNil)) :=
  let ⟨t, a1, a2⟩ := ho
  ⟨tListItemsR t, fun y => pe_listItemsR (F.calm y) (a1 y) (hg y) (by rw [F.mg y]; exact hm) (by decide +kernel) (hbase y) hline (hs y), Sat.op1 (r := fun x H Q => rItemsR x H Q) a2 v_items⟩
end
end TL

set_option Elab.async false
set_option linter.all false
set_option maxRecDepth 100000
/-! TL22: a slot that is lent, and read by the arguments behind it. -/
namespace TL
open PySem PySem.Spec PyProof.Rows L2
def aLend (i : Nat) (fs : Ev → Option (List D × Ev)) : Ev → Option (List D × Ev) := fun env =>
  match env[i]? with
  | none => none
  | some d0 => if d0.isUnd then none else match fs env with
    | none => none
    | some (ds, e1) => match e1[i]? with
      | none => none
      | some d => if d.isUnd then none else some (d :: ds, e1.set i .und)
theorem SatA.lendL {K : PySem.W.Frag} {q' : Bool} {ld : List (Option Nat)} {ta : TA} {fs : Ev → Option (List D × Ev)} (i : Nat) (h' : SatA K q' ld ta fs) : SatA K false (some i :: ld) (tCons (tVar i) ta) (aLend i fs) := by
  refine ⟨fun σ H env ts td L Lo hl s ds env' e Q k => ?_⟩
  unfold aLend at e
  cases e0 : env[i]? with
  | none => simp only [e0] at e; cases e
  | some d0 =>
    simp only [e0] at e
    split at e
    · cases e
    · rename_i hu
      cases e1 : fs env with
      | none => simp only [e1] at e; cases e
      | some p =>
        obtain ⟨ds1, en1⟩ := p
        simp only [e1] at e
        cases e2 : en1[i]? with
        | none => simp only [e2] at e; cases e
        | some d =>
          simp only [e2] at e
          split at e
          · cases e
          · rename_i hu2
            obtain ⟨rfl, rfl⟩ := Prod.mk.inj (Option.some.inj e)
            obtain ⟨Lt0, Le0, e3, _, h2⟩ := Dens.split hl s.dens
            obtain ⟨o, L1, q1, q2, _⟩ := h2.at e0
            obtain ⟨v, rfl⟩ := q2.some1 (und_ne hu)
            refine ⟨v, q1, h'.run σ H env ts td L Lo hl s ds1 en1 e1 _ fun vs H' Lr Lb c lw => ?_⟩
            obtain ⟨Lt, Le, rfl, b1, b2⟩ := Dens.split hl c.base
            obtain ⟨o', M1, M2, t1, t2, t3, t4⟩ := b2.take e2
            have ov : o' = some v := Option.some.inj (t1.symm.trans q1)
            subst ov
            have pm : (Lr ++ (Lt ++ Le)).Perm ((M1 ++ Lr) ++ (Lt ++ M2)) := by
              refine ((List.Perm.append_left Lr (List.Perm.append_left Lt t2)).trans ?_)
              have a1 : (Lt ++ (M1 ++ M2)).Perm (M1 ++ (Lt ++ M2)) := by rw [← List.append_assoc, ← List.append_assoc]; exact List.Perm.append_right _ List.perm_append_comm
              refine (List.Perm.append_left Lr a1).trans ?_
              rw [← List.append_assoc]
              exact List.Perm.append_right _ List.perm_append_comm
            have mem : ∀ a, a ∈ (M1 ++ Lr) ++ (Lt ++ M2) → a ∈ Lr ++ (Lt ++ Le) := fun a ha => pm.mem_iff.mpr ha
            have kn : ∀ f a, Nw (Lr ++ (Lt ++ Le)) Lo f a → H' a ≠ none → Nw ((M1 ++ Lr) ++ (Lt ++ M2)) Lo f a := fun f a n _ => nw_sub mem f a n
            refine k (v :: vs) H' (M1 ++ Lr) (Lt ++ M2) ⟨c.good.perm pm, ?_, ?_, c.ext.sub mem, fun z => by cases z⟩ fun p j hp => ?_
            · exact (t3.know kn).put (c.top.know kn)
            · exact (b1.know kn).app (t4.know kn)
            · cases p with
              | zero =>
                have : j = i := by simpa using hp.symm
                subst this
                exact ⟨v, rfl, q1⟩
              | succ p => simpa using lw p j (by simpa using hp)
section
variable {α : Type} {M : α → Cx} {K : PySem.W.Frag} {e : Expr} {es : List Expr} {pos : Pos} {q' : Bool} {fs : Ev → Option (List D × Ev)} {ld : List (Option Nat)}
theorem sa_lendL {x : Str} (i : Nat) (h' : SA M K q' ld es fs) (hN : ∀ a, (M a).N[i]? = some x := by intro _; rfl) (hv : ∀ a, Vis (M a).env.scope x := by intro _; first | exact Or.inl rfl | exact Or.inr (Or.inl rfl) | exact Or.inr (Or.inr rfl)) (hd : (x == ("__debug__" : Str)) = false := by decide)
    (hcd : (x == ("__classdict__" : Str)) = false := by decide) (hs : ∀ a, starEach (.Name x pos :: es) (M a).env = (false, eval (.Name x pos) (M a).env) :: starEach es (M a).env := by intro _; rfl) : SA M K false (some i :: ld) (.Name x pos :: es) (aLend i fs) :=
  let ⟨u, h3, h4⟩ := h'; ⟨_, fun a => pa_cons (pe_var (hN a) (hv a) hd hcd) (h3 a) (hs a), SatA.lendL i h4⟩
end
def lndO (i : Nat) (env : Ev) (fs : Ev → Option (List D × Ev)) : Option D → Option (List D × Ev)
  | none => none
  | some d0 => if d0.isUnd then none else match fs env with
    | none => none
    | some (ds, e1) => match e1[i]? with
      | none => none
      | some d => if d.isUnd then none else some (d :: ds, e1.set i .und)
def lndR (i : Nat) : Option (List D × Ev) → Option (List D × Ev)
  | none => none
  | some (ds, e1) => match e1[i]? with
      | none => none
      | some d => if d.isUnd then none else some (d :: ds, e1.set i .und)
def lndS (i : Nat) (ds : List D) (e1 : Ev) : Option D → Option (List D × Ev)
  | none => none
  | some d => if d.isUnd then none else some (d :: ds, e1.set i .und)
@[simp] theorem ev_lend (i : Nat) (fs : Ev → Option (List D × Ev)) (env : Ev) : aLend i fs env = lndO i env fs env[i]? := by
  unfold aLend lndO
  cases env[i]? <;> rfl
@[simp] theorem ev_lndO (i : Nat) (env : Ev) (fs : Ev → Option (List D × Ev)) (d0 : D) : lndO i env fs (some d0) = if d0.isUnd then none else lndR i (fs env) := by
  cases h : fs env <;> simp only [lndO, lndR, h]
@[simp] theorem ev_lndR (i : Nat) (ds : List D) (e1 : Ev) : lndR i (some (ds, e1)) = lndS i ds e1 e1[i]? := by
  cases h : e1[i]? <;> simp only [lndR, lndS, h]
@[simp] theorem ev_lndS (i : Nat) (ds : List D) (e1 : Ev) (d : D) : lndS i ds e1 (some d) = if d.isUnd then none else some (d :: ds, e1.set i .und) := rfl
end TL

set_option Elab.async false
set_option linter.all false
set_option maxRecDepth 100000
/-! TL23: changes at a place inside a tree. -/
namespace TL
open PySem PySem.Spec PyProof.Rows L2
/-- a step into a tree -/
inductive Stp where
  | fld (C : Addr) (x : Str)
  | key (k : Key)
  | ix (j : Nat)
def Read1 (H : Hp) (x : V) : Stp → V → Prop
  | .fld C f, y => ∃ a dx fs, x = .ref a ∧ H a = some (.ins C dx fs) ∧ valV fs f = some y
  | .key k, y => ∃ a kvs, x = .ref a ∧ H a = some (.dK kvs) ∧ valV kvs k = some y
  | .ix j, y => ∃ a us, x = .ref a ∧ H a = some (.lst us) ∧ us[j]? = some y
def ReadsP (H : Hp) : V → List Stp → V → Prop
  | x, [], v => x = v
  | x, s :: π, v => ∃ y, Read1 H x s y ∧ ReadsP H y π v
theorem Read1.fn {H : Hp} {x y z : V} {s : Stp} (h : Read1 H x s y) (h' : Read1 H x s z) : y = z := by
  cases s with
  | fld C f =>
    obtain ⟨a, dx, fs, rfl, e, v⟩ := h
    obtain ⟨a', dx', fs', ea, e', v'⟩ := h'
    cases ea
    rw [e] at e'
    cases e'
    exact Option.some.inj (v.symm.trans v')
  | key k =>
    obtain ⟨a, kvs, rfl, e, v⟩ := h
    obtain ⟨a', kvs', ea, e', v'⟩ := h'
    cases ea
    rw [e] at e'
    cases e'
    exact Option.some.inj (v.symm.trans v')
  | ix j =>
    obtain ⟨a, us, rfl, e, v⟩ := h
    obtain ⟨a', us', ea, e', v'⟩ := h'
    cases ea
    rw [e] at e'
    cases e'
    exact Option.some.inj (v.symm.trans v')
theorem ReadsP.fn {H : Hp} : ∀ {π : List Stp} {x y z : V}, ReadsP H x π y → ReadsP H x π z → y = z
  | [], _, _, _, h, h' => h.symm.trans h'
  | s :: π, x, y, z, ⟨u, h1, h2⟩, ⟨u', h3, h4⟩ => by
    obtain rfl := h1.fn h3
    exact ReadsP.fn h2 h4
theorem Read1.still {H H' : Hp} (st : Still H H') {x y : V} {s : Stp} (h : Read1 H x s y) : Read1 H' x s y := by
  cases s with
  | fld C f =>
    obtain ⟨a, dx, fs, rfl, e, v⟩ := h
    exact ⟨a, dx, fs, rfl, (st a (by rw [e]; exact Option.some_ne_none _)).trans e, v⟩
  | key k =>
    obtain ⟨a, kvs, rfl, e, v⟩ := h
    exact ⟨a, kvs, rfl, (st a (by rw [e]; exact Option.some_ne_none _)).trans e, v⟩
  | ix j =>
    obtain ⟨a, us, rfl, e, v⟩ := h
    exact ⟨a, us, rfl, (st a (by rw [e]; exact Option.some_ne_none _)).trans e, v⟩
theorem ReadsP.still {H H' : Hp} (st : Still H H') : ∀ {π : List Stp} {x y : V}, ReadsP H x π y → ReadsP H' x π y
  | [], _, _, h => h
  | s :: π, x, y, ⟨u, h1, h2⟩ => ⟨u, h1.still st, h2.still st⟩
/-- the first entry of a key is set -/
def putF {κ : Type} [DecidableEq κ] : List (κ × D) → κ → D → List (κ × D)
  | [], _, _ => []
  | (k, d) :: r, j, e => if k = j then (k, e) :: r else (k, d) :: putF r j e
theorem putF_fst {κ : Type} [DecidableEq κ] : ∀ (kds : List (κ × D)) (k : κ) (d : D), (putF kds k d).map (·.1) = kds.map (·.1)
  | [], _, _ => rfl
  | (k, d) :: r, j, e => by
    unfold putF
    split
    · rfl
    · rw [List.map_cons, List.map_cons, putF_fst r j e]
section
variable {K : PySem.W.Frag} {H : Hp} {N : Fl → Addr → Prop}
theorem look_split {κ : Type} [DecidableEq κ] : ∀ {kvs : List (κ × V)} {kds : List (κ × D)} {L : List Addr} {k : κ} {d : D}, kvs.map (·.1) = kds.map (·.1) → Dens K H N (sv kvs) (kds.map (·.2)) L → lookD kds k = some d → d ≠ .und →
    ∃ (v : V) (Ld Lr : List Addr) (mix : List Addr → List Addr), valV kvs k = some v ∧ L.Perm (Ld ++ Lr) ∧ Dens K H N [some v] [d] Ld ∧ (∀ M, (mix M).Perm (M ++ Lr)) ∧ ∀ (H' : Hp) (N' : Fl → Addr → Prop) (d' : D) (Ld' : List Addr), (∀ b ∈ Lr, H' b = H b) → (∀ f a, N f a → H a ≠ none → N' f a ∧ Keep H H' a) → Dens K H' N' [some v] [d'] Ld' →
      Dens K H' N' (sv kvs) ((putF kds k d').map (·.2)) (mix Ld')
  | [], [], _, _, _, _, _, e, _ => by cases e
  | [], _ :: _, _, _, _, e, _, _, _ => by cases e
  | _ :: _, [], _, _, _, e, _, _, _ => by cases e
  | (k1, u) :: kvs, (k2, d2) :: kds, L, k, d, e, h, hl, hd => by
    have e' := List.cons.inj e
    obtain rfl : k1 = k2 := e'.1
    obtain ⟨L1, L2, rfl, h1, h2⟩ := Dens.cons (o := some u) (d := d2) (σ := sv kvs) (ds := kds.map (·.2)) h
    by_cases z : k1 = k
    · have : d2 = d := by simpa [lookD, List.find?_cons, z] using hl
      subst this
      refine ⟨u, L1, L2, fun M => M ++ L2, valV_pos z, List.Perm.refl _, h1, fun M => List.Perm.refl _, fun H' N' d' Ld' hL hN hd' => ?_⟩
      unfold putF
      rw [if_pos z]
      exact hd'.put (h2.mono hL hN)
    · have l1 : lookD ((k1, d2) :: kds) k = lookD kds k := by simp [lookD, List.find?_cons, z]
      rw [l1] at hl
      obtain ⟨v, Ld, Lr, mix, q1, q2, q3, qm, q4⟩ := look_split e'.2 h2 hl hd
      have sw : ∀ M, (L1 ++ (M ++ Lr)).Perm (M ++ (L1 ++ Lr)) := fun M => by rw [← List.append_assoc, ← List.append_assoc]; exact List.Perm.append_right _ List.perm_append_comm
      refine ⟨v, Ld, L1 ++ Lr, fun M => L1 ++ mix M, (valV_neg z).trans q1, (List.Perm.append_left L1 q2).trans (sw Ld), q3, fun M => (List.Perm.append_left L1 (qm M)).trans (sw M), fun H' N' d' Ld' hL hN hd' => ?_⟩
      have p2 := q4 H' N' d' Ld' (fun b hb => hL b (List.mem_append_right _ hb)) hN hd'
      unfold putF
      rw [if_neg z]
      exact (h1.mono (fun b hb => hL b (List.mem_append_left _ hb)) hN).put p2
theorem at_split : ∀ {us : List V} {xs : List D} {L : List Addr} {j : Nat} {d : D}, Dens K H N (so us) xs L → xs[j]? = some d → d ≠ .und →
    ∃ (v : V) (Ld Lr : List Addr) (mix : List Addr → List Addr), us[j]? = some v ∧ L.Perm (Ld ++ Lr) ∧ Dens K H N [some v] [d] Ld ∧ (∀ M, (mix M).Perm (M ++ Lr)) ∧ ∀ (H' : Hp) (N' : Fl → Addr → Prop) (d' : D) (Ld' : List Addr), (∀ b ∈ Lr, H' b = H b) → (∀ f a, N f a → H a ≠ none → N' f a ∧ Keep H H' a) → Dens K H' N' [some v] [d'] Ld' →
      Dens K H' N' (so us) (xs.set j d') (mix Ld')
  | [], [], _, _, _, _, e, _ => by cases e
  | [], _ :: _, _, _, _, h, _, _ => by cases h
  | _ :: _, [], _, _, _, _, e, _ => by cases e
  | u :: us, x :: xs, L, 0, d, h, hl, hd => by
    obtain ⟨L1, L2, rfl, h1, h2⟩ := Dens.cons (o := some u) (d := x) (σ := so us) (ds := xs) h
    obtain rfl : x = d := Option.some.inj hl
    exact ⟨u, L1, L2, fun M => M ++ L2, rfl, List.Perm.refl _, h1, fun M => List.Perm.refl _, fun H' N' d' Ld' hL hN hd' => hd'.put (h2.mono hL hN)⟩
  | u :: us, x :: xs, L, j + 1, d, h, hl, hd => by
    obtain ⟨L1, L2, rfl, h1, h2⟩ := Dens.cons (o := some u) (d := x) (σ := so us) (ds := xs) h
    obtain ⟨v, Ld, Lr, mix, q1, q2, q3, qm, q4⟩ := at_split (j := j) h2 hl hd
    have sw : ∀ M, (L1 ++ (M ++ Lr)).Perm (M ++ (L1 ++ Lr)) := fun M => by rw [← List.append_assoc, ← List.append_assoc]; exact List.Perm.append_right _ List.perm_append_comm
    exact ⟨v, Ld, L1 ++ Lr, fun M => L1 ++ mix M, q1, (List.Perm.append_left L1 q2).trans (sw Ld), q3, fun M => (List.Perm.append_left L1 (qm M)).trans (sw M), fun H' N' d' Ld' hL hN hd' =>
      (h1.mono (fun b hb => hL b (List.mem_append_left _ hb)) hN).put (q4 H' N' d' Ld' (fun b hb => hL b (List.mem_append_right _ hb)) hN hd')⟩
/-- one step down -/
def get1 : Stp → D → Option D
  | .fld C f, .ins .own C' fs => if C' = C then lookD fs f else none
  | .key k, .dK .own kds => lookD kds k
  | .ix j, .lst .own xs => xs[j]?
  | _, _ => none
def set1 : Stp → D → D → D
  | .fld _ f, d, .ins g C fs => .ins g C (putF fs f d)
  | .key k, d, .dK g kds => .dK g (putF kds k d)
  | .ix j, d, .lst g xs => .lst g (xs.set j d)
  | _, _, d0 => d0
def lift1 (s : Stp) (g : D → List D → Option (D × D)) : D → List D → Option (D × D) := fun d0 ds =>
  (get1 s d0).bind fun d => if d.isUnd then none else (g d ds).map fun p => (p.1, set1 s p.2 d0)
def rd1 (s : Stp) (r : V → List V → Hp → VK → Prop) : V → List V → Hp → VK → Prop := fun x vs H Q => ∃ y, Read1 H x s y ∧ r y vs H Q
/-- the frame: a part of an object is changed, the object is found again -/
theorem MRes.up {a : Addr} {Ld Lr Lt L1 : List Addr} {v w : V} {r d' : D} {H' : Hp} {Lr' Ld' L' : List Addr} (ha : H a ≠ none) (pm : L1.Perm (Ld ++ Lr)) (live : ∀ b ∈ L1, H b ≠ none) (nd : ((a :: L1) ++ Lt).Nodup)
    (m : MRes K H N Ld Lt v w r d' H' Lr' Ld') (p' : L'.Perm (Ld' ++ Lr)) {x : V} {d0 : D}
    (mk : ∀ N' : Fl → Addr → Prop, (∀ f a, N f a → H a ≠ none → N' f a) → Dens K H' N' [some v] [d'] Ld' → Dens K H' N' [some x] [d0] (a :: L')) : MRes K H N (a :: L1) Lt x w r d0 H' Lr' (a :: L') := by
  have nd2 : ((a :: (Ld ++ Lr)) ++ Lt).Nodup := (((pm.cons a).append_right Lt).nodup_iff).mp nd
  have na : a ∉ (Ld ++ Lr) ++ Lt := (List.nodup_cons.mp (show (a :: ((Ld ++ Lr) ++ Lt)).Nodup from nd2)).1
  have nd3 := (List.nodup_cons.mp (show (a :: ((Ld ++ Lr) ++ Lt)).Nodup from nd2)).2
  have nd4 := List.nodup_append.mp nd3
  have nd5 := List.nodup_append.mp nd4.1
  have liveR : ∀ b ∈ Lr, H b ≠ none := fun b hb => live b (pm.mem_iff.mpr (List.mem_append_right _ hb))
  -- what comes of the part is none of the rest
  have apartR : ∀ b ∈ Lr' ++ Ld', b ∉ Lr := fun b hb z => by
    rcases m.sub b hb with y | y
    · rcases List.mem_append.mp y with y | y
      · exact nd5.2.2 b y b z rfl
      · exact nd4.2.2 b (List.mem_append_right _ z) b y rfl
    · exact liveR b z y
  have apartA : ∀ b ∈ Lr' ++ Ld', b ≠ a := fun b hb z => by
    subst z
    rcases m.sub b hb with y | y
    · rcases List.mem_append.mp y with y | y
      · exact na (List.mem_append_left _ (List.mem_append_left _ y))
      · exact na (List.mem_append_right _ y)
    · exact ha y
  have mem' : ∀ b ∈ Lr' ++ (a :: L'), b ∈ Lr' ++ Ld' ∨ b = a ∨ b ∈ Lr := fun b hb => by
    rcases List.mem_append.mp hb with z | z
    · exact .inl (List.mem_append_left _ z)
    · rcases List.mem_cons.mp z with z | z
      · exact .inr (.inl z)
      · rcases List.mem_append.mp (p'.mem_iff.mp z) with z | z
        · exact .inl (List.mem_append_right _ z)
        · exact .inr (.inr z)
  have mn := List.nodup_append.mp m.nd
  refine ⟨fun b hb n => m.keep b hb fun z => n (List.mem_cons_of_mem _ (pm.mem_iff.mpr (List.mem_append_left _ z))), m.live, fun b hb => ?_, ?_, fun N' h1 h2 => ?_⟩
  · rcases mem' b hb with z | z | z
    · rcases m.sub b z with y | y
      · rcases List.mem_append.mp y with y | y
        · exact .inl (List.mem_append_left _ (List.mem_cons_of_mem _ (pm.mem_iff.mpr (List.mem_append_left _ y))))
        · exact .inl (List.mem_append_right _ y)
      · exact .inr y
    · exact .inl (by rw [z]; exact List.mem_append_left _ (List.mem_cons_self ..))
    · exact .inl (List.mem_append_left _ (List.mem_cons_of_mem _ (pm.mem_iff.mpr (List.mem_append_right _ z))))
  · refine List.nodup_append.mpr ⟨mn.1, List.nodup_cons.mpr ⟨fun z => ?_, p'.nodup_iff.mpr (List.nodup_append.mpr ⟨mn.2.1, nd5.2.1, fun b hb c hc e => by subst e; exact apartR b (List.mem_append_right _ hb) hc⟩)⟩, fun b hb c hc e => ?_⟩
    · rcases List.mem_append.mp (p'.mem_iff.mp z) with y | y
      · exact apartA a (List.mem_append_right _ y) rfl
      · exact na (List.mem_append_left _ (List.mem_append_right _ y))
    · subst e
      rcases List.mem_cons.mp hc with z | z
      · exact apartA b (List.mem_append_left _ hb) z
      · rcases List.mem_append.mp (p'.mem_iff.mp z) with y | y
        · exact mn.2.2 b hb b y rfl
        · exact apartR b (List.mem_append_left _ hb) y
  · obtain ⟨r1, r2⟩ := m.res N' h1 fun f p hp n => h2 f p hp fun z => by
      rcases mem' p z with y | y | y
      · exact n y
      · rw [y] at hp; exact ha hp
      · exact liveR p y hp
    exact ⟨r1, mk N' h1 r2⟩
theorem OpM.lift1 {r : V → List V → Hp → VK → Prop} {g : D → List D → Option (D × D)} (o : OpM K r g) (s : Stp) : OpM K (rd1 s r) (TL.lift1 s g) := by
  intro H N x vs d0 ds Ld0 Lt h1 h2 nd hN r' d' e Q k
  unfold TL.lift1 at e
  obtain ⟨d, e1, e2⟩ := Option.bind_eq_some_iff.mp e
  split at e2
  · cases e2
  · rename_i hu
    obtain ⟨p, e3, e4⟩ := Option.map_eq_some_iff.mp e2
    obtain ⟨rp, dp⟩ := p
    cases e4
    -- what both kinds share
    have body : ∀ {κ : Type} [DecidableEq κ] {a : Addr} {kvs : List (κ × V)} {kds : List (κ × D)} {L1 : List Addr} {kk : κ} (hob : V → HO → Prop), x = .ref a → Ld0 = a :: L1 → H a ≠ none → kvs.map (·.1) = kds.map (·.1) → Dens K H N (sv kvs) (kds.map (·.2)) L1 → lookD kds kk = some d →
        (∀ v, valV kvs kk = some v → Read1 H (.ref a) s v) →
        (∀ (H' : Hp) (N' : Fl → Addr → Prop) (L9 : List Addr), H' a = H a → Dens K H' N' (sv kvs) ((putF kds kk dp).map (·.2)) L9 → Dens K H' N' [some (.ref a)] [set1 s dp d0] (a :: L9)) → rd1 s r x vs H Q := by
      intro κ _ a kvs kds L1 kk _ ex eL ha ek q el hrd mk
      subst ex eL
      obtain ⟨v, Ld, Lr, mix, v1, pm, v2, qm, back⟩ := look_split ek q el (und_ne hu)
      have ndp : ((a :: (Ld ++ Lr)) ++ Lt).Nodup := (((pm.cons a).append_right Lt).nodup_iff).mp nd
      have nd3 := (List.nodup_cons.mp (show (a :: ((Ld ++ Lr) ++ Lt)).Nodup from ndp))
      have nd4 := List.nodup_append.mp nd3.2
      have ndd : (Ld ++ Lt).Nodup := List.nodup_append.mpr ⟨(List.nodup_append.mp nd4.1).1, nd4.2.1, fun b hb c hc => nd4.2.2 b (List.mem_append_left _ hb) c hc⟩
      have hNd : ∀ f b, N f b → b ∉ Ld := fun f b n z => hN f b n (List.mem_cons_of_mem _ (pm.mem_iff.mpr (List.mem_append_left _ z)))
      refine ⟨v, hrd v v1, o H N v vs d ds Ld Lt v2 h2 ndd hNd _ _ e3 Q fun w H' Lr' Ld' m => ?_⟩
      have kr : ∀ b ∈ Lr, H' b = H b := fun b hb => m.keep b (q.live b (pm.mem_iff.mpr (List.mem_append_right _ hb))) fun z => (List.nodup_append.mp nd4.1).2.2 b z b hb rfl
      have ea' : H' a = H a := m.keep a ha fun z => nd3.1 (List.mem_append_left _ (List.mem_append_left _ z))
      refine k w H' Lr' (a :: mix Ld') (MRes.up ha pm q.live nd m (qm Ld') fun N' hN' hd => ?_)
      exact mk H' N' _ ea' (back H' N' dp Ld' kr (fun f b n hb => ⟨hN' f b n hb, Keep.of (m.keep b hb (hNd f b n))⟩) hd)
    cases s with
    | fld C f =>
      cases d0 <;> try (cases e1; done)
      rename_i fl C' fs
      cases fl <;> try (cases e1; done)
      have e1' : (if C' = C then lookD fs f else none) = some d := e1
      split at e1'
      · rename_i hC
        subst hC
        obtain ⟨a, dx, kvs, L1, rfl, ea, rfl, ek, q⟩ := ins_own h1
        refine body (fun _ _ => True) rfl rfl (by rw [ea]; exact Option.some_ne_none _) ek q e1' (fun v hv => ⟨a, dx, kvs, rfl, ea, hv⟩) fun H' N' L9 eh hd => ?_
        have := Dens.insO (K := K) (N := N') (vs := []) (ds := []) (L2 := []) (eh.trans ea) (ek.trans (putF_fst fs f dp).symm) hd .nil
        rw [List.append_nil] at this
        exact this
      · cases e1'
    | key kk =>
      cases d0 <;> try (cases e1; done)
      rename_i fl kds
      cases fl <;> try (cases e1; done)
      obtain ⟨a, kvs, L1, rfl, ea, rfl, ek, q⟩ := dK_own h1
      refine body (fun _ _ => True) rfl rfl (by rw [ea]; exact Option.some_ne_none _) ek q e1 (fun v hv => ⟨a, kvs, rfl, ea, hv⟩) fun H' N' L9 eh hd => ?_
      have := Dens.dKO (K := K) (N := N') (vs := []) (ds := []) (L2 := []) (eh.trans ea) (ek.trans (putF_fst kds kk dp).symm) hd .nil
      rw [List.append_nil] at this
      exact this
    | ix j =>
      cases d0 <;> try (cases e1; done)
      rename_i fl xs
      cases fl <;> try (cases e1; done)
      obtain ⟨a, us, L1, rfl, ea, rfl, q⟩ := lst_own h1
      have ha : H a ≠ none := by rw [ea]; exact Option.some_ne_none _
      obtain ⟨v, Ld, Lr, mix, v1, pm, v2, qm, back⟩ := at_split (j := j) q e1 (und_ne hu)
      have ndp : ((a :: (Ld ++ Lr)) ++ Lt).Nodup := (((pm.cons a).append_right Lt).nodup_iff).mp nd
      have nd3 := (List.nodup_cons.mp (show (a :: ((Ld ++ Lr) ++ Lt)).Nodup from ndp))
      have nd4 := List.nodup_append.mp nd3.2
      have ndd : (Ld ++ Lt).Nodup := List.nodup_append.mpr ⟨(List.nodup_append.mp nd4.1).1, nd4.2.1, fun b hb c hc => nd4.2.2 b (List.mem_append_left _ hb) c hc⟩
      have hNd : ∀ f b, N f b → b ∉ Ld := fun f b n z => hN f b n (List.mem_cons_of_mem _ (pm.mem_iff.mpr (List.mem_append_left _ z)))
      refine ⟨v, ⟨a, us, rfl, ea, v1⟩, o H N v vs d ds Ld Lt v2 h2 ndd hNd _ _ e3 Q fun w H' Lr' Ld' m => ?_⟩
      have kr : ∀ b ∈ Lr, H' b = H b := fun b hb => m.keep b (q.live b (pm.mem_iff.mpr (List.mem_append_right _ hb))) fun z => (List.nodup_append.mp nd4.1).2.2 b z b hb rfl
      have ea' : H' a = H a := m.keep a ha fun z => nd3.1 (List.mem_append_left _ (List.mem_append_left _ z))
      refine k w H' Lr' (a :: mix Ld') (MRes.up ha pm q.live nd m (qm Ld') fun N' hN' hd => ?_)
      have := Dens.lstO (K := K) (N := N') (vs := []) (ds := []) (L2 := []) (ea'.trans ea) (back H' N' dp Ld' kr (fun f b n hb => ⟨hN' f b n hb, Keep.of (m.keep b hb (hNd f b n))⟩) hd) .nil
      rw [List.append_nil] at this
      exact this
/-- along a path -/
def liftP : List Stp → (D → List D → Option (D × D)) → D → List D → Option (D × D)
  | [], g => g
  | s :: π, g => TL.lift1 s (liftP π g)
def rdP (π : List Stp) (r : V → List V → Hp → VK → Prop) : V → List V → Hp → VK → Prop := fun x vs H Q => ∃ y, ReadsP H x π y ∧ r y vs H Q
theorem OpM.liftP {r : V → List V → Hp → VK → Prop} {g : D → List D → Option (D × D)} (o : OpM K r g) : ∀ π : List Stp, OpM K (rdP π r) (TL.liftP π g)
  | [] => fun H N x vs d ds Ld Lt h1 h2 nd hN r' d' e Q k => ⟨x, rfl, o H N x vs d ds Ld Lt h1 h2 nd hN r' d' e Q k⟩
  | s :: π => fun H N x vs d ds Ld Lt h1 h2 nd hN r' d' e Q k => by
    obtain ⟨y, hy, z, hz, q⟩ := (o.liftP π).lift1 s H N x vs d ds Ld Lt h1 h2 nd hN r' d' e Q k
    exact ⟨z, ⟨y, hy, hz⟩, q⟩
end
end TL

set_option Elab.async false
set_option linter.all false
set_option maxRecDepth 100000
/-! TL24: a name for a place inside a tree (x = o.f.setdefault(k, d)). -/
namespace TL
open PySem PySem.Spec PyProof.Rows L2
section
variable {K : PySem.W.Frag} {H : Hp} {N : Fl → Addr → Prop}
theorem Dens.zip1 {x : V} {s : Stp} {d0 d : D} {L0 : List Addr} (h : Dens K H N [some x] [d0] L0) (e : get1 s d0 = some d) (hd : d ≠ .und) :
    ∃ (v : V) (Ld Lr : List Addr) (mix : List Addr → List Addr), Read1 H x s v ∧ L0.Perm (Ld ++ Lr) ∧ Dens K H N [some v] [d] Ld ∧ (∀ M, (mix M).Perm (M ++ Lr)) ∧ ∀ (H' : Hp) (N' : Fl → Addr → Prop) (d' : D) (Ld' : List Addr), (∀ b ∈ Lr, H' b = H b) → (∀ f a, N f a → H a ≠ none → N' f a ∧ Keep H H' a) → Dens K H' N' [some v] [d'] Ld' →
      Dens K H' N' [some x] [set1 s d' d0] (mix Ld') := by
  cases s with
  | fld C f =>
    cases d0 <;> try (cases e; done)
    rename_i fl C' fs
    cases fl <;> try (cases e; done)
    have e' : (if C' = C then lookD fs f else none) = some d := e
    split at e'
    · rename_i hC
      subst hC
      obtain ⟨a, dx, kvs, L1, rfl, ea, rfl, ek, q⟩ := ins_own h
      obtain ⟨v, Ld, Lr, mix, v1, pm, v2, qm, back⟩ := look_split ek q e' hd
      refine ⟨v, Ld, a :: Lr, fun M => a :: mix M, ⟨a, dx, kvs, rfl, ea, v1⟩, (pm.cons a).trans List.perm_middle.symm, v2, fun M => ((qm M).cons a).trans List.perm_middle.symm, fun H' N' d' Ld' hL hN hd' => ?_⟩
      have b := back H' N' d' Ld' (fun b hb => hL b (List.mem_cons_of_mem _ hb)) hN hd'
      have := Dens.insO (K := K) (N := N') (vs := []) (ds := []) (L2 := []) ((hL a (List.mem_cons_self ..)).trans ea) (ek.trans (putF_fst fs f d').symm) b .nil
      rw [List.append_nil] at this
      exact this
    · cases e'
  | key kk =>
    cases d0 <;> try (cases e; done)
    rename_i fl kds
    cases fl <;> try (cases e; done)
    obtain ⟨a, kvs, L1, rfl, ea, rfl, ek, q⟩ := dK_own h
    obtain ⟨v, Ld, Lr, mix, v1, pm, v2, qm, back⟩ := look_split ek q e hd
    refine ⟨v, Ld, a :: Lr, fun M => a :: mix M, ⟨a, kvs, rfl, ea, v1⟩, (pm.cons a).trans List.perm_middle.symm, v2, fun M => ((qm M).cons a).trans List.perm_middle.symm, fun H' N' d' Ld' hL hN hd' => ?_⟩
    have b := back H' N' d' Ld' (fun b hb => hL b (List.mem_cons_of_mem _ hb)) hN hd'
    have := Dens.dKO (K := K) (N := N') (vs := []) (ds := []) (L2 := []) ((hL a (List.mem_cons_self ..)).trans ea) (ek.trans (putF_fst kds kk d').symm) b .nil
    rw [List.append_nil] at this
    exact this
  | ix j =>
    cases d0 <;> try (cases e; done)
    rename_i fl xs
    cases fl <;> try (cases e; done)
    obtain ⟨a, us, L1, rfl, ea, rfl, q⟩ := lst_own h
    obtain ⟨v, Ld, Lr, mix, v1, pm, v2, qm, back⟩ := at_split (j := j) q e hd
    refine ⟨v, Ld, a :: Lr, fun M => a :: mix M, ⟨a, us, rfl, ea, v1⟩, (pm.cons a).trans List.perm_middle.symm, v2, fun M => ((qm M).cons a).trans List.perm_middle.symm, fun H' N' d' Ld' hL hN hd' => ?_⟩
    have b := back H' N' d' Ld' (fun b hb => hL b (List.mem_cons_of_mem _ hb)) hN hd'
    have := Dens.lstO (K := K) (N := N') (vs := []) (ds := []) (L2 := []) ((hL a (List.mem_cons_self ..)).trans ea) b .nil
    rw [List.append_nil] at this
    exact this
def getP : List Stp → D → Option D
  | [], d => if d.isUnd then none else some d
  | s :: π, d => (get1 s d).bind fun e => if e.isUnd then none else getP π e
def setP : List Stp → D → D → D
  | [], d', _ => d'
  | s :: π, d', d0 => match get1 s d0 with
    | some e => set1 s (setP π d' e) d0
    | none => d0
theorem Dens.zip : ∀ {π : List Stp} {x : V} {d0 d : D} {L0 : List Addr}, Dens K H N [some x] [d0] L0 → getP π d0 = some d →
    ∃ (v : V) (Ld Lr : List Addr) (mix : List Addr → List Addr), ReadsP H x π v ∧ L0.Perm (Ld ++ Lr) ∧ Dens K H N [some v] [d] Ld ∧ (∀ M, (mix M).Perm (M ++ Lr)) ∧ ∀ (H' : Hp) (N' : Fl → Addr → Prop) (d' : D) (Ld' : List Addr), (∀ b ∈ Lr, H' b = H b) → (∀ f a, N f a → H a ≠ none → N' f a ∧ Keep H H' a) → Dens K H' N' [some v] [d'] Ld' →
      Dens K H' N' [some x] [setP π d' d0] (mix Ld')
  | [], x, d0, d, L0, h, e => by
    unfold getP at e
    split at e
    · cases e
    · cases e
      exact ⟨x, L0, [], id, rfl, by rw [List.append_nil], h, fun M => by rw [List.append_nil]; exact List.Perm.refl _, fun H' N' d' Ld' _ _ hd' => hd'⟩
  | s :: π, x, d0, d, L0, h, e => by
    obtain ⟨e1, h1, h2⟩ := Option.bind_eq_some_iff.mp e
    split at h2
    · cases h2
    · rename_i hu
      obtain ⟨v, Ld, Lr, mix, r1, p1, q1, m1, b1⟩ := h.zip1 h1 (und_ne hu)
      obtain ⟨w, Md, Mr, mix2, r2, p2, q2, m2, b2⟩ := q1.zip h2
      refine ⟨w, Md, Mr ++ Lr, fun M => mix (mix2 M), ⟨v, r1, r2⟩, p1.trans ((List.Perm.append_right Lr p2).trans (by rw [List.append_assoc])), q2, fun M => (m1 _).trans ((List.Perm.append_right Lr (m2 M)).trans (by rw [List.append_assoc])), fun H' N' d' Ld' hL hN hd' => ?_⟩
      have c := b1 H' N' _ _ (fun b hb => hL b (List.mem_append_right _ hb)) hN (b2 H' N' d' Ld' (fun b hb => hL b (List.mem_append_left _ hb)) hN hd')
      have e9 : setP (s :: π) d' d0 = set1 s (setP π d' e1) d0 := by show (match get1 s d0 with | some e => _ | none => _) = _; rw [h1]
      rw [e9]
      exact c
theorem perm3 {α : Type} (A B C : List α) : (A ++ (B ++ C)).Perm (B ++ (A ++ C)) := by
  rw [← List.append_assoc, ← List.append_assoc]
  exact List.Perm.append_right _ List.perm_append_comm
/-- a place of a slot is held by itself; the rest of the slot's tree is lent out -/
theorem Sta.focus {Lo : Lent} {ts σ : List (Option V)} {td : List D} {env : Ev} {L : List Addr} {i : Nat} {t1 d : D} {π : List Stp} (hl : ts.length = td.length) (s : Sta K Lo H (ts ++ σ) (td ++ env) L) (ei : env[i]? = some t1) (hu : ¬ t1.isUnd = true) (gp : getP π t1 = some d) :
    ∃ (x0 v : V) (Lr L1 : List Addr), σ[i]? = some (some x0) ∧ ReadsP H x0 π v ∧ Sta K (LoB Lo Lr) H (some v :: (ts ++ σ)) (d :: (td ++ env.set i .und)) L1 ∧ (∀ a ∈ L1, a ∈ L) ∧
      ∀ (H' : Hp) (L' : List Addr) (hs : List (Option V)) (hd : List D) (σ' : L2.St) (env2 : Ev) (d' : D), hs.length = hd.length → Sta K (LoB Lo Lr) H' (some v :: (hs ++ σ')) (d' :: (hd ++ env2)) L' → (d' :: (hd ++ env2)).all D.closed = true → Ext L1 H L' H' → σ'[i]? = some (some x0) → i < env2.length →
        ∃ L2, Sta K Lo H' (hs ++ σ') (hd ++ env2.set i (setP π d' t1)) L2 ∧ Ext L H L2 H' := by
  obtain ⟨Lt, Le, rfl, h1, h2⟩ := Dens.split hl s.dens
  obtain ⟨o, M1, M2, q1, q2, q3, q4⟩ := h2.take ei
  obtain ⟨x0, rfl⟩ := q3.some1 (und_ne hu)
  obtain ⟨v, Ld, Lr, mix, rp, pm, vd, mm, back⟩ := q3.zip gp
  have PM : (Lt ++ Le).Perm (Lr ++ (Ld ++ (Lt ++ M2))) := by
    have a1 : (Lt ++ Le).Perm (Lt ++ ((Ld ++ Lr) ++ M2)) := List.Perm.append_left Lt (q2.trans (List.Perm.append_right M2 pm))
    refine a1.trans ?_
    refine (perm3 Lt (Ld ++ Lr) M2).trans ?_
    rw [List.append_assoc Ld Lr]
    exact perm3 Ld Lr (Lt ++ M2)
  have nd := List.nodup_append.mp (PM.nodup_iff.mp s.good.nd)
  have inL : ∀ a ∈ Ld ++ (Lt ++ M2), a ∈ Lt ++ Le := fun a ha => PM.mem_iff.mpr (List.mem_append_right _ ha)
  have inR : ∀ a ∈ Lr, a ∈ Lt ++ Le := fun a ha => PM.mem_iff.mpr (List.mem_append_left _ ha)
  have live : ∀ a ∈ Lt ++ Le, H a ≠ none := s.dens.live
  have kn : ∀ f a, Nw (Lt ++ Le) Lo f a → H a ≠ none → Nw (Ld ++ (Lt ++ M2)) (LoB Lo Lr) f a := fun f a n _ => ⟨fun z => n.1 (inL a z), fun z => z.elim n.2 fun z => n.1 (inR a z.2)⟩
  refine ⟨x0, v, Lr, Ld ++ (Lt ++ M2), q1, rp, ⟨⟨nd.2.1, fun f a ha z => z.elim (s.good.no f a (inL a ha)) fun z => nd.2.2 a z.2 a ha rfl, fun f a z => z.elim (s.good.lent f a) fun z => ⟨live a (inR a z.2), s.dens.notup a (inR a z.2)⟩, fun a z => z.elim (s.good.nov a) fun z => z.1 rfl⟩, (vd.know kn).put ((h1.know kn).app (q4.know kn))⟩, inL, ?_⟩
  intro H' L' hs hd σ' env2 d' hh s' cl x si il
  obtain ⟨Ld', LA, rfl, b1, b2⟩ := s'.dens.cons
  obtain ⟨Lh, Ls, rfl, b3, b4⟩ := Dens.split hh b2
  have sn := List.nodup_append.mp s'.good.nd
  have sn2 := List.nodup_append.mp sn.2.1
  -- what is owned then is none of the rest
  have apart : ∀ b ∈ Ld' ++ (Lh ++ Ls), b ∉ Lr := fun b hb z => (x.own b hb).elim (fun y => nd.2.2 b z b y rfl) fun y => live b (inR b z) y
  rw [List.all_cons, List.all_append, Bool.and_eq_true, Bool.and_eq_true] at cl
  -- knowledge of closed trees
  have kc : ∀ {τ : List (Option V)} {es : List D} {M : List Addr}, es.all D.closed = true → Dens K H' (Nw (Ld' ++ (Lh ++ Ls)) (LoB Lo Lr)) τ es M → Dens K H' (Nw ((Ld' ++ (Lh ++ Ls)) ++ Lr) Lo) τ es M := fun {τ es M} ce h => by
    have go : ∀ f a, f ≠ .view → Nw (Ld' ++ (Lh ++ Ls)) (LoB Lo Lr) f a → Nw ((Ld' ++ (Lh ++ Ls)) ++ Lr) Lo f a := fun f a hf n => ⟨fun z => (List.mem_append.mp z).elim n.1 fun z => n.2 (.inr ⟨hf, z⟩), fun z => n.2 (.inl z)⟩
    refine h.knowC (p := fun f => decide (f ≠ .view)) (fun f a _ hp n _ => go f a (of_decide_eq_true hp) n) (fun a us n _ => go .frz a (by decide) n) (fun a o us n _ => go .ext a (by decide) n) ce
  have c1 := kc (es := [d']) (by rw [List.all_cons, cl.1]; rfl) b1
  have c3 := kc cl.2.1 b3
  have c4 := kc cl.2.2 b4
  have hL : ∀ b ∈ Lr, H' b = H b := fun b hb => x.keep b (live b (inR b hb)) fun z => nd.2.2 b hb b z rfl
  have hN : ∀ f a, Nw (Lt ++ Le) Lo f a → H a ≠ none → Nw ((Ld' ++ (Lh ++ Ls)) ++ Lr) Lo f a ∧ Keep H H' a := fun f a n ha => ⟨⟨fun z => (List.mem_append.mp z).elim (fun z => (x.own a z).elim (fun y => n.1 (inL a y)) ha) fun z => n.1 (inR a z), n.2⟩, Keep.of (x.keep a ha fun z => n.1 (inL a z))⟩
  have bk := back H' _ d' Ld' hL hN c1
  obtain ⟨M, L5, sb, pm5, q5⟩ := Dens.setAt bk c4 i il
  rw [set_same si] at q5
  have mem5 : ∀ a ∈ L5, (a ∈ Ld' ∨ a ∈ Lr) ∨ a ∈ M := fun a ha => by
    rcases List.mem_append.mp (pm5.mem_iff.mp ha) with z | z
    · rcases List.mem_append.mp ((mm Ld').mem_iff.mp z) with z | z
      · exact .inl (.inl z)
      · exact .inl (.inr z)
    · exact .inr z
  have memF : ∀ a ∈ Lh ++ L5, a ∈ (Ld' ++ (Lh ++ Ls)) ++ Lr := fun a ha => by
    rcases List.mem_append.mp ha with z | z
    · exact List.mem_append_left _ (List.mem_append_right _ (List.mem_append_left _ z))
    · rcases mem5 a z with (z | z) | z
      · exact List.mem_append_left _ (List.mem_append_left _ z)
      · exact List.mem_append_right _ z
      · exact List.mem_append_left _ (List.mem_append_right _ (List.mem_append_right _ (sb.subset z)))
  have ndm : (mix Ld').Nodup := (mm Ld').nodup_iff.mpr (List.nodup_append.mpr ⟨sn.1, nd.1, fun b hb c hc e => by subst e; exact apart b (List.mem_append_left _ hb) hc⟩)
  have nd5 : L5.Nodup := pm5.nodup_iff.mpr (List.nodup_append.mpr ⟨ndm, sb.nodup sn2.2.1, fun b hb c hc e => by
    subst e
    rcases List.mem_append.mp ((mm Ld').mem_iff.mp hb) with z | z
    · exact sn.2.2 b z b (List.mem_append_right _ (sb.subset hc)) rfl
    · exact apart b (List.mem_append_right _ (List.mem_append_right _ (sb.subset hc))) z⟩)
  have ndF : (Lh ++ L5).Nodup := List.nodup_append.mpr ⟨sn2.1, nd5, fun b hb c hc e => by
    subst e
    rcases mem5 b hc with (z | z) | z
    · exact sn.2.2 b z b (List.mem_append_left _ hb) rfl
    · exact apart b (List.mem_append_right _ (List.mem_append_left _ hb)) z
    · exact sn2.2.2 b hb b (sb.subset z) rfl⟩
  have fin : ∀ f a, Nw ((Ld' ++ (Lh ++ Ls)) ++ Lr) Lo f a → H' a ≠ none → Nw (Lh ++ L5) Lo f a := fun f a n _ => nw_sub memF f a n
  refine ⟨Lh ++ L5, ⟨⟨ndF, fun f a ha lo => ?_, fun f a lo => s'.good.lent f a (.inl lo), fun a z => s'.good.nov a (.inl z)⟩, (c3.know fin).app (q5.know fin)⟩, ⟨fun a ha n => x.keep a ha fun z => n (inL a z), fun a ha => ?_, x.live⟩⟩
  · rcases List.mem_append.mp (memF a ha) with z | z
    · exact s'.good.no f a z (.inl lo)
    · exact s.good.no f a (inR a z) lo
  · rcases List.mem_append.mp (memF a ha) with z | z
    · exact (x.own a z).imp (inL a) id
    · exact .inl (inR a z)
end
end TL

set_option Elab.async false
set_option linter.all false
set_option maxRecDepth 100000
/-! TL25: x = o.f.setdefault(k, d), and what follows. -/
namespace TL
open PySem PySem.Spec PyProof.Rows L2
def mSetd : D → List D → Option (D × D)
  | .dK .own kds, [kt, dv] => (D.key kt).bind fun kk => if kds.length < sizeLine ∧ (kds.map (·.1)).Nodup then some (.non, .dK .own (match lookD kds kk with
    | some _ => kds
    | none => putKD kds kk dv)) else none
  | _, _ => none
abbrev rSetdM : V → List V → Hp → VK → Prop := fun x vs H Q => match vs with
  | [y, z] => ∃ (a : Addr) (kvs : List (Key × V)) (k : Key), x = .ref a ∧ y = kV k ∧ H a = some (.dK kvs) ∧ kvs.length < sizeLine ∧ (∀ v, valV kvs k = some v → Q .non H) ∧ (valV kvs k = none → Q .non (upd H a (.dK (putK kvs k z))))
  | _ => False
section
variable {K : PySem.W.Frag}
theorem o_setd : OpM K rSetdM mSetd := by
  intro H N x vs d ds Ld Lt h1 h2 nd hN r' d' e Q k
  unfold mSetd at e
  split at e
  · rename_i kds kt dv
    obtain ⟨kk, e1, e2⟩ := Option.bind_eq_some_iff.mp e
    split at e2
    · rename_i c
      cases e2
      have h0 := h1
      obtain ⟨a, kvs, L1, rfl, ha, rfl, ek, q⟩ := dK_own h1
      obtain ⟨y, z, L3, L4, rfl, rfl, h3, h4⟩ := apart2 h2
      have ey := key_v h3 e1
      have hl := congrArg List.length ek
      rw [List.length_map, List.length_map] at hl
      refine ⟨a, kvs, kk, rfl, ey, ha, by rw [hl]; exact c.1, fun v hv => ?_, fun hv => ?_⟩
      · -- it stands there
        rcases look_val ek q kk with ⟨_, z2⟩ | ⟨v', d', M, q1, q2, _, _⟩
        · rw [z2] at hv; cases hv
        · have nd' := List.nodup_append.mp nd
          rw [q1] at k
          exact k .non H [] (a :: L1) ⟨fun _ _ _ => rfl, fun _ h => h, fun b hb => .inl (List.mem_append_left _ (by simpa using hb)), by simpa using nd'.1, fun N' hn _ => ⟨non0, h0.know fun f b n hb => hn f b n hb⟩⟩
      · rcases look_val ek q kk with ⟨z1, _⟩ | ⟨v', d', M, q1, q2, _, _⟩
        · obtain ⟨L9, m9, n9, e9, q9⟩ := put_dens h4 kk ek c.2 q
          have nd' := nd_tail nd
          have sub : ∀ b ∈ L9, b ∈ L1 ++ (L3 ++ L4) := fun b hb => (List.mem_append.mp (m9 b hb)).elim (List.mem_append_left _) fun z => List.mem_append_right _ (List.mem_append_right _ z)
          have ndl : (L1 ++ L4).Nodup := by
            have n1 := List.nodup_append.mp nd'
            have n2 := List.nodup_append.mp n1.2.1
            exact List.nodup_append.mpr ⟨n1.1, n2.2.1, fun b hb c hc => n1.2.2 b hb c (List.mem_append_right _ hc)⟩
          rw [z1] at k
          exact k _ _ _ _ (MRes.write (Lr := []) (by rw [ha]; exact Option.some_ne_none _) nd hN q9 non0 sub (n9 ndl) (fun N' h => mk_dK e9 N' h))
        · rw [q2] at hv; cases hv
    · cases e2
  · cases e
/-- the ends' environment: the place is put back -/
def closeE (i j : Nat) (π : List Stp) (t1 : D) (env2 : Ev) : Option Ev := match env2[j]? with
  | some d' => if d'.isUnd = false ∧ d'.closed = true ∧ (env2.set j .und).all D.closed = true then some ((env2.set j .und).set i (setP π d' t1)) else none
  | none => none
def closeO (i j : Nat) (π : List Stp) (t1 : D) : Out → Option Out
  | .nx env => (closeE i j π t1 env).map .nx
  | .rt d env => if d.closed then (closeE i j π t1 env).map (.rt d) else none
  | .bk env => (closeE i j π t1 env).map .bk
  | .ct env => (closeE i j π t1 env).map .ct
def sAlias (i j : Nat) (C : Addr) (f : Str) (fk fd : Ev → Option (D × Ev)) (B : Ev → Option Out) : Ev → Option Out := fun env =>
  match env[i]?, fk env, fd env with
  | some t0, some (dk, _), some (dd, _) => if t0.isUnd then none else
    match D.key dk, liftP [.fld C f] mSetd t0 [dk, dd] with
    | some k, some (_, t1) => if t1.isUnd then none else match getP [.fld C f, .key k] t1 with
      | some d => if j < env.length then (B ((env.set i .und).set j d)).bind (closeO i j [.fld C f, .key k] t1) else none
      | none => none
    | _, _ => none
  | _, _, _ => none
/-- the held place and the rest become the slot's tree again -/
theorem Sta.close {Lo LoR : Lent} {H1 H' : Hp} {L1 LZ L' : List Addr} {i j : Nat} {π : List Stp} {t1 : D} {x0 v : V} {hs : List (Option V)} {hd : List D} {σ' : List (Option V)} {env2 env3 : Ev}
    (restore : ∀ (H' : Hp) (L' : List Addr) (hs : List (Option V)) (hd : List D) (σ' : List (Option V)) (env2 : Ev) (d' : D), hs.length = hd.length → Sta K LoR H' (some v :: (hs ++ σ')) (d' :: (hd ++ env2)) L' → (d' :: (hd ++ env2)).all D.closed = true → Ext L1 H1 L' H' → σ'[i]? = some (some x0) → i < env2.length →
        ∃ L9, Sta K Lo H' (hs ++ σ') (hd ++ env2.set i (setP π d' t1)) L9 ∧ Ext LZ H1 L9 H')
    (hl : hs.length = hd.length) (hc : hd.all D.closed = true) (s : Sta K LoR H' (hs ++ σ') (hd ++ env2) L') (x : Ext L1 H1 L' H') (si : σ'[i]? = some (some x0)) (sj : σ'[j]? = some (some v)) (il : i < env2.length) (e : closeE i j π t1 env2 = some env3) :
    ∃ L9, Sta K Lo H' (hs ++ σ') (hd ++ env3) L9 ∧ Ext LZ H1 L9 H' := by
  unfold closeE at e
  cases ej : env2[j]? with
  | none => rw [ej] at e; cases e
  | some d' =>
    rw [ej] at e
    have e' : (if d'.isUnd = false ∧ d'.closed = true ∧ (env2.set j .und).all D.closed = true then some ((env2.set j .und).set i (setP π d' t1)) else none) = some env3 := e
    split at e'
    · rename_i c
      cases e'
      obtain ⟨Lh, Ls, rfl, b1, b2⟩ := Dens.split hl s.dens
      obtain ⟨o, M1, M2, t1', pm, t3, t4⟩ := b2.take ej
      have ov : o = some v := Option.some.inj (t1'.symm.trans sj)
      subst ov
      have PM : (Lh ++ Ls).Perm (M1 ++ (Lh ++ M2)) := (List.Perm.append_left Lh pm).trans (perm3 Lh M1 M2)
      have mem : ∀ a ∈ M1 ++ (Lh ++ M2), a ∈ Lh ++ Ls := fun a ha => PM.mem_iff.mpr ha
      have kn : ∀ f a, Nw (Lh ++ Ls) LoR f a → H' a ≠ none → Nw (M1 ++ (Lh ++ M2)) LoR f a := fun f a n _ => nw_sub mem f a n
      refine restore H' (M1 ++ (Lh ++ M2)) hs hd σ' (env2.set j .und) d' hl ⟨s.good.perm PM, (t3.know kn).put ((b1.know kn).app (t4.know kn))⟩ ?_ (x.sub mem) si (by rw [List.length_set]; exact il)
      rw [List.all_cons, List.all_append, c.2.1, hc, c.2.2]
      rfl
    · cases e'
theorem key_dens {H : Hp} {N : Fl → Addr → Prop} {d : D} {k : Key} (e : D.key d = some k) {σ : List (Option V)} {ds : List D} {L : List Addr} (h : Dens K H N σ ds L) : Dens K H N (some (kV k) :: σ) (d :: ds) L := by
  cases d <;> try (cases e; done)
  · cases e; exact .int h
  · cases e; exact .str h
theorem SatS.alias {pn : List Nat} {i j : Nat} {C : Addr} {f : Str} {ty tx : TE} {fk fd : Ev → Option (D × Ev)} {tB : TS} {B : Ev → Option Out} (cl : Cls K C) (na : NoAttr K C f) (hk : Sat K true ty fk) (hd : Sat K true tx fd) (hB : SatS K (i :: j :: pn) tB B) (hj : j ∉ pn) (hij : i ≠ j) :
    SatS K pn (tSeq (tAsg (tDSetd (tFld K (tVar i) f) ty tx) (gName j)) tB) (sAlias i j C f fk fd B) := by
  refine ⟨fun σ H env ts td L Lo pv hl hcl p s o e E k => ?_⟩
  unfold sAlias at e
  split at e
  case h_2 => cases e
  rename_i t0 dk ek dd ed e0 e1 e2
  split at e
  · cases e
  rename_i hu0
  split at e
  case h_2 => cases e
  rename_i kk rr t1 e3 e4
  split at e
  · cases e
  rename_i hu1
  split at e
  case h_2 => cases e
  rename_i d e5
  split at e
  case isFalse => cases e
  rename_i hjl
  obtain ⟨ob, e6, e7⟩ := Option.bind_eq_some_iff.mp e
  -- the slot
  obtain ⟨Lt, Le, eL, h1, h2⟩ := Dens.split hl s.dens
  obtain ⟨o0, M0, q1, q2, _⟩ := h2.at e0
  obtain ⟨x0, rfl⟩ := q2.some1 (und_ne hu0)
  -- its field
  have e4' : (get1 (.fld C f) t0).bind (fun dct => if dct.isUnd then none else (mSetd dct [dk, dd]).map fun p => (p.1, set1 (.fld C f) p.2 t0)) = some (rr, t1) := e4
  obtain ⟨dct, g1, g2⟩ := Option.bind_eq_some_iff.mp e4'
  split at g2
  · cases g2
  rename_i hu2
  obtain ⟨vf, Lf, Lf2, _, rf, _, df, _, _⟩ := q2.zip1 g1 (und_ne hu2)
  obtain ⟨p0, dx, kvs0, rfl, ep0, vf0⟩ := rf
  obtain ⟨pm, g3, g4⟩ := Option.map_eq_some_iff.mp g2
  have hdk : ∃ kds, dct = .dK .own kds := by
    unfold mSetd at g3
    split at g3
    · exact ⟨_, rfl⟩
    · cases g3
  obtain ⟨kds, rfl⟩ := hdk
  obtain ⟨a, kvs, L1, rfl, ea, _, _, _⟩ := dK_own df
  show tDSetd (tFld K (tVar i) f) ty tx σ H fun x H1 => tB E (σ.set j (some x)) H1
  refine ⟨.ref p0, q1, p0, C, dx, kvs0, .ref a, rfl, ep0, cl, na, by rw [lookup_valV]; exact vf0, a, rfl, .inl ⟨kvs, .inl ea⟩, ?_⟩
  refine hk.run σ H env ts td L Lo hl s dk ek e1 _ fun y H2 Lr2 Lb2 c2 => ?_
  obtain ⟨he, st2, hb, _⟩ := c2.quiet rfl
  have he' := he.symm
  have hb' := hb.symm
  subst he' hb'
  have ey : y = kV kk := key_v c2.top e3
  subst ey
  have s2 : Sta K Lo H2 (ts ++ σ) (td ++ env) L := c2.drop.base0
  refine hd.run σ H2 env ts td L Lo hl s2 dd ed e2 _ fun z H3 Lr3 Lb3 c3 => ?_
  obtain ⟨he, st3, hb, _⟩ := c3.quiet rfl
  have he' := he.symm
  have hb' := hb.symm
  subst he' hb'
  have c : Came K Lo true H2 (ts ++ σ) td env L H3 [kV kk, z] [dk, dd] env Lr3 L := ⟨c3.good, key_dens e3 c3.top, c3.base, c3.ext, c3.quiet⟩
  obtain ⟨x', Ld, Lx, f1, f2, f3, f4, f5⟩ := c.inpl hl e0 (und_ne hu0)
  rw [q1] at f1
  cases f1
  have st : Still H H3 := st2.trans st3
  have ep3 : H3 p0 = some (.ins C dx kvs0) := (st p0 (by rw [ep0]; exact Option.some_ne_none _)).trans ep0
  have ea3 : H3 a = some (.dK kvs) := (st a (by rw [ea]; exact Option.some_ne_none _)).trans ea
  have il : i < env.length := (List.getElem?_eq_some_iff.mp e0).1
  -- what follows, wherever the place is
  have go : ∀ (w : V) (H4 : Hp) (Lr' Ld' : List Addr), MRes K H3 (Nw (Lr3 ++ L) Lo) Ld Lr3 (.ref p0) w rr t1 H4 Lr' Ld' → ∀ v, ReadsP H4 (.ref p0) [.fld C f, .key kk] v → tB E (σ.set j (some v)) H4 := by
    intro w H4 Lr' Ld' m v rv
    obtain ⟨Lb', c4⟩ := f5 w H4 _ _ _ _ m
    have s4 : Sta K Lo H4 (ts ++ σ) (td ++ env.set i t1) Lb' := c4.drop.base0
    obtain ⟨x9, v9, Lr, L9, r1, r2, r3, r4, restore⟩ := s4.focus (i := i) (t1 := t1) hl (by simp [il]) hu1 e5
    rw [q1] at r1
    cases r1
    obtain rfl := rv.fn r2
    rw [List.set_set] at r3
    obtain ⟨L10, s5, m5⟩ := r3.setSlot hl j (by rw [List.length_set]; exact hjl)
    have x4 : Ext L H Lb' H4 := Ext.trans (L1 := L) (H1 := H2) c2.drop.ext c4.drop.ext
    have lσ : σ.length = env.length := h2.length
    have pins : Pins (i :: j :: pn) (fun n => if n = j then v else if n = i then .ref p0 else pv n) (σ.set j (some v)) := fun n hn => by
      show (σ.set j (some v))[n]? = some (some (if n = j then v else if n = i then .ref p0 else pv n))
      by_cases nj : n = j
      · subst nj
        rw [if_pos rfl]
        simp [lσ, hjl]
      · rw [if_neg nj, List.getElem?_set_ne (Ne.symm nj)]
        by_cases ni : n = i
        · subst ni
          rw [if_pos rfl]
          exact q1
        · rw [if_neg ni]
          rcases List.mem_cons.mp hn with z | z
          · exact absurd z ni
          · rcases List.mem_cons.mp z with z | z
            · exact absurd z nj
            · exact p n z
    have back : ∀ {σ' : List (Option V)}, Pins (i :: j :: pn) (fun n => if n = j then v else if n = i then .ref p0 else pv n) σ' → σ'[i]? = some (some (.ref p0)) ∧ σ'[j]? = some (some v) ∧ Pins pn pv σ' := fun {σ'} p' => by
      refine ⟨?_, ?_, fun n hn => ?_⟩
      · have := p' i (List.mem_cons_self ..)
        dsimp only at this
        rw [if_neg hij, if_pos rfl] at this
        exact this
      · have := p' j (List.mem_cons_of_mem _ (List.mem_cons_self ..))
        dsimp only at this
        rw [if_pos rfl] at this
        exact this
      · have := p' n (List.mem_cons_of_mem _ (List.mem_cons_of_mem _ hn))
        dsimp only at this
        rw [if_neg (fun z => hj (by rw [← z]; exact hn))] at this
        by_cases ni : n = i
        · subst ni
          rw [if_pos rfl] at this
          have p2 := p n hn
          rw [q1] at p2
          rw [this, p2]
        · rw [if_neg ni] at this
          exact this
    have ilen : ∀ {hs : List (Option V)} {hd : List D} {σ' : List (Option V)} {env2 : Ev} {Lo' : Lent} {H' : Hp} {L' : List Addr}, hs.length = hd.length → Sta K Lo' H' (hs ++ σ') (hd ++ env2) L' → σ'[i]? = some (some (.ref p0)) → i < env2.length := fun {hs hd σ' env2 Lo' H' L'} hh s' si => by
      have a1 := s'.dens.length
      rw [List.length_append, List.length_append] at a1
      have a2 := (List.getElem?_eq_some_iff.mp si).1
      omega
    refine hB.run (σ.set j (some v)) H4 ((env.set i .und).set j d) ts td L10 (LoB Lo Lr) _ hl hcl pins s5 ob e6 E ?_
    cases ob with
    | nx env2 =>
      obtain ⟨env3, e8, e9⟩ := Option.map_eq_some_iff.mp e7
      subst e9
      intro σ' H' L' p' s' x'
      obtain ⟨b1, b2, b3⟩ := back p'
      obtain ⟨L11, s11, x11⟩ := Sta.close restore hl hcl s' (x'.from m5) b1 b2 (ilen hl s' b1) e8
      exact k σ' H' L11 b3 s11 (x4.trans x11)
    | bk env2 =>
      obtain ⟨env3, e8, e9⟩ := Option.map_eq_some_iff.mp e7
      subst e9
      intro σ' H' L' p' s' x'
      obtain ⟨b1, b2, b3⟩ := back p'
      obtain ⟨L11, s11, x11⟩ := Sta.close restore hl hcl s' (x'.from m5) b1 b2 (ilen hl s' b1) e8
      exact k σ' H' L11 b3 s11 (x4.trans x11)
    | ct env2 =>
      obtain ⟨env3, e8, e9⟩ := Option.map_eq_some_iff.mp e7
      subst e9
      intro σ' H' L' p' s' x'
      obtain ⟨b1, b2, b3⟩ := back p'
      obtain ⟨L11, s11, x11⟩ := Sta.close restore hl hcl s' (x'.from m5) b1 b2 (ilen hl s' b1) e8
      exact k σ' H' L11 b3 s11 (x4.trans x11)
    | rt dr env2 =>
      have e7' : (if dr.closed then (closeE i j [.fld C f, .key kk] t1 env2).map (.rt dr) else none) = some o := e7
      split at e7'
      · rename_i hcd
        obtain ⟨env3, e8, e9⟩ := Option.map_eq_some_iff.mp e7'
        subst e9
        intro w' σ' H' L' p' s' x'
        obtain ⟨b1, b2, b3⟩ := back p'
        obtain ⟨L11, s11, x11⟩ := Sta.close (hs := some w' :: ts) (hd := dr :: td) restore (by simp [hl]) (by rw [List.all_cons, hcd, hcl]; rfl) s' (x'.from m5) b1 b2 (ilen (hs := some w' :: ts) (hd := dr :: td) (by simp [hl]) s' b1) e8
        exact k w' σ' H' L11 b3 s11 (x4.trans x11)
      · cases e7'
  have mm := (o_setd (K := K)).liftP [.fld C f] H3 _ (.ref p0) [kV kk, z] t0 [dk, dd] Ld Lr3 f2 c.top f4 (fun f a n z => n.1 (List.mem_append_right _ (f3.mem_iff.mpr (List.mem_append_left _ z)))) _ _ e4 (fun w H4 => ∀ v, ReadsP H4 (.ref p0) [.fld C f, .key kk] v → tB E (σ.set j (some v)) H4) fun w H4 Lr' Ld' m => go w H4 Lr' Ld' m
  obtain ⟨yv, ⟨y1, hy1, hy2⟩, a', kvs', k', ey, ek2, ea', hlen, pres, abs⟩ := mm
  have hy2' : y1 = yv := hy2
  subst hy2'
  obtain rfl : y1 = .ref a := hy1.fn ⟨p0, dx, kvs0, rfl, ep3, vf0⟩
  cases ey
  have kk2 : kk = k' := by
    cases kk <;> cases k' <;> first | (cases ek2; rfl) | cases ek2
  subst kk2
  rw [ea3] at ea'
  cases ea'
  refine ⟨kvs, kk, ea3, rfl, hlen, fun v hv => pres v hv v ⟨.ref a, ⟨p0, dx, kvs0, rfl, ep3, vf0⟩, v, ⟨a, kvs, rfl, ea3, hv⟩, rfl⟩, fun hn => abs hn z ⟨.ref a, ⟨p0, dx, kvs0, rfl, ?_, vf0⟩, z, ⟨a, _, rfl, upd_same, ?_⟩, rfl⟩⟩
  · rw [upd_ne (fun z => by rw [z, ea3] at ep3; cases ep3)]
    exact ep3
  · rw [valV_put, if_pos rfl]
end
end TL

set_option Elab.async false
set_option linter.all false
set_option maxRecDepth 100000
/-! TL26: insert; rules of text for the alias; classes. -/
namespace TL
open PySem PySem.Spec PyProof.Rows L2
def mInsert : D → List D → Option (D × D)
  | .lst .own xs, [.int i, d] => if xs.length < sizeLine ∧ 0 ≤ i ∧ i < 9223372036854775808 then some (.non, .lst .own (xs.take i.toNat ++ [d] ++ xs.drop i.toNat)) else none
  | _, _ => none
section
variable {K : PySem.W.Frag}
abbrev rInsert : V → List V → Hp → VK → Prop := fun x vs H Q => ∃ (l : Addr) (xs : List V) (i : Int) (y : V), x = .ref l ∧ vs = [.int i, y] ∧ H l = some (.lst xs) ∧ xs.length < sizeLine ∧ 0 ≤ i ∧ i < 2 ^ 63 ∧
    Q .non (upd H l (.lst (xs.take i.toNat ++ [y] ++ xs.drop i.toNat)))
theorem o_insert : OpM K rInsert mInsert := by
  intro H N x vs d ds Ld Lt h1 h2 nd hN r' d' e Q k
  unfold mInsert at e
  split at e
  · rename_i xs i dv
    split at e
    · rename_i c
      cases e
      obtain ⟨a, us, L1, rfl, ha, rfl, q⟩ := lst_own h1
      obtain ⟨y, z, L3, L4, rfl, rfl, h3, h4⟩ := apart2 h2
      cases (one_int h3).1
      obtain rfl : L3 = [] := (one_int h3).2.nilL
      have hl := len_so q
      have q' : Dens K H N (so (us.take i.toNat) ++ so (us.drop i.toNat)) (xs.take i.toNat ++ xs.drop i.toNat) L1 := by
        rw [← so_app, List.take_append_drop, List.take_append_drop]
        exact q
      obtain ⟨La, Lb, rfl, qa, qb⟩ := Dens.split (by rw [List.length_map, List.length_take, List.length_take, hl]) q'
      have qn : Dens K H N (so (us.take i.toNat ++ [z] ++ us.drop i.toNat)) (xs.take i.toNat ++ [dv] ++ xs.drop i.toNat) ((La ++ L4) ++ Lb) := by
        rw [so_app, so_app]
        exact (qa.app h4).app qb
      have nd' := nd_tail nd
      have sub : ∀ b ∈ (La ++ L4) ++ Lb, b ∈ (La ++ Lb) ++ ([] ++ L4) := fun b hb => by
        simp only [List.mem_append, List.nil_append] at hb ⊢
        rcases hb with (z | z) | z
        · exact .inl (.inl z)
        · exact .inr z
        · exact .inl (.inr z)
      have pm : ((La ++ L4) ++ Lb).Perm ((La ++ Lb) ++ ([] ++ L4)) := by
        rw [List.nil_append, List.append_assoc, List.append_assoc]
        exact List.Perm.append_left La List.perm_append_comm
      refine ⟨a, us, i, z, rfl, rfl, ha, by rw [hl]; exact c.1, c.2.1, c.2.2, ?_⟩
      exact k _ _ _ _ (MRes.write (Lr := []) (by rw [ha]; exact Option.some_ne_none _) nd hN qn non0 sub (pm.nodup_iff.mpr nd') (fun N' h => mk_lst N' h))
    · cases e
  · cases e
end
section
variable {α : Type} {M : α → Cx} {K : PySem.W.Frag} {P : Program} {w : World} {mg : Str → Option Value} {base : Heap} {k : Nat} {pn : List Nat}
variable {e a b o : Expr} {es : List Expr} {p p1 p2 p3 apos fpos cpos pos : Pos} {x y : Str} {rest : List Stmt} {q q' q2 : Bool} {f g h : Ev → Option (D × Ev)} {fs : Ev → Option (List D × Ev)} {ld : List (Option Nat)} {B : Ev → Option Out}
theorem se_insert (F : Fm M P w K mg base k) (i : Nat) (ha : SA M K q ld (e :: es) fs) (hN : ∀ a, (M a).N[i]? = some x := by intro _; rfl) (hv : ∀ a, Vis (M a).env.scope x := by intro _; first | exact Or.inl rfl | exact Or.inr (Or.inl rfl) | exact Or.inr (Or.inr rfl)) (hd : (x == ("__debug__" : Str)) = false := by decide) (hcd : (x == ("__classdict__" : Str)) = false := by decide)
    (hbase : ∀ a, attributeBase (.Name x p) "insert" (M a).env (eval (.Name x p) (M a).env) = eval (.Name x p) (M a).env := by intro _; rfl)
    (hfew : ∀ a, ((backTo pos (starEach (e :: es) (M a).env)).all (fun x => !x.1) && (backToKw pos (keywordEach [] (M a).env)).all (fun x => x.1.isSome)
      && decide ((e :: es).length + ([] : List Keyword).length + (if ([] : List Keyword).isEmpty then 0 else 1) < 30)) = true := by intro _; rfl)
    (hline : (apos.endLine == pos.line) = true := by rfl) (hs : ∀ a, starEach (e :: es) (M a).env = (false, eval e (M a).env) :: starEach es (M a).env := by intro _; rfl) (hplain : ∀ a, (backTo pos (starEach es (M a).env)).any (·.1) = false := by intro _; rfl) :
    SE M K false (.Call (.Attribute (.Name x p) "insert" apos) (e :: es) [] pos) (eInpl i okL mInsert fs) := se_lm i F PySem.F.slot_list_insert PySem.F.type_list_insert (fun _ => mt_insert) o_insert ha hN hv hd hcd hbase hfew hline hs hplain
/-- x = o.f.setdefault(a, b), and what follows -/
theorem sb_alias {C : Addr} {fl : Str} {i j : Nat} (FM : Fm M P w K mg base k) (cl : Cls K C) (na : NoAttr K C fl) (ha : SE M K true a g) (hb : SE M K true b h) (hB : SB M K (i :: j :: pn) rest B) (hjp : j ∉ pn := by decide) (hij : i ≠ j := by decide)
    (hN : ∀ a, (M a).N.Nodup) (hxi : ∀ a, (M a).N[i]? = some x := by intro _; rfl) (hyj : ∀ a, (M a).N[j]? = some y := by intro _; rfl)
    (hv : ∀ a, Vis (M a).env.scope x := by intro _; first | exact Or.inl rfl | exact Or.inr (Or.inl rfl) | exact Or.inr (Or.inr rfl)) (hd : (x == ("__debug__" : Str)) = false := by decide) (hcd : (x == ("__classdict__" : Str)) = false := by decide)
    (hb1 : ∀ u, attributeBase (.Name x p1) fl (M u).env (eval (.Name x p1) (M u).env) = eval (.Name x p1) (M u).env := by intro _; rfl)
    (h1 : ∀ u, attributeBase (.Attribute (.Name x p1) fl fpos) "setdefault" (M u).env (eval (.Attribute (.Name x p1) fl fpos) (M u).env) = eval (.Attribute (.Name x p1) fl fpos) (M u).env := by intro _; rfl)
    (h2 : ∀ u, ((backTo cpos (starEach [a, b] (M u).env)).all (fun x => !x.1) && (backToKw cpos (keywordEach [] (M u).env)).all (fun x => x.1.isSome)
    && decide (([a, b] : List Expr).length + ([] : List Keyword).length + (if ([] : List Keyword).isEmpty then 0 else 1) < 30)) = true := by intro _; rfl)
    (h3 : (apos.endLine == cpos.line) = true := by rfl) (h4 : ∀ u, backTo cpos (starEach [a, b] (M u).env) = [(false, eval a (M u).env), (false, eval b (M u).env)] := by intro _; rfl)
    (hl : ∀ u, Loc (M u).env.scope y := by intro _; first | exact Or.inl rfl | exact Or.inr rfl)
    (hs : ∀ u, swapsWith (.Call (.Attribute (.Attribute (.Name x p1) fl fpos) "setdefault" apos) [a, b] [] cpos) (some (.Name y p3)) pos.line (M u).env = pure false := by intro _; rfl) (hf : ∀ u, (M u).fn y = true ∨ (M u).env.scope.names.lookup y = some .local := by intro _; first | exact .inl rfl | exact .inr rfl) :
    SB M K pn (.Assign [.Name y p3] (.Call (.Attribute (.Attribute (.Name x p1) fl fpos) "setdefault" apos) [a, b] [] cpos) pos :: rest) (sAlias i j C fl g h B) :=
  let ⟨ta, a1, a2⟩ := ha; let ⟨tb, b1, b2⟩ := hb; let ⟨tB, c1, c2⟩ := hB
  ⟨_, fun u => pss_cons (ps_set (hN u) (hyj u) (hl u) (pe_dsetd (by have := pe_fld (X := M u) (pos := fpos) (pe_var (pos := p1) (hxi u) (hv u) hd hcd) (hb1 u); rw [FM.K u] at this; exact this) (a1 u) (b1 u) ⟨h1 u, h2 u, h3, h4 u⟩) (hs u) (hf u)) (c1 u), SatS.alias cl na a2 b2 c2 hjp hij⟩
end
end TL

set_option Elab.async false
set_option linter.all false
set_option maxRecDepth 100000
/-! TL27: a < b < c. -/
namespace TL
open PySem PySem.Spec PyProof.Rows L2
def D.isSc : D → Bool
  | .int _ => true
  | .str _ => true
  | _ => false
def eChn (g g' : List D → Option D) (fa fb fc : Ev → Option (D × Ev)) : Ev → Option (D × Ev) := fun env =>
  match fa env, fb env with
  | some (a, _), some (b, _) => if b.isSc then match g [a, b] with
    | some (.bl false) => some (.bl false, env)
    | some (.bl true) => match fc env with
      | some (c, _) => match g' [b, c] with
        | some (.bl k) => some (.bl k, env)
        | _ => none
      | none => none
    | _ => none
    else none
  | _, _ => none
section
variable {K : PySem.W.Frag}
theorem sc_dens {H H' : Hp} {N N' : Fl → Addr → Prop} {y : V} {d : D} {L : List Addr} (h : d.isSc = true) (hd : Dens K H N [some y] [d] L) : Dens K H' N' [some y] [d] [] := by
  cases d <;> try (cases h; done)
  · cases (one_int hd).1; exact .int .nil
  · cases (one_str hd).1; exact .str .nil
theorem Sat.chain {r r' : R2} {g g' : List D → Option D} {ta tb tc : TE} {fa fb fc : Ev → Option (D × Ev)} (o : OpN K (rN2 r) g) (o' : OpN K (rN2 r') g') (ha : Sat K true ta fa) (hb : Sat K true tb fb) (hc : Sat K true tc fc) : Sat K true (tChain r r' ta tb tc) (eChn g g' fa fb fc) := by
  refine ⟨fun σ H env ts td L Lo hl s d env' e Q k => ?_⟩
  unfold eChn at e
  split at e
  case h_2 => cases e
  rename_i da ea db eb e1 e2
  split at e
  case isFalse => cases e
  rename_i sc
  -- the first two
  refine ha.run σ H env ts td L Lo hl s da ea e1 _ fun x H1 La Lb c1 => ?_
  obtain ⟨he, st1, hb1, fr1⟩ := c1.quiet rfl
  have he' := he.symm
  have hb' := hb1.symm
  subst he' hb'
  refine hb.run σ H1 env (some x :: ts) (da :: td) (La ++ L) Lo (by simp [hl]) c1.sta db eb e2 _ fun y H2 Lc Ld c2 => ?_
  obtain ⟨he, st2, hb2, fr2⟩ := c2.quiet rfl
  obtain ⟨R, B, c3⟩ := c1.more c2
  have step : ∀ d1, g [da, db] = some d1 → ∀ Q2 : VK, (∀ v H3 Lr, Res K H2 (Nw (R ++ B) Lo) R v d1 H3 Lr → Q2 v H3) → r x y H2 Q2 := fun d1 h1 Q2 hq => o H2 _ [x, y] [da, db] R c3.top (List.nodup_append.mp c3.good.nd).1 d1 h1 Q2 hq
  split at e
  · rename_i g1
    cases e
    refine step _ g1 _ fun v H3 Lr rs => ?_
    have c4 := c3.op rs
    cases (one_bl c4.top).1
    refine ⟨false, rfl, ?_⟩
    rw [if_neg Bool.false_ne_true]
    obtain ⟨q1, q2, q3, q4⟩ := c4.quiet rfl
    have c5 := c4.drop
    have he2 : eb = env := he
    rw [he2] at c5
    exact k (.bl false) H3 [] _ ⟨c5.good, .bl .nil, c5.base, c5.ext, fun z => by have := c5.quiet rfl; exact this⟩
  · rename_i g1
    split at e
    case h_2 => cases e
    rename_i dc ec e3
    split at e
    case h_2 => cases e
    rename_i kb g2
    cases e
    refine step _ g1 _ fun v H3 Lr rs => ?_
    have c4 := c3.op rs
    cases (one_bl c4.top).1
    refine ⟨true, rfl, ?_⟩
    rw [if_pos rfl]
    have c5 := c4.drop
    have he2 : eb = env := he
    rw [he2] at c5
    obtain ⟨_, q2, q3, _⟩ := c5.quiet rfl
    subst q3
    refine hc.run σ H3 env ts td _ Lo hl c5.base0 dc ec e3 _ fun w H4 Le Lf c6 => ?_
    obtain ⟨he6, st6, hb6, fr6⟩ := c6.quiet rfl
    have top : Dens K H4 (Nw (Le ++ Lf) Lo) (so [y, w]) [db, dc] Le := (sc_dens sc c2.top).put c6.top
    refine o' H4 _ [y, w] [db, dc] Le top (List.nodup_append.mp c6.good.nd).1 _ g2 Q fun v2 H5 L5 rs2 => ?_
    have c7 := c6.op rs2
    cases (one_bl c7.top).1
    have c8 := (Came.then (q := true) (q' := true) c5 c7).drop
    rw [he6] at c8
    exact k (.bl kb) H5 [] _ ⟨c8.good, .bl .nil, c8.base, c8.ext, fun z => c8.quiet rfl⟩
  · cases e
end
section
variable {α : Type} {M : α → Cx} {K : PySem.W.Frag} {a b c : Expr} {pos : Pos} {f g h : Ev → Option (D × Ev)} {op op' : CmpOp} {r r' : List D → Option D} {C C' : Cx → Prop}
theorem se_chain (v : V2 (compareOp op) C r) (hC : ∀ y, C (M y)) (v' : V2 (compareOp op') C' r') (hC' : ∀ y, C' (M y)) (hK : ∀ y, (M y).K = K) (ha : SE M K true a f) (hb : SE M K true b g) (hc : SE M K true c h)
    (hm : lastMarks [op, op'] [b, c] = false := by with_unfolding_all rfl) : SE M K true (.Compare a [op, op'] [b, c] pos) (eChn r r' f g h) :=
  let ⟨ro, h1, h2⟩ := v; let ⟨ro', h1', h2'⟩ := v'; let ⟨ta, a1, a2⟩ := ha; let ⟨tb, b1, b2⟩ := hb; let ⟨tc, c1, c2⟩ := hc
  ⟨tChain (ro K) (ro' K) ta tb tc, fun y => pe_chain (by have := h1 (M y) (hC y); rw [hK y] at this; exact this) (by have := h1' (M y) (hC' y); rw [hK y] at this; exact this) (a1 y) (b1 y) (c1 y) hm, Sat.chain (h2 K) (h2' K) a2 b2 c2⟩
theorem ste_chain (v : V2 (compareOp op) C r) (hC : ∀ y, C (M y)) (v' : V2 (compareOp op') C' r') (hC' : ∀ y, C' (M y)) (hK : ∀ y, (M y).K = K) (ha : SE M K true a f) (hb : SE M K true b g) (hc : SE M K true c h)
    (hm : lastMarks [op, op'] [b, c] = false := by with_unfolding_all rfl) : STE M K true (.Compare a [op, op'] [b, c] pos) (eChn r r' f g h) :=
  let ⟨ro, h1, h2⟩ := v; let ⟨ro', h1', h2'⟩ := v'; let ⟨ta, a1, a2⟩ := ha; let ⟨tb, b1, b2⟩ := hb; let ⟨tc, c1, c2⟩ := hc
  ⟨tChain (ro K) (ro' K) ta tb tc, fun y => pt_chain (by have := h1 (M y) (hC y); rw [hK y] at this; exact this) (by have := h1' (M y) (hC' y); rw [hK y] at this; exact this) (a1 y) (b1 y) (c1 y) hm, Sat.chain (h2 K) (h2' K) a2 b2 c2⟩
end
end TL

set_option Elab.async false
set_option linter.all false
set_option maxRecDepth 100000
/-! TL28: facts of classes; the end of a law with classes. -/
namespace TL
open PySem PySem.Spec PyProof.Rows L2
section
variable {P : Program} {w : World} {K : PySem.W.Frag} {mg : Str → Option Value} {base : Heap} {k : Nat} {pn : List Nat}
structure MthFct (K : PySem.W.Frag) (C : Addr) (m qual : Str) (st : Stmt) (ps : List Str) : Prop where
  ex : ∃ (ff : Addr) (fd : FuncData), L2.Meth K C m ff ∧ Binds K fd ps [] ∧ L2.Fun K m qual st ff fd
theorem MthFct.def {C : Addr} {m qual : Str} {st : Stmt} {ps N : List Str} {n : Nat} {body : Ev → Option Out} (D : MthFct K C m qual st ps) (S : FnScope N ps (defScope st)) (hn : N.length = n) (hpn : ∀ i ∈ pn, i < ps.length)
    (hb : ∀ (ff : Addr) (cdv : Value) (β : Type) (mk : β → Around × List PySem.Env × Shared × Hp × XK) (FM : Fm (FamOf P w K mg base N qual st ff cdv mk) P w K mg base k), SB0 (FamOf P w K mg base N qual st ff cdv mk) K pn (defBody st) body) :
    DefM P w K mg base (k + 1) C m ps.length (fnD n ps.length pn body) :=
  let ⟨ff, fd, h2, h3, h4⟩ := D.ex
  ⟨⟨ff, fd, ps, h2, h3, fn_ok h4 S hn hpn fun cdv β mk hr => hb ff cdv β mk ⟨fun _ => rfl, fun _ => rfl, fun _ => rfl, fun _ => rfl, fun _ => rfl, fun _ => rfl, hr⟩⟩⟩
structure IniFct (K : PySem.W.Frag) (mg : Str → Option Value) (x : Str) (C : Addr) (qual : Str) (st : Stmt) (ps : List Str) : Prop where
  ex : ∃ (ff : Addr) (fd : FuncData), mg x = some (.ref C) ∧ L2.Mk K C ff ∧ Binds K fd ps [] ∧ L2.Fun K "__init__" qual st ff fd
theorem IniFct.def {x : Str} {C : Addr} {qual : Str} {st : Stmt} {ps N : List Str} {n : Nat} {body : Ev → Option Out} (D : IniFct K mg x C qual st ps) (S : FnScope N ps (defScope st)) (hn : N.length = n) (hpn : ∀ i ∈ pn, i < ps.length)
    (hb : ∀ (ff : Addr) (cdv : Value) (β : Type) (mk : β → Around × List PySem.Env × Shared × Hp × XK) (FM : Fm (FamOf P w K mg base N qual st ff cdv mk) P w K mg base k), SB0 (FamOf P w K mg base N qual st ff cdv mk) K pn (defBody st) body) :
    DefC P w K mg base (k + 1) x C ps.length (fnD n ps.length pn body) :=
  let ⟨ff, fd, h1, h2, h3, h4⟩ := D.ex
  ⟨⟨ff, fd, ps, h1, h2, h3, fn_ok h4 S hn hpn fun cdv β mk hr => hb ff cdv β mk ⟨fun _ => rfl, fun _ => rfl, fun _ => rfl, fun _ => rfl, fun _ => rfl, fun _ => rfl, hr⟩⟩⟩
end
/-- the classes by their names -/
def csOf (K : PySem.W.Frag) : Str → Addr := fun x => match PySem.W.nsIn K mainGlobals x with
  | some (some (.ref a)) => a
  | _ => default
theorem csOf_eq {K : PySem.W.Frag} {x : Str} {C : Addr} (h : PySem.W.nsIn K mainGlobals x = some (some (.ref C))) : C = csOf K x := by
  unfold csOf
  rw [h]
theorem ends2 {l : PySem.W.OpenLaw} {k : Nat} {q : Program} {loose : List Str} {XP : (Str → Option Value) → Heap → Prop} {YP : World → Heap → Prop} {d : DefRec} {K : Params → PySem.W.Frag} {x : Str} {F : (Str → Addr) → List D → Option (D × List D)}
    (hn : l.most = some 63) (hdf : d.params.defaults = []) (hr : Room k callerA)
    (hY : ∀ (w : World) (h : Heap), YP w h → (K w.params).In h)
    (hF : ∀ (w : World) (mg : Str → Option Value) (fa : Addr) (h : Heap), (K w.params).In h → h.Ns mainGlobals mg → mg d.name = some (.ref fa) →
      ∃ fd : FuncData, (∀ (s : Shared) (u : Value), BindsTo s fd ⟨[u], []⟩ [(x, u)]) ∧
        ∀ base : Heap, (K w.params).In base → base.Ns mainGlobals mg → FnOk l.prog w (K w.params) mg base CX0 k fa fd [x] (spF (K w.params) 1 (F (csOf (K w.params)))))
    (pl : ∀ (cs : Str → Addr) (ns : List Int), ns.length ≤ 63 → (∀ z ∈ ns, Builtin.Int.intBits z ≤ 1048576) → ∃ ds', F cs [scr ns] = some (.bl true, ds')) :
    PySem.W.WalkO q loose XP YP l.row.toRowW d [] (fun f vs => PySem.call f vs) := by
  refine L2.walk_ofB (K := K) (CX := fun _ => CX0) (sp := fun w => spF (K w.params) 1 (F (csOf (K w.params)))) hn (by decide) hdf hr hY hF (fun w H a ns h1 hb h2 h3 => ?_) fun _ H s e s' h => h
  obtain ⟨ds', e⟩ := pl (csOf (K w.params)) ns h1 hb
  refine ⟨[scr ns], [], fun _ _ => False, .bl true, ds', rfl, sta_scr h2 h3, by simp [scr, D.closed, D.allF, allFs_all], e, fun v H' L' _ st => ?_⟩
  have := st.dens
  cases this
  rfl
end TL

set_option Elab.async false
set_option linter.all false
set_option maxRecDepth 100000
/-! TL29: a text times a number. -/
namespace TL
open PySem PySem.Spec PyProof.Rows L2
def gMulS : List D → Option D
  | [.str x, .int n] => if x.length ≤ 16 ∧ 0 ≤ n ∧ n ≤ 1048576 then some (.str (Txt.mul x n)) else none
  | _ => none
def gMulA (ds : List D) : Option D := (gMul ds).or (gMulS ds)
def rMulS : R2 := fun x y H Q => ∃ (a : Str) (n : Int), x = .str a ∧ y = .int n ∧ a.length ≤ 16 ∧ 0 ≤ n ∧ n ≤ 1048576 ∧ Q (.str (Txt.mul a n)) H
theorem op_mulS {X : Cx} : OpR X (binaryOp .Mult) rMulS := by
  intro pins s σ H x y v u Q I rx ry h
  obtain ⟨a, n, rfl, rfl, h1, h2, h3, q⟩ := h
  obtain ⟨t, rfl⟩ := rx
  obtain ⟨t', rfl⟩ := ry
  exact SB.mul (mulOk_of 16 1048576 h1 h3 (by omega) (by decide) (by decide)) fun t' k => ⟨.str (Txt.mul a n), H, I.tok _, ⟨_, rfl⟩, q⟩
theorem v_mulA : V2 (binaryOp .Mult) CAll gMulA := by
  obtain ⟨r, h1, h2⟩ := v_mul
  refine ⟨fun K x y H Q => r K x y H Q ∨ rMulS x y H Q, fun X hc => (h1 X hc).or op_mulS, fun K => OpN.or (h2 K) (op_D2 (fun x y H N a b L1 L2 d d1 d2 e => ?_) fun ds h => ?_)⟩
  · unfold gMulS at e
    split at e
    · rename_i s n q
      cases q
      split at e
      · rename_i c
        cases e
        cases (one_str d1).1
        cases (one_int d2).1
        exact ⟨_, Flat.str _, fun Q k => ⟨s, n, rfl, rfl, c.1, c.2.1, c.2.2, k⟩⟩
      · cases e
    · cases e
  · unfold gMulS
    split
    · exact absurd rfl (h _ _)
    · rfl
end TL

set_option Elab.async false
set_option linter.all false
set_option maxRecDepth 100000
/-! TL30: plain laws: objects, methods, classes, chains, the alias. -/
namespace TL
open PySem PySem.Spec PyProof.Rows L2
@[simp] theorem mapF_ins (g : Fl → Fl) (f : Fl) (C : Addr) (fs : List (Str × D)) : D.mapF g (.ins f C fs) = .ins (g f) C (D.mapFf g fs) := rfl
@[simp] theorem allF_ins (g : Fl → Bool) (f : Fl) (C : Addr) (fs : List (Str × D)) : D.allF g (.ins f C fs) = (g f && D.allFf g fs) := rfl
@[simp] theorem mapFf_nil (g : Fl → Fl) : D.mapFf g [] = [] := rfl
@[simp] theorem mapFf_cons (g : Fl → Fl) (k : Str) (x : D) (r : List (Str × D)) : D.mapFf g ((k, x) :: r) = (k, D.mapF g x) :: D.mapFf g r := rfl
@[simp] theorem allFf_nil (g : Fl → Bool) : D.allFf g [] = true := rfl
@[simp] theorem allFf_cons (g : Fl → Bool) (k : Str) (x : D) (r : List (Str × D)) : D.allFf g ((k, x) :: r) = (D.allF g x && D.allFf g r) := rfl
@[simp] theorem isUnd_ins (f : Fl) (C : Addr) (fs : List (Str × D)) : (D.ins f C fs).isUnd = false := rfl
@[simp] theorem isNon_dK (f : Fl) (i : List (Key × D)) : (D.dK f i).isNon = false := rfl
/-! methods -/
def consCO (ok : D → Bool) (o : Option (D × Ev)) (fs : Ev → Option (List D × Ev)) : Option (List D × Ev) := match o with
  | none => none
  | some (d, e1) => if ok d then consR d (fs e1) else none
@[simp] theorem ev_consC (ok : D → Bool) (f : Ev → Option (D × Ev)) (fs : Ev → Option (List D × Ev)) (env : Ev) : aConsC ok f fs env = consCO ok (f env) fs := by
  unfold aConsC consCO consR
  cases h : f env with
  | none => rfl
  | some p =>
    obtain ⟨d, e1⟩ := p
    dsimp only
    split
    · cases fs e1 <;> rfl
    · rfl
@[simp] theorem ev_consCO (ok : D → Bool) (d : D) (e : Ev) (fs : Ev → Option (List D × Ev)) : consCO ok (some (d, e)) fs = if ok d then consR d (fs e) else none := rfl
/-! classes -/
def makG : Option (D × Ev) → Option (D × Ev)
  | some (.non, e2) => match e2.getLast? with
    | some d => if d.isUnd then none else some (d, e2.dropLast)
    | none => none
  | _ => none
def makF (C : Addr) (ds : List D) (e1 : Ev) : Option (D × List D) → Option (D × Ev)
  | some (r, ds') => makG (callOut [some e1.length] (.ins .own C [] :: ds) r ds' (e1 ++ [.und]))
  | none => none
def makO (n : Nat) (C : Addr) (F : List D → Option (D × List D)) : Option (List D × Ev) → Option (D × Ev)
  | some (ds, e1) => if ds.length + 1 = n then makF C ds e1 (F (.ins .own C [] :: ds.map (D.mapF v2p))) else none
  | none => none
@[simp] theorem ev_make (n : Nat) (C : Addr) (F : List D → Option (D × List D)) (fs : Ev → Option (List D × Ev)) (env : Ev) : eMake n C F fs env = makO n C F (fs env) := by
  unfold eMake makO makF makG
  cases h : fs env with
  | none => rfl
  | some p =>
    obtain ⟨ds, e1⟩ := p
    dsimp only
    split
    · cases F (.ins .own C [] :: ds.map (D.mapF v2p)) with
      | none => rfl
      | some q => rfl
    · rfl
@[simp] theorem ev_makO (n : Nat) (C : Addr) (F : List D → Option (D × List D)) (ds : List D) (e1 : Ev) : makO n C F (some (ds, e1)) = if ds.length + 1 = n then makF C ds e1 (F (.ins .own C [] :: ds.map (D.mapF v2p))) else none := rfl
@[simp] theorem ev_makF (C : Addr) (ds : List D) (e1 : Ev) (r : D) (ds' : List D) : makF C ds e1 (some (r, ds')) = makG (callOut [some e1.length] (.ins .own C [] :: ds) r ds' (e1 ++ [.und])) := rfl
@[simp] theorem ev_makG (e2 : Ev) : makG (some (.non, e2)) = (e2.getLast?).bind fun d => if d.isUnd then none else some (d, e2.dropLast) := by
  unfold makG
  dsimp only
  cases e2.getLast? <;> rfl
def fldR (j : Nat) (C : Addr) (x : Str) (d : D) (e1 : Ev) : Option D → Option Out
  | none => none
  | some d0 => if d0.isUnd then none else (mFld C x d0 [d]).map fun p => .nx (e1.set j p.2)
def fldO (j : Nat) (C : Addr) (x : Str) : Option (D × Ev) → Option Out
  | none => none
  | some (d, e1) => fldR j C x d e1 e1[j]?
@[simp] theorem ev_fldS (j : Nat) (C : Addr) (x : Str) (f : Ev → Option (D × Ev)) (env : Ev) : sFldS j C x f env = fldO j C x (f env) := by
  unfold sFldS fldO fldR
  cases f env with
  | none => rfl
  | some p =>
    obtain ⟨d, e1⟩ := p
    dsimp only
    cases e1[j]? with
    | none => rfl
    | some d0 =>
      dsimp only
      split
      · rfl
      · cases mFld C x d0 [d] <;> rfl
@[simp] theorem ev_fldO (j : Nat) (C : Addr) (x : Str) (d : D) (e1 : Ev) : fldO j C x (some (d, e1)) = fldR j C x d e1 e1[j]? := rfl
@[simp] theorem ev_fldR (j : Nat) (C : Addr) (x : Str) (d d0 : D) (e1 : Ev) : fldR j C x d e1 (some d0) = if d0.isUnd then none else (mFld C x d0 [d]).map fun p => .nx (e1.set j p.2) := rfl
/-! a < b < c -/
def chnT (env : Ev) : Option D → Option (D × Ev)
  | some (.bl k) => some (.bl k, env)
  | _ => none
def chnR (g' : List D → Option D) (b c : D) (env : Ev) : Option D → Option (D × Ev)
  | some (.bl false) => some (.bl false, env)
  | some (.bl true) => chnT env (g' [b, c])
  | _ => none
def chnO (g g' : List D → Option D) (env : Ev) : Option (D × Ev) → Option (D × Ev) → Option (D × Ev) → Option (D × Ev)
  | some (a, _), some (b, _), some (c, _) => if b.isSc then chnR g' b c env (g [a, b]) else none
  | _, _, _ => none
def chnX (g g' : List D → Option D) (env : Ev) : Option (D × Ev) → Option (D × Ev) → Option (D × Ev) → Option (D × Ev)
  | some (a, _), some (b, _), oc => if b.isSc then match g [a, b] with
    | some (.bl false) => some (.bl false, env)
    | some (.bl true) => match oc with
      | some (c, _) => chnT env (g' [b, c])
      | none => none
    | _ => none
    else none
  | _, _, _ => none
@[simp] theorem ev_chn (g g' : List D → Option D) (fa fb fc : Ev → Option (D × Ev)) (env : Ev) : eChn g g' fa fb fc env = chnX g g' env (fa env) (fb env) (fc env) := by
  unfold eChn chnX chnT
  cases fa env with
  | none => rfl
  | some p =>
    cases fb env with
    | none => rfl
    | some q => rfl
@[simp] theorem ev_chnX (g g' : List D → Option D) (env ea eb ec : Ev) (a b c : D) : chnX g g' env (some (a, ea)) (some (b, eb)) (some (c, ec)) = if b.isSc then chnR g' b c env (g [a, b]) else none := by
  unfold chnX chnR
  dsimp only
@[simp] theorem ev_chnR (g' : List D → Option D) (b c : D) (env : Ev) (t : Bool) : chnR g' b c env (some (.bl t)) = if t then chnT env (g' [b, c]) else some (.bl false, env) := by cases t <;> rfl
@[simp] theorem ev_chnT (env : Ev) (t : Bool) : chnT env (some (.bl t)) = some (.bl t, env) := rfl
@[simp] theorem isSc_int (i : Int) : (D.int i).isSc = true := rfl
@[simp] theorem isSc_str (i : Str) : (D.str i).isSc = true := rfl
/-! x = o.f.setdefault(a, b) and what follows -/
theorem ev_alias {i j : Nat} {C : Addr} {f : Str} {fk fd : Ev → Option (D × Ev)} {B : Ev → Option Out} {env ek ed : Ev} {t0 dk dd rr t1 d : D} {kk : Key} (h0 : env[i]? = some t0) (h1 : fk env = some (dk, ek)) (h2 : fd env = some (dd, ed)) (u0 : t0.isUnd = false) (hk : D.key dk = some kk)
    (hl : liftP [.fld C f] mSetd t0 [dk, dd] = some (rr, t1)) (u1 : t1.isUnd = false) (hg : getP [.fld C f, .key kk] t1 = some d) (hj : j < env.length) :
    sAlias i j C f fk fd B env = (B ((env.set i .und).set j d)).bind (closeO i j [.fld C f, .key kk] t1) := by
  unfold sAlias
  simp only [h0, h1, h2, u0, hk, hl, u1, hg, hj, if_true, Bool.false_eq_true, if_false]
theorem ev_closeN {i j : Nat} {π : List Stp} {t1 d' : D} {env : Ev} (h : env[j]? = some d') (u : d'.isUnd = false) (c : d'.closed = true) (c2 : (env.set j .und).all D.closed = true) : closeO i j π t1 (.nx env) = some (.nx ((env.set j .und).set i (setP π d' t1))) := by
  show (closeE i j π t1 env).map Out.nx = _
  unfold closeE
  simp only [h]
  rw [if_pos ⟨u, c, c2⟩]
  rfl
theorem mInsert_lst {xs : List D} {i : Int} (d : D) (h : xs.length < sizeLine) (h0 : 0 ≤ i) (h1 : i < 9223372036854775808) : mInsert (.lst .own xs) [.int i, d] = some (.non, .lst .own (xs.take i.toNat ++ [d] ++ xs.drop i.toNat)) := by
  show (if _ then _ else _) = _
  rw [if_pos ⟨h, h0, h1⟩]
@[simp] theorem gNeg_int (i : Int) : gNeg [.int i] = some (.int (-i)) := rfl
theorem gMulA_int {i j : Int} (h : smallI i = true ∨ smallI j = true) : gMulA [.int i, .int j] = some (.int (i * j)) := by
  unfold gMulA
  rw [gMul_int h]
  rfl
end TL

set_option Elab.async false
set_option linter.all false
set_option maxRecDepth 100000
/-! TL31: places inside a slot's tree: o.f, o.f[k], d[k] ..: what stands there is changed by methods, stores and calls. -/
namespace TL
open PySem PySem.Spec PyProof.Rows L2
theorem get1_und (s : Stp) : get1 s .und = none := by cases s <;> rfl
theorem ReadsP.snoc {H : Hp} : ∀ {π : List Stp} {x v w : V} {s : Stp}, ReadsP H x π v → Read1 H v s w → ReadsP H x (π ++ [s]) w
  | [], _, _, _, _, h, h' => by cases h; exact ⟨_, h', rfl⟩
  | _ :: π, _, _, _, _, ⟨u, h1, h2⟩, h' => ⟨u, h1, h2.snoc h'⟩
theorem ReadsP.unsnoc {H : Hp} : ∀ {π : List Stp} {x w : V} {s : Stp}, ReadsP H x (π ++ [s]) w → ∃ v, ReadsP H x π v ∧ Read1 H v s w
  | [], x, w, _, ⟨u, h1, h2⟩ => ⟨x, rfl, by cases h2; exact h1⟩
  | _ :: π, _, _, _, ⟨u, h1, h2⟩ => let ⟨v, h3, h4⟩ := h2.unsnoc; ⟨v, ⟨u, h1, h3⟩, h4⟩
theorem getP_snoc : ∀ {π : List Stp} {s : Stp} {d0 d : D}, getP (π ++ [s]) d0 = some d → ∃ e, getP π d0 = some e ∧ get1 s e = some d ∧ ¬ d.isUnd = true
  | [], s, d0, d, h => by
    obtain ⟨e, h1, h2⟩ := Option.bind_eq_some_iff.mp (show (get1 s d0).bind (fun e => if e.isUnd then none else getP [] e) = some d from h)
    split at h2
    · cases h2
    · rename_i hu
      have h3 : (if e.isUnd then none else some e) = some d := h2
      rw [if_neg hu] at h3
      cases h3
      refine ⟨d0, ?_, h1, hu⟩
      show (if d0.isUnd then none else some d0) = some d0
      rw [if_neg]
      intro z
      cases d0 <;> first | (rw [get1_und] at h1; cases h1; done) | cases z
  | t :: π, s, d0, d, h => by
    obtain ⟨e, h1, h2⟩ := Option.bind_eq_some_iff.mp (show (get1 t d0).bind (fun e => if e.isUnd then none else getP (π ++ [s]) e) = some d from h)
    split at h2
    · cases h2
    · rename_i hu
      obtain ⟨e2, h3, h4, h5⟩ := getP_snoc h2
      refine ⟨e2, ?_, h4, h5⟩
      show (get1 t d0).bind (fun e => if e.isUnd then none else getP π e) = some e2
      rw [h1]
      show (if e.isUnd then none else getP π e) = some e2
      rw [if_neg hu, h3]
section
variable {K : PySem.W.Frag}
/-- a reading that ends at a place: what stands along a path from slot i; nothing has changed -/
structure Plc (K : PySem.W.Frag) (t : TE) (i : Nat) (πf : Ev → Option (List Stp)) : Prop where
  run : ∀ (σ : L2.St) (H : Hp) (env : Ev) (ts : List (Option V)) (td : List D) (L : List Addr) (Lo : Lent), ts.length = td.length → Sta K Lo H (ts ++ σ) (td ++ env) L → ∀ π d0 d, πf env = some π → env[i]? = some d0 → getP π d0 = some d → ∀ Q : VK,
    (∀ x0 v H', σ[i]? = some (some x0) → ReadsP H' x0 π v → Still H H' → Sta K Lo H' (ts ++ σ) (td ++ env) L → Q v H') → t σ H Q
/-- the slot of a place -/
theorem Sta.slot {Lo : Lent} {H : Hp} {ts σ : List (Option V)} {td : List D} {env : Ev} {L : List Addr} {i : Nat} {d0 : D} (hl : ts.length = td.length) (s : Sta K Lo H (ts ++ σ) (td ++ env) L) (e : env[i]? = some d0) (hu : d0 ≠ .und) : ∃ (x0 : V) (M : List Addr), σ[i]? = some (some x0) ∧ Dens K H (Nw L Lo) [some x0] [d0] M := by
  obtain ⟨Lt, Le, rfl, h1, h2⟩ := Dens.split hl s.dens
  obtain ⟨o, L1, q1, q2, q3⟩ := h2.at e
  obtain ⟨x, rfl⟩ := q2.some1 hu
  exact ⟨x, L1, q1, q2⟩
theorem getP_und {π : List Stp} {d0 d : D} (h : getP π d0 = some d) : ¬ d0.isUnd = true := by
  intro z
  cases π with
  | nil => have h' : (if d0.isUnd then none else some d0) = some d := h; rw [if_pos z] at h'; cases h'
  | cons s π =>
    obtain ⟨e, h1, h2⟩ := Option.bind_eq_some_iff.mp (show (get1 s d0).bind (fun e => if e.isUnd then none else getP π e) = some d from h)
    cases d0 <;> first | (rw [get1_und] at h1; cases h1; done) | cases z
theorem getP_und2 : ∀ {π : List Stp} {d0 d : D}, getP π d0 = some d → ¬ d.isUnd = true
  | [], d0, d, h => by
    have h' : (if d0.isUnd then none else some d0) = some d := h
    split at h'
    · cases h'
    · cases h'; assumption
  | s :: π, d0, d, h => by
    obtain ⟨e, h1, h2⟩ := Option.bind_eq_some_iff.mp (show (get1 s d0).bind (fun e => if e.isUnd then none else getP π e) = some d from h)
    split at h2
    · cases h2
    · exact getP_und2 h2
def pVar : Ev → Option (List Stp) := fun _ => some []
def pFld (C : Addr) (f : Str) (πf : Ev → Option (List Stp)) : Ev → Option (List Stp) := fun env => (πf env).map (· ++ [.fld C f])
def pKey (πf : Ev → Option (List Stp)) (fk : Ev → Option (D × Ev)) : Ev → Option (List Stp) := fun env => (πf env).bind fun π => (fk env).bind fun p => (D.key p.1).map fun k => π ++ [.key k]
def pIx (πf : Ev → Option (List Stp)) (i : Nat) (fk : Ev → Option (D × Ev)) : Ev → Option (List Stp) := fun env => (πf env).bind fun π => (env[i]?).bind fun d0 => match getP π d0, fk env with
  | some (.lst .own xs), some (.int j, _) => (ixN xs.length j).map fun n => π ++ [.ix n]
  | _, _ => none
theorem Plc.var (i : Nat) : Plc K (tVar i) i pVar := ⟨fun σ H env ts td L Lo hl s π d0 d e1 e2 e3 Q k => by
  cases e1
  have hu := getP_und e3
  obtain ⟨x0, M, q1, _⟩ := s.slot hl e2 (und_ne hu)
  exact ⟨x0, q1, k x0 x0 H q1 rfl (Still.refl _) s⟩⟩
theorem Plc.fld {t : TE} {i : Nat} {πf : Ev → Option (List Stp)} {C : Addr} {f : Str} (h : Plc K t i πf) (cl : Cls K C) (na : NoAttr K C f) : Plc K (tFld K t f) i (pFld C f πf) := ⟨fun σ H env ts td L Lo hl s π d0 d e1 e2 e3 Q k => by
  obtain ⟨π0, e4, rfl⟩ := Option.map_eq_some_iff.mp e1
  obtain ⟨e, g1, g2, g3⟩ := getP_snoc e3
  refine h.run σ H env ts td L Lo hl s π0 d0 e e4 e2 g1 _ fun x0 v H' q1 q2 q3 q4 => ?_
  obtain ⟨x1, M, r1, r2⟩ := q4.slot hl e2 (und_ne (getP_und e3))
  rw [q1] at r1
  cases r1
  obtain ⟨w, _, _, _, r3, _⟩ := r2.zip e3
  obtain ⟨v', r4, r5⟩ := r3.unsnoc
  obtain rfl := q2.fn r4
  obtain ⟨a, dx, fs, rfl, r6, r7⟩ := r5
  exact ⟨a, C, dx, fs, w, rfl, r6, cl, na, by rw [lookup_valV]; exact r7, k x0 w H' q1 r3 q3 q4⟩⟩
theorem Plc.key {t tk : TE} {i : Nat} {πf : Ev → Option (List Stp)} {fk : Ev → Option (D × Ev)} (h : Plc K t i πf) (hk : Sat K true tk fk) : Plc K (tDGet t tk) i (pKey πf fk) := ⟨fun σ H env ts td L Lo hl s π d0 d e1 e2 e3 Q k => by
  obtain ⟨π0, e4, e5⟩ := Option.bind_eq_some_iff.mp e1
  obtain ⟨⟨dk, en⟩, e6, e7⟩ := Option.bind_eq_some_iff.mp e5
  obtain ⟨kk, e8, rfl⟩ := Option.map_eq_some_iff.mp e7
  obtain ⟨e, g1, g2, g3⟩ := getP_snoc e3
  refine h.run σ H env ts td L Lo hl s π0 d0 e e4 e2 g1 _ fun x0 v H1 q1 q2 q3 q4 => ?_
  refine hk.run σ H1 env ts td L Lo hl q4 dk en e6 _ fun y H2 Lr Lb c => ?_
  obtain ⟨he, st2, hb, _⟩ := c.quiet rfl
  have he' := he.symm
  have hb' := hb.symm
  subst he' hb'
  obtain rfl := key_v c.top e8
  have s2 : Sta K Lo H2 (ts ++ σ) (td ++ env) L := c.drop.base0
  obtain ⟨x1, M, r1, r2⟩ := s2.slot hl e2 (und_ne (getP_und e3))
  rw [q1] at r1
  cases r1
  obtain ⟨w, _, _, _, r3, _⟩ := r2.zip e3
  obtain ⟨v', r4, r5⟩ := r3.unsnoc
  obtain rfl := (q2.still st2).fn r4
  obtain ⟨a, kvs, rfl, r6, r7⟩ := r5
  exact ⟨a, w, rfl, by rw [← r7]; exact DGet.k r6, k x0 w H2 q1 r3 (q3.trans st2) s2⟩⟩
theorem Plc.ix {t tk : TE} {i : Nat} {πf : Ev → Option (List Stp)} {fk : Ev → Option (D × Ev)} (h : Plc K t i πf) (hk : Sat K true tk fk) : Plc K (tOp (rIx K) t tk) i (pIx πf i fk) := ⟨fun σ H env ts td L Lo hl s π d0 d e1 e2 e3 Q k => by
  obtain ⟨π0, e4, e5⟩ := Option.bind_eq_some_iff.mp e1
  obtain ⟨d0', e6, e7⟩ := Option.bind_eq_some_iff.mp e5
  rw [e2] at e6
  cases e6
  split at e7
  · rename_i xs j en g1 e8
    obtain ⟨n, e9, rfl⟩ := Option.map_eq_some_iff.mp e7
    obtain ⟨e, g1', g2, g3⟩ := getP_snoc e3
    rw [g1] at g1'
    cases g1'
    refine h.run σ H env ts td L Lo hl s π0 d0 _ e4 e2 g1 _ fun x0 v H1 q1 q2 q3 q4 => ?_
    refine hk.run σ H1 env ts td L Lo hl q4 _ en e8 _ fun y H2 Lr Lb c => ?_
    obtain ⟨he, st2, hb, _⟩ := c.quiet rfl
    have he' := he.symm
    have hb' := hb.symm
    subst he' hb'
    cases (one_int c.top).1
    have s2 : Sta K Lo H2 (ts ++ σ) (td ++ env) L := c.drop.base0
    obtain ⟨x1, M, r1, r2⟩ := s2.slot hl e2 (und_ne (getP_und e3))
    rw [q1] at r1
    cases r1
    obtain ⟨w, _, _, _, r3, _⟩ := r2.zip e3
    obtain ⟨v', r4, r5⟩ := r3.unsnoc
    obtain rfl := (q2.still st2).fn r4
    obtain ⟨a, us, rfl, r6, r7⟩ := r5
    obtain ⟨v2, _, _, _, z1, _, z2, _⟩ := r2.zip g1
    obtain rfl := (q2.still st2).fn z1
    obtain ⟨a', us', L1, ea, z3, _, z4⟩ := lst_own z2
    cases ea
    rw [r6] at z3
    cases z3
    have hlen := len_so z4
    refine .inl ⟨a, us, j, w, rfl, rfl, .inl (.inl r6), ?_, k x0 w H2 q1 r3 (q3.trans st2) s2⟩
    unfold atI
    rw [hlen, e9]
    exact r7
  · cases e7⟩

/-! ### a method of a list that stands at a place -/
def eInplP (i : Nat) (πf : Ev → Option (List Stp)) (ok : D → Bool) (g : D → List D → Option (D × D)) (fs : Ev → Option (List D × Ev)) : Ev → Option (D × Ev) := fun env =>
  (πf env).bind fun π => (env[i]?).bind fun t1 => (getP π t1).bind fun d => if ok d then (fs env).bind fun p => (liftP π g t1 p.1).map fun q => (q.1, env.set i q.2) else none
theorem Sat.inplP {ld : List (Option Nat)} {to : TE} {ta : TA} {fs : Ev → Option (List D × Ev)} {T : String} {r : V → List V → Hp → VK → Prop} {ok : D → Bool} {g : D → List D → Option (D × D)} {i : Nat} {πf : Ev → Option (List Stp)} (hp : Plc K to i πf) (h : SatA K true ld ta fs) (o : OpM K r g)
    (hok : ∀ H N v d L, ok d = true → Dens K H N [some v] [d] L → tyV K T v H) : Sat K false (tBM K T r to ta) (eInplP i πf ok g fs) := by
  refine ⟨fun σ H env ts td L Lo hl s r' env' e Q k => ?_⟩
  obtain ⟨π, e1, e⟩ := Option.bind_eq_some_iff.mp e
  obtain ⟨t1, e2, e⟩ := Option.bind_eq_some_iff.mp e
  obtain ⟨d, e3, e⟩ := Option.bind_eq_some_iff.mp e
  split at e
  case isFalse => cases e
  rename_i okd
  obtain ⟨⟨ds, en⟩, e4, e⟩ := Option.bind_eq_some_iff.mp e
  obtain ⟨⟨rr, t2⟩, e5, e⟩ := Option.map_eq_some_iff.mp e
  cases e
  refine hp.run σ H env ts td L Lo hl s π t1 d e1 e2 e3 _ fun x0 v H1 q1 q2 q3 q4 => ?_
  obtain ⟨x1, M, r1, r2⟩ := q4.slot hl e2 (und_ne (getP_und e3))
  rw [q1] at r1
  cases r1
  obtain ⟨w, _, _, _, r3, _, r4, _⟩ := r2.zip e3
  obtain rfl := q2.fn r3
  refine ⟨hok _ _ _ _ _ okd r4, ?_⟩
  refine h.run σ H1 env ts td L Lo hl q4 ds en e4 _ fun vs H2 Lr Lb c _ => ?_
  obtain ⟨he, st2, hb, _⟩ := c.quiet rfl
  have he' := he.symm
  have hb' := hb.symm
  subst he' hb'
  obtain ⟨x', Ld, Lx, f1, f2, f3, f4, f5⟩ := c.inpl hl e2 (und_ne (getP_und e3))
  rw [q1] at f1
  cases f1
  obtain ⟨y, hy, hr⟩ := (o.liftP π) H2 _ x0 vs t1 ds Ld Lr f2 c.top f4 (fun f a n z => n.1 (List.mem_append_right _ (f3.mem_iff.mpr (List.mem_append_left _ z)))) _ _ e5 Q fun v H3 Lr' Ld' m => by
    obtain ⟨Lb', c'⟩ := f5 v H3 _ _ _ _ m
    have c2 : Came K Lo false H (ts ++ σ) td env L H3 [v] [rr] (env.set i t2) Lr' Lb' := ⟨c'.good, c'.top, c'.base, (Ext.of_still (L' := L) q3 fun a ha => .inl ha).trans c'.ext, fun z => by cases z⟩
    exact k v H3 Lr' Lb' c2
  obtain rfl := hy.fn (q2.still st2)
  exact hr
/-! ### P[k] = v -/
def sSetP (i : Nat) (πf : Ev → Option (List Stp)) (f : Ev → Option (D × Ev)) (fx : Ev → Option (D × Ev)) : Ev → Option Out := fun env =>
  (f env).bind fun p => (πf p.2).bind fun π => (p.2[i]?).bind fun t1 => (getP π t1).bind fun _ => (fx p.2).bind fun x => (liftP π mSet t1 [p.1, x.1]).map fun q => .nx (p.2.set i q.2)
theorem SatS.setP {pn : List Nat} {te ti tp : TE} {f fx : Ev → Option (D × Ev)} {i : Nat} {πf : Ev → Option (List Stp)} (h : SatC K te f) (hp : Plc K tp i πf) (hx : Sat K true ti fx) : SatS K pn (tAsg te (L2.gSub tp ti rSetLD)) (sSetP i πf f fx) := by
  refine ⟨fun σ H env ts td L Lo pv hl hcl p s o e E k => ?_⟩
  obtain ⟨⟨dv, e1⟩, ee1, e⟩ := Option.bind_eq_some_iff.mp e
  obtain ⟨π, ee2, e⟩ := Option.bind_eq_some_iff.mp e
  obtain ⟨t1, ee3, e⟩ := Option.bind_eq_some_iff.mp e
  obtain ⟨d, ee4, e⟩ := Option.bind_eq_some_iff.mp e
  obtain ⟨⟨di, e2⟩, ee5, e⟩ := Option.bind_eq_some_iff.mp e
  obtain ⟨⟨rr, t2⟩, ee6, e⟩ := Option.map_eq_some_iff.mp e
  cases e
  refine h.run σ H env ts td L Lo hl hcl s dv e1 ee1 _ fun v H1 Lr Lb c => ?_
  have s1 := c.sta
  refine hp.run σ H1 e1 (some v :: ts) (dv :: td) _ Lo (by simp [hl]) s1 π t1 d ee2 ee3 ee4 _ fun x0 y H2 q1 q2 q3 q4 => ?_
  refine hx.run σ H2 e1 (some v :: ts) (dv :: td) _ Lo (by simp [hl]) q4 di e2 ee5 _ fun iv H3 Lr2 Lb2 c2 => ?_
  obtain ⟨he, st3, hb, _⟩ := c2.quiet rfl
  -- the value behind it all
  have cc : Came K Lo true H1 (some v :: (ts ++ σ)) (dv :: td) e1 (Lr ++ Lb) H3 [iv] [di] e2 Lr2 Lb2 := ⟨c2.good, c2.top, c2.base, (Ext.of_still (L' := Lr ++ Lb) q3 fun a ha => .inl ha).trans c2.ext, fun _ => ⟨he, q3.trans st3, hb, fun a ha => by
    have := (c2.quiet rfl).2.2.2 a ha
    cases q : H1 a with
    | none => rfl
    | some o => rw [← q3 a (by rw [q]; exact Option.some_ne_none _)] at q; rw [q] at this; cases this⟩⟩
  have he' := he.symm
  subst he'
  obtain ⟨R, B, c3⟩ := c.more cc
  obtain ⟨x', Ld, Lx, f1, f2, f3, f4, f5⟩ := c3.inpl hl ee3 (und_ne (getP_und ee4))
  rw [q1] at f1
  cases f1
  obtain ⟨y', hy, hr⟩ := (o_set (K := K)).liftP π H3 _ x0 [v, iv] t1 [dv, di] Ld R f2 c3.top f4 (fun f a n z => n.1 (List.mem_append_right _ (f3.mem_iff.mpr (List.mem_append_left _ z)))) _ _ ee6 (fun _ H3 => E.nx σ H3) fun w H4 Lr' Ld' m => by
    obtain ⟨Lb', c'⟩ := f5 w H4 _ _ _ _ m
    exact k σ H4 Lb' p c'.drop.base0 c'.drop.ext
  obtain rfl := hy.fn (q2.still st3)
  exact hr
end
end TL

set_option Elab.async false
set_option linter.all false
set_option maxRecDepth 100000
/-! TL32: methods of own classes, the object standing at a place. -/
namespace TL
open PySem PySem.Spec PyProof.Rows L2
section
variable {K : PySem.W.Frag} {H : Hp} {N : Fl → Addr → Prop}
theorem look_splitU {κ : Type} [DecidableEq κ] : ∀ {kvs : List (κ × V)} {kds : List (κ × D)} {L : List Addr} {k : κ} {d : D}, kvs.map (·.1) = kds.map (·.1) → Dens K H N (sv kvs) (kds.map (·.2)) L → lookD kds k = some d →
    ∃ (v : V) (Ld Lr : List Addr) (mix : List Addr → List Addr), valV kvs k = some v ∧ L.Perm (Ld ++ Lr) ∧ Dens K H N [some v] [d] Ld ∧ (∀ M, (mix M).Perm (M ++ Lr)) ∧ ∀ (H' : Hp) (N' : Fl → Addr → Prop) (d' : D) (Ld' : List Addr), (∀ b ∈ Lr, H' b = H b) → (∀ f a, N f a → H a ≠ none → N' f a ∧ Keep H H' a) → Dens K H' N' [some v] [d'] Ld' →
      Dens K H' N' (sv kvs) ((putF kds k d').map (·.2)) (mix Ld')
  | [], [], _, _, _, _, _, e => by cases e
  | [], _ :: _, _, _, _, e, _, _ => by cases e
  | _ :: _, [], _, _, _, e, _, _ => by cases e
  | (k1, u) :: kvs, (k2, d2) :: kds, L, k, d, e, h, hl => by
    have e' := List.cons.inj e
    obtain rfl : k1 = k2 := e'.1
    obtain ⟨L1, L2, rfl, h1, h2⟩ := Dens.cons (o := some u) (d := d2) (σ := sv kvs) (ds := kds.map (·.2)) h
    by_cases z : k1 = k
    · have : d2 = d := by simpa [lookD, List.find?_cons, z] using hl
      subst this
      refine ⟨u, L1, L2, fun M => M ++ L2, valV_pos z, List.Perm.refl _, h1, fun M => List.Perm.refl _, fun H' N' d' Ld' hL hN hd' => ?_⟩
      unfold putF
      rw [if_pos z]
      exact hd'.put (h2.mono hL hN)
    · have l1 : lookD ((k1, d2) :: kds) k = lookD kds k := by simp [lookD, List.find?_cons, z]
      rw [l1] at hl
      obtain ⟨v, Ld, Lr, mix, q1, q2, q3, qm, q4⟩ := look_splitU e'.2 h2 hl
      have sw : ∀ M, (L1 ++ (M ++ Lr)).Perm (M ++ (L1 ++ Lr)) := fun M => by rw [← List.append_assoc, ← List.append_assoc]; exact List.Perm.append_right _ List.perm_append_comm
      refine ⟨v, Ld, L1 ++ Lr, fun M => L1 ++ mix M, (valV_neg z).trans q1, (List.Perm.append_left L1 q2).trans (sw Ld), q3, fun M => (List.Perm.append_left L1 (qm M)).trans (sw M), fun H' N' d' Ld' hL hN hd' => ?_⟩
      have p2 := q4 H' N' d' Ld' (fun b hb => hL b (List.mem_append_right _ hb)) hN hd'
      unfold putF
      rw [if_neg z]
      exact (h1.mono (fun b hb => hL b (List.mem_append_left _ hb)) hN).put p2
theorem at_splitU : ∀ {us : List V} {xs : List D} {L : List Addr} {j : Nat} {d : D}, Dens K H N (so us) xs L → xs[j]? = some d →
    ∃ (v : V) (Ld Lr : List Addr) (mix : List Addr → List Addr), us[j]? = some v ∧ L.Perm (Ld ++ Lr) ∧ Dens K H N [some v] [d] Ld ∧ (∀ M, (mix M).Perm (M ++ Lr)) ∧ ∀ (H' : Hp) (N' : Fl → Addr → Prop) (d' : D) (Ld' : List Addr), (∀ b ∈ Lr, H' b = H b) → (∀ f a, N f a → H a ≠ none → N' f a ∧ Keep H H' a) → Dens K H' N' [some v] [d'] Ld' →
      Dens K H' N' (so us) (xs.set j d') (mix Ld')
  | [], [], _, _, _, _, e => by cases e
  | [], _ :: _, _, _, _, h, _ => by cases h
  | _ :: _, [], _, _, _, _, e => by cases e
  | u :: us, x :: xs, L, 0, d, h, hl => by
    obtain ⟨L1, L2, rfl, h1, h2⟩ := Dens.cons (o := some u) (d := x) (σ := so us) (ds := xs) h
    obtain rfl : x = d := Option.some.inj hl
    exact ⟨u, L1, L2, fun M => M ++ L2, rfl, List.Perm.refl _, h1, fun M => List.Perm.refl _, fun H' N' d' Ld' hL hN hd' => hd'.put (h2.mono hL hN)⟩
  | u :: us, x :: xs, L, j + 1, d, h, hl => by
    obtain ⟨L1, L2, rfl, h1, h2⟩ := Dens.cons (o := some u) (d := x) (σ := so us) (ds := xs) h
    obtain ⟨v, Ld, Lr, mix, q1, q2, q3, qm, q4⟩ := at_splitU (j := j) h2 hl
    have sw : ∀ M, (L1 ++ (M ++ Lr)).Perm (M ++ (L1 ++ Lr)) := fun M => by rw [← List.append_assoc, ← List.append_assoc]; exact List.Perm.append_right _ List.perm_append_comm
    exact ⟨v, Ld, L1 ++ Lr, fun M => L1 ++ mix M, q1, (List.Perm.append_left L1 q2).trans (sw Ld), q3, fun M => (List.Perm.append_left L1 (qm M)).trans (sw M), fun H' N' d' Ld' hL hN hd' =>
      (h1.mono (fun b hb => hL b (List.mem_append_left _ hb)) hN).put (q4 H' N' d' Ld' (fun b hb => hL b (List.mem_append_right _ hb)) hN hd')⟩
theorem Dens.zip1U {x : V} {s : Stp} {d0 d : D} {L0 : List Addr} (h : Dens K H N [some x] [d0] L0) (e : get1 s d0 = some d) :
    ∃ (v : V) (Ld Lr : List Addr) (mix : List Addr → List Addr), (∀ H', (∀ b ∈ Lr, H' b = H b) → Read1 H' x s v) ∧ L0.Perm (Ld ++ Lr) ∧ Dens K H N [some v] [d] Ld ∧ (∀ M, (mix M).Perm (M ++ Lr)) ∧ ∀ (H' : Hp) (N' : Fl → Addr → Prop) (d' : D) (Ld' : List Addr), (∀ b ∈ Lr, H' b = H b) → (∀ f a, N f a → H a ≠ none → N' f a ∧ Keep H H' a) → Dens K H' N' [some v] [d'] Ld' →
      Dens K H' N' [some x] [set1 s d' d0] (mix Ld') := by
  cases s with
  | fld C f =>
    cases d0 <;> try (cases e; done)
    rename_i fl C' fs
    cases fl <;> try (cases e; done)
    have e' : (if C' = C then lookD fs f else none) = some d := e
    split at e'
    · rename_i hC
      subst hC
      obtain ⟨a, dx, kvs, L1, rfl, ea, rfl, ek, q⟩ := ins_own h
      obtain ⟨v, Ld, Lr, mix, v1, pm, v2, qm, back⟩ := look_splitU ek q e'
      refine ⟨v, Ld, a :: Lr, fun M => a :: mix M, fun H' hL => ⟨a, dx, kvs, rfl, (hL a (List.mem_cons_self ..)).trans ea, v1⟩, (pm.cons a).trans List.perm_middle.symm, v2, fun M => ((qm M).cons a).trans List.perm_middle.symm, fun H' N' d' Ld' hL hN hd' => ?_⟩
      have b := back H' N' d' Ld' (fun b hb => hL b (List.mem_cons_of_mem _ hb)) hN hd'
      have := Dens.insO (K := K) (N := N') (vs := []) (ds := []) (L2 := []) ((hL a (List.mem_cons_self ..)).trans ea) (ek.trans (putF_fst fs f d').symm) b .nil
      rw [List.append_nil] at this
      exact this
    · cases e'
  | key kk =>
    cases d0 <;> try (cases e; done)
    rename_i fl kds
    cases fl <;> try (cases e; done)
    obtain ⟨a, kvs, L1, rfl, ea, rfl, ek, q⟩ := dK_own h
    obtain ⟨v, Ld, Lr, mix, v1, pm, v2, qm, back⟩ := look_splitU ek q e
    refine ⟨v, Ld, a :: Lr, fun M => a :: mix M, fun H' hL => ⟨a, kvs, rfl, (hL a (List.mem_cons_self ..)).trans ea, v1⟩, (pm.cons a).trans List.perm_middle.symm, v2, fun M => ((qm M).cons a).trans List.perm_middle.symm, fun H' N' d' Ld' hL hN hd' => ?_⟩
    have b := back H' N' d' Ld' (fun b hb => hL b (List.mem_cons_of_mem _ hb)) hN hd'
    have := Dens.dKO (K := K) (N := N') (vs := []) (ds := []) (L2 := []) ((hL a (List.mem_cons_self ..)).trans ea) (ek.trans (putF_fst kds kk d').symm) b .nil
    rw [List.append_nil] at this
    exact this
  | ix j =>
    cases d0 <;> try (cases e; done)
    rename_i fl xs
    cases fl <;> try (cases e; done)
    obtain ⟨a, us, L1, rfl, ea, rfl, q⟩ := lst_own h
    obtain ⟨v, Ld, Lr, mix, v1, pm, v2, qm, back⟩ := at_splitU (j := j) q e
    refine ⟨v, Ld, a :: Lr, fun M => a :: mix M, fun H' hL => ⟨a, us, rfl, (hL a (List.mem_cons_self ..)).trans ea, v1⟩, (pm.cons a).trans List.perm_middle.symm, v2, fun M => ((qm M).cons a).trans List.perm_middle.symm, fun H' N' d' Ld' hL hN hd' => ?_⟩
    have b := back H' N' d' Ld' (fun b hb => hL b (List.mem_cons_of_mem _ hb)) hN hd'
    have := Dens.lstO (K := K) (N := N') (vs := []) (ds := []) (L2 := []) ((hL a (List.mem_cons_self ..)).trans ea) b .nil
    rw [List.append_nil] at this
    exact this
theorem look_putF {κ : Type} [DecidableEq κ] : ∀ {fs : List (κ × D)} {k : κ} {d e : D}, lookD fs k = some e → lookD (putF fs k d) k = some d
  | [], _, _, _, h => by cases h
  | (j, x) :: r, k, d, e, h => by
    unfold putF
    by_cases z : j = k
    · subst z; simp [lookD]
    · rw [if_neg z]
      have h1 : lookD r k = some e := by
        have : lookD ((j, x) :: r) k = lookD r k := by simp [lookD, List.find?_cons, z]
        rw [← this]; exact h
      have := look_putF (d := d) h1
      have h2 : lookD ((j, x) :: putF r k d) k = lookD (putF r k d) k := by simp [lookD, List.find?_cons, z]
      rw [h2]; exact this
theorem putF_putF {κ : Type} [DecidableEq κ] : ∀ (fs : List (κ × D)) (k : κ) (d e : D), putF (putF fs k d) k e = putF fs k e
  | [], _, _, _ => rfl
  | (j, x) :: r, k, d, e => by
    by_cases z : j = k
    · subst z; simp [putF]
    · simp [putF, z, putF_putF r k d e]
theorem get1_set1 {s : Stp} {d0 d e : D} (h : get1 s d0 = some e) : get1 s (set1 s d d0) = some d := by
  cases s with
  | fld C f =>
    cases d0 <;> try (cases h; done)
    rename_i fl C' fs
    cases fl <;> try (cases h; done)
    have h' : (if C' = C then lookD fs f else none) = some e := h
    split at h'
    · rename_i hC
      show (if C' = C then lookD (putF fs f d) f else none) = some d
      rw [if_pos hC, look_putF h']
    · cases h'
  | key k =>
    cases d0 <;> try (cases h; done)
    rename_i fl kds
    cases fl <;> try (cases h; done)
    exact look_putF h
  | ix j =>
    cases d0 <;> try (cases h; done)
    rename_i fl xs
    cases fl <;> try (cases h; done)
    have hj := (List.getElem?_eq_some_iff.mp (show xs[j]? = some e from h)).1
    show (xs.set j d)[j]? = some d
    rw [List.getElem?_set_self hj]
theorem set1_set1 {s : Stp} {d0 d d' e : D} (h : get1 s d0 = some e) : set1 s d' (set1 s d d0) = set1 s d' d0 := by
  cases s with
  | fld C f =>
    cases d0 <;> try (cases h; done)
    show D.ins _ _ (putF (putF _ f d) f d') = D.ins _ _ (putF _ f d')
    rw [putF_putF]
  | key k =>
    cases d0 <;> try (cases h; done)
    show D.dK _ (putF (putF _ k d) k d') = D.dK _ (putF _ k d')
    rw [putF_putF]
  | ix j =>
    cases d0 <;> try (cases h; done)
    show D.lst _ (List.set (List.set _ j d) j d') = D.lst _ (List.set _ j d')
    rw [List.set_set]
theorem setP_cons {s : Stp} {π : List Stp} {d0 e d' : D} (h : get1 s d0 = some e) : setP (s :: π) d' d0 = set1 s (setP π d' e) d0 := by
  show (match get1 s d0 with | some e => _ | none => _) = _
  rw [h]
/-- a place is taken out of a tree, which has a hole there -/
theorem Dens.hole : ∀ {π : List Stp} {x : V} {d0 d : D} {L0 : List Addr}, Dens K H N [some x] [d0] L0 → getP π d0 = some d →
    ∃ (v : V) (Ld Lr M : List Addr), (∀ H', (∀ b ∈ Lr, H' b = H b) → ReadsP H' x π v) ∧ L0.Perm (Ld ++ Lr) ∧ Dens K H N [some v] [d] Ld ∧ M.Perm Lr ∧ Dens K H N [some x] [setP π .und d0] M
  | [], x, d0, d, L0, h, e => by
    have e' : (if d0.isUnd then none else some d0) = some d := e
    split at e'
    · cases e'
    · cases e'
      exact ⟨x, L0, [], [], fun _ _ => rfl, by rw [List.append_nil], h, List.Perm.refl _, .und .nil⟩
  | s :: π, x, d0, d, L0, h, e => by
    obtain ⟨e1, h1, h2⟩ := Option.bind_eq_some_iff.mp (show (get1 s d0).bind (fun e => if e.isUnd then none else getP π e) = some d from e)
    split at h2
    · cases h2
    · obtain ⟨v, Ld, Lr, mix, r1, p1, q1, m1, b1⟩ := h.zip1U h1
      obtain ⟨w, Md, Mr, M, r2, p2, q2, m2, q3⟩ := q1.hole h2
      refine ⟨w, Md, Mr ++ Lr, mix M, fun H' hL => ⟨v, r1 H' fun b hb => hL b (List.mem_append_right _ hb), r2 H' fun b hb => hL b (List.mem_append_left _ hb)⟩, p1.trans ((List.Perm.append_right Lr p2).trans (by rw [List.append_assoc])), q2, (m1 M).trans (List.Perm.append_right Lr m2), ?_⟩
      rw [setP_cons h1]
      exact b1 H N _ M (fun _ _ => rfl) (fun f a n _ => ⟨n, Keep.of rfl⟩) q3
/-- the hole is filled -/
theorem Dens.fill : ∀ {π : List Stp} {x v : V} {d0 d d' : D} {L1 Ld' : List Addr}, getP π d0 = some d → Dens K H N [some x] [setP π .und d0] L1 → ReadsP H x π v → Dens K H N [some v] [d'] Ld' →
    ∃ L2, L2.Perm (Ld' ++ L1) ∧ Dens K H N [some x] [setP π d' d0] L2
  | [], x, v, d0, d, d', L1, Ld', e, h, r, hd => by
    cases r
    have h' : Dens K H N [some x] [.und] L1 := h
    cases h' with
    | und h2 =>
      cases h2
      exact ⟨Ld', by rw [List.append_nil], hd⟩
  | s :: π, x, v, d0, d, d', L1, Ld', e, h, ⟨y, r1, r2⟩, hd => by
    obtain ⟨e1, h1, h2⟩ := Option.bind_eq_some_iff.mp (show (get1 s d0).bind (fun e => if e.isUnd then none else getP π e) = some d from e)
    split at h2
    · cases h2
    · rw [setP_cons h1] at h
      obtain ⟨v1, Ld, Lr, mix, q1, q2, q3, q4, q5⟩ := h.zip1U (get1_set1 h1)
      obtain rfl := r1.fn (q1 H fun _ _ => rfl)
      obtain ⟨L2, p2, z2⟩ := Dens.fill (d' := d') h2 q3 r2 hd
      refine ⟨mix L2, (q4 L2).trans ((List.Perm.append_right Lr p2).trans ?_), ?_⟩
      · rw [List.append_assoc]
        exact List.Perm.append_left _ q2.symm
      · rw [setP_cons h1]
        have := q5 H N _ L2 (fun _ _ => rfl) (fun f a n _ => ⟨n, Keep.of rfl⟩) z2
        rw [set1_set1 h1] at this
        exact this
end
section
variable {K : PySem.W.Frag}
/-- what comes of a call whose first argument stands at a place -/
def placeOut (i : Nat) (π : List Stp) (t1 d : D) (ds : List D) (env : Ev) : Option (D × List D) → Option (D × Ev)
  | some (r, d' :: ds') => if r.closed && ((D.mapF v2p d).closed && ((ds.map (D.mapF v2p)).all D.closed && (d'.noPv && !d'.isUnd))) then some (if d.closed && ds.all D.closed then r else D.mapF p2v r, env.set i (setP π d' t1)) else none
  | _ => none
def eCallP (n i : Nat) (πf : Ev → Option (List Stp)) (C : Addr) (m : Str) (F : List D → Option (D × List D)) (fs : Ev → Option (List D × Ev)) : Ev → Option (D × Ev) := fun env =>
  (πf env).bind fun π => (env[i]?).bind fun t1 => (getP π t1).bind fun d => if isIns C m d then (fs env).bind fun p => if p.1.length + 1 = n then placeOut i π t1 d p.1 env (F (D.mapF v2p d :: p.1.map (D.mapF v2p))) else none else none
theorem und_noPv : ∀ ds : List D, (ds.map fun _ => D.und).all D.noPv = true := fun ds => by rw [List.all_map, List.all_eq_true]; intro _ _; rfl
theorem Sat.methP {ld : List (Option Nat)} {to : TE} {ta : TA} {fs : Ev → Option (List D × Ev)} {n i : Nat} {πf : Ev → Option (List Stp)} {F : List D → Option (D × List D)} {C : Addr} {m : Str} (hp : Plc K to i πf) (h : SatA K true ld ta fs) :
    Sat K false (tMeth C m (spF K n F) [] E0 to ta) (eCallP n i πf C m F fs) := by
  refine ⟨fun σ H env ts td L Lo hl s r' env' e Q k => ?_⟩
  obtain ⟨π, e1, e⟩ := Option.bind_eq_some_iff.mp e
  obtain ⟨t1, e2, e⟩ := Option.bind_eq_some_iff.mp e
  obtain ⟨d, e3, e⟩ := Option.bind_eq_some_iff.mp e
  split at e
  case isFalse => cases e
  rename_i okd
  obtain ⟨⟨ds, en⟩, e4, e⟩ := Option.bind_eq_some_iff.mp e
  split at e
  case isFalse => cases e
  rename_i hn
  unfold placeOut at e
  split at e
  case h_2 => cases e
  rename_i r d' ds' eF
  split at e
  case isFalse => cases e
  rename_i chk
  rw [Bool.and_eq_true, Bool.and_eq_true, Bool.and_eq_true, Bool.and_eq_true] at chk
  obtain ⟨hr, hdc, hds, hdp, hdu⟩ := chk
  cases e
  have hu1 := getP_und e3
  refine hp.run σ H env ts td L Lo hl s π t1 d e1 e2 e3 _ fun x0 v H1 q1 q2 q3 q4 => ?_
  obtain ⟨x1, M, r1, r2⟩ := q4.slot hl e2 (und_ne hu1)
  rw [q1] at r1
  cases r1
  obtain ⟨w, _, _, _, r3, _, r4, _⟩ := r2.zip e3
  obtain rfl := q2.fn r3
  obtain ⟨a, dx, fs', rfl, z1, z2, _⟩ := ins_ok H1 _ _ d _ True okd r4 trivial
  refine ⟨a, dx, fs', rfl, z1, z2, ?_⟩
  refine h.run σ H1 env ts td L Lo hl q4 ds en e4 _ fun vs H2 Lr Lb c _ => ?_
  obtain ⟨he, st2, hb, fr⟩ := c.quiet rfl
  have he' := he.symm
  have hb' := hb.symm
  subst he' hb'
  rw [List.append_nil]
  -- the place is taken out of its slot's tree
  obtain ⟨Lt, Le, rfl, b1, b2⟩ := Dens.split hl c.base
  obtain ⟨o, M1, M2, g1, g2, g3, g4⟩ := b2.take e2
  rw [q1] at g1
  cases g1
  obtain ⟨v', Ld, Lx, M', rp, pm, dd, pm', dh⟩ := g3.hole e3
  obtain rfl := (q2.still st2).fn (rp H2 fun _ _ => rfl)
  have hlen := b2.length
  have il : i < env.length := (List.getElem?_eq_some_iff.mp e2).1
  have ilσ : i < σ.length := by omega
  obtain ⟨M3, L5, sb, pm5, d5⟩ := Dens.setAt dh g4 i (by rw [List.length_set]; exact il)
  rw [set_same q1, List.set_set] at d5
  have σl : σ.length = env.length := hlen
  have P1 : (Lr ++ (Lt ++ Le)).Perm ((Ld ++ Lr) ++ (Lt ++ (Lx ++ M2))) := by
    refine List.perm_iff_count.mpr fun b => ?_
    have a1 := List.perm_iff_count.mp g2 b
    have a2 := List.perm_iff_count.mp pm b
    simp only [List.count_append] at a1 a2 ⊢
    omega
  have S1 : ((Ld ++ Lr) ++ (Lt ++ (Lx ++ M3))).Sublist ((Ld ++ Lr) ++ (Lt ++ (Lx ++ M2))) := List.Sublist.append (List.Sublist.refl _) (List.Sublist.append (List.Sublist.refl _) (List.Sublist.append (List.Sublist.refl _) sb))
  have P2 : ((Ld ++ Lr) ++ (Lt ++ L5)).Perm ((Ld ++ Lr) ++ (Lt ++ (Lx ++ M3))) := List.Perm.append_left _ (List.Perm.append_left _ (pm5.trans (List.Perm.append_right _ pm')))
  have mem1 : ∀ b ∈ (Ld ++ Lr) ++ (Lt ++ L5), b ∈ Lr ++ (Lt ++ Le) := fun b hb => P1.mem_iff.mpr (S1.subset (P2.mem_iff.mp hb))
  have nd1 : ((Ld ++ Lr) ++ (Lt ++ (Lx ++ M2))).Nodup := P1.nodup_iff.mp c.good.nd
  have good1 : Good ((Ld ++ Lr) ++ (Lt ++ L5)) Lo H2 := c.good.sub (P2.nodup_iff.mpr (S1.nodup nd1)) mem1
  have kn : ∀ f b, Nw (Lr ++ (Lt ++ Le)) Lo f b → H2 b ≠ none → Nw ((Ld ++ Lr) ++ (Lt ++ L5)) Lo f b := fun f b n _ => nw_sub mem1 f b n
  have top1 : Dens K H2 (Nw ((Ld ++ Lr) ++ (Lt ++ L5)) Lo) (so (.ref a :: vs)) (d :: ds) (Ld ++ Lr) := (dd.know kn).put (c.top.know kn)
  have base1 : Dens K H2 (Nw ((Ld ++ Lr) ++ (Lt ++ L5)) Lo) (ts ++ (σ ++ [some (.ref a)])) (td ++ (env.set i (setP π .und t1) ++ [.und])) (Lt ++ L5) := by
    have z0 := (b1.know kn).app ((d5.know kn).app (.und .nil : Dens K H2 (Nw ((Ld ++ Lr) ++ (Lt ++ L5)) Lo) [some (.ref a)] [.und] []))
    rw [List.append_nil L5] at z0
    exact z0
  have c2 : Came K Lo false H (ts ++ (σ ++ [some (.ref a)])) td (env ++ [.und]) (Lt ++ Le) H2 (.ref a :: vs) (d :: ds) (env.set i (setP π .und t1) ++ [.und]) (Ld ++ Lr) (Lt ++ L5) :=
    ⟨good1, top1, base1, ((Ext.of_still (L' := Lt ++ Le) q3 fun a ha => .inl ha).trans c.ext).sub mem1, fun z => by cases z⟩
  have ln : (V.ref a :: vs).length = n := by rw [List.length_cons, len_so c.top]; exact hn
  have eg : callOut [some env.length] (d :: ds) r (d' :: ds') (env.set i (setP π D.und t1) ++ [D.und]) = some (if d.closed && ds.all D.closed then r else D.mapF p2v r, env.set i (setP π .und t1) ++ [d']) := by
    unfold callOut
    have l1 : lentOnly [some env.length] (d' :: ds') = d' :: ds'.map fun _ => D.und := rfl
    rw [l1, if_pos (by
      show (r.closed && (((D.mapF v2p d).closed && (ds.map (D.mapF v2p)).all D.closed) && (d'.noPv && (ds'.map fun _ => D.und).all D.noPv))) = true; rw [hr, hdc, hds, hdp, und_noPv]; rfl)]
    have l2 : giveBack [some env.length] (d' :: ds'.map fun _ => D.und) (env.set i (setP π .und t1) ++ [.und]) = some (env.set i (setP π .und t1) ++ [d']) := by
      unfold giveBack
      have le : (env.set i (setP π .und t1)).length = env.length := List.length_set ..
      have e9 : (env.set i (setP π .und t1) ++ [D.und]).getD env.length D.non = D.und := by
        rw [List.getD_eq_getElem?_getD, ← le]
        simp
      rw [e9]
      show some _ = _
      rw [← le, List.set_append_right _ _ (Nat.le_refl _)]
      simp
    rw [l2, List.all_cons]
  refine c2.call hl ln (fun p j hj => ?_) eF eg fun v H3 Lr3 Lb3 c3 keep => ?_
  · cases p with
    | zero =>
      have : env.length = j := by simpa using hj
      subst this
      exact ⟨_, rfl, by rw [← σl]; simp⟩
    | succ p => simp at hj
  · -- the place goes back
    have bb := c3.base
    rw [← List.append_assoc, ← List.append_assoc] at bb
    have lens : (ts ++ σ).length = (td ++ env.set i (setP π .und t1)).length := by simp [hl, σl]
    obtain ⟨B1, B2, rfl, b5, b6⟩ := Dens.split lens bb
    obtain ⟨Bt, Be, rfl, b7, b8⟩ := Dens.split hl b5
    obtain ⟨o', N1, N2, k1, k2, k3, k4⟩ := b8.take (i := i) (d := setP π .und t1) (by rw [List.getElem?_set_self il])
    rw [q1] at k1
    cases k1
    have lvx : ∀ b ∈ Lx, H2 b ≠ none := fun b hb => c.base.live b (List.mem_append_right _ (g2.mem_iff.mpr (List.mem_append_left _ (pm.mem_iff.mpr (List.mem_append_right _ hb)))))
    have offx : ∀ b ∈ Lx, b ∉ Ld ++ Lr := fun b hb z => (List.nodup_append.mp nd1).2.2 b z b (List.mem_append_right _ (List.mem_append_left _ hb)) rfl
    have rp3 : ReadsP H3 x0 π (.ref a) := rp H3 fun b hb => keep b (lvx b hb) (offx b hb)
    obtain ⟨L2, p2, z9⟩ := k3.fill e3 rp3 b6
    rw [List.set_set] at k4
    obtain ⟨M6, L6, sb6, pm6, d6⟩ := Dens.setAt z9 k4 i (by rw [List.length_set]; exact il)
    rw [set_same q1, List.set_set] at d6
    have P3 : (Lr3 ++ ((Bt ++ Be) ++ B2)).Perm (Lr3 ++ (Bt ++ ((B2 ++ N1) ++ N2))) := by
      refine List.perm_iff_count.mpr fun b => ?_
      have a1 := List.perm_iff_count.mp k2 b
      simp only [List.count_append] at a1 ⊢
      omega
    have S3 : (Lr3 ++ (Bt ++ ((B2 ++ N1) ++ M6))).Sublist (Lr3 ++ (Bt ++ ((B2 ++ N1) ++ N2))) := List.Sublist.append (List.Sublist.refl _) (List.Sublist.append (List.Sublist.refl _) (List.Sublist.append (List.Sublist.refl _) sb6))
    have P4 : (Lr3 ++ (Bt ++ L6)).Perm (Lr3 ++ (Bt ++ ((B2 ++ N1) ++ M6))) := List.Perm.append_left _ (List.Perm.append_left _ (pm6.trans (List.Perm.append_right _ p2)))
    have mem3 : ∀ b ∈ Lr3 ++ (Bt ++ L6), b ∈ Lr3 ++ ((Bt ++ Be) ++ B2) := fun b hb => P3.mem_iff.mpr (S3.subset (P4.mem_iff.mp hb))
    have kn3 : ∀ f b, Nw (Lr3 ++ ((Bt ++ Be) ++ B2)) Lo f b → H3 b ≠ none → Nw (Lr3 ++ (Bt ++ L6)) Lo f b := fun f b n _ => nw_sub mem3 f b n
    exact k v H3 Lr3 (Bt ++ L6) ⟨c3.good.sub (P4.nodup_iff.mpr (S3.nodup (P3.nodup_iff.mp c3.good.nd))) mem3, c3.top.know kn3, (b7.know kn3).app (d6.know kn3), c3.ext.sub mem3, fun z => by cases z⟩
end
end TL

set_option Elab.async false
set_option linter.all false
set_option maxRecDepth 100000
/-! TL33: list.remove of data; a dict's pop, setdefault, get. -/
namespace PySem.SeqAt
open AutoSeq1 (wpAny_loadPart')
open MeetsSeq MeetsSeq2 MeetsSeq3 SeqRoads2
theorem tl_remove_loopAt (l : Addr) (items : Array Value) (n : Nat) (x : Value) (e : Value → Bool) (j : Nat) (hj : j < items.size) (hit : e items[j] = true) (k : Nat) (hs1 : items.size ≤ sizeLine) :
    ∀ i : Nat, j - i = k → i ≤ j → (∀ m (hm : m < items.size), i ≤ m → m < j → e items[m] = false) → Meets (Builtin.«list.remove.loop» ⟨[.ref l, x, rawInt i], []⟩)
      (fun A R s => s.heap.get? l = some { cls := .type "list", dict := none, data := .seq items n, slots := #[] } ∧ (∀ y, y ∈ items → EqAt A.in1 s y x (e y)) ∧ R (.ok (.ret .none)) { s with heap := s.heap.update l (Obj.mapSeq fun xs => xs.eraseIdxIfInBounds j) }) := by
  induction k with
  | zero =>
    intro i hk hij hno prog w A R s h
    obtain ⟨hp, g, d, tk, os⟩ := s; obtain ⟨hl, he, h⟩ := h
    have hij' : i = j := by omega
    subst hij'
    wp_walk using wpAny_loadPart' hl
    have hi : items[((i : Nat) : Int).toNat]? = some items[i] := by simp [hj]
    rw [hi]
    refine wpAny_bind (he _ (Array.getElem_mem hj) prog w _ _ ?_)
    rw [hit]
    have hz' : (items.eraseIdxIfInBounds i).size ≤ sizeLine + 1 := Nat.le_trans (size_erased items _) (Nat.le_succ_of_le hs1)
    wp_walk using (wpAny_updateSeq hl rfl (hz := hs1) (_hz' := hz')), wpAny_loadPart' hl
    simpa using h
  | succ k ih =>
    intro i hk hij hno prog w A R s h
    obtain ⟨hp, g, d, tk, os⟩ := s; obtain ⟨hl, he, h⟩ := h
    have hlt : i < items.size := by omega
    wp_walk using wpAny_loadPart' hl
    have hi : items[((i : Nat) : Int).toNat]? = some items[i] := by simp [hlt]
    have hc : ((i : Int) + 1) = ((i + 1 : Nat) : Int) := by push_cast; rfl
    rw [hi]
    refine wpAny_bind (he _ (Array.getElem_mem hlt) prog w _ _ ?_)
    rw [hno i hlt (Nat.le_refl _) (by omega)]
    wp_walk
    rw [hc]
    exact ⟨plainId_quiet plain_remove_loop _, codeAny_builtin entry_remove_loop (by
      rw [Around.under_plainId plain_remove_loop _]
      exact ih (i + 1) (by omega) (by omega) (fun m hm h1 h2 => hno m hm (by omega) h2) prog w A R _ ⟨hl, he, h⟩)⟩
theorem tl_list_removeAt (l : Addr) (items : Array Value) (n : Nat) (x : Value) (e : Value → Bool) (j : Nat) (hj : j < items.size)
    (hit : e items[j] = true) (hno : ∀ m (hm : m < items.size), m < j → e items[m] = false) (hs1 : items.size ≤ sizeLine) :
    Meets (Builtin.«list.remove» ⟨[.ref l, x], []⟩)
      (fun A R s => s.heap.get? l = some { cls := .type "list", dict := none, data := .seq items n, slots := #[] } ∧ (∀ y, y ∈ items → EqAt A.in1 s y x (e y)) ∧ R (.ok (.ret .none)) { s with heap := s.heap.update l (Obj.mapSeq fun xs => xs.eraseIdxIfInBounds j) }) := by
  intro prog w A R s h
  obtain ⟨hp, g, d, tk, os⟩ := s; obtain ⟨hl, he, h⟩ := h
  wp_walk using wpAny_loadPart' hl
  exact ⟨plainId_quiet plain_remove_loop _, codeAny_builtin entry_remove_loop (by
    rw [Around.under_plainId plain_remove_loop _]
    exact tl_remove_loopAt l items n x e j hj hit _ hs1 0 rfl (Nat.zero_le _) (fun m hm _ h2 => hno m hm h2) prog w A R _ ⟨hl, he, h⟩)⟩
end PySem.SeqAt
namespace TL
open PySem PySem.Spec PyProof.Rows L2
def rRemD (K : PySem.W.Frag) : V → List V → Hp → VK → Prop := fun x xs H Q => ∃ (a : Addr) (y : V) (d : PyData) (ds : List PyData) (us : List V) (j : Nat) (z : PyData), x = V.ref a ∧ xs = [y] ∧ H a = some (.lst us) ∧ Dp K H (V.ref a) (.list ds) ∧ Dp K H y d ∧
  SeqAt.shaped (.list ds) = true ∧ SeqAt.shaped d = true ∧ ds[j]? = some z ∧ PyData.eqv z d = true ∧ (∀ (m : Nat) (z' : PyData), m < j → ds[m]? = some z' → PyData.eqv z' d = false) ∧ Q .non (upd H a (.lst (us.eraseIdx j)))
theorem mt_removeD {X : Cx} (hu : X.A.units + 65 < cLine) : MtR X "list.remove" (rRemD X.K) := by
  intro pins s σ H x xs v us' Q I rx rxs h
  obtain ⟨a, y, d, ds, us, j, z, rfl, rfl, hH, hl, hy, sl, sd, hz, hzj, hno, q⟩ := h
  cases rx
  obtain ⟨uy, rfl, ry⟩ := rxs.one
  obtain ⟨bs, r1⟩ := Dp.reads I d y uy hy ry
  have hxs : PyData.canLayAll0 ds = true := SeqAt.canLay_of_shaped sl
  have hroom : X.A.units + 1 + min (PyData.depthAll ds) d.depth < cLine := room_in_shaped sd hu
  obtain ⟨zz, its, n, rv, hlen, ho⟩ := I.lstM hH
  obtain ⟨as, h4⟩ : ∃ as, ReadsAll s.heap its ds as := by
    cases hl with
    | lst hs ha =>
      obtain ⟨its2, rv2, ⟨⟨cls, dd, data, sls⟩, n2, ho2, hc, hdn, hdt⟩, hlen2⟩ := I.list hs
      simp only at hc hdt
      subst hc hdt
      rw [ho] at ho2
      cases ho2
      exact Dp.readsAll I ds _ _ ha rv2
  have hn : its.length = ds.length := SeqAt.ReadsAll.length ds its as h4
  have hmap : its.map (SeqAt.readOf s.heap) = ds := SeqAt.readsAll_map ds its as hxs h4
  obtain ⟨hjd, _⟩ := List.getElem?_eq_some_iff.mp hz
  have hjl : j < its.length := by omega
  have hj : j < its.toArray.size := by simpa using hjl
  have at_ : ∀ (m : Nat) (hm : m < its.toArray.size) (z' : PyData), ds[m]? = some z' → SeqAt.readOf s.heap its.toArray[m] = z' := by
    intro m hm z' hz'
    have hml : m < its.length := by simpa using hm
    rw [← hmap, List.getElem?_map, List.getElem?_eq_getElem hml] at hz'
    have e1 : SeqAt.readOf s.heap its[m] = z' := Option.some.inj (show some (SeqAt.readOf s.heap its[m]) = some z' from hz')
    simpa using e1
  refine call_meets PySem.F.slot_list_remove ⟨_, ho, rfl⟩ PySem.F.entry_list_remove (PySem.F.args_list_remove_2 _ _)
    (SeqAt.tl_list_removeAt a its.toArray n uy (fun u => PyData.eqv (SeqAt.readOf s.heap u) d) j hj ?_ ?_ (by rw [List.size_toArray]; omega)) ⟨ho, SeqAt.items_eqAt (vs := its.toArray) (show ReadsAll s.heap its.toArray.toList ds as from h4) r1 hxs (SeqAt.canLay_of_shaped sd) hroom, ?_⟩
  · show PyData.eqv (SeqAt.readOf s.heap its.toArray[j]) d = true
    rw [at_ j hj z hz]
    exact hzj
  · intro m hm hmj
    have hmd : m < ds.length := by omega
    have hz' : ds[m]? = some ds[m] := List.getElem?_eq_getElem hmd
    show PyData.eqv (SeqAt.readOf s.heap its.toArray[m]) d = false
    rw [at_ m hm _ hz']
    exact hno m _ hmj hz'
  · refine ⟨.non, _, I.lset (its' := its.eraseIdx j) (t' := s.toks) hH ho ?_ (rv.eraseIdx j) ?_, rfl, q⟩
    · show its.toArray.eraseIdxIfInBounds j = (its.eraseIdx j).toArray
      rw [List.eraseIdxIfInBounds_toArray]
    · exact Nat.le_trans (List.length_eraseIdx_le ..) zz
def mRemove : D → List D → Option (D × D)
  | .lst .own xs, [x] => match D.pys xs, x.py with
    | some ds, some d => if SeqAt.shaped (.list ds) && SeqAt.shaped d then (ds.findIdx? fun z => PyData.eqv z d).map fun j => (.non, .lst .own (xs.eraseIdx j)) else none
    | _, _ => none
  | _, _ => none
section
variable {K : PySem.W.Frag}
theorem dens_erase {H : Hp} {N : Fl → Addr → Prop} : ∀ {us : List V} {xs : List D} {L : List Addr} (j : Nat), Dens K H N (so us) xs L → ∃ L9, L9.Sublist L ∧ Dens K H N (so (us.eraseIdx j)) (xs.eraseIdx j) L9
  | [], [], L, j, h => by cases h; exact ⟨[], List.Sublist.refl _, .nil⟩
  | [], _ :: _, _, _, h => by cases h
  | _ :: _, [], _, _, h => by cases h
  | u :: us, x :: xs, L, 0, h => by
    obtain ⟨L1, L2, rfl, h1, h2⟩ := Dens.cons (o := some u) (d := x) (σ := so us) (ds := xs) h
    exact ⟨L2, List.sublist_append_right .., h2⟩
  | u :: us, x :: xs, L, j + 1, h => by
    obtain ⟨L1, L2, rfl, h1, h2⟩ := Dens.cons (o := some u) (d := x) (σ := so us) (ds := xs) h
    obtain ⟨L9, s, q⟩ := dens_erase j h2
    exact ⟨L1 ++ L9, List.Sublist.append (List.Sublist.refl _) s, h1.put q⟩
theorem o_removeD : OpM K (rRemD K) mRemove := by
  intro H N x vs d ds Ld Lt h1 h2 nd hN r' d' e Q k
  unfold mRemove at e
  split at e
  · rename_i xs y
    split at e
    · rename_i ps pd e1 e2
      split at e
      · rename_i c
        rw [Bool.and_eq_true] at c
        obtain ⟨j, e3, e4⟩ := Option.map_eq_some_iff.mp e
        cases e4
        have hp : Dp K H x (.list ps) := py_dp h1 (by unfold D.py; rw [e1]; rfl)
        obtain ⟨a, us, L1, rfl, ha, rfl, q⟩ := lst_own h1
        obtain ⟨v, rfl, h3⟩ := apart1 h2
        obtain ⟨hj, g1, g2⟩ := List.findIdx?_eq_some_iff_getElem.mp e3
        obtain ⟨L9, s9, q9⟩ := dens_erase j q
        have nd' := nd_tail nd
        refine ⟨a, v, pd, ps, us, j, ps[j], rfl, rfl, ha, hp, py_dp h3 e2, c.1, c.2, List.getElem?_eq_getElem hj, g1, fun m z' hm hz => ?_, ?_⟩
        · obtain ⟨hm2, rfl⟩ := List.getElem?_eq_some_iff.mp hz
          have := g2 m hm
          simpa using this
        · exact k _ _ _ _ (MRes.write (Lr := []) (by rw [ha]; exact Option.some_ne_none _) nd hN q9 non0 (fun b hb => List.mem_append_left _ (s9.subset hb)) (s9.nodup (List.nodup_append.mp nd').1) (fun N' h => mk_lst N' h))
      · cases e
    · cases e
  · cases e

/-! ### pop -/
def dropKD {κ : Type} [DecidableEq κ] (kds : List (κ × D)) (k : κ) : List (κ × D) := kds.filter fun p => decide (p.1 ≠ k)
theorem drop_none {κ : Type} [DecidableEq κ] {β : Type} : ∀ (l : List (κ × β)) (k : κ), k ∉ l.map (·.1) → (l.filter fun p => decide (p.1 ≠ k)) = l
  | [], _, _ => rfl
  | p :: l, k, h => by
    rw [List.map_cons, List.mem_cons, not_or] at h
    rw [List.filter_cons_of_pos (by simpa using Ne.symm h.1), drop_none l k h.2]
theorem drop_split {κ : Type} [DecidableEq κ] {H : Hp} {N : Fl → Addr → Prop} : ∀ {kvs : List (κ × V)} {kds : List (κ × D)} {L : List Addr} {k : κ} {d : D}, kvs.map (·.1) = kds.map (·.1) → (kds.map (·.1)).Nodup → Dens K H N (sv kvs) (kds.map (·.2)) L → lookD kds k = some d →
    ∃ (v : V) (Ld Lr : List Addr), valV kvs k = some v ∧ L.Perm (Ld ++ Lr) ∧ Dens K H N [some v] [d] Ld ∧ Dens K H N (sv (dropK kvs k)) ((dropKD kds k).map (·.2)) Lr ∧ (dropK kvs k).map (·.1) = (dropKD kds k).map (·.1)
  | [], [], _, _, _, _, _, _, e => by cases e
  | [], _ :: _, _, _, _, e, _, _, _ => by cases e
  | _ :: _, [], _, _, _, e, _, _, _ => by cases e
  | (k1, u) :: kvs, (k2, d2) :: kds, L, k, d, e, nd, h, hl => by
    have e' := List.cons.inj e
    obtain rfl : k1 = k2 := e'.1
    have nd' := List.nodup_cons.mp (show (k1 :: kds.map (·.1)).Nodup from nd)
    obtain ⟨L1, L2, rfl, h1, h2⟩ := Dens.cons (o := some u) (d := d2) (σ := sv kvs) (ds := kds.map (·.2)) h
    by_cases z : k1 = k
    · subst z
      have : d2 = d := by simpa [lookD, List.find?_cons] using hl
      subst this
      have nv : k1 ∉ kvs.map (·.1) := by rw [e'.2]; exact nd'.1
      have f1 : dropK ((k1, u) :: kvs) k1 = kvs := by unfold dropK; rw [List.filter_cons_of_neg (by simp)]; exact drop_none _ _ nv
      have f2 : dropKD ((k1, d2) :: kds) k1 = kds := by unfold dropKD; rw [List.filter_cons_of_neg (by simp)]; exact drop_none _ _ nd'.1
      rw [f1, f2]
      exact ⟨u, L1, L2, valV_pos rfl, List.Perm.refl _, h1, h2, e'.2⟩
    · have l1 : lookD ((k1, d2) :: kds) k = lookD kds k := by simp [lookD, List.find?_cons, z]
      rw [l1] at hl
      obtain ⟨v, Ld, Lr, q1, q2, q3, q4, q5⟩ := drop_split e'.2 nd'.2 h2 hl
      have f1 : dropK ((k1, u) :: kvs) k = (k1, u) :: dropK kvs k := by unfold dropK; rw [List.filter_cons_of_pos (by simpa using z)]
      have f2 : dropKD ((k1, d2) :: kds) k = (k1, d2) :: dropKD kds k := by unfold dropKD; rw [List.filter_cons_of_pos (by simpa using z)]
      rw [f1, f2]
      exact ⟨v, Ld, L1 ++ Lr, (valV_neg z).trans q1, (List.Perm.append_left L1 q2).trans (by rw [← List.append_assoc, ← List.append_assoc]; exact List.Perm.append_right _ List.perm_append_comm), q3, h1.put q4, by rw [List.map_cons, List.map_cons, q5]⟩
def mPop1 : D → List D → Option (D × D)
  | .dK .own kds, [kt] => (D.key kt).bind fun kk => (lookD kds kk).bind fun d => if (kds.map (·.1)).Nodup ∧ d.isUnd = false then some (d, .dK .own (dropKD kds kk)) else none
  | _, _ => none
abbrev rPop1M : V → List V → Hp → VK → Prop := fun x vs H Q => match vs with
  | [y] => ∃ (a : Addr) (kvs : List (Key × V)) (k : Key) (v : V), x = .ref a ∧ H a = some (.dK kvs) ∧ y = kV k ∧ valV kvs k = some v ∧ Q v (upd H a (.dK (dropK kvs k)))
  | _ => False
theorem o_pop1 : OpM K rPop1M mPop1 := by
  intro H N x vs d ds Ld Lt h1 h2 nd hN r' d' e Q k
  unfold mPop1 at e
  split at e
  · rename_i kds kt
    obtain ⟨kk, e1, e2⟩ := Option.bind_eq_some_iff.mp e
    obtain ⟨dd, e3, e4⟩ := Option.bind_eq_some_iff.mp e2
    split at e4
    · rename_i c
      cases e4
      obtain ⟨a, kvs, L1, rfl, ha, rfl, ek, q⟩ := dK_own h1
      obtain ⟨y, rfl, h3⟩ := apart1 h2
      have ey := key_v h3 e1
      obtain ⟨v, Ld, Lr, q1, q2, q3, q4, q5⟩ := drop_split ek c.1 q e3
      have nd' := nd_tail nd
      refine ⟨a, kvs, kk, v, rfl, ha, ey, q1, ?_⟩
      exact k _ _ _ _ (MRes.write (Lr := Ld) (by rw [ha]; exact Option.some_ne_none _) nd hN q4 q3 (fun b hb => List.mem_append_left _ (q2.mem_iff.mpr hb)) (q2.nodup_iff.mp (List.nodup_append.mp nd').1) (fun N' h => mk_dK q5 N' h))
    · cases e4
  · cases e
def mPop2 : D → List D → Option (D × D)
  | .dK .own kds, [kt, dv] => (D.key kt).bind fun kk => match lookD kds kk with
    | some d => if (kds.map (·.1)).Nodup ∧ d.isUnd = false then some (d, .dK .own (dropKD kds kk)) else none
    | none => some (dv, .dK .own kds)
  | _, _ => none
abbrev rPop2M : V → List V → Hp → VK → Prop := fun x vs H Q => match vs with
  | [y, z] => ∃ (a : Addr) (kvs : List (Key × V)) (k : Key), x = .ref a ∧ H a = some (.dK kvs) ∧ y = kV k ∧ (∀ v, valV kvs k = some v → Q v (upd H a (.dK (dropK kvs k)))) ∧ (valV kvs k = none → Q z H)
  | _ => False
theorem o_pop2 : OpM K rPop2M mPop2 := by
  intro H N x vs d ds Ld Lt h1 h2 nd hN r' d' e Q k
  unfold mPop2 at e
  split at e
  · rename_i kds kt dv
    obtain ⟨kk, e1, e2⟩ := Option.bind_eq_some_iff.mp e
    have h0 := h1
    obtain ⟨a, kvs, L1, rfl, ha, rfl, ek, q⟩ := dK_own h1
    obtain ⟨y, z, L3, L4, rfl, rfl, h3, h4⟩ := apart2 h2
    have ey := key_v h3 e1
    have nd' := nd_tail nd
    split at e2
    · rename_i dd e3
      split at e2
      · rename_i c
        cases e2
        obtain ⟨v, Ld, Lr, q1, q2, q3, q4, q5⟩ := drop_split ek c.1 q e3
        refine ⟨a, kvs, kk, rfl, ha, ey, fun v' hv => ?_, fun hn => by rw [q1] at hn; cases hn⟩
        rw [q1] at hv
        cases hv
        exact k _ _ _ _ (MRes.write (Lr := Ld) (by rw [ha]; exact Option.some_ne_none _) nd hN q4 q3 (fun b hb => List.mem_append_left _ (q2.mem_iff.mpr hb)) (q2.nodup_iff.mp (List.nodup_append.mp nd').1) (fun N' h => mk_dK q5 N' h))
      · cases e2
    · rename_i e3
      cases e2
      rcases look_val ek q kk with ⟨z1, z2⟩ | ⟨v', d', M, q1, q2, _, _⟩
      · refine ⟨a, kvs, kk, rfl, ha, ey, fun v' hv => (by rw [z2] at hv; cases hv), fun _ => ?_⟩
        have nd2 := List.nodup_append.mp nd
        have nd3 := List.nodup_append.mp nd2.2.1
        exact k z H L4 (a :: L1) ⟨fun _ _ _ => rfl, fun _ h => h, fun b hb => .inl ((List.mem_append.mp hb).elim (fun z => List.mem_append_right _ (List.mem_append_right _ z)) (List.mem_append_left _)), List.nodup_append.mpr ⟨nd3.2.1, nd2.1, fun b hb c hc e => nd2.2.2 c hc b (List.mem_append_right _ hb) e.symm⟩, fun N' hn _ => ⟨h4.know fun f b n hb => hn f b n hb, h0.know fun f b n hb => hn f b n hb⟩⟩
      · rw [q1] at e3; cases e3
  · cases e
end
end TL

set_option Elab.async false
set_option linter.all false
set_option maxRecDepth 100000
/-! TL34: setdefault (keys that are ints, texts or tuples of these), get with one argument. -/
namespace PySem
open Sem (wp)
section
variable {prog : Program} {w : World} {K : Type} [DecidableEq K] {knd : HeapKind prog w K} {A : Around} {E : Value → Shared → Prop} {s : Shared}
theorem tl_setDefault_heap {d a : Addr} {xs : List (K × Addr × Value)} {k : K} {v : Value} {Q : Value → Shared → Prop} (hu : knd.room A) (hkey : knd.is s.heap k a) (hm : s.heap.DictOfH knd d xs) (hsz : xs.length ≤ sizeLine)
    (h1 : ∀ p, atKey xs k = some p → Q p.2 { s with toks := s.toks + knd.draws k })
    (h2 : atKey xs k = none → ∀ h', h'.DictOfH knd d (storedH xs k a v) → Heap.SameBut d s.heap h' → Q v { s with heap := h', toks := s.toks + knd.draws k }) :
    wpAny (model prog w) A (dictSetDefault d (.ref a) v) Q E s := by
  obtain ⟨o, es, ep, ho, hc, hd, he, his, hn⟩ := hm
  unfold dictSetDefault
  try with_reducible refine wpAny_holding ?_
  refine wpAny_bind (knd.pyHash hu hkey ?_)
  refine wpAny_bind (wpAny_dictFind_heap (s := { s with toks := s.toks + knd.draws k }) hu hkey ho hd he his hn ?_ ?_)
  · intro hno
    have hnot : k ∉ xs.map (·.1) := not_mem_keys_of_get hno
    refine wpAny_bind (wpAny_rule (wpAny_bind (wpAny_updateDictKeys (hz := by have e := size_of_entries he; omega) (s := { s with toks := s.toks + knd.draws k }) ho hd (wpAny_pure (h2 (atKey_none_of_get hno) _ ⟨_, _, ep + 1, Heap.get?_update_self _ ho (Obj.isFreed_of_dict (Obj.data_mapDictKeys hd _)),
      hc.mapDictKeys _, Obj.data_mapDictKeys hd _, ?_, ?_, ?_⟩ (Heap.SameBut.update ..))))))
    · rw [storedH_new (atKey_none_of_get hno)]
      simp [he, entryOfKey]
    · rw [storedH_new (atKey_none_of_get hno)]
      intro x hx
      rcases List.mem_append.mp hx with hx | hx
      · exact knd.keeps (his x hx) ho hd (Heap.SameBut.update ..)
      · simp only [List.mem_singleton] at hx
        subst hx
        exact knd.keeps hkey ho hd (Heap.SameBut.update ..)
    · rw [storedH_new (atKey_none_of_get hno)]
      rw [List.map_append, List.nodup_append]
      refine ⟨hn, by simp, ?_⟩
      intro x hx y hy
      simp only [List.map_cons, List.map_nil, List.mem_singleton] at hy
      subst hy
      exact fun e => hnot (e ▸ hx)
  · intro j p hj
    refine wpAny_bind (wpAny_dictEntries (s := { s with toks := s.toks + knd.draws k }) ho hd ?_)
    rw [entry_at he j, hj]
    exact wpAny_bind (wpAny_rule (wpAny_pure (h1 p (atKey_of_get hn hj))))
theorem tl_meets_setdefaultH {d b : Addr} {k : K} (dflt : Value) (hd : (d == sysModules) = false) :
    MeetsIn prog w (Builtin.«dict.setdefault» ⟨[.ref d, .ref b, dflt], []⟩) (fun A R s => ∃ xs, knd.room A.in1 ∧ knd.is s.heap k b ∧ s.heap.DictOfH knd d xs ∧ xs.length ≤ sizeLine ∧
      (∀ p, atKey xs k = some p → R (.ok (.ret p.2)) { s with toks := s.toks + knd.draws k }) ∧
      (atKey xs k = none → ∀ h', h'.DictOfH knd d (storedH xs k b dflt) → Heap.SameBut d s.heap h' → R (.ok (.ret dflt)) { s with heap := h', toks := s.toks + knd.draws k })) :=
  .of_wp fun A R s ⟨xs, hu, hkey, hm, hz, h1, h2⟩ => by
    unfold Builtin.«dict.setdefault»
    refine wpAny_bind ?_
    unfold Builtin.Dict.keyAndDefault
    refine wpAny_bind (wpAny_notOrdered_dict hm.typeIs ?_)
    show wpAny _ _ (pure (d, Value.ref b, some dflt)) _ _ s
    refine wpAny_pure ?_
    show wpAny _ _ (if (d == sysModules) = true then _ else (dictSetDefault d (.ref b) dflt >>= _)) _ _ s
    rw [if_neg (by rw [hd]; exact Bool.false_ne_true)]
    exact wpAny_bind (tl_setDefault_heap hu hkey hm hz (fun p hp => wpAny_pure ⟨p.2, rfl, h1 p hp⟩) fun hn h' hm' hs' => wpAny_pure ⟨dflt, rfl, h2 hn h' hm' hs'⟩)
end
end PySem
namespace TL
open PySem PySem.Spec PyProof.Rows L2
section
variable {X : Cx} {pins : List (Addr × Obj)} {σ : L2.St} {H : Hp} {s : Shared} {a b : Addr} {r : Value} {d : V} {k : List Key} {A : Around} {E : Value → Shared → Prop}
theorem d_setdT {kvs : List (List Key × V)} {Q : Value → Shared → Prop} (hu : A.units + 1 < cLine) (I : Inv X pins σ H s) (e : H a = some (.dT kvs)) (eb : H b = some (.tup (k.map kV))) (rd : RelV d r) (hl : kvs.length < sizeLine)
    (h1 : ∀ v, valV kvs k = some v → ∀ (w' : Value) (s' : Shared), Inv X pins σ H s' → RelV v w' → Q w' s') (h2 : valV kvs k = none → ∀ (w' : Value) (s' : Shared), Inv X pins σ (upd H a (.dT (putK kvs k d))) s' → RelV d w' → Q w' s') :
    wpAny (model X.prog X.w) A (call (.builtin "dict.setdefault") [.ref a, .ref b, r]) Q E s := by
  obtain ⟨z, hd, xs, rel, dd⟩ := dt_of I.hok e
  have hz : xs.length ≤ sizeLine := by rw [← Paired.length rel]; exact z
  refine call_meetsIn PySem.F.slot_dict_setdefault dd.typeIs PySem.F.entry_dict_setdefault (PySem.F.args_dict_setdefault_3 _ _ _) (tl_meets_setdefaultH (knd := tupleKind (mixKind X.prog X.w)) (k := k) r hd)
    ⟨xs, tupleKind_room_in1 hu, key_of I.hok eb, dd, hz, fun p hp => ?_, fun hn h' dd' hs => ?_⟩
  · have q := rel.val k
    rw [hp] at q
    cases q0 : valV kvs k with
    | none => rw [q0] at q; exact (show False from q).elim
    | some v0 => rw [q0] at q; exact h1 v0 q0 _ _ (I.tok _) q
  · have q := rel.val k
    rw [hn] at q
    cases q0 : valV kvs k with
    | some v0 => rw [q0] at q; exact (show False from q).elim
    | none =>
      have hl2 : (putK kvs k d).length ≤ sizeLine := by
        have := length_putK kvs k d
        omega
      obtain ⟨o, es, ep, hq, h3, h4, h5, _, h6⟩ := dd'
      refine h2 q0 _ _ (d_write (t' := s.toks + _) I (by rw [e]; exact True.intro) hs ⟨o, hq⟩ ⟨hl2, hd, _, (rel.put k eb rd).keeps fun c ys ec => ?_, o, es, ep, hq, h3, h4, h5, h6⟩) rd
      rw [upd_ne (ne_of ec e (fun z => nomatch z))]
      exact ec
end
/-- d.setdefault(y, z) -/
abbrev rSetdG : V → List V → Hp → VK → Prop := fun x vs H Q => match vs with
  | [y, z] => ∃ a : Addr, x = .ref a ∧ ((∃ (kvs : List (Key × V)) (k : Key), H a = some (.dK kvs) ∧ y = kV k ∧ kvs.length < sizeLine ∧ (∀ v, valV kvs k = some v → Q v H) ∧ (valV kvs k = none → Q z (upd H a (.dK (putK kvs k z))))) ∨
      ∃ (kvs : List (List Key × V)) (k : List Key) (b : Addr), H a = some (.dT kvs) ∧ y = .ref b ∧ H b = some (.tup (k.map kV)) ∧ kvs.length < sizeLine ∧ (∀ v, valV kvs k = some v → Q v H) ∧ (valV kvs k = none → Q z (upd H a (.dT (putK kvs k z)))))
  | _ => False
def IsDV (x : V) (H : Hp) : Prop := ∃ a, x = .ref a ∧ IsD H a
def tDM (r : V → List V → Hp → VK → Prop) (to : TE) (ta : TA) : TE := fun σ H Q => to σ H fun x H1 => IsDV x H1 ∧ ta σ H1 fun vs H2 => r x vs H2 Q
section
variable {X : Cx} {o e f : Expr} {td ty tx : TE} {apos cpos : Pos}
theorem pe_setdG (hu : X.A.units + 1 < cLine) (ho : PE X o td) (he : PE X e ty) (hf : PE X f tx) (m : M2 X o "setdefault" apos e f cpos) : PE X (.Call (.Attribute o "setdefault" apos) [e, f] [] cpos) (tDM rSetdG td (tCons ty (tCons tx tNil))) := by
  refine ⟨fun pins s σ H Q I h => ?_⟩
  refine wpAny_Call_method m.base m.few m.line PySem.F.plainAttrs_dict PySem.F.slot_dict_setdefault PySem.F.type_dict_setdefault (thn (ho.run pins s σ H _ I h) fun u s1 ⟨x, H1, I1, rx, ⟨a, ex, d⟩, q1⟩ => ?_)
  subst ex
  obtain rfl : u = Value.ref a := rx
  obtain ⟨t1, t2, _⟩ := isD_at I1 d
  refine ⟨t1, t2, ?_⟩
  rw [m.trees]
  refine Calls.callWith_builtin rfl (Calls.evalArgs_plain (Calls.spliced_cons (thn (he.run pins s1 σ H1 _ I1 q1) fun iv s2 ⟨y, H2, I2, ry, q2⟩ =>
    Calls.spliced_cons (thn (hf.run pins s2 σ H2 _ I2 q2) fun fv s3 ⟨z, H3, I3, rz, q3⟩ => Calls.spliced_nil ?_))))
  obtain ⟨a', ea, q3⟩ := q3
  cases ea
  rcases q3 with ⟨kvs, k, ea, ey, hl, q3, q4⟩ | ⟨kvs, k, b, ea, ey, eb, hl, q3, q4⟩
  · subst ey
    exact d_setd I3 ea ry rz hl (fun v hv w' s4 I4 rw' => ⟨v, _, I4, rw', q3 v hv⟩) fun hn w' s4 I4 rw' => ⟨z, _, I4, rw', q4 hn⟩
  · subst ey
    obtain rfl : iv = Value.ref b := ry
    exact d_setdT hu I3 ea eb rz hl (fun v hv w' s4 I4 rw' => ⟨v, _, I4, rw', q3 v hv⟩) fun hn w' s4 I4 rw' => ⟨z, _, I4, rw', q4 hn⟩
theorem tDPop1_eq : tDPop1 td ty = tDM rPop1M td (tCons ty tNil) := by
  funext σ H Q
  show td σ H _ = td σ H _
  congr 1
  funext x H1
  refine propext ⟨?_, ?_⟩
  · rintro ⟨a, rfl, d, h⟩
    refine ⟨⟨a, rfl, d⟩, ?_⟩
    have : (fun (y : V) (H2 : Hp) => ∃ (kvs : List (Key × V)) (k : Key) (v : V), H2 a = some (.dK kvs) ∧ y = kV k ∧ valV kvs k = some v ∧ Q v (upd H2 a (.dK (dropK kvs k)))) = fun y H2 => rPop1M (.ref a) [y] H2 Q := by
      funext y H2
      refine propext ⟨fun ⟨kvs, k, v, q⟩ => ⟨a, kvs, k, v, rfl, q⟩, fun ⟨a', kvs, k, v, e, q⟩ => by cases e; exact ⟨kvs, k, v, q⟩⟩
    rw [this] at h
    exact h
  · rintro ⟨⟨a, rfl, d⟩, h⟩
    refine ⟨a, rfl, d, ?_⟩
    have : (fun (y : V) (H2 : Hp) => ∃ (kvs : List (Key × V)) (k : Key) (v : V), H2 a = some (.dK kvs) ∧ y = kV k ∧ valV kvs k = some v ∧ Q v (upd H2 a (.dK (dropK kvs k)))) = fun y H2 => rPop1M (.ref a) [y] H2 Q := by
      funext y H2
      refine propext ⟨fun ⟨kvs, k, v, q⟩ => ⟨a, kvs, k, v, rfl, q⟩, fun ⟨a', kvs, k, v, e, q⟩ => by cases e; exact ⟨kvs, k, v, q⟩⟩
    rw [this]
    exact h
theorem tDPop2_eq : tDPop2 td ty tx = tDM rPop2M td (tCons ty (tCons tx tNil)) := by
  have key : ∀ (a : Addr) (Q : VK), (fun (y : V) (H2 : Hp) => fun σ => tx σ H2 fun z H3 => ∃ (kvs : List (Key × V)) (k : Key), H3 a = some (.dK kvs) ∧ y = kV k ∧ (∀ v, valV kvs k = some v → Q v (upd H3 a (.dK (dropK kvs k)))) ∧ (valV kvs k = none → Q z H3)) =
      fun y H2 => fun σ => tx σ H2 fun z H3 => rPop2M (.ref a) [y, z] H3 Q := fun a Q => by
    funext y H2 σ
    congr 1
    funext z H3
    exact propext ⟨fun ⟨kvs, k, q⟩ => ⟨a, kvs, k, rfl, q⟩, fun ⟨a', kvs, k, e, q⟩ => by cases e; exact ⟨kvs, k, q⟩⟩
  have key' : ∀ (a : Addr) (Q : VK) (σ : L2.St), (fun (y : V) (H2 : Hp) => tx σ H2 fun z H3 => ∃ (kvs : List (Key × V)) (k : Key), H3 a = some (.dK kvs) ∧ y = kV k ∧ (∀ v, valV kvs k = some v → Q v (upd H3 a (.dK (dropK kvs k)))) ∧ (valV kvs k = none → Q z H3)) =
      fun y H2 => tx σ H2 fun z H3 => rPop2M (.ref a) [y, z] H3 Q := fun a Q σ => by
    funext y H2
    exact congrFun (congrFun (congrFun (key a Q) y) H2) σ
  funext σ H Q
  show td σ H _ = td σ H _
  congr 1
  funext x H1
  refine propext ⟨?_, ?_⟩
  · rintro ⟨a, rfl, d, h⟩
    rw [key' a Q σ] at h
    exact ⟨⟨a, rfl, d⟩, h⟩
  · rintro ⟨⟨a, rfl, d⟩, h⟩
    refine ⟨a, rfl, d, ?_⟩
    rw [key' a Q σ]
    exact h
end
def mSetdG : D → List D → Option (D × D)
  | .dK .own kds, [kt, dv] => (D.key kt).bind fun kk => if kds.length < sizeLine ∧ (kds.map (·.1)).Nodup then (match lookD kds kk with
    | some d => if d.noOwn ∧ d.isUnd = false then some (d, .dK .own kds) else none
    | none => if dv.noOwn then some (dv, .dK .own (putKD kds kk dv)) else none) else none
  | .dT .own kds, [.tup xs, dv] => (D.keys xs).bind fun kk => if kds.length < sizeLine ∧ (kds.map (·.1)).Nodup then (match lookD kds kk with
    | some d => if d.noOwn ∧ d.isUnd = false then some (d, .dT .own kds) else none
    | none => if dv.noOwn then some (dv, .dT .own (putKD kds kk dv)) else none) else none
  | _, _ => none
section
variable {K : PySem.W.Frag}
theorem o_setdG : OpM K rSetdG mSetdG := by
  intro H N x vs d ds Ld Lt h1 h2 nd hN r' d' e Q k
  unfold mSetdG at e
  split at e
  · rename_i kds kt dv
    obtain ⟨kk, e1, e2⟩ := Option.bind_eq_some_iff.mp e
    split at e2
    case isFalse => cases e2
    rename_i c
    have h0 := h1
    obtain ⟨a, kvs, L1, rfl, ha, rfl, ek, q⟩ := dK_own h1
    obtain ⟨y, z, L3, L4, rfl, rfl, h3, h4⟩ := apart2 h2
    have ey := key_v h3 e1
    have hl := congrArg List.length ek
    rw [List.length_map, List.length_map] at hl
    refine ⟨a, rfl, .inl ⟨kvs, kk, ha, ey, by rw [hl]; exact c.1, fun v hv => ?_, fun hv => ?_⟩⟩
    · rcases look_val ek q kk with ⟨_, z2⟩ | ⟨v', dd, M, q1, q2, q3, q4⟩
      · rw [z2] at hv; cases hv
      · rw [q2] at hv; cases hv
        rw [q1] at e2
        dsimp only at e2
        split at e2
        · rename_i cc
          cases e2
          obtain rfl := noOwn_nil1 q3 cc.1
          have nd' := List.nodup_append.mp nd
          exact k v H [] (a :: L1) ⟨fun _ _ _ => rfl, fun _ h => h, fun b hb => .inl (List.mem_append_left _ (by simpa using hb)), by simpa using nd'.1, fun N' hn _ => ⟨q3.know fun f b n hb => hn f b n hb, h0.know fun f b n hb => hn f b n hb⟩⟩
        · cases e2
    · rcases look_val ek q kk with ⟨z1, _⟩ | ⟨v', d', M, q1, q2, _, _⟩
      · rw [z1] at e2
        dsimp only at e2
        split at e2
        · rename_i no
          cases e2
          obtain rfl := noOwn_nil1 h4 no
          obtain ⟨L9, m9, n9, e9, q9⟩ := put_dens h4 kk ek c.2 q
          have nd' := nd_tail nd
          have sub : ∀ b ∈ L9, b ∈ L1 ++ (L3 ++ []) := fun b hb => (List.mem_append.mp (m9 b hb)).elim (List.mem_append_left _) fun z => (List.not_mem_nil z).elim
          have ndl : (L1 ++ []).Nodup := by rw [List.append_nil]; exact (List.nodup_append.mp nd').1
          exact k _ _ _ _ (MRes.write (Lr := []) (by rw [ha]; exact Option.some_ne_none _) nd hN q9 h4 sub (n9 ndl) (fun N' h => mk_dK e9 N' h))
        · cases e2
      · rw [q2] at hv; cases hv
  · rename_i kds xs dv
    obtain ⟨kk, e1, e2⟩ := Option.bind_eq_some_iff.mp e
    split at e2
    case isFalse => cases e2
    rename_i c
    have h0 := h1
    obtain ⟨a, kvs, L1, rfl, ha, rfl, ek, q⟩ := dT_own h1
    obtain ⟨y, z, L3, L4, rfl, rfl, h3, h4⟩ := apart2 h2
    obtain ⟨b, us, M1, rfl, eb, qb, sb, _⟩ := inv_tup h3
    have ekk : us = kk.map kV := keys_v qb e1
    subst ekk
    have hl := congrArg List.length ek
    rw [List.length_map, List.length_map] at hl
    refine ⟨a, rfl, .inr ⟨kvs, kk, b, ha, rfl, eb, by rw [hl]; exact c.1, fun v hv => ?_, fun hv => ?_⟩⟩
    · rcases look_val ek q kk with ⟨_, z2⟩ | ⟨v', dd, M, q1, q2, q3, q4⟩
      · rw [z2] at hv; cases hv
      · rw [q2] at hv; cases hv
        rw [q1] at e2
        dsimp only at e2
        split at e2
        · rename_i cc
          cases e2
          obtain rfl := noOwn_nil1 q3 cc.1
          have nd' := List.nodup_append.mp nd
          exact k v H [] (a :: L1) ⟨fun _ _ _ => rfl, fun _ h => h, fun b hb => .inl (List.mem_append_left _ (by simpa using hb)), by simpa using nd'.1, fun N' hn _ => ⟨q3.know fun f b n hb => hn f b n hb, h0.know fun f b n hb => hn f b n hb⟩⟩
        · cases e2
    · rcases look_val ek q kk with ⟨z1, _⟩ | ⟨v', d', M, q1, q2, _, _⟩
      · rw [z1] at e2
        dsimp only at e2
        split at e2
        · rename_i no
          cases e2
          obtain rfl := noOwn_nil1 h4 no
          obtain ⟨L9, m9, n9, e9, q9⟩ := put_dens h4 kk ek c.2 q
          have nd' := nd_tail nd
          have sub : ∀ b ∈ L9, b ∈ L1 ++ (L3 ++ []) := fun b hb => (List.mem_append.mp (m9 b hb)).elim (List.mem_append_left _) fun z => (List.not_mem_nil z).elim
          have ndl : (L1 ++ []).Nodup := by rw [List.append_nil]; exact (List.nodup_append.mp nd').1
          exact k _ _ _ _ (MRes.write (Lr := []) (by rw [ha]; exact Option.some_ne_none _) nd hN q9 h4 sub (n9 ndl) (fun N' h => mk_dT e9 N' h))
        · cases e2
      · rw [q2] at hv; cases hv
  · cases e
/-- a dict's method at a place -/
theorem Sat.inplD {ld : List (Option Nat)} {to : TE} {ta : TA} {fs : Ev → Option (List D × Ev)} {r : V → List V → Hp → VK → Prop} {g : D → List D → Option (D × D)} {i : Nat} {πf : Ev → Option (List Stp)} (hp : Plc K to i πf) (h : SatA K true ld ta fs) (o : OpM K r g) :
    Sat K false (tDM r to ta) (eInplP i πf D.isD g fs) := by
  refine ⟨fun σ H env ts td L Lo hl s r' env' e Q k => ?_⟩
  obtain ⟨π, e1, e⟩ := Option.bind_eq_some_iff.mp e
  obtain ⟨t1, e2, e⟩ := Option.bind_eq_some_iff.mp e
  obtain ⟨d, e3, e⟩ := Option.bind_eq_some_iff.mp e
  split at e
  case isFalse => cases e
  rename_i okd
  obtain ⟨⟨ds, en⟩, e4, e⟩ := Option.bind_eq_some_iff.mp e
  obtain ⟨⟨rr, t2⟩, e5, e⟩ := Option.map_eq_some_iff.mp e
  cases e
  refine hp.run σ H env ts td L Lo hl s π t1 d e1 e2 e3 _ fun x0 v H1 q1 q2 q3 q4 => ?_
  obtain ⟨x1, M, r1, r2⟩ := q4.slot hl e2 (und_ne (getP_und e3))
  rw [q1] at r1
  cases r1
  obtain ⟨w, _, _, _, r3, _, r4, _⟩ := r2.zip e3
  obtain rfl := q2.fn r3
  refine ⟨isD_ty okd r4, ?_⟩
  refine h.run σ H1 env ts td L Lo hl q4 ds en e4 _ fun vs H2 Lr Lb c _ => ?_
  obtain ⟨he, st2, hb, _⟩ := c.quiet rfl
  have he' := he.symm
  have hb' := hb.symm
  subst he' hb'
  obtain ⟨x', Ld, Lx, f1, f2, f3, f4, f5⟩ := c.inpl hl e2 (und_ne (getP_und e3))
  rw [q1] at f1
  cases f1
  obtain ⟨y, hy, hr⟩ := (o.liftP π) H2 _ x0 vs t1 ds Ld Lr f2 c.top f4 (fun f a n z => n.1 (List.mem_append_right _ (f3.mem_iff.mpr (List.mem_append_left _ z)))) _ _ e5 Q fun v H3 Lr' Ld' m => by
    obtain ⟨Lb', c'⟩ := f5 v H3 _ _ _ _ m
    have c2 : Came K Lo false H (ts ++ σ) td env L H3 [v] [rr] (env.set i t2) Lr' Lb' := ⟨c'.good, c'.top, c'.base, (Ext.of_still (L' := L) q3 fun a ha => .inl ha).trans c'.ext, fun z => by cases z⟩
    exact k v H3 Lr' Lb' c2
  obtain rfl := hy.fn (q2.still st2)
  exact hr
/-! ### get with one argument -/
def gGet1 : List D → Option D
  | [d, k] => (dictLook d k).bind fun o => match o with
    | some r => if r.isUnd then none else some r
    | none => some .non
  | _ => none
abbrev rGet1 : V → List V → Hp → VK → Prop := fun x vs H Q => match vs with
  | [y] => ∃ a o, x = .ref a ∧ DGet H a y o ∧ Q (o.getD .non) H
  | _ => False
theorem v_get1 : OpN K (fun vs H Q => match vs with
    | x :: xs => rGet1 x xs H Q
    | [] => False) gGet1 := by
  intro H N vs ds Lt hd nd d e Q k
  unfold gGet1 at e
  split at e
  · rename_i d0 k0
    obtain ⟨o, e1, e2⟩ := Option.bind_eq_some_iff.mp e
    obtain ⟨x, y, L1, L2, rfl, rfl, h1, h2⟩ := apart2 hd
    obtain ⟨a, ov, rfl, dg, _, hh⟩ := dict_look h1 h2 e1
    refine ⟨a, ov, rfl, dg, ?_⟩
    rcases hh with ⟨rfl, rfl⟩ | ⟨v, d', M, rfl, rfl, hv, s⟩
    · cases e2
      exact k _ _ _ (Res.flat fun N' => Flat.non _ _ _)
    · dsimp only at e2
      split at e2
      · cases e2
      · cases e2
        exact k _ _ _ (Res.old nd hv (s.trans (List.sublist_append_left ..)))
  · cases e
theorem tDGet1_eq {td ty : TE} : tDGet1 td ty = fun σ H Q => td σ H fun x H1 => IsDV x H1 ∧ (tCons ty tNil) σ H1 fun xs H2 => rGet1 x xs H2 Q := by
  funext σ H Q
  show td σ H _ = td σ H _
  congr 1
  funext x H1
  have key : ∀ a : Addr, (fun (y : V) (H2 : Hp) => ∃ o, DGet H2 a y o ∧ Q (o.getD .non) H2) = fun y H2 => rGet1 (.ref a) [y] H2 Q := fun a => by
    funext y H2
    exact propext ⟨fun ⟨o, q⟩ => ⟨a, o, rfl, q⟩, fun ⟨a', o, e, q⟩ => by cases e; exact ⟨o, q⟩⟩
  refine propext ⟨?_, ?_⟩
  · rintro ⟨a, rfl, d, h⟩
    rw [key a] at h
    exact ⟨⟨a, rfl, d⟩, h⟩
  · rintro ⟨⟨a, rfl, d⟩, h⟩
    refine ⟨a, rfl, d, ?_⟩
    rw [key a]
    exact h
end
end TL

set_option Elab.async false
set_option linter.all false
set_option maxRecDepth 100000
/-! TL35: the rules of text for places. -/
namespace TL
open PySem PySem.Spec PyProof.Rows L2
section
variable {α : Type} {M : α → Cx} {K : PySem.W.Frag} {P : Program} {w : World} {mg : Str → Option Value} {base : Heap} {k : Nat} {pn : List Nat}
variable {e a b o : Expr} {es : List Expr} {p pos apos cpos pos' tpos : Pos} {q q' q2 : Bool} {f g h fx : Ev → Option (D × Ev)} {fs : Ev → Option (List D × Ev)} {ld : List (Option Nat)} {x : Str} {i : Nat} {πf : Ev → Option (List Stp)}
def SPl (M : α → Cx) (K : PySem.W.Frag) (e : Expr) (i : Nat) (πf : Ev → Option (List Stp)) : Prop := ∃ t : TE, (∀ a, PE (M a) e t) ∧ Plc K t i πf
theorem sp_var (i : Nat) (hN : ∀ a, (M a).N[i]? = some x := by intro _; rfl) (hv : ∀ a, Vis (M a).env.scope x := by intro _; first | exact Or.inl rfl | exact Or.inr (Or.inl rfl) | exact Or.inr (Or.inr rfl)) (hd : (x == ("__debug__" : Str)) = false := by decide)
    (hcd : (x == ("__classdict__" : Str)) = false := by decide) : SPl M K (.Name x p) i pVar := ⟨_, fun a => pe_var (hN a) (hv a) hd hcd, .var i⟩
theorem sp_fld {C : Addr} {y : Str} (hK : ∀ a, (M a).K = K) (cl : Cls K C) (na : NoAttr K C y) (ha : SPl M K a i πf) (hb : ∀ z, attributeBase a y (M z).env (eval a (M z).env) = eval a (M z).env := by intro _; rfl) : SPl M K (.Attribute a y pos) i (pFld C y πf) :=
  let ⟨t, h1, h2⟩ := ha; ⟨tFld K t y, fun z => by have := pe_fld (X := M z) (pos := pos) (h1 z) (hb z); rw [hK z] at this; exact this, h2.fld cl na⟩
theorem sp_key (hu : ∀ a, (M a).A.units + 1 < cLine) (ha : SPl M K a i πf) (hb : SE M K true b g) (hs : NoSl b := by exact fun _ _ => rfl) : SPl M K (.Subscript a b pos) i (pKey πf g) :=
  let ⟨t, h1, h2⟩ := ha; let ⟨u, h3, h4⟩ := hb; ⟨tDGet t u, fun x => pe_dget (hu x) (h1 x) (h3 x) hs, h2.key h4⟩
theorem sp_ix (hK : ∀ a, (M a).K = K) (ha : SPl M K a i πf) (hb : SE M K true b g) (hs : PlainIx b := by exact fun _ _ => rfl) : SPl M K (.Subscript a b pos) i (pIx πf i g) :=
  let ⟨t, h1, h2⟩ := ha; let ⟨u, h3, h4⟩ := hb; ⟨tOp (rIx K) t u, fun x => pe_ix (by have := ix_seq (X := M x); rw [hK x] at this; exact this) (h1 x) (h3 x) hs, h2.ix h4⟩
/-- P.m(e, ..), P a place of an own list -/
theorem se_lmP {m : Str} {id : String} {r : V → List V → Hp → VK → Prop} {g : D → List D → Option (D × D)} (F : Fm M P w K mg base k) (slot : Slot "list" m id) (hty : typeOf (.builtin id) = pure (.type "method_descriptor")) (hm : ∀ a, MtR (M a) id r) (o' : OpM K r g) (hp : SPl M K o i πf) (ha : SA M K true ld (e :: es) fs)
    (hbase : ∀ a, attributeBase o m (M a).env (eval o (M a).env) = eval o (M a).env := by intro _; rfl)
    (hfew : ∀ a, ((backTo pos (starEach (e :: es) (M a).env)).all (fun x => !x.1) && (backToKw pos (keywordEach [] (M a).env)).all (fun x => x.1.isSome)
      && decide ((e :: es).length + ([] : List Keyword).length + (if ([] : List Keyword).isEmpty then 0 else 1) < 30)) = true := by intro _; rfl)
    (hline : (apos.endLine == pos.line) = true := by rfl) (hs : ∀ a, starEach (e :: es) (M a).env = (false, eval e (M a).env) :: starEach es (M a).env := by intro _; rfl) (hplain : ∀ a, (backTo pos (starEach es (M a).env)).any (·.1) = false := by intro _; rfl) :
    SE M K false (.Call (.Attribute o m apos) (e :: es) [] pos) (eInplP i πf okL g fs) :=
  let ⟨u, h3, h4⟩ := hp; let ⟨t, h1, h2⟩ := ha
  ⟨tBM K "list" r u t, fun a => by have := pe_bm (X := M a) (apos := apos) (cpos := pos) PySem.F.plainAttrs_list slot hty (hm a) (h3 a) (h1 a) (hbase a) (hfew a) hline (hs a) (hplain a); rw [F.K a] at this; exact this, Sat.inplP h4 h2 o' okL_ty⟩
section
variable (F : Fm M P w K mg base k) (hp : SPl M K o i πf) (ha : SA M K true ld (e :: es) fs)
include F hp ha
theorem se_appendP (hbase : ∀ a, attributeBase o "append" (M a).env (eval o (M a).env) = eval o (M a).env := by intro _; rfl)
    (hfew : ∀ a, ((backTo pos (starEach (e :: es) (M a).env)).all (fun x => !x.1) && (backToKw pos (keywordEach [] (M a).env)).all (fun x => x.1.isSome)
      && decide ((e :: es).length + ([] : List Keyword).length + (if ([] : List Keyword).isEmpty then 0 else 1) < 30)) = true := by intro _; rfl)
    (hline : (apos.endLine == pos.line) = true := by rfl) (hs : ∀ a, starEach (e :: es) (M a).env = (false, eval e (M a).env) :: starEach es (M a).env := by intro _; rfl) (hplain : ∀ a, (backTo pos (starEach es (M a).env)).any (·.1) = false := by intro _; rfl) :
    SE M K false (.Call (.Attribute o "append" apos) (e :: es) [] pos) (eInplP i πf okL mAppend fs) := se_lmP F PySem.F.slot_list_append PySem.F.type_list_append (fun _ => mt_append) o_append hp ha hbase hfew hline hs hplain
theorem se_extendP (hbase : ∀ a, attributeBase o "extend" (M a).env (eval o (M a).env) = eval o (M a).env := by intro _; rfl)
    (hfew : ∀ a, ((backTo pos (starEach (e :: es) (M a).env)).all (fun x => !x.1) && (backToKw pos (keywordEach [] (M a).env)).all (fun x => x.1.isSome)
      && decide ((e :: es).length + ([] : List Keyword).length + (if ([] : List Keyword).isEmpty then 0 else 1) < 30)) = true := by intro _; rfl)
    (hline : (apos.endLine == pos.line) = true := by rfl) (hs : ∀ a, starEach (e :: es) (M a).env = (false, eval e (M a).env) :: starEach es (M a).env := by intro _; rfl) (hplain : ∀ a, (backTo pos (starEach es (M a).env)).any (·.1) = false := by intro _; rfl) :
    SE M K false (.Call (.Attribute o "extend" apos) (e :: es) [] pos) (eInplP i πf okL mExtend fs) := se_lmP F PySem.F.slot_list_extend PySem.F.type_list_extend (fun _ => mt_extend) o_extend hp ha hbase hfew hline hs hplain
theorem se_insertP (hbase : ∀ a, attributeBase o "insert" (M a).env (eval o (M a).env) = eval o (M a).env := by intro _; rfl)
    (hfew : ∀ a, ((backTo pos (starEach (e :: es) (M a).env)).all (fun x => !x.1) && (backToKw pos (keywordEach [] (M a).env)).all (fun x => x.1.isSome)
      && decide ((e :: es).length + ([] : List Keyword).length + (if ([] : List Keyword).isEmpty then 0 else 1) < 30)) = true := by intro _; rfl)
    (hline : (apos.endLine == pos.line) = true := by rfl) (hs : ∀ a, starEach (e :: es) (M a).env = (false, eval e (M a).env) :: starEach es (M a).env := by intro _; rfl) (hplain : ∀ a, (backTo pos (starEach es (M a).env)).any (·.1) = false := by intro _; rfl) :
    SE M K false (.Call (.Attribute o "insert" apos) (e :: es) [] pos) (eInplP i πf okL mInsert fs) := se_lmP F PySem.F.slot_list_insert PySem.F.type_list_insert (fun _ => mt_insert) o_insert hp ha hbase hfew hline hs hplain
theorem se_removeP (hbase : ∀ a, attributeBase o "remove" (M a).env (eval o (M a).env) = eval o (M a).env := by intro _; rfl)
    (hfew : ∀ a, ((backTo pos (starEach (e :: es) (M a).env)).all (fun x => !x.1) && (backToKw pos (keywordEach [] (M a).env)).all (fun x => x.1.isSome)
      && decide ((e :: es).length + ([] : List Keyword).length + (if ([] : List Keyword).isEmpty then 0 else 1) < 30)) = true := by intro _; rfl)
    (hline : (apos.endLine == pos.line) = true := by rfl) (hs : ∀ a, starEach (e :: es) (M a).env = (false, eval e (M a).env) :: starEach es (M a).env := by intro _; rfl) (hplain : ∀ a, (backTo pos (starEach es (M a).env)).any (·.1) = false := by intro _; rfl) :
    SE M K false (.Call (.Attribute o "remove" apos) (e :: es) [] pos) (eInplP i πf okL mRemove fs) := se_lmP F PySem.F.slot_list_remove PySem.F.type_list_remove (fun a => by have := mt_removeD (X := M a) (Nat.lt_of_le_of_lt (Nat.add_le_add_left (by decide) _) (F.units a)); rw [F.K a] at this; exact this) o_removeD hp ha hbase hfew hline hs hplain
end
/-- a dict's methods at a place -/
theorem se_pop1P (hp : SPl M K o i πf) (ha : SE M K true a f)
    (h1 : ∀ y, attributeBase o "pop" (M y).env (eval o (M y).env) = eval o (M y).env := by intro _; rfl)
    (h2 : ∀ y, ((backTo cpos (starEach [a] (M y).env)).all (fun x => !x.1) && (backToKw cpos (keywordEach [] (M y).env)).all (fun x => x.1.isSome)
    && decide (([a] : List Expr).length + ([] : List Keyword).length + (if ([] : List Keyword).isEmpty then 0 else 1) < 30)) = true := by intro _; rfl)
    (h3 : (apos.endLine == cpos.line) = true := by rfl) (h4 : ∀ y, backTo cpos (starEach [a] (M y).env) = [(false, eval a (M y).env)] := by intro _; rfl) :
    SE M K false (.Call (.Attribute o "pop" apos) [a] [] cpos) (eInplP i πf D.isD mPop1 (aCons f aNil)) :=
  let ⟨t, a1, a2⟩ := hp; let ⟨u, a3, a4⟩ := ha
  ⟨tDPop1 t u, fun y => pe_dpop1 (a1 y) (a3 y) ⟨h1 y, h2 y, h3, h4 y⟩, by rw [tDPop1_eq]; exact Sat.inplD a2 (SatA.cons a4 (SatA.nil (q := true))) o_pop1⟩
theorem se_pop2P (hp : SPl M K o i πf) (ha : SE M K true a f) (hb : SE M K true b g)
    (h1 : ∀ y, attributeBase o "pop" (M y).env (eval o (M y).env) = eval o (M y).env := by intro _; rfl)
    (h2 : ∀ y, ((backTo cpos (starEach [a, b] (M y).env)).all (fun x => !x.1) && (backToKw cpos (keywordEach [] (M y).env)).all (fun x => x.1.isSome)
    && decide (([a, b] : List Expr).length + ([] : List Keyword).length + (if ([] : List Keyword).isEmpty then 0 else 1) < 30)) = true := by intro _; rfl)
    (h3 : (apos.endLine == cpos.line) = true := by rfl) (h4 : ∀ y, backTo cpos (starEach [a, b] (M y).env) = [(false, eval a (M y).env), (false, eval b (M y).env)] := by intro _; rfl) :
    SE M K false (.Call (.Attribute o "pop" apos) [a, b] [] cpos) (eInplP i πf D.isD mPop2 (aCons f (aCons g aNil))) :=
  let ⟨t, a1, a2⟩ := hp; let ⟨u, a3, a4⟩ := ha; let ⟨v, a5, a6⟩ := hb
  ⟨tDPop2 t u v, fun y => pe_dpop2 (a1 y) (a3 y) (a5 y) ⟨h1 y, h2 y, h3, h4 y⟩, by rw [tDPop2_eq]; exact Sat.inplD a2 (SatA.cons a4 (SatA.cons a6 (SatA.nil (q := true)))) o_pop2⟩
theorem se_setdP (hu : ∀ a, (M a).A.units + 1 < cLine) (hp : SPl M K o i πf) (ha : SE M K true a f) (hb : SE M K true b g)
    (h1 : ∀ y, attributeBase o "setdefault" (M y).env (eval o (M y).env) = eval o (M y).env := by intro _; rfl)
    (h2 : ∀ y, ((backTo cpos (starEach [a, b] (M y).env)).all (fun x => !x.1) && (backToKw cpos (keywordEach [] (M y).env)).all (fun x => x.1.isSome)
    && decide (([a, b] : List Expr).length + ([] : List Keyword).length + (if ([] : List Keyword).isEmpty then 0 else 1) < 30)) = true := by intro _; rfl)
    (h3 : (apos.endLine == cpos.line) = true := by rfl) (h4 : ∀ y, backTo cpos (starEach [a, b] (M y).env) = [(false, eval a (M y).env), (false, eval b (M y).env)] := by intro _; rfl) :
    SE M K false (.Call (.Attribute o "setdefault" apos) [a, b] [] cpos) (eInplP i πf D.isD mSetdG (aCons f (aCons g aNil))) :=
  let ⟨t, a1, a2⟩ := hp; let ⟨u, a3, a4⟩ := ha; let ⟨v, a5, a6⟩ := hb
  ⟨_, fun y => pe_setdG (hu y) (a1 y) (a3 y) (a5 y) ⟨h1 y, h2 y, h3, h4 y⟩, Sat.inplD a2 (SatA.cons a4 (SatA.cons a6 (SatA.nil (q := true)))) o_setdG⟩
theorem se_get1 (hu : ∀ a, (M a).A.units + 1 < cLine) (ho : SE M K q o f) (ha : SE M K q' a g)
    (h1 : ∀ y, attributeBase o "get" (M y).env (eval o (M y).env) = eval o (M y).env := by intro _; rfl)
    (h2 : ∀ y, ((backTo cpos (starEach [a] (M y).env)).all (fun x => !x.1) && (backToKw cpos (keywordEach [] (M y).env)).all (fun x => x.1.isSome)
    && decide (([a] : List Expr).length + ([] : List Keyword).length + (if ([] : List Keyword).isEmpty then 0 else 1) < 30)) = true := by intro _; rfl)
    (h3 : (apos.endLine == cpos.line) = true := by rfl) (h4 : ∀ y, backTo cpos (starEach [a] (M y).env) = [(false, eval a (M y).env)] := by intro _; rfl) :
    SE M K (q && (q' && true)) (.Call (.Attribute o "get" apos) [a] [] cpos) (eRecv D.isD gGet1 f (aCons g aNil)) :=
  let ⟨t, a1, a2⟩ := ho; let ⟨u, a3, a4⟩ := ha
  ⟨tDGet1 t u, fun y => pe_dget1 (hu y) (a1 y) (a3 y) ⟨h1 y, h2 y, h3, h4 y⟩, by rw [tDGet1_eq]; exact Sat.recv (C := IsDV) (r := rGet1) a2 (SatA.cons a4 (SatA.nil (q := true))) (fun H N v d L ok hd => isD_ty ok hd) v_get1⟩
/-- P[k] = v -/
theorem ss_setP {i' : Expr} (F : Fm M P w K mg base k) (he : SEC M K e f) (hp : SPl M K o i πf) (hx : SE M K true i' fx)
    (ha : ∀ a v, assign (.Subscript o i' tpos) (M a).env v = (do
      let ov ← holding [v] (eval o (M a).env)
      let iv ← holding [v, ov] (eval i' (M a).env)
      standAt tpos
      holding [v, ov, iv] (setItem ov iv v)
      release [v, ov, iv] []) := by intro _ _; rfl)
    (hs : ∀ a, swapsWithSole [.Subscript o i' tpos] e pos.line (M a).env = pure false := by intro _; rfl) (hw : ∀ a, swappedStores [.Subscript o i' tpos] e (M a).env = pure none := by intro _; rfl) (h1 : ∀ a, (assignEach [.Subscript o i' tpos] (M a).env).map (·.2) = [assign (.Subscript o i' tpos) (M a).env] := by intro _; rfl) :
    SS M K pn (.Assign [.Subscript o i' tpos] e pos) (sSetP i πf f fx) :=
  let ⟨t, a, b⟩ := he; let ⟨u, c, d⟩ := hp; let ⟨v, c2, d2⟩ := hx
  ⟨_, fun y => ps_asg (a y) (pg_sub (c y) (c2 y) (set_LD (F.u1 y)) (ha y)) (hs y) (hw y) (h1 y), SatS.setP b d d2⟩
/-- P.m(e, ..), P a place of an object of an own class that the method changes -/
theorem se_methP {C : Addr} {m : Str} {n j : Nat} {F : List D → Option (D × List D)} {pl : α → Sem Bool} (FM : Fm M P w K mg base k) (G : DefM P w K mg base j C m n F) (cl : Cls K C) (hj : j ≤ k) (hp : SPl M K o i πf) (ha : SA M K true ld (e :: es) fs)
    (hst : ∀ y, starEach (e :: es) (M y).env = (false, eval e (M y).env) :: starEach es (M y).env := by intro _; rfl) (hpl : ∀ y, (backTo pos (starEach es (M y).env)).any (·.1) = false := by intro _; rfl)
    (ht : ∀ y, eval (.Call (.Attribute o m apos) (e :: es) [] pos) (M y).env = (do
      let ov ← eval o (M y).env
      standAt apos.atName
      let (f, first) ← holding [ov] (getMethod ov m (pl y))
      callWith pos f first (backTo pos (starEach (e :: es) (M y).env)) (backToKw pos (keywordEach [] (M y).env))) := by intro _; rfl) :
    SE M K false (.Call (.Attribute o m apos) (e :: es) [] pos) (eCallP n i πf C m F fs) :=
  let ⟨⟨ff, fd, ps, hm, hb, G⟩⟩ := G; let ⟨t, h1, h2⟩ := hp; let ⟨u, h3, h4⟩ := ha
  ⟨_, fun y => pe_meth (pl := pl y) (h1 y) (by rw [FM.K y]; exact cl) (by rw [FM.K y]; exact hm) (FM.fn G y) ((FM.room y).mono hj) (by rw [FM.K y]; exact hb) .nil pass0 (h3 y) (hst y) (hpl y) (ht y), Sat.methP h2 h4⟩
theorem se_methP0 {C : Addr} {m : Str} {n j : Nat} {F : List D → Option (D × List D)} {pl : α → Sem Bool} (FM : Fm M P w K mg base k) (G : DefM P w K mg base j C m n F) (cl : Cls K C) (hj : j ≤ k) (hp : SPl M K o i πf)
    (ht : ∀ y, eval (.Call (.Attribute o m apos) [] [] pos) (M y).env = (do
      let ov ← eval o (M y).env
      standAt apos.atName
      let (f, first) ← holding [ov] (getMethod ov m (pl y))
      callWith pos f first (backTo pos (starEach [] (M y).env)) (backToKw pos (keywordEach [] (M y).env))) := by intro _; rfl) :
    SE M K false (.Call (.Attribute o m apos) [] [] pos) (eCallP n i πf C m F aNil) :=
  let ⟨⟨ff, fd, ps, hm, hb, G⟩⟩ := G; let ⟨t, h1, h2⟩ := hp
  ⟨_, fun y => pe_meth0 (pl := pl y) (h1 y) (by rw [FM.K y]; exact cl) (by rw [FM.K y]; exact hm) (FM.fn G y) ((FM.room y).mono hj) (by rw [FM.K y]; exact hb) .nil pass0 (ht y), Sat.methP h2 (SatA.nil (q := true))⟩
end
end TL

set_option Elab.async false
set_option linter.all false
set_option maxRecDepth 100000
/-! TL36: walks over dicts (keys, values, items), the dict locked while a comprehension runs; while loops. -/
namespace TL
open PySem PySem.Spec PyProof.Rows L2
/-- a heap in which some dicts have been locked -/
def LkEq (H H' : Hp) : Prop := ∀ a, H' a = H a ∨ ∃ od u, ((∃ kvs, u = HO.dK kvs) ∨ ∃ kvs, u = HO.dT kvs) ∧ H a = some u ∧ H' a = some (.frz od u)
theorem LkEq.ins {H H' : Hp} (e : LkEq H H') {a C dx : Addr} {fs : List (Str × V)} (h : H a = some (.ins C dx fs)) : H' a = some (.ins C dx fs) := by
  rcases e a with q | ⟨od, u, hu, q, _⟩
  · rw [q]; exact h
  · rw [h] at q
    cases q
    rcases hu with ⟨_, z⟩ | ⟨_, z⟩ <;> cases z
theorem LkEq.lst {H H' : Hp} (e : LkEq H H') {a : Addr} {xs : List V} (h : H a = some (.lst xs)) : H' a = some (.lst xs) := by
  rcases e a with q | ⟨od, u, hu, q, _⟩
  · rw [q]; exact h
  · rw [h] at q
    cases q
    rcases hu with ⟨_, z⟩ | ⟨_, z⟩ <;> cases z
theorem LkEq.tup {H H' : Hp} (e : LkEq H H') {a : Addr} {xs : List V} (h : H a = some (.tup xs)) : H' a = some (.tup xs) := by
  rcases e a with q | ⟨od, u, hu, q, _⟩
  · rw [q]; exact h
  · rw [h] at q
    cases q
    rcases hu with ⟨_, z⟩ | ⟨_, z⟩ <;> cases z
theorem LkEq.rdK {H H' : Hp} (e : LkEq H H') {a : Addr} {kvs : List (Key × V)} (h : Rd H a (.dK kvs)) : Rd H' a (.dK kvs) := by
  rcases e a with q | ⟨od, u, hu, q, q'⟩
  · unfold Rd at *; rw [q]; exact h
  · rcases h with h | ⟨o, h⟩
    · rw [h] at q; cases q; exact .inr ⟨_, q'⟩
    · rw [h] at q; cases q; rcases hu with ⟨_, z⟩ | ⟨_, z⟩ <;> cases z
theorem LkEq.rdT {H H' : Hp} (e : LkEq H H') {a : Addr} {kvs : List (List Key × V)} (h : Rd H a (.dT kvs)) : Rd H' a (.dT kvs) := by
  rcases e a with q | ⟨od, u, hu, q, q'⟩
  · unfold Rd at *; rw [q]; exact h
  · rcases h with h | ⟨o, h⟩
    · rw [h] at q; cases q; exact .inr ⟨_, q'⟩
    · rw [h] at q; cases q; rcases hu with ⟨_, z⟩ | ⟨_, z⟩ <;> cases z
theorem LkEq.dget {H H' : Hp} (e : LkEq H H') {a : Addr} {y : V} {o : Option V} (h : DGet H a y o) : DGet H' a y o := by
  rcases h with ⟨kvs, k, r, q⟩ | ⟨kvs, k, b, r, ey, eb, q⟩
  · exact .inl ⟨kvs, k, e.rdK r, q⟩
  · exact .inr ⟨kvs, k, b, e.rdT r, ey, e.tup eb, q⟩
section
variable {K : PySem.W.Frag}
/-- a reading that leaves the heap alone, and tells the same when dicts have been locked -/
structure PureD (K : PySem.W.Frag) (t : TE) (f : Ev → Option (D × Ev)) : Prop where
  run : ∀ (σ : L2.St) (H : Hp) (env : Ev) (ts : List (Option V)) (td : List D) (L : List Addr) (Lo : Lent), ts.length = td.length → Sta K Lo H (ts ++ σ) (td ++ env) L → ∀ d env', f env = some (d, env') →
    env' = env ∧ ∃ v L1, Dens K H (Nw L Lo) [some v] [d] L1 ∧ ∀ (H' : Hp) (Q : VK), LkEq H H' → Q v H' → t σ H' Q
theorem eVar_eq {i : Nat} {env env' : Ev} {d : D} (e : eVar i env = some (d, env')) : env' = env ∧ env[i]? = some d ∧ d ≠ .und := by
  unfold eVar at e
  split at e
  · rename_i d0 e0
    split at e
    all_goals first
      | (cases e; done)
      | (rename_i c
         cases e
         refine ⟨rfl, e0, fun z => ?_⟩
         subst z
         exact absurd c (by decide))
  · cases e
theorem PureD.var (i : Nat) : PureD K (tVar i) (eVar i) := ⟨fun σ H env ts td L Lo hl s d env' e => by
  obtain ⟨rfl, e1, hu⟩ := eVar_eq e
  obtain ⟨x0, M, q1, q2⟩ := s.slot hl e1 hu
  exact ⟨rfl, x0, M, q2, fun H' Q _ q => ⟨x0, q1, q⟩⟩⟩
theorem PureD.fld {t : TE} {f : Ev → Option (D × Ev)} {C : Addr} {x : Str} (cl : Cls K C) (na : NoAttr K C x) (h : PureD K t f) : PureD K (tFld K t x) (eOp (gFld C x) (aCons f aNil)) := ⟨fun σ H env ts td L Lo hl s d env' e => by
  unfold eOp aCons at e
  cases e1 : f env with
  | none => simp only [e1] at e; cases e
  | some p =>
    obtain ⟨d1, en1⟩ := p
    simp only [e1, aNil] at e
    cases e2 : gFld C x [d1] with
    | none => simp only [e2] at e; cases e
    | some d2 =>
      simp only [e2] at e
      cases e
      obtain ⟨rfl, v, L1, q1, q2⟩ := h.run σ H env ts td L Lo hl s d1 _ e1
      refine ⟨rfl, ?_⟩
      unfold gFld at e2
      split at e2
      · rename_i fl C' fds hh
        cases hh
        split at e2
        · rename_i ec
          subst ec
          obtain ⟨r, e3, e4⟩ := Option.bind_eq_some_iff.mp e2
          obtain ⟨a, dx, fs, L2, rfl, z1, ek, z2, z3⟩ := inv_ins q1
          rcases look_val ek z2 x with ⟨q, _⟩ | ⟨v', d', M, w1, w2, w3, w4⟩
          · rw [q] at e3; cases e3
          · rw [w1] at e3; cases e3
            split at e4
            · cases e4
            · cases e4
              exact ⟨v', M, w3, fun H' Q lk q => q2 H' _ lk ⟨a, _, dx, fs, v', rfl, lk.ins z1, cl, na, by rw [lookup_valV]; exact w2, q⟩⟩
        · cases e2
      · cases e2⟩
theorem PureD.int (n : Int) : PureD K (tC (.int n)) (eC (.int n)) := ⟨fun σ H env ts td L Lo hl s d env' e => by
  cases e
  exact ⟨rfl, .int n, [], .int .nil, fun H' Q _ q => q⟩⟩
theorem PureD.str (n : Str) : PureD K (tC (.str n)) (eC (.str n)) := ⟨fun σ H env ts td L Lo hl s d env' e => by
  cases e
  exact ⟨rfl, .str n, [], .str .nil, fun H' Q _ q => q⟩⟩
theorem PureD.dget {t u : TE} {f g : Ev → Option (D × Ev)} (h : PureD K t f) (h' : PureD K u g) : PureD K (tOp rDGet t u) (eOp gDGet (aCons f (aCons g aNil))) := ⟨fun σ H env ts td L Lo hl s d env' e => by
  unfold eOp aCons at e
  cases e1 : f env with
  | none => simp only [e1] at e; cases e
  | some p =>
    obtain ⟨d1, en1⟩ := p
    simp only [e1, aCons] at e
    obtain ⟨rfl, v, L1, q1, q2⟩ := h.run σ H env ts td L Lo hl s d1 _ e1
    cases e2 : g en1 with
    | none => simp only [e2] at e; cases e
    | some p2 =>
      obtain ⟨d2, en2⟩ := p2
      simp only [e2, aNil] at e
      obtain ⟨rfl, w, L2, q3, q4⟩ := h'.run σ H _ ts td L Lo hl s d2 _ e2
      cases e3 : gDGet [d1, d2] with
      | none => simp only [e3] at e; cases e
      | some d3 =>
        simp only [e3] at e
        cases e
        refine ⟨rfl, ?_⟩
        unfold gDGet at e3
        obtain ⟨o, e4, e5⟩ := Option.bind_eq_some_iff.mp e3
        obtain ⟨r, e6, e7⟩ := Option.bind_eq_some_iff.mp e5
        subst e6
        obtain ⟨a, ov, rfl, dg, _, hh⟩ := dict_look q1 q3 e4
        split at e7
        · cases e7
        · cases e7
          rcases hh with ⟨z, _⟩ | ⟨v', d', M, z, rfl, hv, _⟩
          · cases z
          · cases z
            exact ⟨v', M, hv, fun H' Q lk q => q2 H' _ lk (q4 H' _ lk ⟨a, v', rfl, lk.dget dg, q⟩)⟩⟩
/-! ### the walks -/
def keysD : List (Key × D) → List D := fun kds => kds.map fun p => keyD p.1
def keyTD (k : List Key) : D := .tup (k.map keyD)
inductive DW where
  | keys | vals | items
def DW.xs : DW → D → Option (List D)
  | .keys, .dK f kds => if f.ro && (D.dK f kds).noOwn then some (kds.map fun p => keyD p.1) else none
  | .keys, .dT f kds => if f.ro && (D.dT f kds).noOwn then some (kds.map fun p => keyTD p.1) else none
  | .vals, .dK f kds => if f.ro && (D.dK f kds).noOwn then some (kds.map (·.2)) else none
  | .items, .dK f kds => if f.ro && (D.dK f kds).noOwn then some (kds.map fun p => .tup [keyD p.1, p.2]) else none
  | _, _ => none
def DW.it : DW → TE → TI
  | .keys, td => iKeys td
  | .vals, td => iVals td
  | .items, td => iItems td
def wD (w : DW) (f : Ev → Option (D × Ev)) : Ev → Option (List D × Ev) := fun env => (f env).bind fun p => (w.xs p.1).map fun xs => (xs, p.2)
theorem key_densH {H : Hp} {N : Fl → Addr → Prop} (k : Key) {σ : List (Option V)} {ds : List D} {L : List Addr} (h : Dens K H N σ ds L) : Dens K H N (some (kV k) :: σ) (keyD k :: ds) L := by
  cases k with
  | inl i => exact .int h
  | inr x => exact .str h
theorem keys_densH {H : Hp} {N : Fl → Addr → Prop} : ∀ k : List Key, Dens K H N (so (k.map kV)) (k.map keyD) []
  | [] => .nil
  | x :: k => key_densH x (keys_densH k)
theorem keyD_noOwn (k : Key) : (keyD k).noOwn = true := by cases k <;> rfl
theorem dK_vals {f : Fl} {kds : List (Key × D)} (h : (D.dK f kds).noOwn = true) : (kds.map (·.2)).all D.noOwn = true := by
  unfold D.noOwn at h
  rw [D.allF, allFk_all, Bool.and_eq_true] at h
  rw [List.all_map]
  exact h.2
/-- held: the dict; the heap keeps it locked -/
theorem walk_dK {f : Fl} {kds : List (Key × D)} {a : Addr} {od : Obj} {kvs : List (Key × V)} (hf : f.ro = true) (no : (D.dK f kds).noOwn = true) {Q : It → Prop} (w : DW) {xs : List D} (e : w.xs (.dK f kds) = some xs) :
    (w = .keys → WalkP K (fun H => H a = some (.frz od (.dK kvs))) (Itk a od kvs) [.ref a] [.dK f kds] xs) ∧ (w = .vals → WalkP K (fun H => H a = some (.frz od (.dK kvs))) (Itd a od kvs) [.ref a] [.dK f kds] xs) ∧ (w = .items → WalkP K (fun H => H a = some (.frz od (.dK kvs))) (Iti a od kvs) [.ref a] [.dK f kds] xs) := by
  -- what the state tells of the dict
  have look : ∀ {H : Hp} {σs : List (Option V)} {ds : List D} {L : List Addr} {Lo : Lent}, Sta K Lo H (so [V.ref a] ++ σs) ([.dK f kds] ++ ds) L → H a = some (.frz od (.dK kvs)) → kvs.map (·.1) = kds.map (·.1) ∧ Dens K H (Nw L Lo) (sv kvs) (kds.map (·.2)) [] := by
    intro H σs ds L Lo s hp
    obtain ⟨L1, L2, rfl, h1, h2⟩ := Dens.cons (o := some (.ref a)) (d := .dK f kds) (σ := σs) (ds := ds) s.dens
    obtain ⟨a', kvs', M, e', rd, _, ek, q, sb⟩ := inv_dK h1
    cases e'
    have : kvs' = kvs := by
      rcases rd with z | ⟨o, z⟩
      · rw [hp] at z; cases z
      · rw [hp] at z; cases z; rfl
    subst this
    exact ⟨ek, by have := noOwn_nil q (dK_vals no); subst this; exact q⟩
  have at_ : ∀ {H : Hp} {L : List Addr} {Lo : Lent} {i : Nat} {k : Key} {v : V}, kvs.map (·.1) = kds.map (·.1) → Dens K H (Nw L Lo) (sv kvs) (kds.map (·.2)) [] → kvs[i]? = some (k, v) → ∃ d, kds[i]? = some (k, d) ∧ Dens K H (Nw L Lo) [some v] [d] [] := by
    intro H L Lo i k v ek q hk
    have hi := (List.getElem?_eq_some_iff.mp hk).1
    have hl := congrArg List.length ek
    rw [List.length_map, List.length_map] at hl
    have hi2 : i < kds.length := by omega
    have e1 : (kvs.map (·.1))[i]? = some k := by rw [List.getElem?_map, hk]; rfl
    rw [ek, List.getElem?_map, List.getElem?_eq_getElem hi2] at e1
    have e1' : kds[i].1 = k := Option.some.inj e1
    refine ⟨kds[i].2, by rw [List.getElem?_eq_getElem hi2, ← e1'], ?_⟩
    obtain ⟨o, L1, z1, z2, z3⟩ := q.at (i := i) (d := kds[i].2) (by rw [List.getElem?_map, List.getElem?_eq_getElem hi2]; rfl)
    have : o = some v := by
      have : (sv kvs)[i]? = some (some v) := by rw [List.getElem?_map, hk]; rfl
      rw [this] at z1
      exact (Option.some.inj z1).symm
    subst this
    obtain rfl := List.sublist_nil.mp z3
    exact z2
  have len : ∀ {H : Hp} {L : List Addr} {Lo : Lent}, kvs.map (·.1) = kds.map (·.1) → kvs.length = kds.length := fun ek => by
    have hl := congrArg List.length ek
    rw [List.length_map, List.length_map] at hl
    exact hl
  refine ⟨fun ew => ?_, fun ew => ?_, fun ew => ?_⟩
  · subst ew
    have e' : (if f.ro && (D.dK f kds).noOwn then some (kds.map fun p => keyD p.1) else none) = some xs := e
    rw [hf, no] at e'
    cases e'
    refine ⟨fun i H σs ds L Lo h s hp => ?_, fun i H σs ds L Lo h s hp => ?_⟩
    · obtain ⟨ek, q⟩ := look s hp
      have hl := len (H := H) (L := L) (Lo := Lo) ek
      rw [List.length_map] at h
      refine ⟨⟨hp, by omega⟩, fun x H' ⟨e1, k, v, e2, e3⟩ => ?_⟩
      subst e1 e3
      obtain ⟨d, e4, _⟩ := at_ ek q e2
      refine ⟨Still.refl _, s.good, ?_⟩
      have : (kds.map fun p => keyD p.1)[i]'(by rw [List.length_map]; exact h) = keyD k := by
        rw [List.getElem_map]
        have := (List.getElem?_eq_some_iff.mp e4).2
        rw [this]
      rw [this]
      exact key_densH k s.dens
    · obtain ⟨ek, q⟩ := look s hp
      have hl := len (H := H) (L := L) (Lo := Lo) ek
      rw [List.length_map] at h
      exact ⟨hp, by omega⟩
  · subst ew
    have e' : (if f.ro && (D.dK f kds).noOwn then some (kds.map (·.2)) else none) = some xs := e
    rw [hf, no] at e'
    cases e'
    refine ⟨fun i H σs ds L Lo h s hp => ?_, fun i H σs ds L Lo h s hp => ?_⟩
    · obtain ⟨ek, q⟩ := look s hp
      have hl := len (H := H) (L := L) (Lo := Lo) ek
      rw [List.length_map] at h
      refine ⟨⟨hp, by omega⟩, fun x H' ⟨e1, k, e2⟩ => ?_⟩
      subst e1
      obtain ⟨d, e4, q4⟩ := at_ ek q e2
      refine ⟨Still.refl _, s.good, ?_⟩
      have : (kds.map (·.2))[i]'(by rw [List.length_map]; exact h) = d := by
        rw [List.getElem_map]
        have := (List.getElem?_eq_some_iff.mp e4).2
        rw [this]
      rw [this]
      exact Dens.put (L1 := []) q4 s.dens
    · obtain ⟨ek, q⟩ := look s hp
      have hl := len (H := H) (L := L) (Lo := Lo) ek
      rw [List.length_map] at h
      exact ⟨hp, by omega⟩
  · subst ew
    have e' : (if f.ro && (D.dK f kds).noOwn then some (kds.map fun p => D.tup [keyD p.1, p.2]) else none) = some xs := e
    rw [hf, no] at e'
    cases e'
    refine ⟨fun i H σs ds L Lo h s hp => ?_, fun i H σs ds L Lo h s hp => ?_⟩
    · obtain ⟨ek, q⟩ := look s hp
      have hl := len (H := H) (L := L) (Lo := Lo) ek
      rw [List.length_map] at h
      refine ⟨⟨hp, by omega⟩, fun x H' ⟨T, k, v, e2, e3, e5, e6⟩ => ?_⟩
      subst e3 e6
      obtain ⟨d, e4, q4⟩ := at_ ek q e2
      have st : Still H (upd H T (.tup [kV k, v])) := upd_still e5
      have nT : T ∉ L := fun z => s.dens.live T z e5
      have g' : Good L Lo (upd H T (.tup [kV k, v])) := ⟨s.good.nd, s.good.no, fun f a lo => by
        obtain ⟨l1, l2⟩ := s.good.lent f a lo
        rw [st a l1]; exact ⟨l1, l2⟩, s.good.nov⟩
      refine ⟨st, g', ?_⟩
      have : (kds.map fun p => D.tup [keyD p.1, p.2])[i]'(by rw [List.length_map]; exact h) = .tup [keyD k, d] := by
        rw [List.getElem_map]
        have := (List.getElem?_eq_some_iff.mp e4).2
        rw [this]
      rw [this]
      have ow : ∀ b ∈ L, b ∈ L ∨ H b = none := fun b hb => .inl hb
      have h1 : Dens K (upd H T (.tup [kV k, v])) (Nw L Lo) (so [kV k, v]) [keyD k, d] [] := key_densH k (q4.still st ow)
      exact Dens.tup (L1 := []) upd_same ⟨nT, fun lo => (s.good.lent _ _ lo).1 e5⟩ h1 (s.dens.still st ow)
    · obtain ⟨ek, q⟩ := look s hp
      have hl := len (H := H) (L := L) (Lo := Lo) ek
      rw [List.length_map] at h
      exact ⟨hp, by omega⟩
theorem walk_dT {f : Fl} {kds : List (List Key × D)} {a : Addr} {od : Obj} {kvs : List (List Key × V)} (hf : f.ro = true) {xs : List D} (e : DW.xs .keys (.dT f kds) = some xs) :
    WalkP K (fun H => H a = some (.frz od (.dT kvs))) (Itkt a od kvs) [.ref a] [.dT f kds] xs := by
  have look : ∀ {H : Hp} {σs : List (Option V)} {ds : List D} {L : List Addr} {Lo : Lent}, Sta K Lo H (so [V.ref a] ++ σs) ([.dT f kds] ++ ds) L → H a = some (.frz od (.dT kvs)) → kvs.map (·.1) = kds.map (·.1) := by
    intro H σs ds L Lo s hp
    obtain ⟨L1, L2, rfl, h1, h2⟩ := Dens.cons (o := some (.ref a)) (d := .dT f kds) (σ := σs) (ds := ds) s.dens
    obtain ⟨a', kvs', M, e', rd, _, ek, q, sb⟩ := inv_dT h1
    cases e'
    have : kvs' = kvs := by
      rcases rd with z | ⟨o, z⟩
      · rw [hp] at z; cases z
      · rw [hp] at z; cases z; rfl
    subst this
    exact ek
  have e' : (if f.ro && (D.dT f kds).noOwn then some (kds.map fun p => keyTD p.1) else none) = some xs := e
  split at e'
  case isFalse => cases e'
  cases e'
  refine ⟨fun i H σs ds L Lo h s hp => ?_, fun i H σs ds L Lo h s hp => ?_⟩
  · have ek := look s hp
    have hl := congrArg List.length ek
    rw [List.length_map, List.length_map] at hl
    rw [List.length_map] at h
    refine ⟨⟨hp, by omega⟩, fun x H' ⟨e1, k, v, q, e2, e3, e4⟩ => ?_⟩
    subst e1 e3
    have hi2 : i < kds.length := h
    have e5 : (kvs.map (·.1))[i]? = some k := by rw [List.getElem?_map, e2]; rfl
    rw [ek, List.getElem?_map, List.getElem?_eq_getElem hi2] at e5
    have e5' : kds[i].1 = k := Option.some.inj e5
    refine ⟨Still.refl _, s.good, ?_⟩
    rw [List.getElem_map, e5']
    refine Dens.tup (L1 := []) e4 ⟨fun z => ?_, fun lo => (s.good.lent _ _ lo).2 _ e4⟩ (keys_densH k) s.dens
    exact s.dens.notup q z _ e4
  · have ek := look s hp
    have hl := congrArg List.length ek
    rw [List.length_map, List.length_map] at hl
    rw [List.length_map] at h
    exact ⟨hp, by omega⟩
end
end TL

set_option Elab.async false
set_option linter.all false
set_option maxRecDepth 100000
/-! TL37: comprehensions and loops over dicts; while. -/
namespace TL
open PySem PySem.Spec PyProof.Rows L2
def dictHO (u : HO) : Prop := (∃ kvs, u = HO.dK kvs) ∨ ∃ kvs, u = HO.dT kvs
theorem dictHO.mut {u : HO} (h : dictHO u) : Mut (some u) := by rcases h with ⟨_, rfl⟩ | ⟨_, rfl⟩ <;> trivial
section
variable {K : PySem.W.Frag}
theorem LkEq.lock {H : Hp} {a : Addr} {u : HO} (od : Obj) (hu : dictHO u) (h : H a = some u) : LkEq H (upd H a (.frz od u)) := fun b => by
  by_cases z : b = a
  · subst z; exact .inr ⟨od, u, hu, h, upd_same⟩
  · exact .inl (upd_ne z)
theorem keep_lock {H : Hp} {a : Addr} {u : HO} {od : Obj} (hu : dictHO u) (h : H a = some u) (b : Addr) : Keep H (upd H a (.frz od u)) b := by
  by_cases z : b = a
  · subst z
    have no : ∀ {w}, H b = some w → w = u := fun q => by rw [h] at q; exact (Option.some.inj q).symm
    refine ⟨fun us q => ?_, fun us q => ?_, fun C dx fs q => ?_, fun o us q => ?_, fun kvs q => (LkEq.lock od hu h).rdK q, fun kvs q => (LkEq.lock od hu h).rdT q⟩ <;>
    · have := no q
      rcases hu with ⟨_, z⟩ | ⟨_, z⟩ <;> rw [z] at this <;> cases this
  · exact Keep.of (upd_ne z)
theorem keep_unlock {H : Hp} {a : Addr} {u : HO} {od : Obj} (hu : dictHO u) (h : H a = some (.frz od u)) (b : Addr) : Keep H (upd H a u) b := by
  by_cases z : b = a
  · subst z
    have no : ∀ {w}, H b = some w → w = .frz od u := fun q => by rw [h] at q; exact (Option.some.inj q).symm
    refine ⟨fun us q => (by cases no q), fun us q => (by cases no q), fun C dx fs q => (by cases no q), fun o us q => ?_, fun kvs q => ?_, fun kvs q => ?_⟩
    · have := no q
      cases this
      rcases hu with ⟨_, z⟩ | ⟨_, z⟩ <;> cases z
    · rcases q with q | ⟨o, q⟩
      · cases no q
      · cases no q; exact .inl upd_same
    · rcases q with q | ⟨o, q⟩
      · cases no q
      · cases no q; exact .inl upd_same
  · exact Keep.of (upd_ne z)
theorem Sta.lock {Lo : Lent} {H : Hp} {σs : List (Option V)} {ds : List D} {L : List Addr} {a : Addr} {u : HO} {od : Obj} (hu : dictHO u) (h : H a = some u) (na : a ∉ L) (s : Sta K Lo H σs ds L) : Sta K Lo (upd H a (.frz od u)) σs ds L := by
  refine ⟨⟨s.good.nd, s.good.no, fun f b lo => ?_, s.good.nov⟩, s.dens.mono (fun b hb => upd_ne fun z => na (by rw [← z]; exact hb)) fun f b n _ => ⟨n, keep_lock hu h b⟩⟩
  obtain ⟨l1, l2⟩ := s.good.lent f b lo
  by_cases z : b = a
  · subst z
    rw [upd_same]
    exact ⟨Option.some_ne_none _, fun us q => by cases q⟩
  · rw [upd_ne z]; exact ⟨l1, l2⟩
/-- the dict is unlocked again -/
theorem Came.unlock {Lo : Lent} {q : Bool} {H H' : Hp} {bs : List (Option V)} {td env xs env' : List D} {L Lr Lb : List Addr} {vs : List V} {a : Addr} {u : HO} {od : Obj} (hu : dictHO u) (h : H a = some u) (na : a ∉ L) (c : Came K Lo q (upd H a (.frz od u)) bs td env L H' vs xs env' Lr Lb) :
    H' a = some (.frz od u) ∧ Came K Lo q H bs td env L (upd H' a u) vs xs env' Lr Lb := by
  have e1 : H' a = some (.frz od u) := by rw [c.ext.keep a (by rw [upd_same]; exact Option.some_ne_none _) na, upd_same]
  have nr : ∀ b ∈ Lr ++ Lb, b ≠ a := fun b hb z => by
    subst z
    rcases c.ext.own b hb with y | y
    · exact na y
    · rw [upd_same] at y; cases y
  have back : ∀ {b}, (upd H a (.frz od u)) b = none → H b = none := fun {b} y => by
    by_cases z : b = a
    · subst z; rw [upd_same] at y; cases y
    · rw [upd_ne z] at y; exact y
  refine ⟨e1, ⟨c.good.nd, c.good.no, fun f b lo => ?_, c.good.nov⟩, c.top.mono (fun b hb => upd_ne (nr b (List.mem_append_left _ hb))) fun f b n _ => ⟨n, keep_unlock hu e1 b⟩, c.base.mono (fun b hb => upd_ne (nr b (List.mem_append_right _ hb))) fun f b n _ => ⟨n, keep_unlock hu e1 b⟩, ⟨fun b hb nb => ?_, fun b hb => (c.ext.own b hb).imp id back, fun b hb => ?_⟩, fun qq => ?_⟩
  · obtain ⟨l1, l2⟩ := c.good.lent f b lo
    by_cases z : b = a
    · subst z
      rw [upd_same]
      exact ⟨Option.some_ne_none _, fun us q => by rcases hu with ⟨_, z⟩ | ⟨_, z⟩ <;> rw [z] at q <;> cases q⟩
    · rw [upd_ne z]; exact ⟨l1, l2⟩
  · by_cases z : b = a
    · subst z; rw [upd_same, h]
    · rw [upd_ne z, c.ext.keep b (by rw [upd_ne z]; exact hb) nb, upd_ne z]
  · by_cases z : b = a
    · subst z; rw [upd_same]; exact Option.some_ne_none _
    · rw [upd_ne z]; exact c.ext.live b (by rw [upd_ne z]; exact hb)
  · obtain ⟨z1, z2, z3, z4⟩ := c.quiet qq
    refine ⟨z1, fun b hb => ?_, z3, fun b hb => back (z4 b hb)⟩
    by_cases z : b = a
    · subst z; rw [upd_same, h]
    · rw [upd_ne z, z2 b (by rw [upd_ne z]; exact hb), upd_ne z]
theorem keyD_closed (k : Key) : (keyD k).closed = true := by cases k <;> rfl
theorem inv_dKR {H : Hp} {N : Fl → Addr → Prop} {f : Fl} {kds : List (Key × D)} {v : V} {L : List Addr} (hf : f.ro = true) (h : Dens K H N [some v] [.dK f kds] L) : ∃ a kvs, v = .ref a ∧ Rd H a (.dK kvs) ∧ N f a ∧ kvs.map (·.1) = kds.map (·.1) := by
  cases h with
  | dKO => cases hf
  | dKR ro rd n ek h t => exact ⟨_, _, rfl, rd, n, ek⟩
theorem inv_dTR {H : Hp} {N : Fl → Addr → Prop} {f : Fl} {kds : List (List Key × D)} {v : V} {L : List Addr} (hf : f.ro = true) (h : Dens K H N [some v] [.dT f kds] L) : ∃ a kvs, v = .ref a ∧ Rd H a (.dT kvs) ∧ N f a ∧ kvs.map (·.1) = kds.map (·.1) := by
  cases h with
  | dTO => cases hf
  | dTR ro rd n ek h t => exact ⟨_, _, rfl, rd, n, ek⟩
/-- what is told of a dict that a walk goes over -/
theorem dict_start {td : TE} {fd : Ev → Option (D × Ev)} (w : DW) (hd : PureD K td fd) {σ : L2.St} {H : Hp} {env : Ev} {ts : List (Option V)} {tds : List D} {L : List Addr} {Lo : Lent} (hl : ts.length = tds.length) (s : Sta K Lo H (ts ++ σ) (tds ++ env) L) {xs : List D} {env' : Ev} (e : wD w fd env = some (xs, env')) :
    env' = env ∧ ∃ (a : Addr) (u : HO) (dd : D) (J : Obj → It), dictHO u ∧ Rd H a u ∧ a ∉ L ∧ Dens K H (Nw L Lo) [some (.ref a)] [dd] [] ∧ xs.all D.noOwn = true ∧ (∀ od, WalkP K (fun H => H a = some (.frz od u)) (J od) [.ref a] [dd] xs) ∧ (∃ en, fd env = some (dd, en)) ∧
      ∀ (od : Obj) (H1 : Hp) (R : It → Hp → Prop), LkEq H H1 → H1 a = some (.frz od u) → R (J od) H1 → w.it td σ H1 R := by
  obtain ⟨⟨dd, en⟩, e1, e2⟩ := Option.bind_eq_some_iff.mp e
  obtain ⟨xs', e3, e4⟩ := Option.map_eq_some_iff.mp e2
  cases e4
  obtain ⟨rfl, v, L1, q1, q2⟩ := hd.run σ H env ts tds L Lo hl s dd _ e1
  refine ⟨rfl, ?_⟩
  cases w with
  | keys =>
    cases dd <;> try (cases e3; done)
    · rename_i f kds
      have e3' : (if f.ro && (D.dK f kds).noOwn then some (kds.map fun p => keyD p.1) else none) = some xs := e3
      split at e3'
      case isFalse => cases e3'
      rename_i c
      rw [Bool.and_eq_true] at c
      cases e3'
      obtain rfl := noOwn_nil1 q1 c.2
      have nn : (kds.map fun p => keyD p.1).all D.noOwn = true := by rw [List.all_map, List.all_eq_true]; intro p _; exact keyD_noOwn p.1
      obtain ⟨a, kvs, rfl, rd, n, ek⟩ := inv_dKR c.1 q1
      have ro := c.1
      · refine ⟨a, .dK kvs, .dK f kds, fun od => Itk a od kvs, .inl ⟨_, rfl⟩, rd, n.1, ?_, nn, fun od => (walk_dK (Q := fun _ => True) ro c.2 .keys e3).1 rfl, ⟨_, e1⟩, fun od H1 R lk e9 r => q2 H1 _ lk ⟨a, od, rfl, .inl ⟨kvs, e9, r⟩⟩⟩
        exact q1
    · rename_i f kds
      have e3' : (if f.ro && (D.dT f kds).noOwn then some (kds.map fun p => keyTD p.1) else none) = some xs := e3
      split at e3'
      case isFalse => cases e3'
      rename_i c
      rw [Bool.and_eq_true] at c
      cases e3'
      obtain rfl := noOwn_nil1 q1 c.2
      have kn : ∀ k : List Key, (keyTD k).noOwn = true := fun k => by unfold keyTD D.noOwn; rw [D.allF, allFs_all, List.all_map, List.all_eq_true]; intro p _; exact keyD_noOwn p
      have kc : ∀ k : List Key, (keyTD k).closed = true := fun k => by unfold keyTD D.closed; rw [D.allF, allFs_all, List.all_map, List.all_eq_true]; intro p _; exact keyD_closed p
      obtain ⟨a, kvs, rfl, rd, n, ek⟩ := inv_dTR c.1 q1
      have ro := c.1
      · refine ⟨a, .dT kvs, .dT f kds, fun od => Itkt a od kvs, .inr ⟨_, rfl⟩, rd, n.1, ?_, by rw [List.all_map, List.all_eq_true]; intro p _; exact kn p.1, fun od => walk_dT ro e3, ⟨_, e1⟩, fun od H1 R lk e9 r => q2 H1 _ lk ⟨a, od, rfl, .inr ⟨kvs, e9, r⟩⟩⟩
        exact q1
  | vals =>
    cases dd <;> try (cases e3; done)
    rename_i f kds
    have e3' : (if f.ro && (D.dK f kds).noOwn then some (kds.map (·.2)) else none) = some xs := e3
    split at e3'
    case isFalse => cases e3'
    rename_i c
    rw [Bool.and_eq_true] at c
    cases e3'
    obtain rfl := noOwn_nil1 q1 c.2
    obtain ⟨a, kvs, rfl, rd, n, ek⟩ := inv_dKR c.1 q1
    have ro := c.1
    · refine ⟨a, .dK kvs, .dK f kds, fun od => Itd a od kvs, .inl ⟨_, rfl⟩, rd, n.1, ?_, dK_vals c.2, fun od => (walk_dK (Q := fun _ => True) ro c.2 .vals e3).2.1 rfl, ⟨_, e1⟩, fun od H1 R lk e9 r => q2 H1 _ lk ⟨a, od, kvs, rfl, e9, r⟩⟩
      exact q1
  | items =>
    cases dd <;> try (cases e3; done)
    rename_i f kds
    have e3' : (if f.ro && (D.dK f kds).noOwn then some (kds.map fun p => D.tup [keyD p.1, p.2]) else none) = some xs := e3
    split at e3'
    case isFalse => cases e3'
    rename_i c
    rw [Bool.and_eq_true] at c
    cases e3'
    obtain rfl := noOwn_nil1 q1 c.2
    have vn := dK_vals c.2
    rw [List.all_map, List.all_eq_true] at vn
    obtain ⟨a, kvs, rfl, rd, n, ek⟩ := inv_dKR c.1 q1
    have ro := c.1
    · refine ⟨a, .dK kvs, .dK f kds, fun od => Iti a od kvs, .inl ⟨_, rfl⟩, rd, n.1, ?_, ?_, fun od => (walk_dK (Q := fun _ => True) ro c.2 .items e3).2.2 rfl, ⟨_, e1⟩, fun od H1 R lk e9 r => q2 H1 _ lk ⟨a, od, kvs, rfl, e9, r⟩⟩
      · exact q1
      · rw [List.all_map, List.all_eq_true]
        intro p hp
        show D.noOwn (.tup [keyD p.1, p.2]) = true
        unfold D.noOwn
        rw [D.allF, allFs_all, List.all_cons, List.all_cons, List.all_nil, Bool.and_true, Bool.and_eq_true]
        exact ⟨keyD_noOwn p.1, vn p hp⟩
/-- a comprehension over a dict -/
theorem Sat.lcD {q : Bool} {td : TE} {fd : Ev → Option (D × Ev)} {g : TG} {tt : TT} {te : TE} {vs : List Nat} {fg : D → Ev → Option Ev} {ft : Ev → Option (Bool × Ev)} {fe : Ev → Option (D × Ev)} (w : DW) (nd : vs.Nodup) (hd : PureD K td fd) (hg : SatV K vs g fg) (ht : SatB K q tt ft) (he : Sat K q te fe) :
    Sat K q (fun σ H Q => tLc (w.it td) g tt te vs σ H Q ∨ tLockE (tLc (w.it td) g tt te vs) σ H Q) (eLc q vs (wD w fd) fg ft fe) := by
  refine ⟨fun σ H env ts tds L Lo hl s d env' e Q k => ?_⟩
  unfold eLc at e
  cases e1 : wD w fd env with
  | none => rw [e1] at e; cases e
  | some pr =>
    obtain ⟨xs, en1⟩ := pr
    simp only [e1] at e
    cases e2 : lcL q vs fg ft fe [] xs en1 with
    | none => simp only [e2] at e; cases e
    | some pr2 =>
      obtain ⟨res, enR⟩ := pr2
      simp only [e2] at e
      obtain ⟨rfl, rfl⟩ := Prod.mk.inj (Option.some.inj e)
      obtain ⟨rfl, a, u, dd, J, hu, rd, na, top, nox, wk, _, start⟩ := dict_start w hd hl s e1
      have came : ∀ {H1 : Hp}, Sta K Lo H1 (ts ++ σ) (tds ++ en1) L → Dens K H1 (Nw L Lo) [some (.ref a)] [dd] [] → Came K Lo true H1 (ts ++ σ) tds en1 L H1 [.ref a] [dd] en1 [] L := fun s1 t1 =>
        ⟨s1.good, t1, s1.dens, Ext.refl _ _, fun _ => ⟨rfl, Still.refl _, rfl, fun b hb => (List.not_mem_nil hb).elim⟩⟩
      rcases rd with ha | ⟨o, ha⟩
      · refine .inr ⟨a, u, ha, hu.mut, fun od => ?_⟩
        have s1 := Sta.lock (od := od) hu ha na s
        have t1 : Dens K (upd H a (.frz od u)) (Nw L Lo) [some (.ref a)] [dd] [] := top.mono (fun b hb => (List.not_mem_nil hb).elim) fun f b n _ => ⟨n, keep_lock hu ha b⟩
        refine start od _ _ (LkEq.lock od hu ha) upd_same ?_
        show lcK (J od) (upd H a (.frz od u)) g tt te vs σ (fun v H' => H' a = some (.frz od u) ∧ Q v (upd H' a u))
        refine lc_rest nd hg ht he hl e2 (came s1 t1) (wk od) (fun H' hk => by rw [hk a (by rw [upd_same]; exact Option.some_ne_none _) na, upd_same]) nox fun v H' Lr Lb c => ?_
        obtain ⟨z1, z2⟩ := Came.unlock hu ha na c
        exact ⟨z1, k v _ Lr Lb (z2.q2 fun z => by simpa using z)⟩
      · refine .inl ?_
        refine start o H _ (fun b => .inl rfl) ha ?_
        show lcK (J o) H g tt te vs σ Q
        refine lc_rest nd hg ht he hl e2 (came s top) (wk o) (fun H' hk => by rw [hk a (by rw [ha]; exact Option.some_ne_none _) na, ha]) nox fun v H' Lr Lb c => k v _ Lr Lb (c.q2 fun z => by simpa using z)
end
end TL

set_option Elab.async false
set_option linter.all false
set_option maxRecDepth 100000
/-! TL38: for over dicts; a slot that is only read while a statement of the body runs; while; the rules of text. -/
namespace TL
open PySem PySem.Spec PyProof.Rows L2
section
variable {K : PySem.W.Frag}
theorem Sta.unlock {Lo : Lent} {H H' : Hp} {σs : List (Option V)} {ds : List D} {L L' : List Addr} {a : Addr} {u : HO} {od : Obj} (hu : dictHO u) (h : H a = some u) (na : a ∉ L) (x : Ext L (upd H a (.frz od u)) L' H') (s : Sta K Lo H' σs ds L') :
    H' a = some (.frz od u) ∧ Sta K Lo (upd H' a u) σs ds L' ∧ Ext L H L' (upd H' a u) := by
  have e1 : H' a = some (.frz od u) := by rw [x.keep a (by rw [upd_same]; exact Option.some_ne_none _) na, upd_same]
  have nr : ∀ b ∈ L', b ≠ a := fun b hb z => by
    subst z
    rcases x.own b hb with y | y
    · exact na y
    · rw [upd_same] at y; cases y
  have back : ∀ {b}, (upd H a (.frz od u)) b = none → H b = none := fun {b} y => by
    by_cases z : b = a
    · subst z; rw [upd_same] at y; cases y
    · rw [upd_ne z] at y; exact y
  refine ⟨e1, ⟨⟨s.good.nd, s.good.no, fun f b lo => ?_, s.good.nov⟩, s.dens.mono (fun b hb => upd_ne (nr b hb)) fun f b n _ => ⟨n, keep_unlock hu e1 b⟩⟩, ⟨fun b hb nb => ?_, fun b hb => (x.own b hb).imp id back, fun b hb => ?_⟩⟩
  · obtain ⟨l1, l2⟩ := s.good.lent f b lo
    by_cases z : b = a
    · subst z
      rw [upd_same]
      exact ⟨Option.some_ne_none _, fun us q => by rcases hu with ⟨_, z⟩ | ⟨_, z⟩ <;> rw [z] at q <;> cases q⟩
    · rw [upd_ne z]; exact ⟨l1, l2⟩
  · by_cases z : b = a
    · subst z; rw [upd_same, h]
    · rw [upd_ne z, x.keep b (by rw [upd_ne z]; exact hb) nb, upd_ne z]
  · by_cases z : b = a
    · subst z; rw [upd_same]; exact Option.some_ne_none _
    · rw [upd_ne z]; exact x.live b (by rw [upd_ne z]; exact hb)
def wDC (w : DW) (f : Ev → Option (D × Ev)) : Ev → Option (List D × Ev) := fun env => (f env).bind fun p => if p.1.closed then (w.xs p.1).map fun xs => (xs, p.2) else none
theorem wDC_wD {w : DW} {f : Ev → Option (D × Ev)} {env : Ev} {p : List D × Ev} (h : wDC w f env = some p) : wD w f env = some p ∧ ∃ q, f env = some q ∧ q.1.closed = true := by
  obtain ⟨q, e1, e2⟩ := Option.bind_eq_some_iff.mp h
  split at e2
  · rename_i c
    exact ⟨by unfold wD; rw [e1]; exact e2, q, e1, c⟩
  · cases e2
/-- for over a dict -/
theorem SatS.forD {pn : List Nat} {td : TE} {fd : Ev → Option (D × Ev)} {g : TG} {tb : TS} {fg : D → Ev → Option Ev} {body : Ev → Option Out} (w : DW) (hd : PureD K td fd) (hg : SatG K pn g fg) (hb : SatS K pn tb body) :
    SatS K pn (fun D σ H => tFor (w.it td) g tb D σ H ∨ tLock (tFor (w.it td) g tb) D σ H) (sFor (wDC w fd) fg body) := by
  refine ⟨fun σ H env ts tds L Lo pv hl hcl p s o e E k => ?_⟩
  unfold sFor at e
  cases e1 : wDC w fd env with
  | none => rw [e1] at e; cases e
  | some pr =>
    obtain ⟨xs, en0⟩ := pr
    simp only [e1] at e
    obtain ⟨e1', q, e2, cl⟩ := wDC_wD e1
    obtain ⟨rfl, a, u, dd, J, hu, rd, na, top, nox, wk, ⟨en, e3⟩, start⟩ := dict_start w hd hl s e1'
    rw [e2] at e3
    cases e3
    have hdc : [dd].all D.closed = true := by rw [List.all_cons, cl]; rfl
    have came : ∀ {H1 : Hp}, Sta K Lo H1 (ts ++ σ) (tds ++ en0) L → Dens K H1 (Nw L Lo) [some (.ref a)] [dd] [] → Came K Lo false H1 (ts ++ σ) tds en0 L H1 [.ref a] [dd] en0 [] L := fun s1 t1 =>
      ⟨s1.good, t1, s1.dens, Ext.refl _ _, fun z => by cases z⟩
    rcases rd with ha | ⟨od, ha⟩
    · refine .inr ⟨a, u, ha, hu.mut, fun od => ?_⟩
      have s1 := Sta.lock (od := od) hu ha na s
      have t1 : Dens K (upd H a (.frz od u)) (Nw L Lo) [some (.ref a)] [dd] [] := top.mono (fun b hb => (List.not_mem_nil hb).elim) fun f b n _ => ⟨n, keep_lock hu ha b⟩
      refine start od _ _ (LkEq.lock od hu ha) upd_same ?_
      refine loop_rest hg hb hl hcl p e (came s1 t1) (wk od) (fun H' hk => by rw [hk a (by rw [upd_same]; exact Option.some_ne_none _) na, upd_same]) hdc ?_
      cases o with
      | nx env2 => exact fun σ' H' L' p' s' x' => let ⟨z1, z2, z3⟩ := Sta.unlock hu ha na x' s'; ⟨z1, k σ' _ L' p' z2 z3⟩
      | bk env2 => exact fun σ' H' L' p' s' x' => let ⟨z1, z2, z3⟩ := Sta.unlock hu ha na x' s'; ⟨z1, k σ' _ L' p' z2 z3⟩
      | ct env2 => exact fun σ' H' L' p' s' x' => let ⟨z1, z2, z3⟩ := Sta.unlock hu ha na x' s'; ⟨z1, k σ' _ L' p' z2 z3⟩
      | rt d env2 => exact fun v σ' H' L' p' s' x' => let ⟨z1, z2, z3⟩ := Sta.unlock hu ha na x' s'; ⟨z1, k v σ' _ L' p' z2 z3⟩
    · refine .inl ?_
      refine start od H _ (fun b => .inl rfl) ha ?_
      exact loop_rest hg hb hl hcl p e (came s top) (wk od) (fun H' hk => by rw [hk a (by rw [ha]; exact Option.some_ne_none _) na, ha]) hdc k
/-! ### bodies -/
theorem SatS0.seq {pn : List Nat} {t u : TS} {f g : Ev → Option Out} (h : SatS0 K pn t f) (h' : SatS0 K pn u g) : SatS0 K pn (tSeq t u) (sSeq f g) := by
  refine ⟨fun σ H env L Lo pv p s o e E k => ?_⟩
  unfold sSeq at e
  have go : ∀ o', f env = some o' → EndsOk K Lo pn pv [] [] L H { E with nx := u E } o' → tSeq t u E σ H := fun o' e1 q => h.run σ H env L Lo pv p s o' e1 _ q
  split at e
  · rename_i en e1
    exact go _ e1 fun σ' H' L' p' s' x' => h'.run σ' H' en L' Lo pv p' s' o e E (k.step x')
  · rename_i hn
    cases o with
    | nx en => exact absurd e (hn en)
    | rt d en => exact go _ e k
    | bk en => exact go _ e k
    | ct en => exact go _ e k
theorem SatS0.cond {pn : List Nat} {tc : TT} {t u : TS} {c : Ev → Option (Bool × Ev)} {f g : Ev → Option Out} (hc : SatBC K tc c) (h : SatS0 K pn t f) (h' : SatS0 K pn u g) : SatS0 K pn (tIfS tc t u) (sIf c f g) := by
  refine ⟨fun σ H env L Lo pv p s o e E k => ?_⟩
  unfold sIf at e
  split at e
  · rename_i en e1
    refine hc.run σ H env [] [] L Lo rfl rfl s _ _ e1 _ fun H' Lb c => ?_
    rw [if_pos rfl]
    exact h.run σ H' en Lb Lo pv p c.base0 o e E (k.step c.ext)
  · rename_i en e1
    refine hc.run σ H env [] [] L Lo rfl rfl s _ _ e1 _ fun H' Lb c => ?_
    rw [if_neg Bool.false_ne_true]
    exact h'.run σ H' en Lb Lo pv p c.base0 o e E (k.step c.ext)
  · cases e
def ownPv : Fl → Fl
  | .own => .pv
  | f => f
/-- slot i is as it was; what still points into it is dropped -/
def backV (i : Nat) (d0 : D) (env : Ev) : Ev := (env.map fun d => if d.noPv then d else .und).set i d0
def backO (i : Nat) (d0 : D) : Out → Option Out
  | .nx env => some (.nx (backV i d0 env))
  | .rt d env => if d.noPv then some (.rt d (backV i d0 env)) else none
  | .bk env => some (.bk (backV i d0 env))
  | .ct env => some (.ct (backV i d0 env))
def sView (i : Nat) (f : Ev → Option Out) : Ev → Option Out := fun env =>
  (env[i]?).bind fun d0 => if d0.isUnd then none else (f (env.set i (D.mapF ownPv d0))).bind (backO i d0)
theorem dens_noPv {H : Hp} {N : Fl → Addr → Prop} : ∀ {σ : List (Option V)} {env : Ev} {L : List Addr}, Dens K H N σ env L → ∃ M, M.Sublist L ∧ Dens K H N σ (env.map fun d => if d.noPv then d else .und) M
  | [], [], _, h => ⟨[], List.nil_sublist _, .nil⟩
  | [], _ :: _, _, h => by cases h.length
  | _ :: _, [], _, h => by cases h.length
  | o :: σ, d :: env, L, h => by
    obtain ⟨L1, L2, rfl, h1, h2⟩ := h.cons
    obtain ⟨M, sb, q⟩ := dens_noPv h2
    rw [List.map_cons]
    split
    · exact ⟨L1 ++ M, List.Sublist.append (List.Sublist.refl _) sb, h1.put q⟩
    · exact ⟨M, sb.trans (List.sublist_append_right ..), .und q⟩
theorem all_noPv (env : Ev) : (env.map fun d => if d.noPv then d else D.und).all D.noPv = true := by
  rw [List.all_map, List.all_eq_true]
  intro d _
  show D.noPv (if d.noPv then d else D.und) = true
  split
  · assumption
  · rfl
theorem SatS0.view {pn : List Nat} {t : TS} {f : Ev → Option Out} (i : Nat) (hi : i ∉ pn) (h : SatS0 K (i :: pn) t f) : SatS0 K pn t (sView i f) := by
  refine ⟨fun σ H env L Lo pv p s o e E k => ?_⟩
  obtain ⟨d0, e0, e⟩ := Option.bind_eq_some_iff.mp e
  split at e
  · cases e
  rename_i hu
  obtain ⟨ob, e1, e2⟩ := Option.bind_eq_some_iff.mp e
  have s0 : Dens K H (Nw L Lo) σ env L := s.dens
  obtain ⟨oo, M1, M2, q1, q2, q3, q4⟩ := s0.take e0
  obtain ⟨x0, rfl⟩ := q3.some1 (und_ne hu)
  have il : i < env.length := (List.getElem?_eq_some_iff.mp e0).1
  have nd := List.nodup_append.mp (q2.nodup_iff.mp s.good.nd)
  let LoV : Lent := fun f a => Lo f a ∨ (f ≠ .view ∧ f ≠ .pv ∧ a ∈ M1)
  have live1 : ∀ a ∈ M1, H a ≠ none := q3.live
  have kn : ∀ f a, Nw L Lo f a → Nw M2 LoV f a := fun f a n => ⟨fun z => n.1 (q2.mem_iff.mpr (List.mem_append_right _ z)), fun z => z.elim n.2 fun z => n.1 (q2.mem_iff.mpr (List.mem_append_left _ z.2.2))⟩
  have gV : Good M2 LoV H := ⟨nd.2.1, fun f a ha z => z.elim (s.good.no f a (q2.mem_iff.mpr (List.mem_append_right _ ha))) fun z => nd.2.2 a z.2.2 a ha rfl, fun f a z => z.elim (s.good.lent f a) fun z => ⟨live1 a z.2.2, q3.notup a z.2.2⟩, fun a z => z.elim (s.good.nov a) fun z => z.1 rfl⟩
  -- the slot's tree, only read
  have q3' : Dens K H (Nw M2 LoV) [some x0] [D.mapF ownPv d0] [] := by
    have := Dens.turn (g := ownPv) (N' := Nw M2 LoV) rfl (fun f hf => by cases f <;> first | rfl | cases hf) q3 (.inr ⟨rfl, fun a ha => ⟨fun z => nd.2.2 a ha a z rfl, fun z => z.elim (s.good.no .pv a (q2.mem_iff.mpr (List.mem_append_left _ ha))) fun z => z.2.1 rfl⟩⟩) (fun f a hf n _ => by
      have := kn f a n
      cases f <;> first | exact this | exact absurd rfl hf) (fun a n _ => kn _ a n)
    exact this
  obtain ⟨M3, L5, sb, pm5, d5⟩ := Dens.setAt q3' (q4.know fun f a n _ => kn f a n) i (by rw [List.length_set]; exact il)
  rw [set_same q1, List.set_set] at d5
  have mem5 : ∀ a ∈ L5, a ∈ M2 := fun a ha => sb.subset (by simpa using pm5.mem_iff.mp ha)
  have nd5 : L5.Nodup := pm5.nodup_iff.mpr (by simpa using sb.nodup nd.2.1)
  have s5 : Sta K LoV H ([] ++ σ) ([] ++ env.set i (D.mapF ownPv d0)) L5 := ⟨gV.sub nd5 mem5, d5.know fun f a n _ => nw_sub mem5 f a n⟩
  have pins : Pins (i :: pn) (fun n => if n = i then x0 else pv n) σ := fun n hn => by
    show σ[n]? = some (some (if n = i then x0 else pv n))
    by_cases z : n = i
    · subst z; rw [if_pos rfl]; exact q1
    · rw [if_neg z]
      rcases List.mem_cons.mp hn with y | y
      · exact absurd y z
      · exact p n y
  have pback : ∀ {σ' : List (Option V)}, Pins (i :: pn) (fun n => if n = i then x0 else pv n) σ' → σ'[i]? = some (some x0) ∧ Pins pn pv σ' := fun {σ'} p' => by
    refine ⟨?_, fun n hn => ?_⟩
    · have := p' i (List.mem_cons_self ..)
      dsimp only at this
      rw [if_pos rfl] at this
      exact this
    · have := p' n (List.mem_cons_of_mem _ hn)
      dsimp only at this
      rw [if_neg (fun z => hi (by rw [← z]; exact hn))] at this
      exact this
  -- the end
  have fin : ∀ {hs : List (Option V)} {hd : List D} {σ' : List (Option V)} {env2 : Ev} {H' : Hp} {L' : List Addr}, hs.length = hd.length → hd.all D.noPv = true → Pins (i :: pn) (fun n => if n = i then x0 else pv n) σ' → Sta K LoV H' (hs ++ σ') (hd ++ env2) L' → Ext L5 H L' H' →
      ∃ L9, Sta K Lo H' (hs ++ σ') (hd ++ backV i d0 env2) L9 ∧ Ext L H L9 H' := by
    intro hs hd σ' env2 H' L' hh hnp p' s' x'
    obtain ⟨si, _⟩ := pback p'
    obtain ⟨Lh, Ls, rfl, b1, b2⟩ := Dens.split hh s'.dens
    obtain ⟨M, sbM, b3⟩ := dens_noPv b2
    have hl2 : σ'.length = env2.length := b2.length
    have il2 : i < env2.length := by have := (List.getElem?_eq_some_iff.mp si).1; omega
    have keep1 : ∀ a ∈ M1, H' a = H a := fun a ha => x'.keep a (live1 a ha) fun z => nd.2.2 a ha a (mem5 a z) rfl
    have off1 : ∀ a ∈ Lh ++ Ls, a ∉ M1 := fun a ha z => (x'.own a ha).elim (fun y => nd.2.2 a z a (mem5 a y) rfl) (live1 a z)
    -- knowledge of what is kept
    have kc : ∀ {τ : List (Option V)} {es : List D} {W : List Addr}, es.all D.noPv = true → Dens K H' (Nw (Lh ++ Ls) LoV) τ es W → Dens K H' (Nw ((Lh ++ Ls) ++ M1) Lo) τ es W := fun {τ es W} ce h => by
      have go : ∀ f a, f ≠ .view → f ≠ .pv → Nw (Lh ++ Ls) LoV f a → Nw ((Lh ++ Ls) ++ M1) Lo f a := fun f a h1 h2 n => ⟨fun z => (List.mem_append.mp z).elim n.1 fun z => n.2 (.inr ⟨h1, h2, z⟩), fun z => n.2 (.inl z)⟩
      exact h.knowC (p := fun f => decide (f ≠ .pv ∧ f ≠ .view)) (fun f a _ hp n _ => go f a (of_decide_eq_true hp).2 (of_decide_eq_true hp).1 n) (fun a us n _ => go .frz a (by decide) (by decide) n) (fun a o us n _ => go .ext a (by decide) (by decide) n) ce
    have c1 := kc hnp b1
    have c3 := kc (all_noPv env2) b3
    have c0 : Dens K H' (Nw ((Lh ++ Ls) ++ M1) Lo) [some x0] [d0] M1 := q3.mono keep1 fun f a n ha => ⟨⟨fun z => (List.mem_append.mp z).elim (fun z => (x'.own a z).elim (fun y => n.1 (q2.mem_iff.mpr (List.mem_append_right _ (mem5 a y)))) ha) fun z => n.1 (q2.mem_iff.mpr (List.mem_append_left _ z)), n.2⟩, Keep.of (x'.keep a ha fun z => n.1 (q2.mem_iff.mpr (List.mem_append_right _ (mem5 a z))))⟩
    obtain ⟨M9, L9, sb9, pm9, d9⟩ := Dens.setAt c0 c3 i (by rw [List.length_map]; exact il2)
    rw [set_same si] at d9
    have memF : ∀ a ∈ Lh ++ L9, a ∈ (Lh ++ Ls) ++ M1 := fun a ha => by
      rcases List.mem_append.mp ha with z | z
      · exact List.mem_append_left _ (List.mem_append_left _ z)
      · rcases List.mem_append.mp (pm9.mem_iff.mp z) with z | z
        · exact List.mem_append_right _ z
        · exact List.mem_append_left _ (List.mem_append_right _ (sbM.subset (sb9.subset z)))
    have sn := List.nodup_append.mp s'.good.nd
    have ndL9 : L9.Nodup := pm9.nodup_iff.mpr (List.nodup_append.mpr ⟨nd.1, sb9.nodup (sbM.nodup sn.2.1), fun b hb c hc e => by subst e; exact off1 b (List.mem_append_right _ (sbM.subset (sb9.subset hc))) hb⟩)
    have ndF : (Lh ++ L9).Nodup := List.nodup_append.mpr ⟨sn.1, ndL9, fun b hb c hc e => by
      subst e
      rcases List.mem_append.mp (pm9.mem_iff.mp hc) with z | z
      · exact off1 b (List.mem_append_left _ hb) z
      · exact sn.2.2 b hb b (sbM.subset (sb9.subset z)) rfl⟩
    refine ⟨Lh ++ L9, ⟨⟨ndF, fun f a ha lo => ?_, fun f a lo => s'.good.lent f a (.inl lo), fun a z => s'.good.nov a (.inl z)⟩, (c1.know fun f a n _ => nw_sub memF f a n).app (d9.know fun f a n _ => nw_sub memF f a n)⟩, ⟨fun a ha n => x'.keep a ha fun z => n (q2.mem_iff.mpr (List.mem_append_right _ (mem5 a z))), fun a ha => ?_, x'.live⟩⟩
    · rcases List.mem_append.mp (memF a ha) with z | z
      · exact s'.good.no f a z (.inl lo)
      · exact s.good.no f a (q2.mem_iff.mpr (List.mem_append_left _ z)) lo
    · rcases List.mem_append.mp (memF a ha) with z | z
      · exact (x'.own a z).imp (fun y => q2.mem_iff.mpr (List.mem_append_right _ (mem5 a y))) id
      · exact .inl (q2.mem_iff.mpr (List.mem_append_left _ z))
  refine h.run σ H _ L5 LoV _ pins s5 ob e1 E ?_
  cases ob with
  | nx env2 =>
    cases e2
    intro σ' H' L' p' s' x'
    obtain ⟨L9, s9, x9⟩ := fin (hs := []) (hd := []) rfl rfl p' s' x'
    exact k σ' H' L9 (pback p').2 s9 x9
  | bk env2 =>
    cases e2
    intro σ' H' L' p' s' x'
    obtain ⟨L9, s9, x9⟩ := fin (hs := []) (hd := []) rfl rfl p' s' x'
    exact k σ' H' L9 (pback p').2 s9 x9
  | ct env2 =>
    cases e2
    intro σ' H' L' p' s' x'
    obtain ⟨L9, s9, x9⟩ := fin (hs := []) (hd := []) rfl rfl p' s' x'
    exact k σ' H' L9 (pback p').2 s9 x9
  | rt d env2 =>
    have e2' : (if d.noPv then some (Out.rt d (backV i d0 env2)) else none) = some o := e2
    split at e2'
    case isFalse => cases e2'
    rename_i hc
    cases e2'
    intro v σ' H' L' p' s' x'
    obtain ⟨L9, s9, x9⟩ := fin (hs := [some v]) (hd := [d]) rfl (by rw [List.all_cons, hc]; rfl) p' s' x'
    exact k v σ' H' L9 (pback p').2 s9 x9
end
end TL

set_option Elab.async false
set_option linter.all false
set_option maxRecDepth 100000
/-! TL39: the rules of text for TL36 to TL38; while. -/
namespace TL
open PySem PySem.Spec PyProof.Rows L2
theorem PS.or {X : Cx} {st : Stmt} {t u : TS} (h : PS X st t) (h' : PS X st u) : PS X st (fun D σ H => t D σ H ∨ u D σ H) := ⟨fun pins s σ H D I q => q.elim (h.run pins s σ H D I) (h'.run pins s σ H D I)⟩
theorem PE.or {X : Cx} {e : Expr} {t u : TE} (h : PE X e t) (h' : PE X e u) : PE X e (fun σ H Q => t σ H Q ∨ u σ H Q) := ⟨fun pins s σ H Q I q => q.elim (h.run pins s σ H Q I) (h'.run pins s σ H Q I)⟩
noncomputable section
/-- while, as long as it takes -/
def sWhile (c : Ev → Option (Bool × Ev)) (body : Ev → Option Out) : Ev → Option Out := fun env => by
  classical
  exact if h : ∃ n o, whileL c body n env = some o then whileL c body h.choose env else none
end
theorem whileL_mono {c : Ev → Option (Bool × Ev)} {body : Ev → Option Out} : ∀ {n m : Nat} {env : Ev} {o : Out}, whileL c body n env = some o → n ≤ m → whileL c body m env = some o
  | 0, _, _, _, h, _ => by cases h
  | n + 1, 0, _, _, _, h => absurd h (Nat.not_succ_le_zero _)
  | n + 1, m + 1, env, o, h, hm => by
    unfold whileL at h ⊢
    split at h
    · cases h
    · rename_i e e1; exact h
    · rename_i e e1
      cases e2 : body e with
      | none => simp only [e2] at h; cases h
      | some o1 =>
        cases o1 with
        | nx e3 => simp only [e2] at h ⊢; exact whileL_mono h (Nat.le_of_succ_le_succ hm)
        | ct e3 => simp only [e2] at h ⊢; exact whileL_mono h (Nat.le_of_succ_le_succ hm)
        | bk e3 => simp only [e2] at h ⊢; exact h
        | rt d e3 => simp only [e2] at h ⊢; exact h
theorem sWhile_of {c : Ev → Option (Bool × Ev)} {body : Ev → Option Out} {n : Nat} {env : Ev} {o : Out} (h : whileL c body n env = some o) : sWhile c body env = some o := by
  unfold sWhile
  have hx : ∃ n o, whileL c body n env = some o := ⟨n, o, h⟩
  rw [dif_pos hx]
  obtain ⟨o2, h2⟩ := hx.choose_spec
  have a := whileL_mono h (Nat.le_max_left n hx.choose)
  have b := whileL_mono h2 (Nat.le_max_right n hx.choose)
  rw [a] at b
  rw [h2, ← Option.some.inj b]
theorem sWhile_ex {c : Ev → Option (Bool × Ev)} {body : Ev → Option Out} {env : Ev} {o : Out} (h : sWhile c body env = some o) : ∃ n, whileL c body n env = some o := by
  unfold sWhile at h
  split at h
  · exact ⟨_, h⟩
  · cases h
theorem SatS.whileX {K : PySem.W.Frag} {pn : List Nat} {tc : TT} {tb : TS} {c : Ev → Option (Bool × Ev)} {body : Ev → Option Out} (hc : SatBC K tc c) (hb : SatS K pn tb body) : SatS K pn (tWhile tc tb) (sWhile c body) :=
  ⟨fun σ H env ts td L Lo pv hl hcl p s o e E k => let ⟨n, en⟩ := sWhile_ex e; (SatS.while (n := n) hc hb).run σ H env ts td L Lo pv hl hcl p s o en E k⟩
section
variable {α : Type} {M : α → Cx} {K : PySem.W.Frag} {P : Program} {w : World} {mg : Str → Option Value} {base : Heap} {k : Nat} {pn : List Nat}
variable {e a b o elt tg iter : Expr} {ifs es : List Expr} {st : Stmt} {rest : List Stmt} {scope : Scope} {p pos apos cpos tpos : Pos} {q q' : Bool} {f g h ff : Ev → Option (D × Ev)} {ft : Ev → Option (Bool × Ev)} {fg : D → Ev → Option Ev} {fb fr : Ev → Option Out} {x : Str} {i : Nat}
theorem ss_whileX {c : Expr} {body : List Stmt} {cc : Ev → Option (Bool × Ev)} (hc : STC M K c cc) (hb : SB M K pn body fb) (hp : ∀ a, PassesOwn (model (M a).prog (M a).w) (M a).A (M a).env (M a).xe := by exact fun _ => PassesOwn.never) : SS M K pn (.While c body [] pos) (sWhile cc fb) :=
  let ⟨t, h1, h2⟩ := hc; let ⟨v, h5, h6⟩ := hb
  ⟨_, fun a => ps_while (hp a) (h1 a) (h5 a), SatS.whileX h2 h6⟩
/-- a pure reading -/
def SPu (M : α → Cx) (K : PySem.W.Frag) (e : Expr) (f : Ev → Option (D × Ev)) : Prop := ∃ t : TE, (∀ a, PE (M a) e t) ∧ PureD K t f
theorem su_var (i : Nat) (hN : ∀ a, (M a).N[i]? = some x := by intro _; rfl) (hv : ∀ a, Vis (M a).env.scope x := by intro _; first | exact Or.inl rfl | exact Or.inr (Or.inl rfl) | exact Or.inr (Or.inr rfl)) (hd : (x == ("__debug__" : Str)) = false := by decide)
    (hcd : (x == ("__classdict__" : Str)) = false := by decide) : SPu M K (.Name x p) (eVar i) := ⟨_, fun a => pe_var (hN a) (hv a) hd hcd, .var i⟩
theorem su_fld {C : Addr} {y : Str} (hK : ∀ a, (M a).K = K) (cl : Cls K C) (na : NoAttr K C y) (ha : SPu M K a f) (hb : ∀ z, attributeBase a y (M z).env (eval a (M z).env) = eval a (M z).env := by intro _; rfl) : SPu M K (.Attribute a y pos) (eOp (gFld C y) (aCons f aNil)) :=
  let ⟨t, h1, h2⟩ := ha; ⟨tFld K t y, fun z => by have := pe_fld (X := M z) (pos := pos) (h1 z) (hb z); rw [hK z] at this; exact this, .fld cl na h2⟩
theorem su_str {y : Str} {j} : SPu M K (.Constant (.str y) j pos) (eC (.str y)) := ⟨_, fun _ => pe_str, .str y⟩
theorem su_int {n : Int} {j} : SPu M K (.Constant (.int n) j pos) (eC (.int n)) := ⟨_, fun _ => pe_int, .int n⟩
theorem su_dget (hu : ∀ a, (M a).A.units + 1 < cLine) (ha : SPu M K a f) (hb : SPu M K b g) (hs : NoSl b := by exact fun _ _ => rfl) : SPu M K (.Subscript a b pos) (eOp gDGet (aCons f (aCons g aNil))) :=
  let ⟨t, h1, h2⟩ := ha; let ⟨u, h3, h4⟩ := hb; ⟨tDGet t u, fun x => pe_dget (hu x) (h1 x) (h3 x) hs, .dget h2 h4⟩
/-- what is walked over: a dict, its values, its items -/
inductive SWk (M : α → Cx) (K : PySem.W.Frag) (tg iter : Expr) (w : DW) (f : Ev → Option (D × Ev)) : Prop
  | mk (t : TE) (h1 : ∀ a, PI (M a) tg iter (w.it t)) (h2 : PureD K t f)
theorem sk_keys (ha : SPu M K a f) : SWk M K tg a .keys f := let ⟨t, h1, h2⟩ := ha; ⟨t, fun x => pi_keys (h1 x), h2⟩
theorem sk_vals (ha : SPu M K a f) (hb : ∀ y, attributeBase a "values" (M y).env (eval a (M y).env) = eval a (M y).env := by intro _; rfl) (hl : (apos.endLine == cpos.line) = true := by rfl) : SWk M K tg (.Call (.Attribute a "values" apos) [] [] cpos) .vals f :=
  let ⟨t, h1, h2⟩ := ha; ⟨t, fun x => pi_values (h1 x) (hb x) hl, h2⟩
theorem sk_items {elts : List Expr} {kk : Nat} (ha : SPu M K a f) (hb : ∀ y, attributeBase a "items" (M y).env (eval a (M y).env) = eval a (M y).env := by intro _; rfl) (hl : (apos.endLine == cpos.line) = true := by rfl) : SWk M K (.Tuple elts kk tpos) (.Call (.Attribute a "items" apos) [] [] cpos) .items f :=
  let ⟨t, h1, h2⟩ := ha; ⟨t, fun x => pi_items (h1 x) (hb x) hl, h2⟩
theorem se_lcD {wk : DW} (F : Fm M P w K mg base k) (own : List (Str × Nat)) (hN : ∀ a, (M a).N.Nodup) (ok : ∀ a, blkC (M a).N (M a).env.scope scope own = true) (hi : SWk M K tg iter wk f) (hg : SV (blkF M scope) K (own.map (·.2)) tg fg) (ht : STs (blkF M scope) K q ifs ft) (he : SE (blkF M scope) K q elt ff)
    (nd : (own.map (·.2)).Nodup := by decide) (hs : ∀ a x, foldedSetIterable iter (M a).env x = pure x := by intro _ _; rfl) : SE M K q (.ListComp elt [⟨tg, iter, ifs, 0⟩] scope pos) (eLc q (own.map (·.2)) (wD wk f) fg ft ff) :=
  let ⟨t, h1, h2⟩ := hi; let ⟨u, h3, h4⟩ := hg; let ⟨v, h5, h6⟩ := ht; let ⟨x, h7, h8⟩ := he
  have pe : ∀ a, PE (M a) (.ListComp elt [⟨tg, iter, ifs, 0⟩] scope pos) (tLc (wk.it t) u v x (own.map (·.2))) := fun a => pe_lc (F.calm a) (hN a) (h1 a) (blkOk_by (ok a)) (fun s H C cl fp => h3 (a, s, H, C, cl, fp)) (fun s H C cl fp => h5 (a, s, H, C, cl, fp)) (fun s H C cl fp => h7 (a, s, H, C, cl, fp)) (hs a)
  ⟨_, fun a => PE.or (pe a) (pe_lock (pe a)), Sat.lcD wk nd h2 h4 h6 h8⟩
theorem ss_setLcD {wk : DW} {y : Str} {py spos : Pos} {i : Nat} {f' : Ev → Option (D × Ev)} (F : Fm M P w K mg base k) (own : List (Str × Nat)) (hN : ∀ a, (M a).N.Nodup) (ok : ∀ a, blkC (M a).N (M a).env.scope scope own = true) (hi : SWk M K tg iter wk f) (hg : SV (blkF M scope) K (own.map (·.2)) tg fg) (ht : STs (blkF M scope) K q ifs ft) (he : SE (blkF M scope) K q elt ff)
    (tr : ∀ t, Sat K q t (eLc q (own.map (·.2)) (wD wk f) fg ft ff) → SatC K t f') (hip : i ∉ pn := by decide)
    (nd : (own.map (·.2)).Nodup := by decide) (hs : ∀ a x, foldedSetIterable iter (M a).env x = pure x := by intro _ _; rfl)
    (hx : ∀ a, (M a).N[i]? = some y := by intro _; rfl) (hyl : ∀ a, (M a).env.scope.names.lookup y = some .local := by intro _; rfl) (hk : ∀ a, (M a).env.scope.kind = .function := by intro _; rfl) (hl : (py.line == pos.line) = true := by rfl) (hn : (scope.names.any fun (n, k) => n == y && (k == .local || k == .cell)) = false := by decide +kernel) :
    SS M K pn (.Assign [.Name y py] (.ListComp elt [⟨tg, iter, ifs, 0⟩] scope pos) spos) (sAsg f' (tgName i)) :=
  let ⟨t, h1, h2⟩ := hi; let ⟨u, h3, h4⟩ := hg; let ⟨v, h5, h6⟩ := ht; let ⟨x, h7, h8⟩ := he
  have ps : ∀ a, PS (M a) (.Assign [.Name y py] (.ListComp elt [⟨tg, iter, ifs, 0⟩] scope pos) spos) (tAsg (tLc (wk.it t) u v x (own.map (·.2))) (gName i)) := fun a => ps_setLc (F.calm a) (hN a) (hx a) (hyl a) (sw_true (hk a) (hyl a) hl hn) (h1 a) (blkOk_by (ok a)) (fun s H C cl fp => h3 (a, s, H, C, cl, fp)) (fun s H C cl fp => h5 (a, s, H, C, cl, fp)) (fun s H C cl fp => h7 (a, s, H, C, cl, fp)) (hs a)
  ⟨_, fun a => PS.or (ps a) (ps_lock (ps a)), show SatS K pn (tAsg (fun σ H Q => tLc (wk.it t) u v x (own.map (·.2)) σ H Q ∨ tLockE (tLc (wk.it t) u v x (own.map (·.2))) σ H Q) (gName i)) _ from .asg (tr _ (Sat.lcD wk nd h2 h4 h6 h8)) (.name hip)⟩
theorem ss_forD {wk : DW} {body : List Stmt} (F : Fm M P w K mg base k) (hi : SWk M K tg iter wk f) (hg : SG M K pn tg fg) (hb : SB M K pn body fb) (hp : ∀ a, PassesOwn (model (M a).prog (M a).w) (M a).A (M a).env (M a).xe := by exact fun _ => PassesOwn.never)
    (hs : ∀ a x, foldedSetIterable iter (M a).env x = pure x := by intro _ _; rfl) : SS M K pn (.For tg iter body [] pos) (sFor (wDC wk f) fg fb) :=
  let ⟨t, h1, h2⟩ := hi; let ⟨u, h3, h4⟩ := hg; let ⟨v, h5, h6⟩ := hb
  have ps : ∀ a, PS (M a) (.For tg iter body [] pos) (tFor (wk.it t) u v) := fun a => ps_for (hp a) (F.calm a) (h1 a) (h3 a) (h5 a) (hs a)
  ⟨_, fun a => PS.or (ps a) (ps_lock (ps a)), SatS.forD wk h2 h4 h6⟩
/-! a body's own statements -/
def SS0 (M : α → Cx) (K : PySem.W.Frag) (pn : List Nat) (st : Stmt) (f : Ev → Option Out) : Prop := ∃ t : TS, (∀ a, PS (M a) st t) ∧ SatS0 K pn t f
theorem SS.z (h : SS M K pn st fb) : SS0 M K pn st fb := let ⟨t, h1, h2⟩ := h; ⟨t, h1, h2.z⟩
theorem ss0_view (i : Nat) (h : SS0 M K (i :: pn) st fb) (hi : i ∉ pn := by decide) : SS0 M K pn st (sView i fb) := let ⟨t, h1, h2⟩ := h; ⟨t, h1, h2.view i hi⟩
theorem ss0_if {c : Expr} {sa sb : List Stmt} {cc : Ev → Option (Bool × Ev)} {g h : Ev → Option Out} (hc : STC M K c cc) (ha : SB0 M K pn sa g) (hb : SB0 M K pn sb h) : SS0 M K pn (.If c sa sb pos) (sIf cc g h) := let ⟨t, a, b⟩ := hc; let ⟨u, a2, b2⟩ := ha; let ⟨v, a3, b3⟩ := hb; ⟨_, fun x => ps_if (a x) (a2 x) (a3 x), .cond b b2 b3⟩
theorem sb0_one (h1 : SS0 M K pn st fb) : SB0 M K pn [st] fb := let ⟨t, a, b⟩ := h1; ⟨_, fun x => pss_one (a x), b⟩
theorem sb0_cons (h1 : SS0 M K pn st fb) (h2 : SB0 M K pn rest fr) : SB0 M K pn (st :: rest) (sSeq fb fr) := let ⟨t, a, b⟩ := h1; let ⟨u, c, d⟩ := h2; ⟨_, fun x => pss_cons (a x) (c x), b.seq d⟩
theorem sb0_nil (h : SB M K pn [] fb) : SB0 M K pn [] fb := h.z
theorem SS.alt {g' : Ev → Option Out} (h : SS M K pn st fb) (e : fb = g') : SS M K pn st g' := e ▸ h
end
end TL

set_option Elab.async false
set_option linter.all false
set_option maxRecDepth 100000
/-! TL40: sorted(d), d a dict of texts; d[f(x)] = c, the index with effects. -/
namespace TL
open PySem PySem.Spec PyProof.Rows L2
theorem perm_sorted_eq {α : Type} {r : α → α → Prop} (as : ∀ a b, r a b → r b a → a = b) : ∀ {l1 l2 : List α}, l1.Perm l2 → l1.Pairwise r → l2.Pairwise r → l1 = l2
  | [], l2, p, _, _ => (List.nil_perm.mp p).symm
  | a :: t, [], p, _, _ => absurd p.length_eq (by simp)
  | a :: t, b :: u, p, h1, h2 => by
    have h1' := List.pairwise_cons.mp h1
    have h2' := List.pairwise_cons.mp h2
    have e : a = b := by
      rcases List.mem_cons.mp (p.mem_iff.mp (List.mem_cons_self ..)) with e | ha
      · exact e
      · rcases List.mem_cons.mp (p.mem_iff.mpr (List.mem_cons_self ..)) with e | hb
        · exact e.symm
        · exact as _ _ (h1'.1 _ hb) (h2'.1 _ ha)
    subst e
    rw [perm_sorted_eq as (List.perm_cons a |>.mp p) h1'.2 h2'.2]
theorem sortedS_pw : ∀ {ys : List Str}, sortedS ys = true → ys.Pairwise fun a b => strLt b a = false
  | [], _ => List.Pairwise.nil
  | x :: r, h => by
    have go : ∀ {r : List Str} {x : Str}, risingS x r = true → (x :: r).Pairwise fun a b => strLt b a = false := by
      intro r
      induction r with
      | nil => intro x _; exact List.pairwise_singleton _ _
      | cons y r ih =>
        intro x h
        have h' : (!ltCps y.cps.toList x.cps.toList && risingS y r) = true := h
        rw [Bool.and_eq_true, Bool.not_eq_true', ltCps_eq] at h'
        have q := ih h'.2
        have q' := List.pairwise_cons.mp q
        refine List.pairwise_cons.mpr ⟨fun z hz => ?_, q⟩
        have hxy : strLt y x = false := h'.1
        rcases List.mem_cons.mp hz with rfl | hz
        · exact hxy
        · exact sl_le_le hxy (q'.1 z hz)
    exact go h
def keyStr : Key → Option Str
  | .inr x => some x
  | .inl _ => none
def gSortedK : List D → Option D
  | [.dK _ kds] => if (kds.all fun p => (keyStr p.1).isSome) && decide (kds.length < 64) then some (.lst .own ((kds.map fun p => keyD p.1).mergeSort leD)) else none
  | _ => none
def gSrt (ds : List D) : Option D := (gSorted ds).or (gSortedK ds)
section
variable {K : PySem.W.Frag}
abbrev rSK : List V → Hp → VK → Prop := fun xs H Q => ∃ (a : Addr) (kvs : List (Key × V)) (ks : List Str), xs = [.ref a] ∧ Rd H a (.dK kvs) ∧ kvs.map (·.1) = ks.map Sum.inr ∧ ks.length < 64 ∧
    ∀ ys p, ys.Perm ks → sortedS ys = true → H p = none → Q (.ref p) (upd H p (.lst (ys.map V.str)))
theorem keys_strs : ∀ (kds : List (Key × D)), (kds.all fun p => (keyStr p.1).isSome) = true → ∃ ks : List Str, kds.map (·.1) = ks.map Sum.inr ∧ (kds.map fun p => keyD p.1) = ks.map D.str
  | [], _ => ⟨[], rfl, rfl⟩
  | (k, d) :: r, h => by
    rw [List.all_cons, Bool.and_eq_true] at h
    obtain ⟨ks, e1, e2⟩ := keys_strs r h.2
    cases k with
    | inl i => cases h.1
    | inr x => exact ⟨x :: ks, by rw [List.map_cons, List.map_cons, e1], by rw [List.map_cons, List.map_cons, e2]; rfl⟩
theorem sort_strs {ks ys : List Str} (p : ys.Perm ks) (s : sortedS ys = true) : (ks.map D.str).mergeSort leD = ys.map D.str := by
  let le : Str → Str → Bool := fun a b => leD (.str a) (.str b)
  have e : (ks.map D.str).mergeSort leD = (ks.mergeSort le).map D.str := by
    rw [List.map_mergeSort]
    intro a _ b _
    rfl
  rw [e]
  congr 1
  have s1 : (ks.mergeSort le).Pairwise fun a b => strLt b a = false := by
    refine (List.pairwise_mergeSort (fun a b c h1 h2 => ?_) (fun a b => ?_) ks).imp fun {a b} h => ?_
    · show leD (.str a) (.str c) = true
      have h1' : leD (.str a) (.str b) = true := h1
      have h2' : leD (.str b) (.str c) = true := h2
      rw [leD_str, Bool.not_eq_true'] at *
      exact sl_le_le h1' h2'
    · show (leD (.str a) (.str b) || leD (.str b) (.str a)) = true
      rw [leD_str, leD_str]
      cases q : strLt b a with
      | false => rfl
      | true => rw [sl_asym q]; rfl
    · have h' : leD (.str a) (.str b) = true := h
      rw [leD_str, Bool.not_eq_true'] at h'
      exact h'
  exact perm_sorted_eq (fun a b h1 h2 => sl_anti h2 h1) ((List.mergeSort_perm _ _).trans p.symm) s1 (sortedS_pw s)
theorem v_sortedK : OpN K rSK gSortedK := by
  intro H N vs ds Lt hd nd d e Q k
  unfold gSortedK at e
  split at e
  · rename_i f kds
    split at e
    · rename_i c
      rw [Bool.and_eq_true, decide_eq_true_eq] at c
      cases e
      obtain ⟨x, rfl, h1⟩ := apart1 hd
      obtain ⟨a, kvs, L1, rfl, rd, _, ek, _, _⟩ := inv_dK h1
      obtain ⟨ks, e1, e2⟩ := keys_strs kds c.1
      have hl := congrArg List.length e1
      rw [List.length_map, List.length_map] at hl
      refine ⟨a, kvs, ks, rfl, rd, ek.trans e1, by omega, fun ys p hp hs hn => ?_⟩
      rw [e2, sort_strs hp hs] at k
      have dl : ∀ (H' : Hp) (N' : Fl → Addr → Prop) (zs : List Str), Dens K H' N' (so (zs.map V.str)) (zs.map D.str) [] := fun H' N' zs => by
        induction zs with
        | nil => exact .nil
        | cons z r ih => exact .str ih
      refine k (.ref p) _ [p] ⟨upd_still hn, fun b hb => .inr (by rw [List.mem_singleton.mp hb]; exact hn), List.nodup_cons.mpr ⟨List.not_mem_nil, List.nodup_nil⟩, fun N' _ _ => ?_⟩
      exact Dens.lstO (L1 := []) (L2 := []) upd_same (dl _ _ ys) .nil
    · cases e
  · cases e
theorem OpN.orL {r r' : List V → Hp → VK → Prop} {g g' : List D → Option D} (h : OpN K r g) (h' : OpN K r' g') : OpN K (fun vs H Q => r vs H Q ∨ r' vs H Q) (fun ds => (g ds).or (g' ds)) := by
  intro H N vs ds Lt hd nd d e Q k
  cases e1 : g ds with
  | some d1 =>
    have e' : (g ds).or (g' ds) = some d := e
    rw [e1] at e'
    cases e'
    exact .inl (h H N vs ds Lt hd nd _ e1 Q k)
  | none =>
    have e' : (g ds).or (g' ds) = some d := e
    rw [e1] at e'
    exact .inr (h' H N vs ds Lt hd nd _ e' Q k)
/-- d[f(x)] = c -/
def sSetX (j : Nat) (d : D) (fx : Ev → Option (D × Ev)) : Ev → Option Out := fun env =>
  (env[j]?).bind fun d0 => if d0.isUnd then none else (fx env).bind fun p => (p.2[j]?).bind fun d1 => if d1.isUnd then none else (mSet d1 [d, p.1]).map fun q => .nx (p.2.set j q.2)
theorem SatS.setX {pn : List Nat} {ti : TE} {v : V} {d : D} {fx : Ev → Option (D × Ev)} (j : Nat) (hv : Flat v d) (hc : d.closed = true) (hx : SatC K ti fx) : SatS K pn (tAsg (tC v) (L2.gSub (tVar j) ti rSetLD)) (sSetX j d fx) := by
  refine ⟨fun σ H env ts td L Lo pv hl hcl p s o e E k => ?_⟩
  obtain ⟨d0, ee0, e⟩ := Option.bind_eq_some_iff.mp e
  split at e
  · cases e
  rename_i nu0
  obtain ⟨⟨di, e1⟩, ee1, e⟩ := Option.bind_eq_some_iff.mp e
  obtain ⟨d1, ee2, e⟩ := Option.bind_eq_some_iff.mp e
  split at e
  · cases e
  rename_i nu1
  obtain ⟨⟨rr, d'⟩, ee3, e⟩ := Option.map_eq_some_iff.mp e
  cases e
  obtain ⟨x, M, q1, q2⟩ := s.slot hl ee0 (und_ne nu0)
  refine ⟨x, q1, ?_⟩
  have s1 : Sta K Lo H ((some v :: ts) ++ σ) ((d :: td) ++ env) L := ⟨s.good, by
    have := Dens.put (L1 := []) (hv K H (Nw L Lo)) s.dens
    exact this⟩
  refine hx.run σ H env (some v :: ts) (d :: td) L Lo (by simp [hl]) (by rw [List.all_cons, hc, hcl]; rfl) s1 di e1 ee1 _ fun iv H2 Lr2 Lb2 c2 => ?_
  -- the value beside the index
  have cc : Came K Lo false H (ts ++ σ) td env L H2 [v, iv] [d, di] e1 Lr2 Lb2 := by
    obtain ⟨L1, L2', eL, b1, b2⟩ := Dens.cons (o := some v) (d := d) (σ := ts ++ σ) (ds := td ++ e1) c2.base
    have := (hv K H2 (Nw (Lr2 ++ Lb2) Lo))
    have l1 : L1 = [] := by
      have hf := hv K H2 (Nw (Lr2 ++ Lb2) Lo)
      have no : ([d]).all D.noOwn = true := dens_nil_noOwn hf rfl
      exact noOwn_nil b1 no
    subst l1
    rw [List.nil_append] at eL
    subst eL
    exact ⟨c2.good, Dens.put (L1 := []) b1 c2.top, b2, c2.ext, fun z => by cases z⟩
  obtain ⟨x', Ld, Lx, f1, f2, f3, f4, f5⟩ := cc.inpl hl ee2 (und_ne' nu1)
  rw [q1] at f1
  cases f1
  have := o_set (K := K) H2 _ x [v, iv] d1 [d, di] Ld Lr2 f2 cc.top f4 (fun f a n z => n.1 (List.mem_append_right _ (f3.mem_iff.mpr (List.mem_append_left _ z)))) _ _ ee3 (fun _ H3 => E.nx σ H3) fun w H3 Lr' Ld' m => by
    obtain ⟨Lb', c'⟩ := f5 w H3 _ _ _ _ m
    exact k σ H3 Lb' p c'.drop.base0 c'.drop.ext
  exact this
end
section
variable {α : Type} {M : α → Cx} {K : PySem.W.Frag} {P : Program} {w : World} {mg : Str → Option Value} {base : Heap} {k : Nat} {pn : List Nat}
variable {e a b o : Expr} {es : List Expr} {p pos tpos : Pos} {q : Bool} {f fx : Ev → Option (D × Ev)} {fs : Ev → Option (List D × Ev)} {ld : List (Option Nat)} {x : Str}
theorem se_srt (F : Fm M P w K mg base k) (ha : SA M K q ld (e :: es) fs) (hm : mg "sorted" = none) (hg : ∀ a, Gl (M a) "sorted" := by intro _; rfl) (he : ∀ a, starEach (e :: es) (M a).env = (false, eval e (M a).env) :: starEach es (M a).env := by intro _; rfl) (hpl : ∀ a, (backTo pos (starEach es (M a).env)).any (·.1) = false := by intro _; rfl) : SE M K q (.Call (.Name "sorted" p) (e :: es) [] pos) (eOp gSrt fs) :=
  se_callB F (r := fun K => fun vs H Q => rSortedD K vs H Q ∨ rSK vs H Q) (fun a => (call_sortedData (X := M a) (F.units a)).or (call_sortedD (F.calm a))) (OpN.orL v_sorted v_sortedK) ha hm (by decide +kernel) hg (by decide) (by decide) he hpl
theorem ss_setX {v : V} {d : D} {j : Nat} {i : Expr} (F : Fm M P w K mg base k) (he : ∀ a, PE (M a) e (tC v)) (hv : Flat v d) (hx : SEC M K i fx) (hc : d.closed = true := by rfl)
    (hN : ∀ a, (M a).N[j]? = some x := by intro _; rfl) (hvis : ∀ a, Vis (M a).env.scope x := by intro _; first | exact Or.inl rfl | exact Or.inr (Or.inl rfl) | exact Or.inr (Or.inr rfl)) (hd : (x == ("__debug__" : Str)) = false := by decide) (hcd : (x == ("__classdict__" : Str)) = false := by decide)
    (ha : ∀ a v, assign (.Subscript (.Name x p) i tpos) (M a).env v = (do
      let ov ← holding [v] (eval (.Name x p) (M a).env)
      let iv ← holding [v, ov] (eval i (M a).env)
      standAt tpos
      holding [v, ov, iv] (setItem ov iv v)
      release [v, ov, iv] []) := by intro _ _; rfl)
    (hs : ∀ a, swapsWithSole [.Subscript (.Name x p) i tpos] e pos.line (M a).env = pure false := by intro _; rfl) (hw : ∀ a, swappedStores [.Subscript (.Name x p) i tpos] e (M a).env = pure none := by intro _; rfl) (h1 : ∀ a, (assignEach [.Subscript (.Name x p) i tpos] (M a).env).map (·.2) = [assign (.Subscript (.Name x p) i tpos) (M a).env] := by intro _; rfl) :
    SS M K pn (.Assign [.Subscript (.Name x p) i tpos] e pos) (sSetX j d fx) :=
  let ⟨u, c, d⟩ := hx
  ⟨_, fun y => ps_asg (he y) (pg_sub (pe_var (pos := p) (hN y) (hvis y) hd hcd) (c y) (set_LD (F.u1 y)) (ha y)) (hs y) (hw y) (h1 y), SatS.setX j hv hc d⟩
end
end TL

set_option Elab.async false
set_option linter.all false
set_option maxRecDepth 100000
/-! TL41: what is known of a result (W), stepped through the combinators applied; flags of trees by classes; the new combinators applied. -/
namespace TL
open PySem PySem.Spec PyProof.Rows L2
/-- there is a result, and it fits -/
def W {α : Type} (o : Option α) (Q : α → Prop) : Prop := ∃ a, o = some a ∧ Q a
@[simp] theorem W_some {α : Type} (a : α) (Q : α → Prop) : W (some a) Q ↔ Q a := ⟨fun ⟨b, e, q⟩ => by cases e; exact q, fun q => ⟨a, rfl, q⟩⟩
@[simp] theorem W_none {α : Type} (Q : α → Prop) : W (none : Option α) Q ↔ False := ⟨fun ⟨b, e, q⟩ => (by cases e), fun q => q.elim⟩
theorem W.imp {α : Type} {o : Option α} {Q R : α → Prop} (h : W o Q) (f : ∀ a, Q a → R a) : W o R := let ⟨a, e, q⟩ := h; ⟨a, e, f a q⟩
theorem W_of {α : Type} {o : Option α} {a : α} (e : o = some a) {Q : α → Prop} (q : Q a) : W o Q := ⟨a, e, q⟩
theorem W_strict {α β : Type} (φ : Option α → Option β) (h : φ none = none) (o : Option α) (Q : β → Prop) : W (φ o) Q ↔ W o (fun a => W (φ (some a)) Q) := by
  cases o with
  | none => rw [h, W_none, W_none]
  | some a => rw [W_some]
@[simp] theorem W_ite {α : Type} (c : Prop) [Decidable c] (a b : Option α) (Q : α → Prop) : W (if c then a else b) Q ↔ (c → W a Q) ∧ (¬ c → W b Q) := by
  by_cases h : c <;> simp [h]
theorem W_iff {α β : Type} (φ : Option α → Option β) (h : φ none = none) (R : α → Prop) (Q : β → Prop) (hs : ∀ a, W (φ (some a)) Q ↔ R a) (o : Option α) : W (φ o) Q ↔ W o R := by
  cases o with
  | none => rw [h, W_none, W_none]
  | some a => rw [W_some]; exact hs a
@[simp] theorem W_map {α β : Type} (f : α → β) (o : Option α) (Q : β → Prop) : W (o.map f) Q ↔ W o (fun a => Q (f a)) := by cases o <;> simp
@[simp] theorem W_bind {α β : Type} (f : α → Option β) (o : Option α) (Q : β → Prop) : W (o.bind f) Q ↔ W o (fun a => W (f a) Q) := by cases o <;> simp
@[simp] theorem W_opR (o : Option D) (e : Ev) (Q : D × Ev → Prop) : W (opR o e) Q ↔ W o (fun d => Q (d, e)) := W_map _ o Q
@[simp] theorem W_opO (g : List D → Option D) (o : Option (List D × Ev)) (Q : D × Ev → Prop) : W (opO g o) Q ↔ W o (fun a => W (opR (g a.1) a.2) Q) := W_iff (opO g) rfl _ Q (fun a => by rw [← ev_opO]) o
@[simp] theorem W_consR (d : D) (o : Option (List D × Ev)) (Q : List D × Ev → Prop) : W (consR d o) Q ↔ W o (fun p => Q (d :: p.1, p.2)) := W_map _ o Q
@[simp] theorem W_consO (o : Option (D × Ev)) (fs) (Q : List D × Ev → Prop) : W (consO o fs) Q ↔ W o (fun a => W (consR a.1 (fs a.2)) Q) := W_iff (fun o => consO o fs) rfl _ Q (fun a => by show W (consO (some (a.1, a.2)) fs) Q ↔ _; rw [ev_consO]) o
@[simp] theorem W_consKO (o : Option (D × Ev)) (fs) (Q : List D × Ev → Prop) : W (consKO o fs) Q ↔ W o (fun a => a.1.closed = true ∧ W (consR a.1 (fs a.2)) Q) := W_iff (fun o => consKO o fs) rfl _ Q (fun a => by
  show W (if a.1.closed then consR a.1 (fs a.2) else none) Q ↔ _
  cases h : a.1.closed <;> simp) o
@[simp] theorem W_consCO (ok) (o : Option (D × Ev)) (fs) (Q : List D × Ev → Prop) : W (consCO ok o fs) Q ↔ W o (fun a => ok a.1 = true ∧ W (consR a.1 (fs a.2)) Q) := W_iff (fun o => consCO ok o fs) rfl _ Q (fun a => by
  show W (if ok a.1 then consR a.1 (fs a.2) else none) Q ↔ _
  cases h : ok a.1 <;> simp) o
@[simp] theorem W_borO (env : Ev) (o : Option (D × Ev)) (Q : D × Ev → Prop) : W (borO env o) Q ↔ W o (fun a => a.1.closed = true ∧ Q (a.1, env)) := W_iff (borO env) rfl _ Q (fun a => by
  show W (if a.1.closed then some (a.1, env) else none) Q ↔ _
  cases h : a.1.closed <;> simp) o
@[simp] theorem W_bborO (env : Ev) (o : Option (Bool × Ev)) (Q : Bool × Ev → Prop) : W (bborO env o) Q ↔ W o (fun a => Q (a.1, env)) := W_iff (bborO env) rfl _ Q (fun a => by show W (some (a.1, env)) Q ↔ _; rw [W_some]) o
@[simp] theorem W_tstO (o : Option (D × Ev)) (Q : Bool × Ev → Prop) : W (tstO o) Q ↔ W o (fun a => ∃ b, a.1 = .bl b ∧ Q (b, a.2)) := W_iff tstO rfl _ Q (fun a => by
  obtain ⟨d, e⟩ := a
  cases d <;> simp [tstO]) o
@[simp] theorem W_enotO (o : Option (D × Ev)) (Q : D × Ev → Prop) : W (enotO o) Q ↔ W o (fun a => ∃ b, a.1 = .bl b ∧ Q (.bl (!b), a.2)) := W_iff enotO rfl _ Q (fun a => by
  obtain ⟨d, e⟩ := a
  cases d <;> simp [enotO]) o
@[simp] theorem W_notO (o : Option (Bool × Ev)) (Q : Bool × Ev → Prop) : W (notO o) Q ↔ W o (fun a => Q (!a.1, a.2)) := W_iff notO rfl _ Q (fun a => by show W (some (!a.1, a.2)) Q ↔ _; rw [W_some]) o
@[simp] theorem W_andO (o : Option (Bool × Ev)) (g) (Q : Bool × Ev → Prop) : W (andO o g) Q ↔ W o (fun a => (a.1 = true → W (g a.2) Q) ∧ (a.1 = false → Q (false, a.2))) := W_iff (fun o => andO o g) rfl _ Q (fun a => by
  obtain ⟨b, e⟩ := a
  cases b <;> simp [andO]) o
@[simp] theorem W_orO (o : Option (Bool × Ev)) (g) (Q : Bool × Ev → Prop) : W (orO o g) Q ↔ W o (fun a => (a.1 = false → W (g a.2) Q) ∧ (a.1 = true → Q (true, a.2))) := W_iff (fun o => orO o g) rfl _ Q (fun a => by
  obtain ⟨b, e⟩ := a
  cases b <;> simp [orO]) o
@[simp] theorem W_ifO (o : Option (Bool × Ev)) (f g) (Q : D × Ev → Prop) : W (ifO o f g) Q ↔ W o (fun a => (a.1 = true → W (f a.2) Q) ∧ (a.1 = false → W (g a.2) Q)) := W_iff (fun o => ifO o f g) rfl _ Q (fun a => by
  obtain ⟨b, e⟩ := a
  cases b <;> simp [ifO]) o
@[simp] theorem W_sifO (o : Option (Bool × Ev)) (f g) (Q : Out → Prop) : W (sifO o f g) Q ↔ W o (fun a => (a.1 = true → W (f a.2) Q) ∧ (a.1 = false → W (g a.2) Q)) := W_iff (fun o => sifO o f g) rfl _ Q (fun a => by
  obtain ⟨b, e⟩ := a
  cases b <;> simp [sifO]) o
@[simp] theorem W_frzO (o : Option (D × Ev)) (Q : D × Ev → Prop) : W (frzO o) Q ↔ W o (fun a => Q (a.1.frz, a.2)) := W_iff frzO rfl _ Q (fun a => by show W (some (a.1.frz, a.2)) Q ↔ _; rw [W_some]) o
@[simp] theorem W_modO (m env) (o : Option (D × Ev)) (Q : D × Ev → Prop) : W (modO m env o) Q ↔ W o (fun a => (a.1.closed = true ∧ (keepM m a.2).all D.closed = true) ∧ Q (a.1, mergeM m a.2 env)) := W_iff (modO m env) rfl _ Q (fun a => by
  show W (if a.1.closed && (keepM m a.2).all D.closed then some (a.1, mergeM m a.2 env) else none) Q ↔ _
  rw [← Bool.and_eq_true]
  cases h : (a.1.closed && (keepM m a.2).all D.closed) <;> simp) o
@[simp] theorem W_calR (ld ds e1) (o : Option (D × List D)) (Q : D × Ev → Prop) : W (calR ld ds e1 o) Q ↔ W o (fun a => W (callOut ld ds a.1 a.2 e1) Q) := W_iff (calR ld ds e1) rfl _ Q (fun a => Iff.rfl) o
@[simp] theorem W_calO (n ld F) (o : Option (List D × Ev)) (Q : D × Ev → Prop) : W (calO n ld F o) Q ↔ W o (fun a => a.1.length = n ∧ W (calR ld a.1 a.2 (F (a.1.map (D.mapF v2p)))) Q) := W_iff (calO n ld F) rfl _ Q (fun a => by
  show W (calO n ld F (some (a.1, a.2))) Q ↔ _
  rw [ev_calO]
  by_cases h : a.1.length = n <;> simp [h]) o
@[simp] theorem W_outO (ok : Bool) (r) (o : Option Ev) (Q : D × Ev → Prop) : W (outO ok r o) Q ↔ W o (fun e2 => Q (if ok then r else D.mapF p2v r, e2)) := W_iff (outO ok r) rfl _ Q (fun a => by show W (some (if ok then r else D.mapF p2v r, a)) Q ↔ _; rw [W_some]) o
/-- what an outcome leads to -/
def outM (a : Out) (g : Ev → Prop) (Q : Out → Prop) : Prop := match a with
  | .nx e => g e
  | o => Q o
@[simp] theorem outM_nx (e g Q) : outM (.nx e) g Q = g e := rfl
@[simp] theorem outM_rt (d e g Q) : outM (.rt d e) g Q = Q (.rt d e) := rfl
@[simp] theorem outM_bk (e g Q) : outM (.bk e) g Q = Q (.bk e) := rfl
@[simp] theorem outM_ct (e g Q) : outM (.ct e) g Q = Q (.ct e) := rfl
@[simp] theorem W_seqO (o : Option Out) (g) (Q : Out → Prop) : W (seqO o g) Q ↔ W o (fun a => outM a (fun e => W (g e) Q) Q) := W_iff (fun o => seqO o g) rfl _ Q (fun a => by cases a <;> simp [seqO]) o
@[simp] theorem W_retO (o : Option (D × Ev)) (Q : Out → Prop) : W (retO o) Q ↔ W o (fun a => Q (.rt a.1 a.2)) := W_iff retO rfl _ Q (fun a => by show W (some (Out.rt a.1 a.2)) Q ↔ _; rw [W_some]) o
@[simp] theorem W_exprO (o : Option (D × Ev)) (Q : Out → Prop) : W (exprO o) Q ↔ W o (fun a => Q (.nx a.2)) := W_iff exprO rfl _ Q (fun a => by show W (some (Out.nx a.2)) Q ↔ _; rw [W_some]) o
@[simp] theorem W_asgO (g) (o : Option (D × Ev)) (Q : Out → Prop) : W (asgO g o) Q ↔ W o (fun a => W (g a.1 a.2) fun e => Q (.nx e)) := W_iff (asgO g) rfl _ Q (fun a => by show W ((g a.1 a.2).map Out.nx) Q ↔ _; rw [W_map]) o
@[simp] theorem W_tgO (g r) (o : Option Ev) (Q : Ev → Prop) : W (tgO g r o) Q ↔ W o (fun e => W (g r e) Q) := W_iff (tgO g r) rfl _ Q (fun a => Iff.rfl) o
@[simp] theorem W_forO (b bd) (o : Option (List D × Ev)) (Q : Out → Prop) : W (forO b bd o) Q ↔ W o (fun a => W (loopL b bd a.1 a.2) Q) := W_iff (forO b bd) rfl _ Q (fun a => Iff.rfl) o
@[simp] theorem W_setO (j fx) (o : Option (D × Ev)) (Q : Out → Prop) : W (setO j fx o) Q ↔ W o (fun a => W (setR j a.1 a.2 a.2[j]? (fx a.2)) Q) := W_iff (setO j fx) rfl _ Q (fun a => by show W (setO j fx (some (a.1, a.2))) Q ↔ _; rw [ev_setO]) o
@[simp] theorem W_rcvO (ok g fs) (o : Option (D × Ev)) (Q : D × Ev → Prop) : W (rcvO ok g fs o) Q ↔ W o (fun a => ok a.1 = true ∧ W (opO (fun ds => g (a.1 :: ds)) (fs a.2)) Q) := W_iff (rcvO ok g fs) rfl _ Q (fun a => by
  show W (if ok a.1 then opO (fun ds => g (a.1 :: ds)) (fs a.2) else none) Q ↔ _
  cases h : ok a.1 <;> simp) o
@[simp] theorem W_itO (g) (o : Option (List D × Ev)) (Q : List D × Ev → Prop) : W (itO g o) Q ↔ W o (fun a => W (g (a.1.map D.frz)) fun xs => Q (xs, a.2)) := W_iff (itO g) rfl _ Q (fun a => by show W ((g (a.1.map D.frz)).map fun xs => (xs, a.2)) Q ↔ _; rw [W_map]) o
@[simp] theorem W_lcO (q vs b t e) (o : Option (List D × Ev)) (Q : D × Ev → Prop) : W (lcO q vs b t e o) Q ↔ W o (fun a => W (lcL q vs b t e [] a.1 a.2) fun p => Q (.lst .own p.1, p.2)) := W_iff (lcO q vs b t e) rfl _ Q (fun a => by show W ((lcL q vs b t e [] a.1 a.2).map fun p => (D.lst .own p.1, p.2)) Q ↔ _; rw [W_map]) o
@[simp] theorem W_dspO (ks) (o : Option (List D × Ev)) (Q : D × Ev → Prop) : W (dspO ks o) Q ↔ W o (fun a => Q (.dK .own (ks.zip a.1), a.2)) := W_iff (dspO ks) rfl _ Q (fun a => by show W (some (D.dK .own (ks.zip a.1), a.2)) Q ↔ _; rw [W_some]) o
@[simp] theorem W_inpS (i g ds e1) (d : D) (Q : D × Ev → Prop) : W (inpS i g ds e1 (some d)) Q ↔ d.isUnd = false ∧ W (g d ds) fun p => Q (p.1, e1.set i p.2) := by
  show W (if d.isUnd then none else (g d ds).map fun p => (p.1, e1.set i p.2)) Q ↔ _
  cases h : d.isUnd <;> simp
@[simp] theorem W_inpR (i g) (o : Option (List D × Ev)) (Q : D × Ev → Prop) : W (inpR i g o) Q ↔ W o (fun a => W (inpS i g a.1 a.2 a.2[i]?) Q) := W_iff (inpR i g) rfl _ Q (fun a => by
  show W (match a.2[i]? with | none => none | some d => if d.isUnd then none else (g d a.1).map fun p => (p.1, a.2.set i p.2)) Q ↔ _
  cases h : a.2[i]? with
  | none => simp [inpS]
  | some d => rfl) o
/-- what a body's outcome leads to -/
def outF (k : Nat) (pn : List Nat) (a : Out) (Q : D × List D → Prop) : Prop := match a with
  | .rt d env => d.closed = true ∧ Q (d, keepArgs pn k env)
  | .nx env => Q (.non, keepArgs pn k env)
  | _ => False
@[simp] theorem outF_rt (k pn d env) (Q : D × List D → Prop) : outF k pn (.rt d env) Q = (d.closed = true ∧ Q (d, keepArgs pn k env)) := rfl
@[simp] theorem outF_nx (k pn env) (Q : D × List D → Prop) : outF k pn (.nx env) Q = Q (.non, keepArgs pn k env) := rfl
@[simp] theorem W_fnO (k pn) (o : Option Out) (Q : D × List D → Prop) : W (fnO k pn o) Q ↔ W o (fun a => outF k pn a Q) := W_iff (fnO k pn) rfl _ Q (fun a => by
  cases a with
  | rt d env =>
    show W (if d.closed then some (d, keepArgs pn k env) else none) Q ↔ d.closed = true ∧ _
    cases h : d.closed <;> simp
  | nx env => simp
  | bk env => simp [fnO, outF]
  | ct env => simp [fnO, outF]) o
theorem W_fn {n k : Nat} {pn : List Nat} {body : Ev → Option Out} {ds : List D} {Q : D × List D → Prop} (hk : ds.length = k) (h : W (body (ds ++ List.replicate (n - k) .und)) fun a => outF k pn a Q) : W (fnD n k pn body ds) Q := by
  rw [ev_fn, if_pos hk, W_fnO]
  exact h
/-- what a turn's outcome leads to -/
def outL (a : Out) (g : Ev → Prop) (Q : Out → Prop) : Prop := match a with
  | .nx e => g e
  | .ct e => g e
  | .bk e => Q (.nx e)
  | .rt d e => Q (.rt d e)
@[simp] theorem outL_nx (e g Q) : outL (.nx e) g Q = g e := rfl
@[simp] theorem outL_ct (e g Q) : outL (.ct e) g Q = g e := rfl
@[simp] theorem outL_bk (e g Q) : outL (.bk e) g Q = Q (.nx e) := rfl
@[simp] theorem outL_rt (d e g Q) : outL (.rt d e) g Q = Q (.rt d e) := rfl
@[simp] theorem W_loopM (b bd xs) (o : Option Out) (Q : Out → Prop) : W (loopM b bd xs o) Q ↔ W o (fun a => outL a (fun e => W (loopL b bd xs e) Q) Q) := W_iff (loopM b bd xs) rfl _ Q (fun a => by cases a <;> simp) o
@[simp] theorem W_loopN (b bd xs) (o : Option Ev) (Q : Out → Prop) : W (loopN b bd xs o) Q ↔ W o (fun e => W (loopM b bd xs (bd e)) Q) := W_iff (loopN b bd xs) rfl _ Q (fun a => Iff.rfl) o
@[simp] theorem W_makF (C ds e1) (o : Option (D × List D)) (Q : D × Ev → Prop) : W (makF C ds e1 o) Q ↔ W o (fun a => W (makG (callOut [some e1.length] (.ins .own C [] :: ds) a.1 a.2 (e1 ++ [.und]))) Q) := W_iff (makF C ds e1) rfl _ Q (fun a => Iff.rfl) o
@[simp] theorem W_makO (n C F) (o : Option (List D × Ev)) (Q : D × Ev → Prop) : W (makO n C F o) Q ↔ W o (fun a => a.1.length + 1 = n ∧ W (makF C a.1 a.2 (F (.ins .own C [] :: a.1.map (D.mapF v2p)))) Q) := W_iff (makO n C F) rfl _ Q (fun a => by
  show W (if a.1.length + 1 = n then makF C a.1 a.2 (F (.ins .own C [] :: a.1.map (D.mapF v2p))) else none) Q ↔ _
  by_cases h : a.1.length + 1 = n <;> simp [h]) o
@[simp] theorem W_fldO (j C x) (o : Option (D × Ev)) (Q : Out → Prop) : W (fldO j C x o) Q ↔ W o (fun a => W (fldR j C x a.1 a.2 a.2[j]?) Q) := W_iff (fldO j C x) rfl _ Q (fun a => Iff.rfl) o
@[simp] theorem W_lndR (i) (o : Option (List D × Ev)) (Q : List D × Ev → Prop) : W (lndR i o) Q ↔ W o (fun a => W (lndS i a.1 a.2 a.2[i]?) Q) := W_iff (lndR i) rfl _ Q (fun a => by
  show W (match a.2[i]? with | none => none | some d => if d.isUnd then none else some (d :: a.1, a.2.set i .und)) Q ↔ _
  cases h : a.2[i]? with
  | none => simp [lndS]
  | some d => rfl) o
@[simp] theorem W_placeOut (i π t1 d ds env) (o : Option (D × List D)) (Q : D × Ev → Prop) : W (placeOut i π t1 d ds env o) Q ↔ W o (fun a => ∃ d' ds', a.2 = d' :: ds' ∧ (a.1.closed = true ∧ (D.mapF v2p d).closed = true ∧ (ds.map (D.mapF v2p)).all D.closed = true ∧ d'.noPv = true ∧ d'.isUnd = false) ∧ Q (if d.closed && ds.all D.closed then a.1 else D.mapF p2v a.1, env.set i (setP π d' t1))) := W_iff (placeOut i π t1 d ds env) rfl _ Q (fun a => by
  obtain ⟨r, ds2⟩ := a
  cases ds2 with
  | nil => simp [placeOut]
  | cons d' ds' =>
    show W (if r.closed && ((D.mapF v2p d).closed && ((ds.map (D.mapF v2p)).all D.closed && (d'.noPv && !d'.isUnd))) then some (if d.closed && ds.all D.closed then r else D.mapF p2v r, env.set i (setP π d' t1)) else none) Q ↔ _
    constructor
    · intro h
      by_cases c : (r.closed && ((D.mapF v2p d).closed && ((ds.map (D.mapF v2p)).all D.closed && (d'.noPv && !d'.isUnd)))) = true
      · rw [if_pos c, W_some] at h
        simp only [Bool.and_eq_true, Bool.not_eq_true'] at c
        exact ⟨d', ds', rfl, c, h⟩
      · rw [if_neg c, W_none] at h
        exact h.elim
    · rintro ⟨d2, ds3, e, c, h⟩
      cases e
      rw [if_pos (by simp only [Bool.and_eq_true, Bool.not_eq_true']; exact c), W_some]
      exact h) o
/-! ### loops -/
theorem for_W {α : Type} {g : α → D} {bind : D → Ev → Option Ev} {body : Ev → Option Out} {Q : Out → Prop} (I : List α → List α → Ev → Prop) {ys : List α} {env : Ev} (h0 : I [] ys env)
    (hs : ∀ done y rest env, ys = done ++ y :: rest → I done (y :: rest) env → W (bind (g y) env) fun e1 => W (body e1) fun o => match o with
      | .nx e2 => I (done ++ [y]) rest e2
      | .ct e2 => I (done ++ [y]) rest e2
      | .bk e2 => Q (.nx e2)
      | .rt d e2 => Q (.rt d e2)) (hQ : ∀ env, I ys [] env → Q (.nx env)) : W (loopL bind body (ys.map g) env) Q := by
  have go : ∀ (rest done : List α) (env : Ev), ys = done ++ rest → I done rest env → W (loopL bind body (rest.map g) env) Q := by
    intro rest
    induction rest with
    | nil =>
      intro done env e h
      rw [List.append_nil] at e
      subst e
      exact ⟨_, rfl, hQ env h⟩
    | cons y rest ih =>
      intro done env e h
      obtain ⟨e1, a1, o, a2, a3⟩ := hs done y rest env e h
      rw [List.map_cons]
      unfold loopL
      simp only [a1, a2]
      cases o with
      | nx e2 => exact ih (done ++ [y]) e2 (by rw [e, List.append_assoc]; rfl) a3
      | ct e2 => exact ih (done ++ [y]) e2 (by rw [e, List.append_assoc]; rfl) a3
      | bk e2 => exact ⟨_, rfl, a3⟩
      | rt d e2 => exact ⟨_, rfl, a3⟩
  exact go ys [] env rfl h0
theorem while_W {c : Ev → Option (Bool × Ev)} {body : Ev → Option Out} {Q : Out → Prop} (I : Nat → Ev → Prop)
    (hs : ∀ m env, I m env → W (c env) fun t => (t.1 = true → W (body t.2) fun o => match o with
      | .nx e2 => ∃ m', m' < m ∧ I m' e2
      | .ct e2 => ∃ m', m' < m ∧ I m' e2
      | .bk e2 => Q (.nx e2)
      | .rt d e2 => Q (.rt d e2)) ∧ (t.1 = false → Q (.nx t.2))) {m : Nat} {env : Ev} (h0 : I m env) : W (sWhile c body env) Q := by
  have go : ∀ m env, I m env → ∃ n, W (whileL c body n env) Q := by
    intro m
    induction m using Nat.strongRecOn with
    | ind m ih =>
      intro env h
      obtain ⟨⟨b, e1⟩, a1, a2, a3⟩ := hs m env h
      cases b with
      | false =>
        refine ⟨1, .nx e1, ?_, a3 rfl⟩
        unfold whileL
        simp only [a1]
      | true =>
        obtain ⟨o, a4, a5⟩ := a2 rfl
        cases o with
        | nx e2 =>
          obtain ⟨m', hm, h'⟩ := a5
          obtain ⟨n, o2, a6, a7⟩ := ih m' hm e2 h'
          refine ⟨n + 1, o2, ?_, a7⟩
          unfold whileL
          simp only [a1, a4, a6]
        | ct e2 =>
          obtain ⟨m', hm, h'⟩ := a5
          obtain ⟨n, o2, a6, a7⟩ := ih m' hm e2 h'
          refine ⟨n + 1, o2, ?_, a7⟩
          unfold whileL
          simp only [a1, a4, a6]
        | bk e2 =>
          refine ⟨1, .nx e2, ?_, a5⟩
          unfold whileL
          simp only [a1, a4]
        | rt d e2 =>
          refine ⟨1, .rt d e2, ?_, a5⟩
          unfold whileL
          simp only [a1, a4]
  obtain ⟨n, o, h1, h2⟩ := go m env h0
  exact ⟨o, sWhile_of h1, h2⟩
/-- a quiet comprehension -/
theorem lc_W {α : Type} {vs : List Nat} {bind : D → Ev → Option Ev} {test : Ev → Option (Bool × Ev)} {elt : Ev → Option (D × Ev)} {env : Ev} {g : α → D} {Q : List D × Ev → Prop} (ys : List α) (p : α → Bool) (h : α → D) (hf : flatAt vs env = true) (hl : ys.length ≤ sizeLine)
    (hs : ∀ y ∈ ys, W (bind (g y) (wipeD env vs)) fun e1 => W (test e1) fun t => t.1 = p y ∧ (p y = true → W (elt t.2) fun r => r.1 = h y)) (hq : Q ((ys.filter p).map h, env)) : W (lcL true vs bind test elt [] (ys.map g) env) Q := by
  have := lc_pure (h := h) (p := p) hf ys (fun y hy => by
    obtain ⟨e1, a1, ⟨b, e2⟩, a2, a3, a4⟩ := hs y hy
    have a3' : b = p y := a3
    subst a3'
    by_cases hp : p y = true
    · obtain ⟨⟨d, e3⟩, a5, a6⟩ := a4 hp
      have a6' : d = h y := a6
      subst a6'
      exact ⟨e1, e2, e3, a1, a2, fun _ => a5⟩
    · exact ⟨e1, e2, e2, a1, a2, fun z => absurd z hp⟩) [] (by simpa using hl)
  exact ⟨_, this, hq⟩
theorem lc_eq {α : Type} {vs : List Nat} {bind : D → Ev → Option Ev} {test : Ev → Option (Bool × Ev)} {elt : Ev → Option (D × Ev)} {env : Ev} {g : α → D} (ys : List α) (p : α → Bool) (h : α → D) (hf : flatAt vs env = true) (hl : ys.length ≤ sizeLine)
    (hs : ∀ y ∈ ys, W (bind (g y) (wipeD env vs)) fun e1 => W (test e1) fun t => t.1 = p y ∧ (p y = true → W (elt t.2) fun r => r.1 = h y)) : lcL true vs bind test elt [] (ys.map g) env = some ((ys.filter p).map h, env) := by
  obtain ⟨a, h1, h2⟩ := lc_W (Q := fun r => r = ((ys.filter p).map h, env)) ys p h hf hl hs rfl
  rw [h1, h2]
/-- a comprehension with effects -/
theorem lcn_W {α : Type} {vs : List Nat} {bind : D → Ev → Option Ev} {test : Ev → Option (Bool × Ev)} {elt : Ev → Option (D × Ev)} {g : α → D} {Q : List D × Ev → Prop} (I : List D → List α → Ev → Prop)
    (hs : ∀ acc y rest env, I acc (y :: rest) env → flatAt vs env = true ∧ acc.length < sizeLine ∧ W (bind (g y) (wipeD env vs)) fun e1 => W (test e1) fun t =>
      (t.1 = true → W (elt t.2) fun r => I (acc ++ [r.1]) rest (restD env (wipeD r.2 vs) vs)) ∧ (t.1 = false → I acc rest (restD env (wipeD t.2 vs) vs)))
    {ys : List α} {env : Ev} (h0 : I [] ys env) (hQ : ∀ acc env, I acc [] env → Q (acc, env)) : W (lcL false vs bind test elt [] (ys.map g) env) Q := by
  have go : ∀ (rest : List α) (acc : List D) (env : Ev), I acc rest env → W (lcL false vs bind test elt acc (rest.map g) env) Q := by
    intro rest
    induction rest with
    | nil => intro acc env h; exact ⟨_, rfl, hQ acc env h⟩
    | cons y rest ih =>
      intro acc env h
      obtain ⟨a1, a2, e1, a3, ⟨b, e2⟩, a4, a5, a6⟩ := hs acc y rest env h
      rw [List.map_cons]
      unfold lcL
      rw [if_pos ⟨a1, a2⟩]
      simp only [a3, a4]
      cases b with
      | true =>
        obtain ⟨⟨d, e3⟩, a7, a8⟩ := a5 rfl
        simp only [a7]
        exact ih _ _ a8
      | false => exact ih _ _ (a6 rfl)
  exact go ys [] env h0
/-! ### flags -/
class GF (g : Fl → Fl) : Prop where
  frz : g .frz = .frz
instance : GF vw := ⟨rfl⟩
instance : GF v2p := ⟨rfl⟩
instance : GF p2v := ⟨rfl⟩
instance : GF zf := ⟨rfl⟩
instance : GF ownPv := ⟨rfl⟩
class PF (p : Fl → Bool) : Prop where
  frz : p .frz = true
instance : PF (fun f => decide (f ≠ .view)) := ⟨rfl⟩
instance : PF (fun f => decide (f ≠ .own)) := ⟨rfl⟩
instance : PF (fun f => decide (f ≠ .pv ∧ f ≠ .view)) := ⟨rfl⟩
instance : PF (fun f => !decide (f = .view)) := ⟨rfl⟩
instance : PF (fun f => !decide (f = .own)) := ⟨rfl⟩
instance : PF (fun f => !decide (f = .pv) && !decide (f = .view)) := ⟨rfl⟩
@[simp] theorem ownPv_own : ownPv .own = .pv := rfl
@[simp] theorem ownPv_frz : ownPv .frz = .frz := rfl
@[simp] theorem ownPv_pv : ownPv .pv = .pv := rfl
/-- only frozen lists and the like in it -/
class Still' (d : D) : Prop where
  fl : D.allF (fun f => decide (f = .frz)) d = true
  nu : d.isUnd = false
mutual
theorem still_mapF {g : Fl → Fl} (hg : g .frz = .frz) : ∀ {d : D}, D.allF (fun f => decide (f = .frz)) d = true → D.mapF g d = d
  | .und, _ => rfl
  | .non, _ => rfl
  | .bl _, _ => rfl
  | .int _, _ => rfl
  | .str _, _ => rfl
  | .ty _, _ => rfl
  | .cls _, _ => rfl
  | .tup xs, h => by rw [D.mapF, still_mapFs hg (show D.allFs _ xs = true from h)]
  | .tupE xs, h => by rw [D.mapF, still_mapFs hg (show D.allFs _ xs = true from h)]
  | .lst f xs, h => by
    have h' : (decide (f = .frz) && D.allFs (fun f => decide (f = .frz)) xs) = true := h
    rw [Bool.and_eq_true, decide_eq_true_eq] at h'
    rw [D.mapF, still_mapFs hg h'.2, h'.1, hg]
  | .dK f xs, h => by
    have h' : (decide (f = .frz) && D.allFk (fun f => decide (f = .frz)) xs) = true := h
    rw [Bool.and_eq_true, decide_eq_true_eq] at h'
    rw [D.mapF, still_mapFk hg h'.2, h'.1, hg]
  | .dT f xs, h => by
    have h' : (decide (f = .frz) && D.allFt (fun f => decide (f = .frz)) xs) = true := h
    rw [Bool.and_eq_true, decide_eq_true_eq] at h'
    rw [D.mapF, still_mapFt hg h'.2, h'.1, hg]
  | .ins f C xs, h => by
    have h' : (decide (f = .frz) && D.allFf (fun f => decide (f = .frz)) xs) = true := h
    rw [Bool.and_eq_true, decide_eq_true_eq] at h'
    rw [D.mapF, still_mapFf hg h'.2, h'.1, hg]
theorem still_mapFs {g : Fl → Fl} (hg : g .frz = .frz) : ∀ {xs : List D}, D.allFs (fun f => decide (f = .frz)) xs = true → D.mapFs g xs = xs
  | [], _ => rfl
  | x :: r, h => by
    have h' : (D.allF (fun f => decide (f = .frz)) x && D.allFs (fun f => decide (f = .frz)) r) = true := h
    rw [Bool.and_eq_true] at h'
    rw [D.mapFs, still_mapF hg h'.1, still_mapFs hg h'.2]
theorem still_mapFk {g : Fl → Fl} (hg : g .frz = .frz) : ∀ {xs : List (Key × D)}, D.allFk (fun f => decide (f = .frz)) xs = true → D.mapFk g xs = xs
  | [], _ => rfl
  | (k, x) :: r, h => by
    have h' : (D.allF (fun f => decide (f = .frz)) x && D.allFk (fun f => decide (f = .frz)) r) = true := h
    rw [Bool.and_eq_true] at h'
    rw [D.mapFk, still_mapF hg h'.1, still_mapFk hg h'.2]
theorem still_mapFt {g : Fl → Fl} (hg : g .frz = .frz) : ∀ {xs : List (List Key × D)}, D.allFt (fun f => decide (f = .frz)) xs = true → D.mapFt g xs = xs
  | [], _ => rfl
  | (k, x) :: r, h => by
    have h' : (D.allF (fun f => decide (f = .frz)) x && D.allFt (fun f => decide (f = .frz)) r) = true := h
    rw [Bool.and_eq_true] at h'
    rw [D.mapFt, still_mapF hg h'.1, still_mapFt hg h'.2]
theorem still_mapFf {g : Fl → Fl} (hg : g .frz = .frz) : ∀ {xs : List (Str × D)}, D.allFf (fun f => decide (f = .frz)) xs = true → D.mapFf g xs = xs
  | [], _ => rfl
  | (k, x) :: r, h => by
    have h' : (D.allF (fun f => decide (f = .frz)) x && D.allFf (fun f => decide (f = .frz)) r) = true := h
    rw [Bool.and_eq_true] at h'
    rw [D.mapFf, still_mapF hg h'.1, still_mapFf hg h'.2]
end
mutual
theorem still_allF {p : Fl → Bool} (hp : p .frz = true) : ∀ {d : D}, D.allF (fun f => decide (f = .frz)) d = true → D.allF p d = true
  | .und, _ => rfl
  | .non, _ => rfl
  | .bl _, _ => rfl
  | .int _, _ => rfl
  | .str _, _ => rfl
  | .ty _, _ => rfl
  | .cls _, _ => rfl
  | .tup xs, h => by rw [D.allF, still_allFs hp (show D.allFs _ xs = true from h)]
  | .tupE xs, h => by rw [D.allF, still_allFs hp (show D.allFs _ xs = true from h)]
  | .lst f xs, h => by
    have h' : (decide (f = .frz) && D.allFs (fun f => decide (f = .frz)) xs) = true := h
    rw [Bool.and_eq_true, decide_eq_true_eq] at h'
    rw [D.allF, still_allFs hp h'.2, h'.1, hp]; rfl
  | .dK f xs, h => by
    have h' : (decide (f = .frz) && D.allFk (fun f => decide (f = .frz)) xs) = true := h
    rw [Bool.and_eq_true, decide_eq_true_eq] at h'
    rw [D.allF, still_allFk hp h'.2, h'.1, hp]; rfl
  | .dT f xs, h => by
    have h' : (decide (f = .frz) && D.allFt (fun f => decide (f = .frz)) xs) = true := h
    rw [Bool.and_eq_true, decide_eq_true_eq] at h'
    rw [D.allF, still_allFt hp h'.2, h'.1, hp]; rfl
  | .ins f C xs, h => by
    have h' : (decide (f = .frz) && D.allFf (fun f => decide (f = .frz)) xs) = true := h
    rw [Bool.and_eq_true, decide_eq_true_eq] at h'
    rw [D.allF, still_allFf hp h'.2, h'.1, hp]; rfl
theorem still_allFs {p : Fl → Bool} (hp : p .frz = true) : ∀ {xs : List D}, D.allFs (fun f => decide (f = .frz)) xs = true → D.allFs p xs = true
  | [], _ => rfl
  | x :: r, h => by
    have h' : (D.allF (fun f => decide (f = .frz)) x && D.allFs (fun f => decide (f = .frz)) r) = true := h
    rw [Bool.and_eq_true] at h'
    rw [D.allFs, still_allF hp h'.1, still_allFs hp h'.2]; rfl
theorem still_allFk {p : Fl → Bool} (hp : p .frz = true) : ∀ {xs : List (Key × D)}, D.allFk (fun f => decide (f = .frz)) xs = true → D.allFk p xs = true
  | [], _ => rfl
  | (k, x) :: r, h => by
    have h' : (D.allF (fun f => decide (f = .frz)) x && D.allFk (fun f => decide (f = .frz)) r) = true := h
    rw [Bool.and_eq_true] at h'
    rw [D.allFk, still_allF hp h'.1, still_allFk hp h'.2]; rfl
theorem still_allFt {p : Fl → Bool} (hp : p .frz = true) : ∀ {xs : List (List Key × D)}, D.allFt (fun f => decide (f = .frz)) xs = true → D.allFt p xs = true
  | [], _ => rfl
  | (k, x) :: r, h => by
    have h' : (D.allF (fun f => decide (f = .frz)) x && D.allFt (fun f => decide (f = .frz)) r) = true := h
    rw [Bool.and_eq_true] at h'
    rw [D.allFt, still_allF hp h'.1, still_allFt hp h'.2]; rfl
theorem still_allFf {p : Fl → Bool} (hp : p .frz = true) : ∀ {xs : List (Str × D)}, D.allFf (fun f => decide (f = .frz)) xs = true → D.allFf p xs = true
  | [], _ => rfl
  | (k, x) :: r, h => by
    have h' : (D.allF (fun f => decide (f = .frz)) x && D.allFf (fun f => decide (f = .frz)) r) = true := h
    rw [Bool.and_eq_true] at h'
    rw [D.allFf, still_allF hp h'.1, still_allFf hp h'.2]; rfl
end
@[simp] theorem S_map (g : Fl → Fl) [GF g] (d : D) [h : Still' d] : D.mapF g d = d := still_mapF GF.frz h.fl
@[simp] theorem S_all (p : Fl → Bool) [PF p] (d : D) [h : Still' d] : D.allF p d = true := still_allF PF.frz h.fl
@[simp] theorem S_und (d : D) [h : Still' d] : d.isUnd = false := h.nu
theorem still_list {α : Type} {enc : α → D} [h : ∀ a, Still' (enc a)] (xs : List α) : D.allFs (fun f => decide (f = .frz)) (xs.map enc) = true := by
  rw [allFs_all, List.all_map, List.all_eq_true]
  exact fun a _ => (h a).fl
@[simp] theorem S_maps {α : Type} (g : Fl → Fl) [GF g] (enc : α → D) [h : ∀ a, Still' (enc a)] (xs : List α) : D.mapFs g (xs.map enc) = xs.map enc := still_mapFs GF.frz (still_list xs)
@[simp] theorem S_alls {α : Type} (p : Fl → Bool) [PF p] (enc : α → D) [h : ∀ a, Still' (enc a)] (xs : List α) : D.allFs p (xs.map enc) = true := still_allFs PF.frz (still_list xs)
instance (i : Int) : Still' (.int i) := ⟨rfl, rfl⟩
instance (s : Str) : Still' (.str s) := ⟨rfl, rfl⟩
instance (b : Bool) : Still' (.bl b) := ⟨rfl, rfl⟩
instance : Still' .non := ⟨rfl, rfl⟩
instance {α : Type} (enc : α → D) [∀ a, Still' (enc a)] (xs : List α) : Still' (.lst .frz (xs.map enc)) := ⟨by rw [D.allF, still_list]; rfl, rfl⟩
instance {α : Type} (enc : α → D) [∀ a, Still' (enc a)] (xs : List α) : Still' (.tup (xs.map enc)) := ⟨by rw [D.allF, still_list], rfl⟩
/-! ### the new combinators applied -/
@[simp] theorem ev_setP (i πf f fx) (env : Ev) : sSetP i πf f fx env = (f env).bind fun p => (πf p.2).bind fun π => (p.2[i]?).bind fun t1 => (getP π t1).bind fun _ => (fx p.2).bind fun x => (liftP π mSet t1 [p.1, x.1]).map fun q => .nx (p.2.set i q.2) := rfl
@[simp] theorem ev_setX (j d fx) (env : Ev) : sSetX j d fx env = (env[j]?).bind fun d0 => if d0.isUnd then none else (fx env).bind fun p => (p.2[j]?).bind fun d1 => if d1.isUnd then none else (mSet d1 [d, p.1]).map fun q => .nx (p.2.set j q.2) := rfl
@[simp] theorem ev_inplP (i πf ok g fs) (env : Ev) : eInplP i πf ok g fs env = (πf env).bind fun π => (env[i]?).bind fun t1 => (getP π t1).bind fun d => if ok d then (fs env).bind fun p => (liftP π g t1 p.1).map fun q => (q.1, env.set i q.2) else none := rfl
@[simp] theorem ev_callP (n i πf C m F fs) (env : Ev) : eCallP n i πf C m F fs env = (πf env).bind fun π => (env[i]?).bind fun t1 => (getP π t1).bind fun d => if isIns C m d then (fs env).bind fun p => if p.1.length + 1 = n then placeOut i π t1 d p.1 env (F (D.mapF v2p d :: p.1.map (D.mapF v2p))) else none else none := rfl
@[simp] theorem ev_placeOut (i π t1 d ds env r d' ds') : placeOut i π t1 d ds env (some (r, d' :: ds')) = if r.closed && ((D.mapF v2p d).closed && ((ds.map (D.mapF v2p)).all D.closed && (d'.noPv && !d'.isUnd))) then some (if d.closed && ds.all D.closed then r else D.mapF p2v r, env.set i (setP π d' t1)) else none := rfl
@[simp] theorem ev_pVar (env : Ev) : pVar env = some [] := rfl
@[simp] theorem ev_pFld (C f πf) (env : Ev) : pFld C f πf env = (πf env).map (· ++ [.fld C f]) := rfl
@[simp] theorem ev_pKey (πf fk) (env : Ev) : pKey πf fk env = (πf env).bind fun π => (fk env).bind fun p => (D.key p.1).map fun k => π ++ [.key k] := rfl
@[simp] theorem key_str (x : Str) : D.key (.str x) = some (.inr x) := rfl
@[simp] theorem key_int (x : Int) : D.key (.int x) = some (.inl x) := rfl
@[simp] theorem getP_nil (d : D) : getP [] d = if d.isUnd then none else some d := rfl
@[simp] theorem getP_cons (s π) (d : D) : getP (s :: π) d = (get1 s d).bind fun e => if e.isUnd then none else getP π e := rfl
@[simp] theorem setP_nil (d' d : D) : setP [] d' d = d' := rfl
theorem setP_cons' (s π) (d' d0 : D) : setP (s :: π) d' d0 = match get1 s d0 with
  | some e => set1 s (setP π d' e) d0
  | none => d0 := rfl
@[simp] theorem liftP_nil (g) : liftP [] g = g := rfl
@[simp] theorem liftP_cons (s π g) (d0 : D) (ds : List D) : liftP (s :: π) g d0 ds = (get1 s d0).bind fun d => if d.isUnd then none else (liftP π g d ds).map fun p => (p.1, set1 s p.2 d0) := rfl
@[simp] theorem ev_sview (i f) (env : Ev) : sView i f env = (env[i]?).bind fun d0 => if d0.isUnd then none else (f (env.set i (D.mapF ownPv d0))).bind (backO i d0) := rfl
@[simp] theorem ev_backN (i d0 env) : backO i d0 (.nx env) = some (.nx (backV i d0 env)) := rfl
@[simp] theorem ev_wD (w f) (env : Ev) : wD w f env = (f env).bind fun p => (w.xs p.1).map fun xs => (xs, p.2) := rfl
@[simp] theorem ev_wDC (w f) (env : Ev) : wDC w f env = (f env).bind fun p => if p.1.closed then (w.xs p.1).map fun xs => (xs, p.2) else none := rfl
@[simp] theorem ka_11 (a b : D) (env : Ev) : keepArgs [1] 2 (a :: b :: env) = [.und, b] := rfl
@[simp] theorem ka_05 (a : D) (env : Ev) : keepArgs [0] 5 (a :: env) = [a, .und, .und, .und, .und] := rfl
@[simp] theorem ka_06 (a : D) (env : Ev) : keepArgs [0] 6 (a :: env) = [a, .und, .und, .und, .und, .und] := rfl
@[simp] theorem ka_n5 (env : Ev) : keepArgs [] 5 env = [.und, .und, .und, .und, .und] := rfl
@[simp] theorem ka_n6 (env : Ev) : keepArgs [] 6 env = [.und, .und, .und, .und, .und, .und] := rfl
end TL

set_option Elab.async false
set_option linter.all false
set_option maxRecDepth 100000
/-! TL44: sorted(d.items()), d a dict of texts to texts. -/
namespace TL
open PySem PySem.Spec PyProof.Rows L2
abbrev TT := Str × Str
abbrev leTT : TT → TT → Bool := PySem.W.dataLe false fun p : TT => .tuple [.str p.1, .str p.2]
abbrev tt (p : TT) : Key × V := (Sum.inr p.1, V.str p.2)
def rItemsV : V → List V → Hp → VK → Prop := fun x xs H Q => ∃ (a : Addr) (kvs : List (Key × V)), x = .ref a ∧ xs = [] ∧ Rd H a (.dK kvs) ∧ ∀ p, H p = none → Q (.ref p) (upd H p (DX.itemsO p a))
theorem raw_of {P : Program} {w : World} {h : Heap} {a : Addr} {vs : List (Key × Value)} {ep : Nat} (x : h.DictAt (mixKind P w) a vs ep) : ∃ es, DT.Raw h a es ep ∧ Pairs (mixKind P w) es.toList vs := let ⟨o, es, ho, hc, hd, _, hp, _⟩ := x; ⟨es, ⟨o, ho, hc, hd⟩, hp⟩
theorem mt_itemsV {X : Cx} : MtR X "dict.items" rItemsV := by
  intro pins s σ H x xs v us Q I rx rxs h
  obtain ⟨a, kvs, rfl, rfl, ha, q⟩ := h
  cases rx
  cases rxs
  obtain ⟨z, lo, vs, rel, dd⟩ := dk_rd I.hok ha
  obtain ⟨ep, hat⟩ := dd.dictAt
  obtain ⟨es, raw, _⟩ := raw_of hat
  refine DT.callItems (es := es) (ep := ep) lo raw ?_
  have hf : H s.heap.objs.size = none := I.hok.fresh (Nat.le_refl _)
  exact ⟨.ref s.heap.objs.size, upd H s.heap.objs.size (DX.itemsO s.heap.objs.size a), I.laid (t' := s.toks) (fun b u e => Heap.get?_push_of_some _ e) (Nat.le_refl _) (DX.itemsO_ok (Heap.get?_push_size _ rfl)), rfl, q _ hf⟩
def rSortTT : List V → Hp → VK → Prop := fun vs H Q => ∃ (p a : Addr) (ks : List TT), vs = [.ref p] ∧ H p = some (DX.itemsO p a) ∧ Rd H a (.dK (ks.map tt)) ∧
  ∀ (H' : Hp) (l : Addr) (zs : List (Addr × TT)), (∀ b o, H b = some o → H' b = some o) → zs.map (·.2) = ks.mergeSort leTT → H l = none → (∀ z ∈ zs, H z.1 = none ∧ z.1 ≠ l) → H' l = some (.lst (zs.map fun z => V.ref z.1)) →
    (∀ z ∈ zs, H' z.1 = some (.tup [.str z.2.1, .str z.2.2])) → Q (.ref l) H'
theorem pairs_get {P : Program} {w : World} : ∀ {es : List DictEntry} {vs : List (Key × Value)}, Pairs (mixKind P w) es vs → ∀ (j : Nat) (e : DictEntry), es[j]? = some e → ∃ k x, vs[j]? = some (k, x) ∧ (mixKind P w).is k e.key = true ∧ e.val = x
  | _, _, .nil, j, e, h => by simp at h
  | _, _, .cons (kv := kv) h1 h2 hr, 0, e, h => by
    cases h
    exact ⟨kv.1, kv.2, rfl, h1, h2⟩
  | _, _, .cons h1 h2 hr, j + 1, e, h => pairs_get hr j e h
theorem paired_r {α β : Type} {G : α → β → Prop} : ∀ {l₁ : List α} {l₂ : List β}, Paired G l₁ l₂ → ∀ {i : Nat} {b : β}, l₂[i]? = some b → ∃ a, l₁[i]? = some a ∧ G a b
  | _, _, .nil, i, b, h => by simp at h
  | _, _, .cons r t, 0, b, h => by cases h; exact ⟨_, rfl, r⟩
  | _, _, .cons r t, i + 1, b, h => paired_r t h
theorem each_zip {P : Value → Addr × TT → Prop} : ∀ (as : List Addr) (ks : List TT), as.length = ks.length → (∀ (j : Nat) (b : Addr) (e : TT), as[j]? = some b → ks[j]? = some e → P (.ref b) (b, e)) → PySem.W.EachIs P (as.map Value.ref) (as.zip ks)
  | [], [], _, _ => .nil
  | [], _ :: _, h, _ => by cases h
  | _ :: _, [], h, _ => by cases h
  | a :: as, k :: ks, h, hp => .cons (hp 0 a k rfl rfl) (each_zip as ks (Nat.succ.inj h) fun j b e h1 h2 => hp (j + 1) b e h1 h2)
theorem each_out : ∀ {out : List Value} {zs : List (Addr × TT)}, PySem.W.EachIs (fun (v : Value) (b : Addr × TT) => v = Value.ref b.1) out zs → out = zs.map fun z => Value.ref z.1
  | _, _, .nil => rfl
  | _, _, .cons h t => by rw [List.map_cons, ← each_out t, h]
theorem vals_refs : ∀ zs : List (Addr × TT), Vals (zs.map fun z => V.ref z.1) (zs.map fun z => Value.ref z.1)
  | [] => .nil
  | _ :: r => .cons rfl (vals_refs r)
theorem cr_sortTT {X : Cx} (hc : X.calm = true) (hu : X.A.units + 64 < cLine) : CallR X (.builtin "sorted") rSortTT := by
  intro pins s σ H xs us Q I r h
  obtain ⟨p, a, ks, rfl, hp, ha, q⟩ := h
  obtain rfl := Vals.ref1 r
  have view : s.heap.IsItemsView p a := (show ObjOk X.prog X.w H s.heap p (DX.itemsO p a) from I.hok p _ hp).1
  obtain ⟨z, lo, vs, rel, dd⟩ := dk_rd I.hok ha
  obtain ⟨ep, hat⟩ := dd.dictAt
  obtain ⟨es, raw, prs⟩ := raw_of hat
  have l1 : (ks.map tt).length = vs.length := Paired.length rel
  rw [List.length_map] at l1 z
  have l2 : es.size = vs.length := by have := prs.length; rw [Array.length_toList] at this; exact this
  have hh : X.A.handled = none := I.ok.hd hc
  refine DT.sortedI (es := es) (ep := ep) hh view raw (by omega) fun h' tk as hk hlt hl hG => ?_
  have lak : as.length = ks.length := by omega
  have nd : as.Nodup := List.Pairwise.imp (fun h => Nat.ne_of_lt h) hG.rise
  have pr : ∀ (j : Nat) (b : Addr), as[j]? = some b → ∃ (e : TT) (u v : Tok), ks[j]? = some e ∧ h'.get? b = some { cls := .type "tuple", data := .seq #[Value.str e.1 u, Value.str e.2 v] } := by
    intro j b hj
    obtain ⟨en, he, hg⟩ := hG.pairs j b hj
    obtain ⟨k, x, e1, e2, e3⟩ := pairs_get prs j en (by rw [Array.getElem?_toList]; exact he)
    obtain ⟨kv, f1, f2, f3⟩ := paired_r rel e1
    rw [List.getElem?_map] at f1
    cases f4 : ks[j]? with
    | none => rw [f4] at f1; cases f1
    | some e =>
      rw [f4] at f1
      have f5 : tt e = kv := Option.some.inj f1
      subst f5
      have f2' : Sum.inr e.1 = k := f2
      subst f2'
      obtain ⟨v, rv⟩ : ∃ v, x = .str e.2 v := f3
      rcases keyIs_shape (show keyIs (.inr e.1) en.key = true from e2) with ⟨i, t, e7, _⟩ | ⟨w, t, e7, e8⟩
      · cases e7
      · cases e7
        refine ⟨e, t, v, rfl, ?_⟩
        rw [hg, e8, e3, rv]
        all_goals rfl
  have hob : (h'.push { cls := .type "list", data := .seq (as.map Value.ref).toArray }).get? h'.objs.size = some (seqObj "list" (as.map Value.ref).toArray 0) := Heap.get?_push_size _ rfl
  have kb : ∀ b o, s.heap.get? b = some o → (h'.push { cls := .type "list", data := .seq (as.map Value.ref).toArray }).get? b = some o := fun b o e => Heap.get?_push_of_some _ (hk b o e)
  have ne0 : ∀ b o, h'.get? b = some o → b ≠ h'.objs.size := fun b o e => Nat.ne_of_lt (Heap.lt_size e)
  generalize hh2 : h'.push { cls := .type "list", data := .seq (as.map Value.ref).toArray } = h2 at hob kb ⊢
  have ka : ∀ b o, h'.get? b = some o → h2.get? b = some o := fun b o e => by rw [← hh2]; exact Heap.get?_push_of_some _ e
  refine PySem.W.list_sort_data (s := { s with heap := h2, toks := tk }) (vs := as.map Value.ref) (bs := as.zip ks) (enc := fun b : Addr × TT => .tuple [.str b.2.1, .str b.2.2]) (R := fun v b => v = Value.ref b.1) hob (each_zip as ks lak fun _ _ _ _ _ => rfl) (each_zip as ks lak fun j b e h1 h2' => ?_) ?_ ?_ (by rw [List.length_zip]; omega) (fun b _ => ?_) fun out ho eo => ?_
  · obtain ⟨e', u, v, g1, g2⟩ := pr j b h1
    have : e' = e := Option.some.inj (g1.symm.trans h2')
    subst this
    exact ⟨_, Reads.tuple (ka _ _ g2) rfl rfl (ReadsAll.cons (Reads.str e'.1 u) (ReadsAll.cons (Reads.str e'.2 v) ReadsAll.nil)), by simp⟩
  · intro d hd d' hd'
    obtain ⟨b, _, rfl⟩ := List.mem_map.mp hd
    obtain ⟨b', _, rfl⟩ := List.mem_map.mp hd'
    simp [PySem.W.alike, PySem.W.alikeAll]
  · refine .inl fun d hd => ?_
    obtain ⟨b, _, rfl⟩ := List.mem_map.mp hd
    exact ⟨_, _, rfl⟩
  · show X.A.units + 1 + 1 + 1 < cLine
    omega
  · obtain ⟨zs, hzs⟩ : ∃ zs, zs = (as.zip ks).mergeSort (PySem.W.dataLe false fun b : Addr × TT => .tuple [.str b.2.1, .str b.2.2]) := ⟨_, rfl⟩
    rw [← hzs] at eo
    have hout := each_out eo
    have pz : zs.Perm (as.zip ks) := by rw [hzs]; exact List.mergeSort_perm _ _
    have hsort : zs.map (·.2) = ks.mergeSort leTT := by
      have e := List.map_mergeSort (r := PySem.W.dataLe false fun b : Addr × TT => .tuple [.str b.2.1, .str b.2.2]) (s := leTT) (f := fun b : Addr × TT => b.2) (l := as.zip ks) (fun a _ b _ => rfl)
      rw [hzs]
      refine e.trans ?_
      have e2 : (as.zip ks).map (fun b : Addr × TT => b.2) = ks := List.map_snd_zip (by rw [lak]; exact Nat.le_refl _)
      rw [e2]
    have idx : ∀ z ∈ zs, ∃ j : Nat, as[j]? = some z.1 ∧ ks[j]? = some z.2 := by
      intro z' hz'
      obtain ⟨j, hj⟩ := List.mem_iff_getElem?.mp (pz.mem_iff.mp hz')
      exact ⟨j, List.getElem?_zip_eq_some.mp hj⟩
    show EP X pins σ Q (.ref h'.objs.size) { s with heap := sortedHeap h2 h'.objs.size (as.map Value.ref) (List.toArray out), toks := tk }
    have kF : ∀ b o, b ≠ h'.objs.size → h2.get? b = some o → (sortedHeap h2 h'.objs.size (as.map Value.ref) (List.toArray out)).get? b = some o := fun b o hb e => (PyProof.Rows.sortedHeap_old hb (Heap.lt_size e)).trans e
    have kS : ∀ b o, s.heap.get? b = some o → (sortedHeap h2 h'.objs.size (as.map Value.ref) (List.toArray out)).get? b = some o := fun b o e => kF b o (ne0 _ _ (hk b o e)) (kb b o e)
    obtain ⟨eF, heF⟩ := PyProof.Rows.sortedHeap_at (vs := as.map Value.ref) (out := List.toArray out) hob
    have I1 : Inv X pins σ H { s with heap := sortedHeap h2 h'.objs.size (as.map Value.ref) (List.toArray out), toks := tk } := I.kept (t' := tk) kS
    have hn0 : H h'.objs.size = none := I.hok.fresh (Nat.le_of_lt hlt)
    have hlen : (zs.map fun z => V.ref z.1).length ≤ sizeLine := by
      rw [List.length_map, pz.length_eq, List.length_zip]
      omega
    have rv : Vals (zs.map fun z => V.ref z.1) out := by
      rw [hout]
      exact vals_refs zs
    have I2 : Inv X pins σ (upd H h'.objs.size (.lst (zs.map fun z => V.ref z.1))) { s with heap := sortedHeap h2 h'.objs.size (as.map Value.ref) (List.toArray out), toks := tk } :=
      I1.take (h' := sortedHeap h2 h'.objs.size (as.map Value.ref) (List.toArray out)) (t' := tk) (fun b ob _ e => e) (I.fpOk (Nat.le_of_lt hlt) hn0) ⟨hlen, out, eF, rv, heF⟩
    obtain ⟨H2, I3, g, qt⟩ := DX.takeT (P := fun b vs => ∃ (j : Nat) (e : TT), as[j]? = some b ∧ ks[j]? = some e ∧ vs = [.str e.1, .str e.2]) I as _ I2 nd fun b hb => by
      obtain ⟨j, hj⟩ := List.mem_iff_getElem?.mp hb
      obtain ⟨e, u, v, he, hg⟩ := pr j b hj
      have hbl : s.heap.objs.size ≤ b := Nat.le_of_lt (hG.above b hb)
      refine ⟨hbl, ?_, [.str e.1, .str e.2], ⟨j, e, hj, he, rfl⟩, fun H3 => ⟨(by rw [sizeLine_eq]; show 2 ≤ 16777216; omega), [Value.str e.1 u, Value.str e.2 v], .cons ⟨u, rfl⟩ (.cons ⟨v, rfl⟩ .nil), ⟨_, kF _ _ (ne0 _ _ hg) (ka _ _ hg), rfl, 0, rfl⟩⟩⟩
      rw [upd_ne (ne0 _ _ hg)]
      exact I.hok.fresh hbl
    have gr : ∀ b o, H b = some o → H2 b = some o := fun b o e => g b o (by rw [upd_ne (ne_of_none e hn0)]; exact e)
    refine ⟨.ref h'.objs.size, H2, I3, rfl, q H2 h'.objs.size zs gr hsort hn0 (fun z' hz' => ?_) (g _ _ upd_same) fun z' hz' => ?_⟩
    · obtain ⟨i, i1, i2⟩ := idx z' hz'
      have hb := List.mem_of_getElem? i1
      obtain ⟨e, u, v, he, hg⟩ := pr i z'.1 i1
      exact ⟨I.hok.fresh (Nat.le_of_lt (hG.above _ hb)), ne0 _ _ hg⟩
    · obtain ⟨i, i1, i2⟩ := idx z' hz'
      obtain ⟨vs, ⟨j, e, j1, j2, ev⟩, hH⟩ := qt z'.1 (List.mem_of_getElem? i1)
      have eij : i = j := (List.getElem?_inj (List.getElem?_eq_some_iff.mp i1).1 nd).mp (i1.trans j1.symm)
      subst eij
      have ee : e = z'.2 := Option.some.inj (j2.symm.trans i2)
      rw [ev, ee] at hH
      exact hH
theorem pe_itemsR {X : Cx} {e : Expr} {te : TE} {apos cpos : Pos} (he : PE X e te) (hbase : attributeBase e "items" X.env (eval e X.env) = eval e X.env := by rfl) (hline : (apos.endLine == cpos.line) = true := by rfl) :
    PE X (.Call (.Attribute e "items" apos) [] [] cpos) (fun σ H Q => te σ H fun x H1 => rItemsV x [] H1 Q) := by
  refine ⟨fun pins s σ H Q I hq => ?_⟩
  refine wpAny_Call_method (T := "dict") (id := "dict.items") hbase rfl hline F.plainAttrs_dict F.slot_dict_items F.type_dict_items (thn (he.run pins s σ H _ I hq) fun u s1 ⟨x, H1, I1, rx, r⟩ => ?_)
  obtain ⟨a, kvs, ex, _, hd, q⟩ := id r
  subst ex
  obtain rfl : u = Value.ref a := rx
  obtain ⟨hz, hs0, vs, kv, hdo⟩ := hd.ok I1.hok
  refine ⟨hdo.typeIs, hdo.mapOf.noDict, ?_⟩
  show wpAny _ _ (callWith cpos (.builtin "dict.items") [.ref a] [] []) _ X.xe s1
  exact Calls.callWith_builtin rfl (PySem.evalArgs_none (mt_itemsV pins s1 σ H1 (.ref a) [] _ [] Q I1 rfl .nil r))
def textsKD : List (Key × D) → Option (List TT)
  | [] => some []
  | (.inr k, .str v) :: r => (textsKD r).map ((k, v) :: ·)
  | _ :: _ => none
def gSortI : List D → Option D
  | [.dK _ kds] => (textsKD kds).map fun ks => .lst .own ((ks.mergeSort leTT).map fun p => .tup [.str p.1, .str p.2])
  | _ => none
theorem texts_v {K : PySem.W.Frag} {H : Hp} {N : Fl → Addr → Prop} : ∀ {kvs : List (Key × V)} {kds : List (Key × D)} {L : List Addr} {ks : List TT}, kvs.map (·.1) = kds.map (·.1) → Dens K H N (sv kvs) (kds.map (·.2)) L → textsKD kds = some ks → kvs = ks.map tt
  | [], [], _, ks, _, _, e => by cases e; rfl
  | [], _ :: _, _, _, e, _, _ => by cases e
  | _ :: _, [], _, _, e, _, _ => by cases e
  | (k1, v) :: kvs, (k2, d) :: kds, L, ks, e, h, ek => by
    obtain ⟨e1, e2⟩ := List.cons.inj e
    obtain rfl : k1 = k2 := e1
    obtain ⟨L1, L2, rfl, h1, h2⟩ := Dens.cons (o := some v) (d := d) (σ := sv kvs) (ds := kds.map (·.2)) h
    cases k1 with
    | inl i => cases d <;> cases ek
    | inr x =>
      cases d <;> try (cases ek; done)
      rename_i y
      obtain ⟨ms, e3, rfl⟩ := Option.map_eq_some_iff.mp (show (textsKD kds).map ((x, y) :: ·) = some ks from ek)
      have := Option.some.inj (one_str h1).1
      rw [this, texts_v e2 h2 e3]
      rfl
abbrev rSI : V → Hp → VK → Prop := fun x H Q => rItemsV x [] H fun v H2 => rSortTT [v] H2 Q
theorem dens_tt {K : PySem.W.Frag} {H : Hp} {N : Fl → Addr → Prop} : ∀ {zs : List (Addr × TT)}, (∀ z ∈ zs, N .frz z.1) → (∀ z ∈ zs, H z.1 = some (.tup [.str z.2.1, .str z.2.2])) → Dens K H N (so (zs.map fun z => V.ref z.1)) ((zs.map (·.2)).map fun p => D.tup [.str p.1, .str p.2]) []
  | [], _, _ => .nil
  | z :: r, hn, hh => Dens.tup (L1 := []) (L2 := []) (hh z (List.mem_cons_self ..)) (hn z (List.mem_cons_self ..)) (.str (.str .nil)) (dens_tt (fun y hy => hn y (List.mem_cons_of_mem _ hy)) fun y hy => hh y (List.mem_cons_of_mem _ hy))
theorem v_sortI {K : PySem.W.Frag} : OpN K (rN1 rSI) gSortI := by
  intro H N vs ds Lt hd nd d e Q k
  unfold gSortI at e
  split at e
  · obtain ⟨ks, e1, rfl⟩ := Option.map_eq_some_iff.mp e
    obtain ⟨x, rfl, h1⟩ := apart1 hd
    obtain ⟨a, kvs, L1, rfl, ea, _, ek, q3, s1⟩ := inv_dK h1
    have hk := texts_v ek q3 e1
    refine ⟨a, kvs, rfl, rfl, ea, fun p hp => ?_⟩
    have up : ∀ b o, H b = some o → upd H p (DX.itemsO p a) b = some o := fun b o hb => by rw [upd_ne (ne_of_none hb hp)]; exact hb
    refine ⟨p, a, ks, rfl, upd_same, ?_, fun H' l zs gr hs hl hz hll hzz => ?_⟩
    · rw [← hk]
      rcases ea with ea | ⟨o, ea⟩
      · exact .inl (up _ _ ea)
      · exact .inr ⟨o, up _ _ ea⟩
    · have none_of : ∀ b, upd H p (DX.itemsO p a) b = none → H b = none := fun b hb => by
        cases q : H b with
        | none => rfl
        | some o => rw [up b o q] at hb; cases hb
      rw [← hs] at k
      have hnl := none_of _ hl
      refine k (.ref l) H' [l] ⟨fun b hb => ?_, fun b hb => .inr (by rw [List.mem_singleton.mp hb]; exact hnl), List.nodup_cons.mpr ⟨List.not_mem_nil, List.nodup_nil⟩, fun N' hN hnew => ?_⟩
      · cases q : H b with
        | none => exact absurd q hb
        | some o => exact gr b o (up b o q)
      · exact Dens.lstO (L1 := []) (L2 := []) hll (dens_tt (fun z' hz' => hnew .frz z'.1 (none_of _ (hz z' hz').1) fun m => (hz z' hz').2 (List.mem_singleton.mp m)) hzz) .nil
  · cases e
section
variable {α : Type} {M : α → Cx} {K : PySem.W.Frag} {P : Program} {w : World} {mg : Str → Option Value} {base : Heap} {k : Nat}
variable {o : Expr} {p apos cpos pos : Pos} {q : Bool} {f : Ev → Option (D × Ev)}
theorem se_sortI (F : Fm M P w K mg base k) (ho : SE M K q o f) (hm : mg "sorted" = none) (hg : ∀ a, Gl (M a) "sorted" := by intro _; rfl)
    (hbase : ∀ y, attributeBase o "items" (M y).env (eval o (M y).env) = eval o (M y).env := by intro _; rfl) (hline : (apos.endLine == cpos.line) = true := by rfl)
    (hs : ∀ y, starEach [.Call (.Attribute o "items" apos) [] [] cpos] (M y).env = (false, eval (.Call (.Attribute o "items" apos) [] [] cpos) (M y).env) :: starEach [] (M y).env := by intro _; rfl) (hpl : ∀ a, (backTo pos (starEach [] (M a).env)).any (·.1) = false := by intro _; rfl) :
    SE M K (q && true) (.Call (.Name "sorted" p) [.Call (.Attribute o "items" apos) [] [] cpos] [] pos) (eOp gSortI (aCons f aNil)) :=
  let ⟨t, a1, a2⟩ := ho
  ⟨_, fun y => pe_callB (cr_sortTT (F.calm y) (by have h : (M y).A.units + 100 < cLine := F.units y; omega)) (hg y) (by rw [F.mg y]; exact hm) (by decide +kernel) (pa_cons (pe_itemsR (a1 y) (hbase y) hline) pa_nil (hs y)) (by decide) (by decide) (hs y) (hpl y), Sat.op1 (r := rSI) a2 v_sortI⟩
end
end TL

set_option Elab.async false
set_option linter.all false
set_option maxRecDepth 100000
/-! TL46: a name for a place that a setdefault may have made; a setdefault behind a setdefault. -/
namespace TL
open PySem PySem.Spec PyProof.Rows L2
section
variable {K : PySem.W.Frag} {H : Hp} {N : Fl → Addr → Prop}
theorem Dens.zip1a {x : V} {s : Stp} {d0 d : D} {L0 : List Addr} (h : Dens K H N [some x] [d0] L0) (e : get1 s d0 = some d) (hd : d ≠ .und) :
    ∃ (p : Addr) (v : V) (Ld Lr : List Addr), x = .ref p ∧ Read1 H x s v ∧ L0.Perm (p :: (Ld ++ Lr)) ∧ Dens K H N [some v] [d] Ld ∧ ∀ H' : Hp, H' p = H p → Read1 H' x s v := by
  cases s with
  | fld C f =>
    cases d0 <;> try (cases e; done)
    rename_i fl C' fs
    cases fl <;> try (cases e; done)
    have e' : (if C' = C then lookD fs f else none) = some d := e
    split at e'
    · rename_i hC
      subst hC
      obtain ⟨a, dx, kvs, L1, rfl, ea, rfl, ek, q⟩ := ins_own h
      obtain ⟨v, Ld, Lr, mix, v1, pm, v2, qm, back⟩ := look_split ek q e' hd
      exact ⟨a, v, Ld, Lr, rfl, ⟨a, dx, kvs, rfl, ea, v1⟩, pm.cons a, v2, fun H' hp => ⟨a, dx, kvs, rfl, hp.trans ea, v1⟩⟩
    · cases e'
  | key kk =>
    cases d0 <;> try (cases e; done)
    rename_i fl kds
    cases fl <;> try (cases e; done)
    obtain ⟨a, kvs, L1, rfl, ea, rfl, ek, q⟩ := dK_own h
    obtain ⟨v, Ld, Lr, mix, v1, pm, v2, qm, back⟩ := look_split ek q e hd
    exact ⟨a, v, Ld, Lr, rfl, ⟨a, kvs, rfl, ea, v1⟩, pm.cons a, v2, fun H' hp => ⟨a, kvs, rfl, hp.trans ea, v1⟩⟩
  | ix j =>
    cases d0 <;> try (cases e; done)
    rename_i fl xs
    cases fl <;> try (cases e; done)
    obtain ⟨a, us, L1, rfl, ea, rfl, q⟩ := lst_own h
    obtain ⟨v, Ld, Lr, mix, v1, pm, v2, qm, back⟩ := at_split (j := j) q e hd
    exact ⟨a, v, Ld, Lr, rfl, ⟨a, us, rfl, ea, v1⟩, pm.cons a, v2, fun H' hp => ⟨a, us, rfl, hp.trans ea, v1⟩⟩
/-- what stands along a path stays while the tree's cells stay -/
theorem Dens.reads : ∀ {π : List Stp} {x : V} {d0 d : D} {L0 : List Addr}, Dens K H N [some x] [d0] L0 → getP π d0 = some d → ∃ v, ReadsP H x π v ∧ ∀ H' : Hp, (∀ b ∈ L0, H' b = H b) → ReadsP H' x π v
  | [], x, _, _, _, _, _ => ⟨x, rfl, fun _ _ => rfl⟩
  | s :: π, x, d0, d, L0, h, e => by
    obtain ⟨e1, h1, h2⟩ := Option.bind_eq_some_iff.mp (show (get1 s d0).bind (fun e => if e.isUnd then none else getP π e) = some d from e)
    split at h2
    · cases h2
    · rename_i hu
      obtain ⟨p, v, Ld, Lr, rfl, r1, pm, dv, kp⟩ := h.zip1a h1 (und_ne hu)
      obtain ⟨w, r2, k2⟩ := dv.reads h2
      exact ⟨w, ⟨v, r1, r2⟩, fun H' hb => ⟨v, kp H' (hb p (pm.mem_iff.mpr (List.mem_cons_self ..))), k2 H' fun b hh => hb b (pm.mem_iff.mpr (List.mem_cons_of_mem _ (List.mem_append_left _ hh)))⟩⟩
/-- the dict at a path's end is written: the path stays -/
theorem Dens.readsEnd : ∀ {π : List Stp} {x : V} {d0 : D} {kds : List (Key × D)} {L0 : List Addr} {a : Addr}, Dens K H N [some x] [d0] L0 → L0.Nodup → getP π d0 = some (.dK .own kds) → ReadsP H x π (.ref a) → a ∈ L0 ∧ ∀ H' : Hp, (∀ b, b ≠ a → H' b = H b) → ReadsP H' x π (.ref a)
  | [], x, d0, kds, L0, a, h, _, e, r => by
    have e' : (if d0.isUnd then none else some d0) = some (D.dK .own kds) := e
    split at e'
    · cases e'
    · cases e'
      have r' : x = .ref a := r
      subst r'
      obtain ⟨a', kvs, L1, ea, _, rfl, _, _⟩ := dK_own h
      cases ea
      exact ⟨List.mem_cons_self .., fun _ _ => rfl⟩
  | s :: π, x, d0, kds, L0, a, h, nd, e, ⟨u, r1, r2⟩ => by
    obtain ⟨e1, h1, h2⟩ := Option.bind_eq_some_iff.mp (show (get1 s d0).bind (fun e => if e.isUnd then none else getP π e) = some (D.dK .own kds) from e)
    split at h2
    · cases h2
    · rename_i hu
      obtain ⟨p, v, Ld, Lr, rfl, r1', pm, dv, kp⟩ := h.zip1a h1 (und_ne hu)
      obtain rfl := r1.fn r1'
      have nd' := List.nodup_cons.mp (pm.nodup_iff.mp nd)
      obtain ⟨m, k2⟩ := dv.readsEnd (List.nodup_append.mp nd'.2).1 h2 r2
      exact ⟨pm.mem_iff.mpr (List.mem_cons_of_mem _ (List.mem_append_left _ m)), fun H' hb => ⟨u, kp H' (hb p fun z => nd'.1 (by rw [z]; exact List.mem_append_left _ m)), k2 H' hb⟩⟩
end
section
variable {K : PySem.W.Frag}
/-- a reading that ends at a place, which it may have made -/
structure PlcE (K : PySem.W.Frag) (t : TE) (i : Nat) (πf : Ev → Option (List Stp × Ev)) : Prop where
  run : ∀ (σ : L2.St) (H : Hp) (env : Ev) (ts : List (Option V)) (td : List D) (L : List Addr) (Lo : Lent), ts.length = td.length → Sta K Lo H (ts ++ σ) (td ++ env) L → ∀ π env' d0 d, πf env = some (π, env') → env'[i]? = some d0 → getP π d0 = some d → ∀ Q : VK,
    (∀ x0 v H' L', σ[i]? = some (some x0) → ReadsP H' x0 π v → Ext L H L' H' → Sta K Lo H' (ts ++ σ) (td ++ env') L' → Q v H') → t σ H Q
def pStay (πf : Ev → Option (List Stp)) : Ev → Option (List Stp × Ev) := fun env => (πf env).map fun π => (π, env)
theorem PlcE.of {t : TE} {i : Nat} {πf : Ev → Option (List Stp)} (h : Plc K t i πf) : PlcE K t i (pStay πf) := ⟨fun σ H env ts td L Lo hl s π env' d0 d e1 e2 e3 Q k => by
  obtain ⟨π', e4, e5⟩ := Option.map_eq_some_iff.mp e1
  cases e5
  exact h.run σ H env ts td L Lo hl s π d0 d e4 e2 e3 Q fun x0 v H' q1 q2 q3 q4 => k x0 v H' L q1 q2 (Ext.of_still q3 fun a ha => .inl ha) q4⟩
def pSetd (i : Nat) (πf : Ev → Option (List Stp)) (fk fd : Ev → Option (D × Ev)) : Ev → Option (List Stp × Ev) := fun env =>
  (πf env).bind fun π => (env[i]?).bind fun t0 => (getP π t0).bind fun dc => if dc.isD then (fk env).bind fun p => (fd env).bind fun q => (D.key p.1).bind fun k => (liftP π mSetd t0 [p.1, q.1]).map fun r => (π ++ [.key k], env.set i r.2) else none
theorem mSetd_own {d : D} {ds : List D} {r : D × D} (h : mSetd d ds = some r) : ∃ kds, d = .dK .own kds := by
  unfold mSetd at h
  split at h
  · exact ⟨_, rfl⟩
  · cases h
theorem liftP_get {g : D → List D → Option (D × D)} : ∀ {π : List Stp} {t0 d : D} {ds : List D} {r : D × D}, liftP π g t0 ds = some r → getP π t0 = some d → ∃ r', g d ds = some r'
  | [], t0, d, ds, r, h, e => by
    have e' : (if t0.isUnd then none else some t0) = some d := e
    split at e'
    · cases e'
    · cases e'
      exact ⟨r, h⟩
  | s :: π, t0, d, ds, r, h, e => by
    obtain ⟨e1, h1, h2⟩ := Option.bind_eq_some_iff.mp (show (get1 s t0).bind (fun e => if e.isUnd then none else getP π e) = some d from e)
    have h' : (get1 s t0).bind (fun d => if d.isUnd then none else (liftP π g d ds).map fun p => (p.1, set1 s p.2 t0)) = some r := h
    rw [h1] at h'
    have h3 : (if e1.isUnd then none else (liftP π g e1 ds).map fun p => (p.1, set1 s p.2 t0)) = some r := h'
    split at h3
    · cases h3
    · rename_i hu
      rw [if_neg hu] at h2
      obtain ⟨q, h4, _⟩ := Option.map_eq_some_iff.mp h3
      exact liftP_get h4 h2
theorem PlcE.setd {to ty tx : TE} {i : Nat} {πf : Ev → Option (List Stp)} {fk fd : Ev → Option (D × Ev)} (hp : Plc K to i πf) (hk : Sat K true ty fk) (hd : Sat K true tx fd) : PlcE K (tDM rSetdG to (tCons ty (tCons tx tNil))) i (pSetd i πf fk fd) := by
  refine ⟨fun σ H env ts td L Lo hl s π env' d0 d e1 e2 e3 Q k => ?_⟩
  obtain ⟨π0, f1, e1⟩ := Option.bind_eq_some_iff.mp e1
  obtain ⟨t0, f2, e1⟩ := Option.bind_eq_some_iff.mp e1
  obtain ⟨dc, f3, e1⟩ := Option.bind_eq_some_iff.mp e1
  split at e1
  case isFalse => cases e1
  rename_i okd
  obtain ⟨⟨dk, en1⟩, f4, e1⟩ := Option.bind_eq_some_iff.mp e1
  obtain ⟨⟨dd, en2⟩, f5, e1⟩ := Option.bind_eq_some_iff.mp e1
  obtain ⟨kk, f6, e1⟩ := Option.bind_eq_some_iff.mp e1
  obtain ⟨⟨rr, t1⟩, f7, e1⟩ := Option.map_eq_some_iff.mp e1
  cases e1
  have il : i < env.length := (List.getElem?_eq_some_iff.mp f2).1
  have e2' : d0 = t1 := by
    rw [List.getElem?_set_self il] at e2
    exact (Option.some.inj e2).symm
  subst e2'
  refine hp.run σ H env ts td L Lo hl s π0 t0 dc f1 f2 f3 _ fun x0 v H1 q1 q2 q3 q4 => ?_
  obtain ⟨x1, M, r1, r2⟩ := q4.slot hl f2 (und_ne (getP_und f3))
  rw [q1] at r1
  cases r1
  obtain ⟨w, _, _, _, r3, _, r4, _⟩ := r2.zip f3
  obtain rfl := q2.fn r3
  refine ⟨isD_ty okd r4, ?_⟩
  refine hk.run σ H1 env ts td L Lo hl q4 dk en1 f4 _ fun y H2 Lr2 Lb2 c2 => ?_
  obtain ⟨he, st2, hb, _⟩ := c2.quiet rfl
  have he' := he.symm
  have hb' := hb.symm
  subst he' hb'
  have ey : y = kV kk := key_v c2.top f6
  subst ey
  have s2 : Sta K Lo H2 (ts ++ σ) (td ++ env) L := c2.drop.base0
  refine hd.run σ H2 env ts td L Lo hl s2 dd en2 f5 _ fun z H3 Lr3 Lb3 c3 => ?_
  obtain ⟨he, st3, hb, _⟩ := c3.quiet rfl
  have he' := he.symm
  have hb' := hb.symm
  subst he' hb'
  have c : Came K Lo true H2 (ts ++ σ) td env L H3 [kV kk, z] [dk, dd] env Lr3 L := ⟨c3.good, key_dens f6 c3.top, c3.base, c3.ext, c3.quiet⟩
  obtain ⟨x', Ld, Lx, g1, g2, g3, g4, g5⟩ := c.inpl hl f2 (und_ne (getP_und f3))
  rw [q1] at g1
  cases g1
  have rd3 : ReadsP H3 x0 π0 v := q2.still (st2.trans st3)
  obtain ⟨r', em⟩ := liftP_get f7 f3
  obtain ⟨kds, rfl⟩ := mSetd_own em
  have mm := (o_setd (K := K)).liftP π0 H3 _ x0 [kV kk, z] t0 [dk, dd] Ld Lr3 g2 c.top g4 (fun f a n z => n.1 (List.mem_append_right _ (g3.mem_iff.mpr (List.mem_append_left _ z)))) _ _ f7 (fun w H4 => ∀ v', ReadsP H4 x0 (π0 ++ [.key kk]) v' → Q v' H4) fun w H4 Lr' Ld' m v' rv => by
    obtain ⟨Lb', c4⟩ := g5 w H4 _ _ _ _ m
    exact k x0 v' H4 Lb' q1 rv (((Ext.of_still (L' := L) q3 fun a ha => .inl ha).trans c2.drop.ext).trans c4.drop.ext) c4.drop.base0
  obtain ⟨yv, hy, a', kvs', k', ey, ek2, ea', hlen, pres, abs⟩ := mm
  obtain rfl := hy.fn rd3
  subst ey
  have kk2 : kk = k' := by
    cases kk <;> cases k' <;> first | (cases ek2; rfl) | cases ek2
  subst kk2
  obtain ⟨_, re⟩ := g2.readsEnd (List.nodup_append.mp g4).1 f3 rd3
  exact ⟨a', rfl, .inl ⟨kvs', kk, ea', rfl, hlen, fun v1 hv => pres v1 hv v1 (hy.snoc ⟨a', kvs', rfl, ea', hv⟩), fun hn => abs hn z ((re _ fun b hb => upd_ne hb).snoc ⟨a', _, rfl, upd_same, by rw [valV_put, if_pos rfl]⟩)⟩⟩
def sName (i j : Nat) (πf : Ev → Option (List Stp × Ev)) (B : Ev → Option Out) : Ev → Option Out := fun env =>
  (πf env).bind fun p => (p.2[i]?).bind fun t1 => (getP p.1 t1).bind fun d => if j < p.2.length then (B ((p.2.set i .und).set j d)).bind (closeO i j p.1 t1) else none
/-- x = P, and what follows: the place is held by x alone, the rest of the slot is not to be had -/
theorem SatS.nameP {pn : List Nat} {i j : Nat} {t : TE} {tB : TS} {πf : Ev → Option (List Stp × Ev)} {B : Ev → Option Out} (hp : PlcE K t i πf) (hB : SatS K (i :: j :: pn) tB B) (hj : j ∉ pn) (hij : i ≠ j) :
    SatS K pn (tSeq (tAsg t (gName j)) tB) (sName i j πf B) := by
  refine ⟨fun σ H env ts td L Lo pv hl hcl p s o e E k => ?_⟩
  obtain ⟨⟨π, env1⟩, e1, e⟩ := Option.bind_eq_some_iff.mp e
  obtain ⟨t1, e2, e⟩ := Option.bind_eq_some_iff.mp e
  obtain ⟨d, e5, e⟩ := Option.bind_eq_some_iff.mp e
  split at e
  case isFalse => cases e
  rename_i hjl
  obtain ⟨ob, e6, e7⟩ := Option.bind_eq_some_iff.mp e
  dsimp only at e2 e5 e6 e7 hjl
  show t σ H fun x H1 => tB E (σ.set j (some x)) H1
  refine hp.run σ H env ts td L Lo hl s π env1 t1 d e1 e2 e5 _ fun x0 v H4 Lb' q1 rv x4 s4 => ?_
  have il : i < env1.length := (List.getElem?_eq_some_iff.mp e2).1
  obtain ⟨x9, v9, Lr, L9, r1, r2, r3, r4, restore⟩ := s4.focus (i := i) (t1 := t1) hl e2 (getP_und e5) e5
  rw [q1] at r1
  cases r1
  obtain rfl := rv.fn r2
  obtain ⟨L10, s5, m5⟩ := r3.setSlot hl j (by rw [List.length_set]; exact hjl)
  have lσ : σ.length = env1.length := by
    have := s4.dens.length
    rw [List.length_append, List.length_append] at this
    omega
  have pins : Pins (i :: j :: pn) (fun n => if n = j then v else if n = i then x0 else pv n) (σ.set j (some v)) := fun n hn => by
    show (σ.set j (some v))[n]? = some (some (if n = j then v else if n = i then x0 else pv n))
    by_cases nj : n = j
    · subst nj
      rw [if_pos rfl]
      simp [lσ, hjl]
    · rw [if_neg nj, List.getElem?_set_ne (Ne.symm nj)]
      by_cases ni : n = i
      · subst ni
        rw [if_pos rfl]
        exact q1
      · rw [if_neg ni]
        rcases List.mem_cons.mp hn with z | z
        · exact absurd z ni
        · rcases List.mem_cons.mp z with z | z
          · exact absurd z nj
          · exact p n z
  have back : ∀ {σ' : List (Option V)}, Pins (i :: j :: pn) (fun n => if n = j then v else if n = i then x0 else pv n) σ' → σ'[i]? = some (some x0) ∧ σ'[j]? = some (some v) ∧ Pins pn pv σ' := fun {σ'} p' => by
    refine ⟨?_, ?_, fun n hn => ?_⟩
    · have := p' i (List.mem_cons_self ..)
      dsimp only at this
      rw [if_neg hij, if_pos rfl] at this
      exact this
    · have := p' j (List.mem_cons_of_mem _ (List.mem_cons_self ..))
      dsimp only at this
      rw [if_pos rfl] at this
      exact this
    · have := p' n (List.mem_cons_of_mem _ (List.mem_cons_of_mem _ hn))
      dsimp only at this
      rw [if_neg (fun z => hj (by rw [← z]; exact hn))] at this
      by_cases ni : n = i
      · subst ni
        rw [if_pos rfl] at this
        have p2 := p n hn
        rw [q1] at p2
        rw [this, p2]
      · rw [if_neg ni] at this
        exact this
  have ilen : ∀ {hs : List (Option V)} {hd : List D} {σ' : List (Option V)} {env2 : Ev} {Lo' : Lent} {H' : Hp} {L' : List Addr}, hs.length = hd.length → Sta K Lo' H' (hs ++ σ') (hd ++ env2) L' → σ'[i]? = some (some x0) → i < env2.length := fun {hs hd σ' env2 Lo' H' L'} hh s' si => by
    have a1 := s'.dens.length
    rw [List.length_append, List.length_append] at a1
    have a2 := (List.getElem?_eq_some_iff.mp si).1
    omega
  refine hB.run (σ.set j (some v)) H4 ((env1.set i .und).set j d) ts td L10 (LoB Lo Lr) _ hl hcl pins s5 ob e6 E ?_
  cases ob with
  | nx env2 =>
    obtain ⟨env3, e8, e9⟩ := Option.map_eq_some_iff.mp e7
    subst e9
    intro σ' H' L' p' s' x'
    obtain ⟨b1, b2, b3⟩ := back p'
    obtain ⟨L11, s11, x11⟩ := Sta.close restore hl hcl s' (x'.from m5) b1 b2 (ilen hl s' b1) e8
    exact k σ' H' L11 b3 s11 (x4.trans x11)
  | bk env2 =>
    obtain ⟨env3, e8, e9⟩ := Option.map_eq_some_iff.mp e7
    subst e9
    intro σ' H' L' p' s' x'
    obtain ⟨b1, b2, b3⟩ := back p'
    obtain ⟨L11, s11, x11⟩ := Sta.close restore hl hcl s' (x'.from m5) b1 b2 (ilen hl s' b1) e8
    exact k σ' H' L11 b3 s11 (x4.trans x11)
  | ct env2 =>
    obtain ⟨env3, e8, e9⟩ := Option.map_eq_some_iff.mp e7
    subst e9
    intro σ' H' L' p' s' x'
    obtain ⟨b1, b2, b3⟩ := back p'
    obtain ⟨L11, s11, x11⟩ := Sta.close restore hl hcl s' (x'.from m5) b1 b2 (ilen hl s' b1) e8
    exact k σ' H' L11 b3 s11 (x4.trans x11)
  | rt dr env2 =>
    have e7' : (if dr.closed then (closeE i j π t1 env2).map (.rt dr) else none) = some o := e7
    split at e7'
    · rename_i hcd
      obtain ⟨env3, e8, e9⟩ := Option.map_eq_some_iff.mp e7'
      subst e9
      intro w' σ' H' L' p' s' x'
      obtain ⟨b1, b2, b3⟩ := back p'
      obtain ⟨L11, s11, x11⟩ := Sta.close (hs := some w' :: ts) (hd := dr :: td) restore (by simp [hl]) (by rw [List.all_cons, hcd, hcl]; rfl) s' (x'.from m5) b1 b2 (ilen (hs := some w' :: ts) (hd := dr :: td) (by simp [hl]) s' b1) e8
      exact k w' σ' H' L11 b3 s11 (x4.trans x11)
    · cases e7'
/-- a dict's method at a place that the reading may have made -/
def eInplE (i : Nat) (πf : Ev → Option (List Stp × Ev)) (g : D → List D → Option (D × D)) (fs : Ev → Option (List D × Ev)) : Ev → Option (D × Ev) := fun env =>
  (πf env).bind fun pr => (pr.2[i]?).bind fun t1 => (getP pr.1 t1).bind fun d => if d.isD then (fs pr.2).bind fun p => (liftP pr.1 g t1 p.1).map fun q => (q.1, pr.2.set i q.2) else none
theorem Sat.inplE {ld : List (Option Nat)} {to : TE} {ta : TA} {fs : Ev → Option (List D × Ev)} {r : V → List V → Hp → VK → Prop} {g : D → List D → Option (D × D)} {i : Nat} {πf : Ev → Option (List Stp × Ev)} (hp : PlcE K to i πf) (h : SatA K true ld ta fs) (o : OpM K r g) :
    Sat K false (tDM r to ta) (eInplE i πf g fs) := by
  refine ⟨fun σ H env ts td L Lo hl s r' env' e Q k => ?_⟩
  obtain ⟨⟨π, env1⟩, e1, e⟩ := Option.bind_eq_some_iff.mp e
  obtain ⟨t1, e2, e⟩ := Option.bind_eq_some_iff.mp e
  obtain ⟨d, e3, e⟩ := Option.bind_eq_some_iff.mp e
  split at e
  case isFalse => cases e
  rename_i okd
  obtain ⟨⟨ds, en⟩, e4, e⟩ := Option.bind_eq_some_iff.mp e
  obtain ⟨⟨rr, t2⟩, e5, e⟩ := Option.map_eq_some_iff.mp e
  cases e
  dsimp only at e2 e3 e4 e5
  refine hp.run σ H env ts td L Lo hl s π env1 t1 d e1 e2 e3 _ fun x0 v H1 L1 q1 q2 q3 q4 => ?_
  obtain ⟨x1, M, r1, r2⟩ := q4.slot hl e2 (und_ne (getP_und e3))
  rw [q1] at r1
  cases r1
  obtain ⟨w, _, _, _, r3, _, r4, _⟩ := r2.zip e3
  obtain rfl := q2.fn r3
  refine ⟨isD_ty okd r4, ?_⟩
  refine h.run σ H1 env1 ts td L1 Lo hl q4 ds en e4 _ fun vs H2 Lr Lb c _ => ?_
  obtain ⟨he, st2, hb, _⟩ := c.quiet rfl
  have he' := he.symm
  have hb' := hb.symm
  subst he' hb'
  obtain ⟨x', Ld, Lx, f1, f2, f3, f4, f5⟩ := c.inpl hl e2 (und_ne (getP_und e3))
  rw [q1] at f1
  cases f1
  obtain ⟨y, hy, hr⟩ := (o.liftP π) H2 _ x0 vs t1 ds Ld Lr f2 c.top f4 (fun f a n z => n.1 (List.mem_append_right _ (f3.mem_iff.mpr (List.mem_append_left _ z)))) _ _ e5 Q fun v H3 Lr' Ld' m => by
    obtain ⟨Lb', c'⟩ := f5 v H3 _ _ _ _ m
    exact k v H3 Lr' Lb' ⟨c'.good, c'.top, c'.base, q3.trans c'.ext, fun z => by cases z⟩
  obtain rfl := hy.fn (q2.still st2)
  exact hr
end
end TL

set_option Elab.async false
set_option linter.all false
set_option maxRecDepth 100000
/-! TL47: x = P, only read from then on, till P is set anew (a name j of what stands at π in slot i). -/
namespace TL
open PySem PySem.Spec PyProof.Rows L2
section
variable {K : PySem.W.Frag}
/-- slot j names what stands at π in slot i -/
def NameOf (H : Hp) (σ : L2.St) (i j : Nat) (π : List Stp) : Prop := ∃ x0 v, σ[i]? = some (some x0) ∧ σ[j]? = some (some v) ∧ ReadsP H x0 π v
theorem Sta.viewN {Lo : Lent} {H : Hp} {σ : L2.St} {env : Ev} {L : List Addr} {i j : Nat} {π : List Stp} {d0 dj : D} (s : Sta K Lo H ([] ++ σ) ([] ++ env) L) (nm : NameOf H σ i j π) (e0 : env[i]? = some d0) (gp : getP π d0 = some dj) (hij : i ≠ j) (jl : j < env.length) :
    ∃ (x0 v : V) (L5 : List Addr) (LoV : Lent), σ[i]? = some (some x0) ∧ σ[j]? = some (some v) ∧ Sta K LoV H ([] ++ σ) ([] ++ (env.set i (D.mapF ownPv d0)).set j (D.mapF ownPv dj)) L5 ∧
      ∀ (hs : List (Option V)) (hd : List D) (σ' : L2.St) (env2 : Ev) (H' : Hp) (L' : List Addr), hs.length = hd.length → hd.all D.noPv = true → σ'[i]? = some (some x0) → σ'[j]? = some (some v) → Sta K LoV H' (hs ++ σ') (hd ++ env2) L' → Ext L5 H L' H' →
        ∃ L9, Sta K Lo H' (hs ++ σ') (hd ++ (backV i d0 env2).set j .und) L9 ∧ Ext L H L9 H' ∧ NameOf H' σ' i j π := by
  have hu := getP_und gp
  obtain ⟨x0, v, z1, z2, z3⟩ := nm
  have s0 : Dens K H (Nw L Lo) σ env L := s.dens
  obtain ⟨oo, M1, M2, q1, q2, q3, q4⟩ := s0.take e0
  rw [z1] at q1
  cases q1
  have il : i < env.length := (List.getElem?_eq_some_iff.mp e0).1
  have nd := List.nodup_append.mp (q2.nodup_iff.mp s.good.nd)
  let LoV : Lent := fun f a => Lo f a ∨ (f ≠ .view ∧ f ≠ .pv ∧ a ∈ M1)
  have live1 : ∀ a ∈ M1, H a ≠ none := q3.live
  have kn : ∀ f a, Nw L Lo f a → Nw M2 LoV f a := fun f a n => ⟨fun z => n.1 (q2.mem_iff.mpr (List.mem_append_right _ z)), fun z => z.elim n.2 fun z => n.1 (q2.mem_iff.mpr (List.mem_append_left _ z.2.2))⟩
  have gV : Good M2 LoV H := ⟨nd.2.1, fun f a ha z => z.elim (s.good.no f a (q2.mem_iff.mpr (List.mem_append_right _ ha))) fun z => nd.2.2 a z.2.2 a ha rfl, fun f a z => z.elim (s.good.lent f a) fun z => ⟨live1 a z.2.2, q3.notup a z.2.2⟩, fun a z => z.elim (s.good.nov a) fun z => z.1 rfl⟩
  -- trees of it, only read
  have turn : ∀ {w : V} {e : D} {Le : List Addr}, Dens K H (Nw L Lo) [some w] [e] Le → (∀ a ∈ Le, a ∈ M1) → Dens K H (Nw M2 LoV) [some w] [D.mapF ownPv e] [] := fun {w e Le} h hm => by
    have := Dens.turn (g := ownPv) (N' := Nw M2 LoV) rfl (fun f hf => by cases f <;> first | rfl | cases hf) h (.inr ⟨rfl, fun a ha => ⟨fun z => nd.2.2 a (hm a ha) a z rfl, fun z => z.elim (s.good.no .pv a (q2.mem_iff.mpr (List.mem_append_left _ (hm a ha)))) fun z => z.2.1 rfl⟩⟩) (fun f a hf n _ => by
      have := kn f a n
      cases f <;> first | exact this | exact absurd rfl hf) (fun a n _ => kn _ a n)
    exact this
  have q3' := turn q3 fun a ha => ha
  obtain ⟨v', Ld, Lr, _, rp, pm, vd, _⟩ := q3.zip gp
  obtain rfl := rp.fn z3
  have vd' := turn vd fun a ha => pm.mem_iff.mpr (List.mem_append_left _ ha)
  obtain ⟨v2, rp2, keepR⟩ := q3.reads gp
  obtain rfl := rp2.fn rp
  obtain ⟨M3, L4, sb, pm4, d4⟩ := Dens.setAt q3' (q4.know fun f a n _ => kn f a n) i (by rw [List.length_set]; exact il)
  rw [set_same z1, List.set_set] at d4
  obtain ⟨M4, L5, sb4, pm5, d5⟩ := Dens.setAt vd' d4 j (by rw [List.length_set]; exact jl)
  rw [set_same z2] at d5
  have mem4 : ∀ a ∈ L4, a ∈ M2 := fun a ha => sb.subset (by simpa using pm4.mem_iff.mp ha)
  have nd4 : L4.Nodup := pm4.nodup_iff.mpr (by simpa using sb.nodup nd.2.1)
  have mem5 : ∀ a ∈ L5, a ∈ M2 := fun a ha => mem4 a (sb4.subset (by simpa using pm5.mem_iff.mp ha))
  have nd5 : L5.Nodup := pm5.nodup_iff.mpr (by simpa using sb4.nodup nd4)
  refine ⟨x0, v2, L5, LoV, z1, z2, ⟨gV.sub nd5 mem5, d5.know fun f a n _ => nw_sub mem5 f a n⟩, ?_⟩
  intro hs hd σ' env2 H' L' hh hnp si sj s' x'
  obtain ⟨Lh, Ls, rfl, b1, b2⟩ := Dens.split hh s'.dens
  obtain ⟨M, sbM, b3⟩ := dens_noPv b2
  have hl2 : σ'.length = env2.length := b2.length
  have il2 : i < env2.length := by have := (List.getElem?_eq_some_iff.mp si).1; omega
  have jl2 : j < env2.length := by have := (List.getElem?_eq_some_iff.mp sj).1; omega
  have keep1 : ∀ a ∈ M1, H' a = H a := fun a ha => x'.keep a (live1 a ha) fun z => nd.2.2 a ha a (mem5 a z) rfl
  have off1 : ∀ a ∈ Lh ++ Ls, a ∉ M1 := fun a ha z => (x'.own a ha).elim (fun y => nd.2.2 a z a (mem5 a y) rfl) (live1 a z)
  have kc : ∀ {τ : List (Option V)} {es : List D} {W : List Addr}, es.all D.noPv = true → Dens K H' (Nw (Lh ++ Ls) LoV) τ es W → Dens K H' (Nw ((Lh ++ Ls) ++ M1) Lo) τ es W := fun {τ es W} ce h => by
    have go : ∀ f a, f ≠ .view → f ≠ .pv → Nw (Lh ++ Ls) LoV f a → Nw ((Lh ++ Ls) ++ M1) Lo f a := fun f a h1 h2 n => ⟨fun z => (List.mem_append.mp z).elim n.1 fun z => n.2 (.inr ⟨h1, h2, z⟩), fun z => n.2 (.inl z)⟩
    exact h.knowC (p := fun f => decide (f ≠ .pv ∧ f ≠ .view)) (fun f a _ hp n _ => go f a (of_decide_eq_true hp).2 (of_decide_eq_true hp).1 n) (fun a us n _ => go .frz a (by decide) (by decide) n) (fun a o us n _ => go .ext a (by decide) (by decide) n) ce
  have c1 := kc hnp b1
  have c3 := kc (all_noPv env2) b3
  have c0 : Dens K H' (Nw ((Lh ++ Ls) ++ M1) Lo) [some x0] [d0] M1 := q3.mono keep1 fun f a n ha => ⟨⟨fun z => (List.mem_append.mp z).elim (fun z => (x'.own a z).elim (fun y => n.1 (q2.mem_iff.mpr (List.mem_append_right _ (mem5 a y)))) ha) fun z => n.1 (q2.mem_iff.mpr (List.mem_append_left _ z)), n.2⟩, Keep.of (x'.keep a ha fun z => n.1 (q2.mem_iff.mpr (List.mem_append_right _ (mem5 a z))))⟩
  obtain ⟨M9, L8, sb9, pm9, d8⟩ := Dens.setAt c0 c3 i (by rw [List.length_map]; exact il2)
  rw [set_same si] at d8
  obtain ⟨M10, L9, sb10, pm10, d9⟩ := Dens.setAt (Dens.und (o := some v2) .nil) d8 j (by rw [List.length_set, List.length_map]; exact jl2)
  rw [set_same sj] at d9
  have mem9 : ∀ a ∈ L9, a ∈ L8 := fun a ha => sb10.subset (by simpa using pm10.mem_iff.mp ha)
  have memF : ∀ a ∈ Lh ++ L9, a ∈ (Lh ++ Ls) ++ M1 := fun a ha => by
    rcases List.mem_append.mp ha with z | z
    · exact List.mem_append_left _ (List.mem_append_left _ z)
    · rcases List.mem_append.mp (pm9.mem_iff.mp (mem9 a z)) with z | z
      · exact List.mem_append_right _ z
      · exact List.mem_append_left _ (List.mem_append_right _ (sbM.subset (sb9.subset z)))
  have sn := List.nodup_append.mp s'.good.nd
  have ndL8 : L8.Nodup := pm9.nodup_iff.mpr (List.nodup_append.mpr ⟨nd.1, sb9.nodup (sbM.nodup sn.2.1), fun b hb c hc e => by subst e; exact off1 b (List.mem_append_right _ (sbM.subset (sb9.subset hc))) hb⟩)
  have ndL9 : L9.Nodup := pm10.nodup_iff.mpr (by simpa using sb10.nodup ndL8)
  have ndF : (Lh ++ L9).Nodup := List.nodup_append.mpr ⟨sn.1, ndL9, fun b hb c hc e => by
    subst e
    rcases List.mem_append.mp (pm9.mem_iff.mp (mem9 b hc)) with z | z
    · exact off1 b (List.mem_append_left _ hb) z
    · exact sn.2.2 b hb b (sbM.subset (sb9.subset z)) rfl⟩
  refine ⟨Lh ++ L9, ⟨⟨ndF, fun f a ha lo => ?_, fun f a lo => s'.good.lent f a (.inl lo), fun a z => s'.good.nov a (.inl z)⟩, (c1.know fun f a n _ => nw_sub memF f a n).app (d9.know fun f a n _ => nw_sub memF f a n)⟩, ⟨fun a ha n => x'.keep a ha fun z => n (q2.mem_iff.mpr (List.mem_append_right _ (mem5 a z))), fun a ha => ?_, x'.live⟩, x0, v2, si, sj, keepR H' keep1⟩
  · rcases List.mem_append.mp (memF a ha) with z | z
    · exact s'.good.no f a z (.inl lo)
    · exact s.good.no f a (q2.mem_iff.mpr (List.mem_append_left _ z)) lo
  · rcases List.mem_append.mp (memF a ha) with z | z
    · exact (x'.own a z).imp (fun y => q2.mem_iff.mpr (List.mem_append_right _ (mem5 a y))) id
    · exact .inl (q2.mem_iff.mpr (List.mem_append_left _ z))
end
end TL

set_option Elab.async false
set_option linter.all false
set_option maxRecDepth 100000
/-! TL48: the rules for blocks with such a name; the rules of text of TL46, TL47. -/
namespace TL
open PySem PySem.Spec PyProof.Rows L2
section
variable {K : PySem.W.Frag} {pn : List Nat} {i j : Nat} {π : List Stp}
structure SatN (K : PySem.W.Frag) (pn : List Nat) (i j : Nat) (π : List Stp) (t : TS) (f : Ev → Option Out) : Prop where
  run : ∀ (σ : L2.St) (H : Hp) (env : Ev) (L : List Addr) (Lo : Lent) (pv : Nat → V), Pins pn pv σ → NameOf H σ i j π → Sta K Lo H ([] ++ σ) ([] ++ env) L → ∀ o, f env = some o → ∀ E : Ends, EndsOk K Lo pn pv [] [] L H E o → t E σ H
def EndsN (K : PySem.W.Frag) (Lo : Lent) (pn : List Nat) (i j : Nat) (π : List Stp) (pv : Nat → V) (L : List Addr) (H : Hp) (E : Ends) : Out → Prop
  | .nx env' => ∀ σ' H' L', Pins pn pv σ' → NameOf H' σ' i j π → Sta K Lo H' ([] ++ σ') ([] ++ env') L' → Ext L H L' H' → E.nx σ' H'
  | o => EndsOk K Lo pn pv [] [] L H E o
/-- a statement that keeps the name -/
structure SatNK (K : PySem.W.Frag) (pn : List Nat) (i j : Nat) (π : List Stp) (t : TS) (f : Ev → Option Out) : Prop where
  run : ∀ (σ : L2.St) (H : Hp) (env : Ev) (L : List Addr) (Lo : Lent) (pv : Nat → V), Pins pn pv σ → NameOf H σ i j π → Sta K Lo H ([] ++ σ) ([] ++ env) L → ∀ o, f env = some o → ∀ E : Ends, EndsN K Lo pn i j π pv L H E o → t E σ H
theorem SatNK.v {t : TS} {f : Ev → Option Out} (h : SatNK K pn i j π t f) : SatN K pn i j π t f := ⟨fun σ H env L Lo pv p nm s o e E k => h.run σ H env L Lo pv p nm s o e E (by
  cases o with
  | nx env' => exact fun σ' H' L' p' _ s' x' => k σ' H' L' p' s' x'
  | rt d env' => exact k
  | bk env' => exact k
  | ct env' => exact k)⟩
theorem SatN.fin {t : TS} {f : Ev → Option Out} (h : SatS0 K pn t f) : SatN K pn i j π t f := ⟨fun σ H env L Lo pv p _ s o e E k => h.run σ H env L Lo pv p s o e E k⟩
def openN (i j : Nat) (d0 dj : D) (env : Ev) : Ev := (env.set i (D.mapF ownPv d0)).set j (D.mapF ownPv dj)
def backN (i j : Nat) (d0 : D) (env : Ev) : Ev := (backV i d0 env).set j .und
def outN (i j : Nat) (d0 : D) : Out → Option Out
  | .nx env => some (.nx (backN i j d0 env))
  | .rt d env => if d.noPv then some (.rt d (backN i j d0 env)) else none
  | .bk env => some (.bk (backN i j d0 env))
  | .ct env => some (.ct (backN i j d0 env))
def vN (i j : Nat) (π : List Stp) (f : Ev → Option Out) : Ev → Option Out := fun env =>
  (env[i]?).bind fun d0 => (getP π d0).bind fun dj => if j < env.length then (f (openN i j d0 dj env)).bind (outN i j d0) else none
theorem pinsN {pv : Nat → V} {σ : L2.St} {x0 v : V} (p : Pins pn pv σ) (si : σ[i]? = some (some x0)) (sj : σ[j]? = some (some v)) : Pins (i :: j :: pn) (fun n => if n = j then v else if n = i then x0 else pv n) σ := fun n hn => by
  show σ[n]? = some (some (if n = j then v else if n = i then x0 else pv n))
  by_cases nj : n = j
  · subst nj
    rw [if_pos rfl]
    exact sj
  · rw [if_neg nj]
    by_cases ni : n = i
    · subst ni
      rw [if_pos rfl]
      exact si
    · rw [if_neg ni]
      rcases List.mem_cons.mp hn with z | z
      · exact absurd z ni
      · rcases List.mem_cons.mp z with z | z
        · exact absurd z nj
        · exact p n z
theorem pinsB {pv : Nat → V} {σ σ' : L2.St} {x0 v : V} (p : Pins pn pv σ) (si : σ[i]? = some (some x0)) (hij : i ≠ j) (hj : j ∉ pn) (p' : Pins (i :: j :: pn) (fun n => if n = j then v else if n = i then x0 else pv n) σ') : σ'[i]? = some (some x0) ∧ σ'[j]? = some (some v) ∧ Pins pn pv σ' := by
  refine ⟨?_, ?_, fun n hn => ?_⟩
  · have := p' i (List.mem_cons_self ..)
    dsimp only at this
    rw [if_neg hij, if_pos rfl] at this
    exact this
  · have := p' j (List.mem_cons_of_mem _ (List.mem_cons_self ..))
    dsimp only at this
    rw [if_pos rfl] at this
    exact this
  · have := p' n (List.mem_cons_of_mem _ (List.mem_cons_of_mem _ hn))
    dsimp only at this
    rw [if_neg (fun z => hj (by rw [← z]; exact hn))] at this
    by_cases ni : n = i
    · subst ni
      rw [if_pos rfl] at this
      have p2 := p n hn
      rw [si] at p2
      rw [this, p2]
    · rw [if_neg ni] at this
      exact this
/-- a statement that only reads -/
theorem SatNK.view {t : TS} {f : Ev → Option Out} (hij : i ≠ j) (hj : j ∉ pn) (h : SatS0 K (i :: j :: pn) t f) : SatNK K pn i j π t (vN i j π f) := by
  refine ⟨fun σ H env L Lo pv p nm s o e E k => ?_⟩
  obtain ⟨d0, e0, e⟩ := Option.bind_eq_some_iff.mp e
  obtain ⟨dj, ej, e⟩ := Option.bind_eq_some_iff.mp e
  split at e
  case isFalse => cases e
  rename_i jl
  obtain ⟨ob, e1, e2⟩ := Option.bind_eq_some_iff.mp e
  obtain ⟨x0, v, L5, LoV, si, sj, s5, fin⟩ := s.viewN nm e0 ej hij jl
  refine h.run σ H _ L5 LoV _ (pinsN p si sj) s5 ob e1 E ?_
  cases ob with
  | nx env2 =>
    cases e2
    intro σ' H' L' p' s' x'
    obtain ⟨b1, b2, b3⟩ := pinsB p si hij hj p'
    obtain ⟨L9, s9, x9, n9⟩ := fin [] [] σ' env2 H' L' rfl rfl b1 b2 s' x'
    exact k σ' H' L9 b3 n9 s9 x9
  | bk env2 =>
    cases e2
    intro σ' H' L' p' s' x'
    obtain ⟨b1, b2, b3⟩ := pinsB p si hij hj p'
    obtain ⟨L9, s9, x9, n9⟩ := fin [] [] σ' env2 H' L' rfl rfl b1 b2 s' x'
    exact k σ' H' L9 b3 s9 x9
  | ct env2 =>
    cases e2
    intro σ' H' L' p' s' x'
    obtain ⟨b1, b2, b3⟩ := pinsB p si hij hj p'
    obtain ⟨L9, s9, x9, n9⟩ := fin [] [] σ' env2 H' L' rfl rfl b1 b2 s' x'
    exact k σ' H' L9 b3 s9 x9
  | rt d env2 =>
    have e2' : (if d.noPv then some (Out.rt d (backN i j d0 env2)) else none) = some o := e2
    split at e2'
    case isFalse => cases e2'
    rename_i hc
    cases e2'
    intro w σ' H' L' p' s' x'
    obtain ⟨b1, b2, b3⟩ := pinsB p si hij hj p'
    obtain ⟨L9, s9, x9, n9⟩ := fin [some w] [d] σ' env2 H' L' rfl (by rw [List.all_cons, hc]; rfl) b1 b2 s' x'
    exact k w σ' H' L9 b3 s9 x9
theorem SatN.seq {t u : TS} {f g : Ev → Option Out} (h : SatNK K pn i j π t f) (h' : SatN K pn i j π u g) : SatN K pn i j π (tSeq t u) (sSeq f g) := by
  refine ⟨fun σ H env L Lo pv p nm s o e E k => ?_⟩
  unfold sSeq at e
  split at e
  · rename_i en e1
    exact h.run σ H env L Lo pv p nm s _ e1 { E with nx := u E } fun σ' H' L' p' n' s' x' => h'.run σ' H' en L' Lo pv p' n' s' o e E (k.step x')
  · rename_i hn
    refine h.run σ H env L Lo pv p nm s o e { E with nx := u E } ?_
    cases o with
    | nx en => exact absurd e (hn en)
    | rt d en => exact k
    | bk en => exact k
    | ct en => exact k
/-- a test that only reads -/
def vB (i j : Nat) (π : List Stp) (c : Ev → Option (Bool × Ev)) : Ev → Option (Bool × Ev) := fun env =>
  (env[i]?).bind fun d0 => (getP π d0).bind fun dj => if j < env.length then (c (openN i j d0 dj env)).map fun p => (p.1, backN i j d0 p.2) else none
def vIf (c : Ev → Option (Bool × Ev)) (f g : Ev → Option Out) : Ev → Option Out := fun env => (c env).bind fun p => if p.1 then (f p.2).bind (fun o => match o with
  | .nx _ => none
  | o => some o) else g p.2
theorem SatN.ifr {tc : L2.TT} {tA tR : TS} {c : Ev → Option (Bool × Ev)} {fA fR : Ev → Option Out} (hij : i ≠ j) (hc : SatBC K tc c) (hA : SatN K pn i j π tA fA) (hR : SatN K pn i j π tR fR) : SatN K pn i j π (tSeq (tIfS tc tA tNext) tR) (vIf (vB i j π c) fA fR) := by
  refine ⟨fun σ H env L Lo pv p nm s o e E k => ?_⟩
  obtain ⟨⟨b, env1⟩, ec, e⟩ := Option.bind_eq_some_iff.mp e
  obtain ⟨d0, e0, ec⟩ := Option.bind_eq_some_iff.mp ec
  obtain ⟨dj, ej, ec⟩ := Option.bind_eq_some_iff.mp ec
  split at ec
  case isFalse => cases ec
  rename_i jl
  obtain ⟨⟨b', env2⟩, e1, e2⟩ := Option.map_eq_some_iff.mp ec
  cases e2
  obtain ⟨x0, v, L5, LoV, si, sj, s5, fin⟩ := s.viewN nm e0 ej hij jl
  show tc σ H fun b H1 => if b = true then tA { E with nx := tR E } σ H1 else tR E σ H1
  refine hc.run σ H _ [] [] L5 LoV rfl rfl s5 b' env2 e1 _ fun H' Lb c2 => ?_
  obtain ⟨L9, s9, x9, n9⟩ := fin [] [] σ env2 H' Lb rfl rfl si sj c2.base0 c2.ext
  have e' : (if b' = true then (fA (backN i j d0 env2)).bind (fun o => match o with
    | .nx _ => none
    | o => some o) else fR (backN i j d0 env2)) = some o := e
  cases b' with
  | true =>
    rw [if_pos rfl] at e' ⊢
    obtain ⟨o', f1, f2⟩ := Option.bind_eq_some_iff.mp e'
    refine hA.run σ H' _ L9 Lo pv p n9 s9 o' f1 _ ?_
    cases o' with
    | nx en => cases f2
    | rt d en => cases f2; exact k.step x9
    | bk en => cases f2; exact k.step x9
    | ct en => cases f2; exact k.step x9
  | false =>
    rw [if_neg Bool.false_ne_true] at e' ⊢
    exact hR.run σ H' _ L9 Lo pv p n9 s9 o e' E (k.step x9)
/-- P'[k] = e, e read with the name, which is let go then -/
def vSet (i j : Nat) (π : List Stp) (πf : Ev → Option (List Stp)) (f fx : Ev → Option (D × Ev)) (g : Ev → Option Out) : Ev → Option Out := fun env =>
  (env[i]?).bind fun d0 => (getP π d0).bind fun dj => if j < env.length then (f (openN i j d0 dj env)).bind fun p => if p.1.noPv then
    (πf (backN i j d0 p.2)).bind fun π' => ((backN i j d0 p.2)[i]?).bind fun t1 => (getP π' t1).bind fun _ => (fx (backN i j d0 p.2)).bind fun x => (liftP π' mSet t1 [p.1, x.1]).bind fun q => g ((backN i j d0 p.2).set i q.2) else none else none
theorem SatN.setP {te ti tp : TE} {tR : TS} {f fx : Ev → Option (D × Ev)} {πf : Ev → Option (List Stp)} {g : Ev → Option Out} (hij : i ≠ j) (h : SatC K te f) (hp : Plc K tp i πf) (hx : Sat K true ti fx) (hR : SatS0 K pn tR g) : SatN K pn i j π (tSeq (tAsg te (L2.gSub tp ti rSetLD)) tR) (vSet i j π πf f fx g) := by
  refine ⟨fun σ H env L Lo pv p nm s o e E k => ?_⟩
  obtain ⟨d0, e0, e⟩ := Option.bind_eq_some_iff.mp e
  obtain ⟨dj, ej, e⟩ := Option.bind_eq_some_iff.mp e
  split at e
  case isFalse => cases e
  rename_i jl
  obtain ⟨⟨dv, env2⟩, ee1, e⟩ := Option.bind_eq_some_iff.mp e
  split at e
  case isFalse => cases e
  rename_i hnp
  obtain ⟨π', ee2, e⟩ := Option.bind_eq_some_iff.mp e
  obtain ⟨t1, ee3, e⟩ := Option.bind_eq_some_iff.mp e
  obtain ⟨d, ee4, e⟩ := Option.bind_eq_some_iff.mp e
  obtain ⟨⟨di, e2⟩, ee5, e⟩ := Option.bind_eq_some_iff.mp e
  obtain ⟨⟨rr, t2⟩, ee6, eF⟩ := Option.bind_eq_some_iff.mp e
  dsimp only at ee2 ee3 ee4 ee5 ee6 eF hnp
  obtain ⟨x0, v0, L5, LoV, si, sj, s5, fin⟩ := s.viewN nm e0 ej hij jl
  refine h.run σ H _ [] [] L5 LoV rfl rfl s5 dv env2 ee1 _ fun v H1 Lr0 Lb0 c0 => ?_
  obtain ⟨L9, s9, x9, n9⟩ := fin [some v] [dv] σ env2 H1 _ rfl (by rw [List.all_cons, hnp]; rfl) si sj c0.sta c0.ext
  obtain ⟨e1, he1⟩ : ∃ e1, e1 = backN i j d0 env2 := ⟨_, rfl⟩
  rw [← he1] at ee2 ee3 ee5 eF
  have s9' : Sta K Lo H1 (some v :: ([] ++ σ)) (dv :: ([] ++ e1)) L9 := by rw [he1]; exact s9
  obtain ⟨Lr, Lb, rfl, b1, b2⟩ := s9'.dens.cons
  have c : Came K Lo false H ([] ++ σ) [] env L H1 [v] [dv] e1 Lr Lb := ⟨s9'.good, b1, b2, x9, fun z => by cases z⟩
  refine hp.run σ H1 e1 [some v] [dv] _ Lo rfl s9' π' t1 d ee2 ee3 ee4 _ fun x0 y H2 q1 q2 q3 q4 => ?_
  refine hx.run σ H2 e1 [some v] [dv] _ Lo rfl q4 di e2 ee5 _ fun iv H3 Lr2 Lb2 c2 => ?_
  obtain ⟨he, st3, hb, _⟩ := c2.quiet rfl
  have cc : Came K Lo true H1 (some v :: ([] ++ σ)) (dv :: []) e1 (Lr ++ Lb) H3 [iv] [di] e2 Lr2 Lb2 := ⟨c2.good, c2.top, c2.base, (Ext.of_still (L' := Lr ++ Lb) q3 fun a ha => .inl ha).trans c2.ext, fun _ => ⟨he, q3.trans st3, hb, fun a ha => by
    have := (c2.quiet rfl).2.2.2 a ha
    cases q : H1 a with
    | none => rfl
    | some o => rw [← q3 a (by rw [q]; exact Option.some_ne_none _)] at q; rw [q] at this; cases this⟩⟩
  have he' := he.symm
  subst he'
  obtain ⟨R, B, c3⟩ := c.more cc
  obtain ⟨x', Ld, Lx, f1, f2, f3, f4, f5⟩ := c3.inpl rfl ee3 (und_ne (getP_und ee4))
  rw [q1] at f1
  cases f1
  obtain ⟨y', hy, hr⟩ := (o_set (K := K)).liftP π' H3 _ x0 [v, iv] t1 [dv, di] Ld R f2 c3.top f4 (fun f a n z => n.1 (List.mem_append_right _ (f3.mem_iff.mpr (List.mem_append_left _ z)))) _ _ ee6 (fun _ H3 => tR E σ H3) fun w H4 Lr' Ld' m => by
    obtain ⟨Lb', c'⟩ := f5 w H4 _ _ _ _ m
    exact hR.run σ H4 _ Lb' Lo pv p c'.drop.base0 o eF E (k.step c'.drop.ext)
  obtain rfl := hy.fn (q2.still st3)
  exact hr
/-- x = P, P a place along a fixed path -/
def sNameV (i j : Nat) (π : List Stp) (B : Ev → Option Out) : Ev → Option Out := fun env =>
  (env[i]?).bind fun d0 => (getP π d0).bind fun _ => if j < env.length then B (env.set j .und) else none
theorem SatS0.nameV {tp : TE} {tB : TS} {πf : Ev → Option (List Stp)} {B : Ev → Option Out} (hp : Plc K tp i πf) (hπ : ∀ env, πf env = some π) (hij : i ≠ j) (hj : j ∉ pn) (hB : SatN K pn i j π tB B) : SatS0 K pn (tSeq (tAsg tp (gName j)) tB) (sNameV i j π B) := by
  refine ⟨fun σ H env L Lo pv p s o e E k => ?_⟩
  obtain ⟨d0, e0, e⟩ := Option.bind_eq_some_iff.mp e
  obtain ⟨dj, ej, e⟩ := Option.bind_eq_some_iff.mp e
  split at e
  case isFalse => cases e
  rename_i jl
  show tp σ H fun x H1 => tB E (σ.set j (some x)) H1
  refine hp.run σ H env [] [] L Lo rfl s π d0 dj (hπ env) e0 ej _ fun x0 v H1 q1 q2 q3 q4 => ?_
  have lσ : σ.length = env.length := by
    have := s.dens.length
    rw [List.length_append, List.length_append] at this
    simpa using this
  have d0' : Dens K H1 (Nw L Lo) σ env L := q4.dens
  obtain ⟨M, L2, sb, pm, d2⟩ := Dens.setAt (Dens.und (o := some v) .nil) d0' j jl
  have mem : ∀ a ∈ L2, a ∈ L := fun a ha => sb.subset (by simpa using pm.mem_iff.mp ha)
  have nd2 : L2.Nodup := pm.nodup_iff.mpr (by simpa using sb.nodup q4.good.nd)
  refine hB.run (σ.set j (some v)) H1 (env.set j .und) L2 Lo pv (p.set hj) ⟨x0, v, by rw [List.getElem?_set_ne (Ne.symm hij)]; exact q1, by simp [lσ, jl], q2⟩ ⟨q4.good.sub nd2 mem, d2.know fun f a n _ => nw_sub mem f a n⟩ o e E (k.step ⟨fun a ha _ => q3 a ha, fun a ha => .inl (mem a ha), fun a ha => by rw [q3 a ha]; exact ha⟩)
/-- a slot that may be pinned is only read -/
theorem SatS0.viewP {t : TS} {f : Ev → Option Out} (i : Nat) (h : SatS0 K (i :: pn) t f) : SatS0 K pn t (sView i f) := by
  refine ⟨fun σ H env L Lo pv p s o e E k => ?_⟩
  obtain ⟨d0, e0, e⟩ := Option.bind_eq_some_iff.mp e
  split at e
  · cases e
  rename_i hu
  obtain ⟨ob, e1, e2⟩ := Option.bind_eq_some_iff.mp e
  have s0 : Dens K H (Nw L Lo) σ env L := s.dens
  obtain ⟨oo, M1, M2, q1, q2, q3, q4⟩ := s0.take e0
  obtain ⟨x0, rfl⟩ := q3.some1 (und_ne hu)
  have il : i < env.length := (List.getElem?_eq_some_iff.mp e0).1
  have nd := List.nodup_append.mp (q2.nodup_iff.mp s.good.nd)
  let LoV : Lent := fun f a => Lo f a ∨ (f ≠ .view ∧ f ≠ .pv ∧ a ∈ M1)
  have live1 : ∀ a ∈ M1, H a ≠ none := q3.live
  have kn : ∀ f a, Nw L Lo f a → Nw M2 LoV f a := fun f a n => ⟨fun z => n.1 (q2.mem_iff.mpr (List.mem_append_right _ z)), fun z => z.elim n.2 fun z => n.1 (q2.mem_iff.mpr (List.mem_append_left _ z.2.2))⟩
  have gV : Good M2 LoV H := ⟨nd.2.1, fun f a ha z => z.elim (s.good.no f a (q2.mem_iff.mpr (List.mem_append_right _ ha))) fun z => nd.2.2 a z.2.2 a ha rfl, fun f a z => z.elim (s.good.lent f a) fun z => ⟨live1 a z.2.2, q3.notup a z.2.2⟩, fun a z => z.elim (s.good.nov a) fun z => z.1 rfl⟩
  -- the slot's tree, only read
  have q3' : Dens K H (Nw M2 LoV) [some x0] [D.mapF ownPv d0] [] := by
    have := Dens.turn (g := ownPv) (N' := Nw M2 LoV) rfl (fun f hf => by cases f <;> first | rfl | cases hf) q3 (.inr ⟨rfl, fun a ha => ⟨fun z => nd.2.2 a ha a z rfl, fun z => z.elim (s.good.no .pv a (q2.mem_iff.mpr (List.mem_append_left _ ha))) fun z => z.2.1 rfl⟩⟩) (fun f a hf n _ => by
      have := kn f a n
      cases f <;> first | exact this | exact absurd rfl hf) (fun a n _ => kn _ a n)
    exact this
  obtain ⟨M3, L5, sb, pm5, d5⟩ := Dens.setAt q3' (q4.know fun f a n _ => kn f a n) i (by rw [List.length_set]; exact il)
  rw [set_same q1, List.set_set] at d5
  have mem5 : ∀ a ∈ L5, a ∈ M2 := fun a ha => sb.subset (by simpa using pm5.mem_iff.mp ha)
  have nd5 : L5.Nodup := pm5.nodup_iff.mpr (by simpa using sb.nodup nd.2.1)
  have s5 : Sta K LoV H ([] ++ σ) ([] ++ env.set i (D.mapF ownPv d0)) L5 := ⟨gV.sub nd5 mem5, d5.know fun f a n _ => nw_sub mem5 f a n⟩
  have pins : Pins (i :: pn) (fun n => if n = i then x0 else pv n) σ := fun n hn => by
    show σ[n]? = some (some (if n = i then x0 else pv n))
    by_cases z : n = i
    · subst z; rw [if_pos rfl]; exact q1
    · rw [if_neg z]
      rcases List.mem_cons.mp hn with y | y
      · exact absurd y z
      · exact p n y
  have pback : ∀ {σ' : List (Option V)}, Pins (i :: pn) (fun n => if n = i then x0 else pv n) σ' → σ'[i]? = some (some x0) ∧ Pins pn pv σ' := fun {σ'} p' => by
    refine ⟨?_, fun n hn => ?_⟩
    · have := p' i (List.mem_cons_self ..)
      dsimp only at this
      rw [if_pos rfl] at this
      exact this
    · have := p' n (List.mem_cons_of_mem _ hn)
      dsimp only at this
      by_cases ni : n = i
      · subst ni
        rw [if_pos rfl] at this
        have p2 := p n hn
        rw [q1] at p2
        rw [this, p2]
      · rw [if_neg ni] at this
        exact this
  -- the end
  have fin : ∀ {hs : List (Option V)} {hd : List D} {σ' : List (Option V)} {env2 : Ev} {H' : Hp} {L' : List Addr}, hs.length = hd.length → hd.all D.noPv = true → Pins (i :: pn) (fun n => if n = i then x0 else pv n) σ' → Sta K LoV H' (hs ++ σ') (hd ++ env2) L' → Ext L5 H L' H' →
      ∃ L9, Sta K Lo H' (hs ++ σ') (hd ++ backV i d0 env2) L9 ∧ Ext L H L9 H' := by
    intro hs hd σ' env2 H' L' hh hnp p' s' x'
    obtain ⟨si, _⟩ := pback p'
    obtain ⟨Lh, Ls, rfl, b1, b2⟩ := Dens.split hh s'.dens
    obtain ⟨M, sbM, b3⟩ := dens_noPv b2
    have hl2 : σ'.length = env2.length := b2.length
    have il2 : i < env2.length := by have := (List.getElem?_eq_some_iff.mp si).1; omega
    have keep1 : ∀ a ∈ M1, H' a = H a := fun a ha => x'.keep a (live1 a ha) fun z => nd.2.2 a ha a (mem5 a z) rfl
    have off1 : ∀ a ∈ Lh ++ Ls, a ∉ M1 := fun a ha z => (x'.own a ha).elim (fun y => nd.2.2 a z a (mem5 a y) rfl) (live1 a z)
    -- knowledge of what is kept
    have kc : ∀ {τ : List (Option V)} {es : List D} {W : List Addr}, es.all D.noPv = true → Dens K H' (Nw (Lh ++ Ls) LoV) τ es W → Dens K H' (Nw ((Lh ++ Ls) ++ M1) Lo) τ es W := fun {τ es W} ce h => by
      have go : ∀ f a, f ≠ .view → f ≠ .pv → Nw (Lh ++ Ls) LoV f a → Nw ((Lh ++ Ls) ++ M1) Lo f a := fun f a h1 h2 n => ⟨fun z => (List.mem_append.mp z).elim n.1 fun z => n.2 (.inr ⟨h1, h2, z⟩), fun z => n.2 (.inl z)⟩
      exact h.knowC (p := fun f => decide (f ≠ .pv ∧ f ≠ .view)) (fun f a _ hp n _ => go f a (of_decide_eq_true hp).2 (of_decide_eq_true hp).1 n) (fun a us n _ => go .frz a (by decide) (by decide) n) (fun a o us n _ => go .ext a (by decide) (by decide) n) ce
    have c1 := kc hnp b1
    have c3 := kc (all_noPv env2) b3
    have c0 : Dens K H' (Nw ((Lh ++ Ls) ++ M1) Lo) [some x0] [d0] M1 := q3.mono keep1 fun f a n ha => ⟨⟨fun z => (List.mem_append.mp z).elim (fun z => (x'.own a z).elim (fun y => n.1 (q2.mem_iff.mpr (List.mem_append_right _ (mem5 a y)))) ha) fun z => n.1 (q2.mem_iff.mpr (List.mem_append_left _ z)), n.2⟩, Keep.of (x'.keep a ha fun z => n.1 (q2.mem_iff.mpr (List.mem_append_right _ (mem5 a z))))⟩
    obtain ⟨M9, L9, sb9, pm9, d9⟩ := Dens.setAt c0 c3 i (by rw [List.length_map]; exact il2)
    rw [set_same si] at d9
    have memF : ∀ a ∈ Lh ++ L9, a ∈ (Lh ++ Ls) ++ M1 := fun a ha => by
      rcases List.mem_append.mp ha with z | z
      · exact List.mem_append_left _ (List.mem_append_left _ z)
      · rcases List.mem_append.mp (pm9.mem_iff.mp z) with z | z
        · exact List.mem_append_right _ z
        · exact List.mem_append_left _ (List.mem_append_right _ (sbM.subset (sb9.subset z)))
    have sn := List.nodup_append.mp s'.good.nd
    have ndL9 : L9.Nodup := pm9.nodup_iff.mpr (List.nodup_append.mpr ⟨nd.1, sb9.nodup (sbM.nodup sn.2.1), fun b hb c hc e => by subst e; exact off1 b (List.mem_append_right _ (sbM.subset (sb9.subset hc))) hb⟩)
    have ndF : (Lh ++ L9).Nodup := List.nodup_append.mpr ⟨sn.1, ndL9, fun b hb c hc e => by
      subst e
      rcases List.mem_append.mp (pm9.mem_iff.mp hc) with z | z
      · exact off1 b (List.mem_append_left _ hb) z
      · exact sn.2.2 b hb b (sbM.subset (sb9.subset z)) rfl⟩
    refine ⟨Lh ++ L9, ⟨⟨ndF, fun f a ha lo => ?_, fun f a lo => s'.good.lent f a (.inl lo), fun a z => s'.good.nov a (.inl z)⟩, (c1.know fun f a n _ => nw_sub memF f a n).app (d9.know fun f a n _ => nw_sub memF f a n)⟩, ⟨fun a ha n => x'.keep a ha fun z => n (q2.mem_iff.mpr (List.mem_append_right _ (mem5 a z))), fun a ha => ?_, x'.live⟩⟩
    · rcases List.mem_append.mp (memF a ha) with z | z
      · exact s'.good.no f a z (.inl lo)
      · exact s.good.no f a (q2.mem_iff.mpr (List.mem_append_left _ z)) lo
    · rcases List.mem_append.mp (memF a ha) with z | z
      · exact (x'.own a z).imp (fun y => q2.mem_iff.mpr (List.mem_append_right _ (mem5 a y))) id
      · exact .inl (q2.mem_iff.mpr (List.mem_append_left _ z))
  refine h.run σ H _ L5 LoV _ pins s5 ob e1 E ?_
  cases ob with
  | nx env2 =>
    cases e2
    intro σ' H' L' p' s' x'
    obtain ⟨L9, s9, x9⟩ := fin (hs := []) (hd := []) rfl rfl p' s' x'
    exact k σ' H' L9 (pback p').2 s9 x9
  | bk env2 =>
    cases e2
    intro σ' H' L' p' s' x'
    obtain ⟨L9, s9, x9⟩ := fin (hs := []) (hd := []) rfl rfl p' s' x'
    exact k σ' H' L9 (pback p').2 s9 x9
  | ct env2 =>
    cases e2
    intro σ' H' L' p' s' x'
    obtain ⟨L9, s9, x9⟩ := fin (hs := []) (hd := []) rfl rfl p' s' x'
    exact k σ' H' L9 (pback p').2 s9 x9
  | rt d env2 =>
    have e2' : (if d.noPv then some (Out.rt d (backV i d0 env2)) else none) = some o := e2
    split at e2'
    case isFalse => cases e2'
    rename_i hc
    cases e2'
    intro v σ' H' L' p' s' x'
    obtain ⟨L9, s9, x9⟩ := fin (hs := [some v]) (hd := [d]) rfl (by rw [List.all_cons, hc]; rfl) p' s' x'
    exact k v σ' H' L9 (pback p').2 s9 x9
end
end TL

set_option Elab.async false
set_option linter.all false
set_option maxRecDepth 100000
set_option maxHeartbeats 4000000
/-! XE1: an exception of an own class as a value: made, its class asked, its field read. -/
namespace TL
open PySem PySem.Spec PyProof.Rows L2
/-- at a an exception of the class C, its fields fs at d -/
def ExAt (H : Hp) (a C d : Addr) (fs : List (Str × V)) : Prop := H a = some (exo a C (some d)) ∧ H d = some (exd d fs)
/-- C(e, ..) as a value, C's own __init__ keeping sp -/
def tOeV (C : Addr) (sp : Sp) (ta : TA) : TE := fun σ H Q => ta σ H fun vs H1 => vs.length ≤ 1000 ∧ ∀ a, H1 a = none → sp (.ref a :: vs) (upd H1 a (exo a C none)) (fun v H2 => v = .non ∧ Q (.ref a) H2) (fun _ _ _ => False)
/-- isinstance(e, c), e such an exception -/
def rIsV (K : PySem.W.Frag) : List V → Hp → VK → Prop := fun xs H Q => ∃ (a C d : Addr) (fs : List (Str × V)) (c : V) (cv : Value) (b : Bool), xs = [.ref a, c] ∧ ExAt H a C d fs ∧ ExcC K C ∧ (∀ u, RelV c u → u = cv) ∧ PySem.W.kitOne K (.ref C) cv = some b ∧ Q (.bl b) H
/-- e.f, e such an exception -/
def tPlV (K : PySem.W.Frag) (f : Str) (te : TE) : TE := fun σ H Q => te σ H fun x H1 => ∃ (a C d : Addr) (fs : List (Str × V)) (v : V), x = .ref a ∧ ExAt H1 a C d fs ∧ XfC K C ∧ PySem.W.findIn K (.ref C) f = some none ∧ fs.lookup f = some v ∧ Q v H1
section
variable {X : Cx} {e : Expr} {es : List Expr} {te : TE} {ta : TA} {p pos : Pos}
theorem pe_oexV {CX : CXT} {x : Str} {C fI : Addr} {k : Nat} {fd : FuncData} {ps : List Str} {sp : Sp} (T : OexC X.K C) (iC : PySem.W.findIn X.K (.ref C) "__init__" = some (some (.ref fI))) (tI : PySem.W.typeIn X.K (.ref fI) = some (.type "function"))
    (F1 : FnOk X.prog X.w X.K X.mg X.base CX k fI fd ps sp) (hr : Room (k + 1) X.A) (hb : Binds X.K fd ps []) (hx : Passes CX X (fun _ _ _ => False)) (hg : Gl X x) (hm : X.mg x = some (.ref C)) (ha : PA X (e :: es) ta)
    (hdb : (x == ("__debug__" : Str)) = false := by decide) (he : starEach (e :: es) X.env = (false, eval e X.env) :: starEach es X.env := by rfl) (hpl : (backTo pos (starEach es X.env)).any (·.1) = false := by rfl) :
    PE X (.Call (.Name x p) (e :: es) [] pos) (tOeV C sp ta) := by
  refine ⟨fun pins s σ H Q I h => ?_⟩
  obtain ⟨nm, q, N, bs, bm, sn, sub, ab, col, dd, k0, k1, k2, k3, k5, hC, hbm⟩ := T.cls
  refine wpAny_Call_Name_kw (ld_glob I hg hm ?_ hdb)
  refine PySem.W.callWith_K (h₀ := X.base) I.ok.mod.kin T.kC (thn (ha.run pos pins s σ H _ I h) fun us s1 ⟨vs, H1, I1, r1, hz, q1⟩ => ⟨I1.kIn, ?_⟩) he hpl
  show wpAny _ _ (call (.ref C) us) _ _ _
  obtain ⟨hp, g, dr, tk, os⟩ := s1
  have hsz : hp.objs.size ≤ hp.objs.size + 1 := Nat.le_succ _
  have hn : H1 (hp.objs.size + 1) = none := I1.hok.fresh hsz
  have hq := q1 (hp.objs.size + 1) hn
  have kk : ∀ b o, hp.get? b = some o → ((hp.push (PySem.W.kdv_tup us)).push (PySem.HandSPX.excO C hp.objs.size)).get? b = some o := fun b o e => Heap.get?_push_of_some _ (Heap.get?_push_of_some _ e)
  have hget : ((hp.push (PySem.W.kdv_tup us)).push (PySem.HandSPX.excO C hp.objs.size)).get? (hp.objs.size + 1) = some (PySem.HandSPX.excO C hp.objs.size) := by heap_get
  have I2 : Inv X pins σ (upd H1 (hp.objs.size + 1) (exo (hp.objs.size + 1) C none)) ⟨(hp.push (PySem.W.kdv_tup us)).push (PySem.HandSPX.excO C hp.objs.size), g, dr, tk, os⟩ :=
    I1.laid (t' := tk) (a := hp.objs.size + 1) (o := exo (hp.objs.size + 1) C none) (h' := (hp.push (PySem.W.kdv_tup us)).push (PySem.HandSPX.excO C hp.objs.size)) kk hsz (exo_ok hget)
  have r2 : Vals (V.ref (hp.objs.size + 1) :: vs) (Value.ref (hp.objs.size + 1) :: us) := .cons rfl r1
  have hl : (Value.ref (hp.objs.size + 1) :: us ++ []).length = ps.length := by
    have e := r2.length
    rw [F1.len _ _ _ _ hq] at e
    rw [List.append_nil]
    exact e.symm
  have hus : us.length ≤ sizeLine := by
    rw [← Paired.length r1, sizeLine_eq]
    omega
  have hbb := hb _ (Value.ref (hp.objs.size + 1) :: us) I2.kIn hl
  rw [List.append_nil] at hbb
  refine wpAny_call (PySem.HandSPX.call_own F.excBase_ValueError (fun Y => PySem.HandSPX.refsVE_contains Y bm hbm) (I1.kIn _ _ hC) (PySem.W.looks_findIn I1.kIn iC) (fun self => PySem.W.bind_fn I1.kIn self tI) hus
    (codeAny_mono (F1.run _ X.stack _ _ ⟨Value.ref (hp.objs.size + 1) :: us, []⟩ (Value.ref (hp.objs.size + 1) :: us) _ _ (fun _ _ _ => False) (hr.make C us []) (I2.env0.make C us []) hbb r2 hq) fun r s' hq' => ?_))
  cases r with
  | error er => exact hx pins σ _ _ er s' I2 hq'
  | ok fl =>
    cases fl with
    | ret u =>
      obtain ⟨v, H2, os2, bare2, un2, hok2, rv, ev, q2⟩ := hq'
      subst ev
      obtain ⟨h2, g2, d2, t2, os'⟩ := s'
      exact ⟨rv, .ref (hp.objs.size + 1), H2, I2.call' (ch := []) os2 un2 hok2 bare2 (fun b z => absurd z (by simp)), rfl, q2⟩
    | next => exact False.elim hq'
    | brk => exact False.elim hq'
    | cont => exact False.elim hq'
theorem exAt_inst {pins : List (Addr × Obj)} {σ : L2.St} {H : Hp} {s : Shared} {a C d : Addr} {fs : List (Str × V)} (I : Inv X pins σ H s) (h : ExAt H a C d fs) : ∃ (ox od : Obj) (mA : Str → Option Value), PySem.W.InstAt s.heap a ox C (some od) ∧ (∀ f, RelO (fs.lookup f) (mA f)) ∧ ∀ name, PySem.W.lookIn name od = some (mA name) := by
  obtain ⟨t1, ho⟩ := exo_at I.hok h.1
  obtain ⟨mA, hns, rel⟩ := exd_at I.hok h.2
  obtain ⟨od, hod, hl⟩ := lookIn_ns hns
  exact ⟨_, od, mA, ⟨ho, rfl, rfl, hod⟩, rel, hl⟩
theorem call_isV : CallR X (.builtin "isinstance") (rIsV X.K) := by
  intro pins s σ H xs us Q I r h
  obtain ⟨a, C, d, fs, c, cv, b, rfl, hx, E, hcv, e, q⟩ := h
  cases r with
  | cons rx rr =>
    cases rr with
    | cons rt rr =>
      cases rr
      cases rx
      have ec := hcv _ rt
      subst ec
      obtain ⟨ox, od, mA, J, _, _⟩ := exAt_inst I hx
      have hcl : (PySem.W.clsIn X.K C).isSome = true := by
        obtain ⟨cd, hc, _⟩ := PySem.W.any_some E.hd
        rw [hc]; rfl
      exact PySem.W.kia_one (PySem.W.kitx_exc (gt := none) (od := some od) (ox := ox) hcl E.hg E.hk E.hs E.ha E.hn E.ht E.hm) I.kIn J e (fun z => nomatch z) fun tk => ⟨.bl b, H, I.kept (t' := tk) fun _ _ z => z, rfl, q⟩
theorem pe_plV {n : Str} (he : PE X e te) (hb : attributeBase e n X.env (eval e X.env) = eval e X.env := by rfl) : PE X (.Attribute e n pos) (tPlV X.K n te) := by
  refine ⟨fun pins s σ H Q I h => ?_⟩
  refine attr_of hb (thn (he.run pins s σ H _ I h) fun u s1 hh => ?_)
  obtain ⟨x, H1, I1, rx, a, C, d, fs, v, ex, hx, T, hno, l, q⟩ := hh
  subst ex
  obtain rfl : u = Value.ref a := rx
  obtain ⟨ox, od, mA, J, hr, hl⟩ := exAt_inst I1 hx
  obtain ⟨u, hu, ru⟩ := RelO.some_of (v := v) (o := mA n) (by rw [← l]; exact hr n)
  exact HandSPX.exc_get I1.kIn J T.ga T.gg T.exC (PySem.W.findObj_own T.hdC hno rfl (by rw [hl, hu])) (handed_of ru) ⟨v, H1, I1.tok _, ru, q⟩
end
end TL

set_option Elab.async false
set_option linter.all false
set_option maxRecDepth 100000
set_option maxHeartbeats 4000000
/-! XE2: refusals made, their kinds and places asked: one block of statements as a function of trees. -/
namespace TL
open PySem PySem.Spec PyProof.Rows L2
theorem Dens.slot {K : PySem.W.Frag} {H : Hp} {N : Fl → Addr → Prop} {σ : List (Option V)} {ds : List D} {L : List Addr} (h : Dens K H N σ ds L) : ∀ (k : Nat) (x : Option V), ds[k]? = some .und → Dens K H N (σ.set k x) ds L := by
  induction h with
  | nil => intro k x e; simp at e
  | und h ih =>
    intro k x e
    cases k with
    | zero => exact .und h
    | succ k => exact .und (ih k x (by simpa using e))
  | non h ih =>
    intro k x e
    cases k with
    | zero => simp at e
    | succ k => exact .non (ih k x (by simpa using e))
  | bl h ih =>
    intro k x e
    cases k with
    | zero => simp at e
    | succ k => exact .bl (ih k x (by simpa using e))
  | int h ih =>
    intro k x e
    cases k with
    | zero => simp at e
    | succ k => exact .int (ih k x (by simpa using e))
  | str h ih =>
    intro k x e
    cases k with
    | zero => simp at e
    | succ k => exact .str (ih k x (by simpa using e))
  | ty h ih =>
    intro k x e
    cases k with
    | zero => simp at e
    | succ k => exact .ty (ih k x (by simpa using e))
  | cls h ih =>
    intro k x e
    cases k with
    | zero => simp at e
    | succ k => exact .cls (ih k x (by simpa using e))
  | tup a n h1 h2 i1 i2 =>
    intro k x e
    cases k with
    | zero => simp at e
    | succ k => exact .tup a n h1 (i2 k x (by simpa using e))
  | tupK a h1 h2 i1 i2 =>
    intro k x e
    cases k with
    | zero => simp at e
    | succ k => exact .tupK a h1 (i2 k x (by simpa using e))
  | lstO a h1 h2 i1 i2 =>
    intro k x e
    cases k with
    | zero => simp at e
    | succ k => exact .lstO a h1 (i2 k x (by simpa using e))
  | lstR r a n h1 h2 i1 i2 =>
    intro k x e
    cases k with
    | zero => simp at e
    | succ k => exact .lstR r a n h1 (i2 k x (by simpa using e))
  | lstE a h1 h2 i1 i2 =>
    intro k x e
    cases k with
    | zero => simp at e
    | succ k => exact .lstE a h1 (i2 k x (by simpa using e))
  | lstX a n h1 h2 i1 i2 =>
    intro k x e
    cases k with
    | zero => simp at e
    | succ k => exact .lstX a n h1 (i2 k x (by simpa using e))
  | dKO a b h1 h2 i1 i2 =>
    intro k x e
    cases k with
    | zero => simp at e
    | succ k => exact .dKO a b h1 (i2 k x (by simpa using e))
  | dKR r a n b h1 h2 i1 i2 =>
    intro k x e
    cases k with
    | zero => simp at e
    | succ k => exact .dKR r a n b h1 (i2 k x (by simpa using e))
  | dTO a b h1 h2 i1 i2 =>
    intro k x e
    cases k with
    | zero => simp at e
    | succ k => exact .dTO a b h1 (i2 k x (by simpa using e))
  | dTR r a n b h1 h2 i1 i2 =>
    intro k x e
    cases k with
    | zero => simp at e
    | succ k => exact .dTR r a n b h1 (i2 k x (by simpa using e))
  | insO a b h1 h2 i1 i2 =>
    intro k x e
    cases k with
    | zero => simp at e
    | succ k => exact .insO a b h1 (i2 k x (by simpa using e))
  | insR r a n b h1 h2 i1 i2 =>
    intro k x e
    cases k with
    | zero => simp at e
    | succ k => exact .insR r a n b h1 (i2 k x (by simpa using e))
/-! ### the promises -/
/-- the __init__ of the classes -/
def spInit (K : PySem.W.Frag) : Sp := fun vs H Q _ => ∃ (a C : Addr) (x y : V), vs = [.ref a, x, y] ∧ OexC K C ∧ PySem.W.findIn K (.ref C) "place" = some none ∧ H a = some (exo a C none) ∧ ∀ d, H d = none → d ≠ a → Q .non (upd (upd H d (exd d [("place", y)])) a (exo a C (some d)))
/-- one of them made -/
def spMade (cl : Nat → Addr) : Sp := fun vs H Q _ => ∃ (i : Int) (z : V) (j : Int), vs = [.int i, z, .int j] ∧ 0 ≤ i ∧ i < 6 ∧ ∀ a d, H a = none → H d = none → d ≠ a → Q (.ref a) (upd (upd H d (exd d [("place", .int j)])) a (exo a (cl i.toNat) (some d)))
/-- isinstance(slot i, c) -/
def tIs (K : PySem.W.Frag) (i : Nat) (c : V) : TE := tCB (rIsV K) (tCons (tVar i) (tCons (tC c) tNil))
theorem is_run {K : PySem.W.Frag} {i : Nat} {c : V} {cv : Value} {b : Bool} {σ : L2.St} {H : Hp} {Q : VK} {a C d : Addr} {fs : List (Str × V)} (h4 : σ[i]? = some (some (.ref a))) (hx : ExAt H a C d fs) (E : ExcC K C) (hc : ∀ u, RelV c u → u = cv) (e : PySem.W.kitOne K (.ref C) cv = some b) (q : Q (.bl b) H) : tIs K i c σ H Q :=
  ⟨.ref a, h4, a, C, d, fs, c, cv, b, rfl, hx, E, hc, e, q⟩
theorem ExAt.still {H H' : Hp} {a C d : Addr} {fs : List (Str × V)} (h : ExAt H a C d fs) (s : Still H H') : ExAt H' a C d fs :=
  ⟨(s a (by rw [h.1]; exact Option.some_ne_none _)).trans h.1, (s d (by rw [h.2]; exact Option.some_ne_none _)).trans h.2⟩
theorem still_upd {H : Hp} {p : Addr} {o : HO} (h : H p = none) : Still H (upd H p o) := fun a ha => upd_ne fun z => ha (z ▸ h)
/-- what is said of the six classes -/
structure XCs (K : PySem.W.Frag) (cl : Nat → Addr) : Prop where
  e : ∀ i, i < 6 → ExcC K (cl i)
  x : ∀ i, i < 6 → XfC K (cl i)
  n : ∀ i, i < 6 → PySem.W.findIn K (.ref (cl i)) "place" = some none
  k : ∀ i j, i < 6 → j < 6 → PySem.W.kitOne K (.ref (cl i)) (.ref (cl j)) = some (decide (i = j) || decide (j = 5))
  v : ∀ i, i < 6 → PySem.W.kitOne K (.ref (cl i)) (.type "ValueError") = some true
/-- the block's reading -/
def tBlk (K : PySem.W.Frag) (cl : Nat → Addr) (ta : TA) (tl : TE) (rn : R2) : TS :=
  tSeq (tAsg (tCall (spMade cl) [] (fun _ _ _ => False) ta) (gName 4))
  (tSeq (tAsg (tLst (tCons (tIs K 4 (.ref (cl 0))) (tCons (tIs K 4 (.ref (cl 1))) tNil))) (gName 5))
  (tSeq (tAsg (tOp rCat (tVar 5) (tLst (tCons (tIs K 4 (.ref (cl 2))) (tCons (tIs K 4 (.ref (cl 3))) (tCons (tIs K 4 (.ref (cl 4))) tNil))))) (gName 5))
  (tSeq (tIfS (tOr (tTest (tOp rn (tVar 5) tl)) (tNot (tB (tIs K 4 (.ty "ValueError"))))) (tRet (tC (.bl false))) tNext)
    (tIfS (tOr (tNot (tB (tIs K 4 (.ref (cl 5))))) (tB (tNeI (tPlV K "place" (tVar 4)) (tVar 3)))) (tRet (tC (.bl false))) tNext))))
/-- the block by trees: nothing is found amiss -/
def sMadeOk (fs : Ev → Option (List D × Ev)) : Ev → Option Out := fun env => (fs env).bind fun p => match p with
  | ([.int i, .str _, .int j], [x0, x1, .int i', .int j', .und, .und, .und]) => if 0 ≤ i ∧ i < 6 ∧ i = i' ∧ j = j' then some (.nx [x0, x1, .int i, .int j, .und, .und, .und]) else none
  | _ => none
/-- the kinds due -/
def kindsD (i : Int) : List D := (List.range 5).map fun k => D.bl (decide (((k : Nat) : Int) = i))
/-- the comprehension's function -/
abbrev fKinds : Ev → Option (D × Ev) := eLc true [6] (itOp wR1 (aCons (eC (.int 5)) (aNil))) (tvName 6) (tyes) (eOp gEq (aCons (eVar 6) (aCons (eVar 2) aNil)))
end TL

set_option Elab.async false
set_option linter.all false
set_option maxRecDepth 100000
set_option maxHeartbeats 4000000
/-! XE3: the block computes what is said. -/
namespace TL
open PySem PySem.Spec PyProof.Rows L2
theorem sMadeOk_some {fs : Ev → Option (List D × Ev)} {env : Ev} {o : Out} (e : sMadeOk fs env = some o) : ∃ (n : Nat) (z : Str) (j : Int) (x0 x1 : D), n < 6 ∧ fs env = some ([.int (n : Int), .str z, .int j], [x0, x1, .int (n : Int), .int j, .und, .und, .und]) ∧ o = .nx [x0, x1, .int (n : Int), .int j, .und, .und, .und] := by
  obtain ⟨p, ef, e2⟩ := Option.bind_eq_some_iff.mp e
  split at e2
  · split at e2
    · rename_i i z j x0 x1 i' j' h
      obtain ⟨h0, h6, rfl, rfl⟩ := h
      cases e2
      obtain ⟨n, rfl⟩ : ∃ n : Nat, i = (n : Int) := ⟨i.toNat, by omega⟩
      exact ⟨n, z, j, x0, x1, by omega, ef, rfl⟩
    · cases e2
  · cases e2
theorem Dens.slotA {K : PySem.W.Frag} {H : Hp} {N : Fl → Addr → Prop} {ts σ : List (Option V)} {td env : List D} {L : List Addr} (h : Dens K H N (ts ++ σ) (td ++ env) L) (hl : ts.length = td.length) (k : Nat) (x : Option V) (e : env[k]? = some .und) : Dens K H N (ts ++ σ.set k x) (td ++ env) L := by
  have q := h.slot (ts.length + k) x (by rw [hl, List.getElem?_append_right (by omega), show td.length + k - td.length = k by omega]; exact e)
  rw [List.set_append, if_neg (by omega), show ts.length + k - ts.length = k by omega] at q
  exact q
theorem dens_bls {K : PySem.W.Frag} {H : Hp} {N : Fl → Addr → Prop} : ∀ bs : List Bool, Dens K H N (so (bs.map V.bl)) (bs.map D.bl) []
  | [] => .nil
  | b :: r => .bl (dens_bls r)
theorem Good.stays {L : List Addr} {Lo : Lent} {H H' : Hp} (g : Good L Lo H) (s : Still H H') : Good L Lo H' :=
  ⟨g.nd, g.no, fun f a lo => by
    obtain ⟨l1, l2⟩ := g.lent f a lo
    rw [s a l1]
    exact ⟨l1, l2⟩, g.nov⟩
theorem Sta.stays {K : PySem.W.Frag} {Lo : Lent} {H H' : Hp} {σ : List (Option V)} {ds : List D} {L : List Addr} (h : Sta K Lo H σ ds L) (s : Still H H') : Sta K Lo H' σ ds L := ⟨h.good.stays s, h.dens.still s fun a ha => .inl ha⟩
/-- the five kinds of the n-th -/
def kindsB (n : Nat) : List Bool := (List.range 5).map fun k => decide (n = k)
theorem kinds_fK {n : Nat} (hn : n < 6) (j : Int) (x0 x1 : D) : fKinds [x0, x1, .int (n : Int), .int j, .und, .und, .und] = some (.lst .own ((kindsB n).map D.bl), [x0, x1, .int (n : Int), .int j, .und, .und, .und]) := by
  have : n = 0 ∨ n = 1 ∨ n = 2 ∨ n = 3 ∨ n = 4 ∨ n = 5 := by omega
  rcases this with rfl | rfl | rfl | rfl | rfl | rfl
  all_goals rfl
theorem kinds_ne {n : Nat} (hn : n < 6) : gNe [.lst .frz ((kindsB n).map D.bl), .lst .own ((kindsB n).map D.bl)] = some (.bl false) := by
  have : n = 0 ∨ n = 1 ∨ n = 2 ∨ n = 3 ∨ n = 4 ∨ n = 5 := by omega
  rcases this with rfl | rfl | rfl | rfl | rfl | rfl
  all_goals rfl
theorem sat_blk {K : PySem.W.Frag} {cl : Nat → Addr} {ta : TA} {fs : Ev → Option (List D × Ev)} {tl : TE} {rn : R2} (X : XCs K cl) (ha : SatAC K ta fs) (hl : Sat K true tl fKinds) (hn : OpN K (rN2 rn) gNe) : SatS K [] (tBlk K cl ta tl rn) (sMadeOk fs) := by
  refine ⟨fun σ H env ts td L Lo pv hlen hcl p s o e E k => ?_⟩
  obtain ⟨n, z, j, x0, x1, h6, ef, rfl⟩ := sMadeOk_some e
  refine ha.run σ H env ts td L Lo hlen hcl s _ _ ef _ fun vs H1 Lr Lb c _ => ?_
  obtain ⟨rfl, rfl⟩ : vs = [.int (n : Int), .str z, .int j] ∧ Lr = [] := by
    have tp := c.top
    have ln := tp.length
    match vs, tp, ln with
    | [v1, v2, v3], h, _ =>
      obtain ⟨e1, h1⟩ := one_int h
      obtain ⟨e2, h2⟩ := one_str h1
      obtain ⟨e3, h3⟩ := one_int h2
      have q := (one_nil h3).2
      cases e1
      cases e2
      cases e3
      exact ⟨rfl, q⟩
    | [], _, q => exact absurd q (by simp)
    | [_], _, q => exact absurd q (by simp)
    | [_, _], _, q => exact absurd q (by simp)
    | _ :: _ :: _ :: _ :: _, _, q => exact absurd q (by simp)
  obtain ⟨ENV, hE⟩ : ∃ ENV : Ev, ENV = [x0, x1, .int (n : Int), .int j, .und, .und, .und] := ⟨_, rfl⟩
  have s1 : Sta K Lo H1 (ts ++ σ) (td ++ ENV) Lb := by
    rw [hE]
    exact ⟨c.good, c.base⟩
  have lσ : σ.length = 7 := by
    have := s1.dens.length
    rw [List.length_append, List.length_append, hE] at this
    simp at this
    omega
  refine ⟨(n : Int), .str z, j, rfl, by omega, by omega, fun a d ha0 hd0 hne => ?_⟩
  obtain ⟨H2, hH2⟩ : ∃ H2, H2 = upd (upd H1 d (exd d [("place", .int j)])) a (exo a (cl (n : Int).toNat) (some d)) := ⟨_, rfl⟩
  have st2 : Still H1 H2 := by
    rw [hH2]
    intro b hb
    rw [upd_ne (fun y => hb (by rw [y]; exact ha0)), upd_ne (fun y => hb (by rw [y]; exact hd0))]
  have hx2 : ExAt H2 a (cl n) d [("place", .int j)] := by
    rw [hH2, Int.toNat_natCast]
    exact ⟨upd_same, (upd_ne hne).trans upd_same⟩
  rw [← hH2]
  clear hH2
  have ee := X.e n h6
  obtain ⟨σ2, hσ2⟩ : ∃ q, q = σ.set 4 (some (.ref a)) := ⟨_, rfl⟩
  have l2 : σ2.length = 7 := by rw [hσ2, List.length_set]; exact lσ
  have g2 : σ2[4]? = some (some (.ref a)) := by rw [hσ2, List.getElem?_set_self (by omega)]
  have d2 : Dens K H1 (Nw Lb Lo) (ts ++ σ2) (td ++ ENV) Lb := by
    rw [hσ2]
    exact s1.dens.slotA hlen 4 _ (by rw [hE]; rfl)
  show tSeq (tAsg (tLst (tCons (tIs K 4 (.ref (cl 0))) (tCons (tIs K 4 (.ref (cl 1))) tNil))) (gName 5)) _ _ (σ.set 4 (some (.ref a))) H2
  rw [← hσ2]
  refine is_run g2 hx2 ee (cv := .ref (cl 0)) (fun u r => r) (X.k n 0 h6 (by decide)) ?_
  refine is_run g2 hx2 ee (cv := .ref (cl 1)) (fun u r => r) (X.k n 1 h6 (by decide)) ?_
  refine ⟨by show 2 ≤ sizeLine; decide, fun l hl0 => ?_⟩
  obtain ⟨H3, hH3⟩ : ∃ q, q = upd H2 l (.lst [.bl (decide (n = 0) || decide (0 = 5)), .bl (decide (n = 1) || decide (1 = 5))]) := ⟨_, rfl⟩
  have st3 : Still H2 H3 := by rw [hH3]; exact still_upd hl0
  have hl3 : H3 l = some (.lst [.bl (decide (n = 0) || decide (0 = 5)), .bl (decide (n = 1) || decide (1 = 5))]) := by rw [hH3]; exact upd_same
  have hx3 := hx2.still st3
  obtain ⟨σ3, hσ3⟩ : ∃ q, q = σ2.set 5 (some (.ref l)) := ⟨_, rfl⟩
  have l3 : σ3.length = 7 := by rw [hσ3, List.length_set]; exact l2
  have g3 : σ3[4]? = some (some (.ref a)) := by rw [hσ3, List.getElem?_set_ne (by decide)]; exact g2
  have g35 : σ3[5]? = some (some (.ref l)) := by rw [hσ3, List.getElem?_set_self (by omega)]
  have d3 : Dens K H1 (Nw Lb Lo) (ts ++ σ3) (td ++ ENV) Lb := by
    rw [hσ3]
    exact d2.slotA hlen 5 _ (by rw [hE]; rfl)
  show tSeq (tAsg (tOp rCat (tVar 5) (tLst (tCons (tIs K 4 (.ref (cl 2))) (tCons (tIs K 4 (.ref (cl 3))) (tCons (tIs K 4 (.ref (cl 4))) tNil))))) (gName 5)) _ _ (σ2.set 5 (some (.ref l))) (upd H2 l _)
  rw [← hσ3, ← hH3]
  clear hH3
  refine ⟨.ref l, g35, ?_⟩
  refine is_run g3 hx3 ee (cv := .ref (cl 2)) (fun u r => r) (X.k n 2 h6 (by decide)) ?_
  refine is_run g3 hx3 ee (cv := .ref (cl 3)) (fun u r => r) (X.k n 3 h6 (by decide)) ?_
  refine is_run g3 hx3 ee (cv := .ref (cl 4)) (fun u r => r) (X.k n 4 h6 (by decide)) ?_
  refine ⟨by show 3 ≤ sizeLine; decide, fun m hm0 => ?_⟩
  have hlm : l ≠ m := fun y => by rw [← y, hl3] at hm0; cases hm0
  refine ⟨l, m, _, _, rfl, rfl, (upd_ne hlm).trans hl3, upd_same, by show 5 ≤ sizeLine; decide, fun q hq0 => ?_⟩
  obtain ⟨H5, hH5⟩ : ∃ y, y = upd (upd H3 m (.lst [.bl (decide (n = 2) || decide (2 = 5)), .bl (decide (n = 3) || decide (3 = 5)), .bl (decide (n = 4) || decide (4 = 5))])) q (.lst ([.bl (decide (n = 0) || decide (0 = 5)), .bl (decide (n = 1) || decide (1 = 5))] ++ [.bl (decide (n = 2) || decide (2 = 5)), .bl (decide (n = 3) || decide (3 = 5)), .bl (decide (n = 4) || decide (4 = 5))])) := ⟨_, rfl⟩
  have st5 : Still H3 H5 := by rw [hH5]; exact (still_upd hm0).trans (still_upd hq0)
  have hk5 : H5 q = some (.lst ((kindsB n).map V.bl)) := by
    rw [hH5, upd_same]
    congr 2
    have : n = 0 ∨ n = 1 ∨ n = 2 ∨ n = 3 ∨ n = 4 ∨ n = 5 := by omega
    rcases this with rfl | rfl | rfl | rfl | rfl | rfl
    all_goals rfl
  have hx5 := hx3.still st5
  have st15 : Still H1 H5 := (st2.trans st3).trans st5
  obtain ⟨σ5, hσ5⟩ : ∃ y, y = σ3.set 5 (some (.ref q)) := ⟨_, rfl⟩
  have g5 : σ5[4]? = some (some (.ref a)) := by rw [hσ5, List.getElem?_set_ne (by decide)]; exact g3
  have g55 : σ5[5]? = some (some (.ref q)) := by rw [hσ5, List.getElem?_set_self (by omega)]
  have d5 : Dens K H1 (Nw Lb Lo) (ts ++ σ5) (td ++ ENV) Lb := by
    rw [hσ5]
    exact d3.slotA hlen 5 _ (by rw [hE]; rfl)
  show tSeq (tIfS (tOr (tTest (tOp rn (tVar 5) tl)) (tNot (tB (tIs K 4 (.ty "ValueError"))))) (tRet (tC (.bl false))) tNext) (tIfS (tOr (tNot (tB (tIs K 4 (.ref (cl 5))))) (tB (tNeI (tPlV K "place" (tVar 4)) (tVar 3)))) (tRet (tC (.bl false))) tNext) E (σ3.set 5 (some (.ref q))) (upd (upd H3 m _) q _)
  rw [← hσ5, ← hH5]
  clear hH5
  have s5 : Sta K Lo H5 (ts ++ σ5) (td ++ ENV) Lb := (Sta.stays ⟨s1.good, d5⟩ st15)
  refine ⟨.ref q, g55, ?_⟩
  refine hl.run σ5 H5 ENV ts td Lb Lo hlen s5 (.lst .own ((kindsB n).map D.bl)) ENV (by rw [hE]; exact kinds_fK h6 j x0 x1) _ fun v H6 Mr Mb c6 => ?_
  obtain ⟨_, st6, rfl, _⟩ := c6.quiet rfl
  have hk6 : H6 q = some (.lst ((kindsB n).map V.bl)) := (st6 q (by rw [hk5]; exact Option.some_ne_none _)).trans hk5
  have dd : Dens K H6 (fun _ _ => True) (so [.ref q, v]) [.lst .frz ((kindsB n).map D.bl), .lst .own ((kindsB n).map D.bl)] ([] ++ Mr) :=
    .lstR rfl hk6 trivial (dens_bls _) (c6.top.know fun _ _ _ _ => trivial)
  refine hn H6 (fun _ _ => True) [.ref q, v] _ _ dd (List.nodup_append.mp c6.good.nd).1 (.bl false) (kinds_ne h6) _ fun w H7 Mr2 r => ?_
  have hw := (one_bl (r.dens (fun _ _ => True) (fun _ _ _ _ => trivial) (fun _ _ _ _ => trivial))).1
  cases hw
  have st57 : Still H5 H7 := st6.trans r.still
  have hx7 := hx5.still st57
  have s7 := s5.stays st57
  refine ⟨false, rfl, ?_⟩
  dsimp only
  rw [if_neg Bool.false_ne_true]
  refine is_run g5 hx7 ee (cv := .type "ValueError") (fun u r => r) (X.v n h6) ⟨true, rfl, ?_⟩
  dsimp only
  rw [if_neg (by decide)]
  show tIfS (tOr (tNot (tB (tIs K 4 (.ref (cl 5))))) (tB (tNeI (tPlV K "place" (tVar 4)) (tVar 3)))) (tRet (tC (.bl false))) tNext E σ5 H7
  have k5 := X.k n 5 h6 (by decide)
  rw [show (decide (n = 5) || decide (5 = 5)) = true by simp] at k5
  refine is_run g5 hx7 ee (cv := .ref (cl 5)) (fun u r => r) k5 ⟨true, rfl, ?_⟩
  dsimp only
  rw [if_neg (by decide)]
  refine ⟨.ref a, g5, a, cl n, d, _, .int j, rfl, hx7, X.x n h6, X.n n h6, rfl, ?_⟩
  refine (Sat.var 3).run σ5 H7 ENV ts td _ Lo hlen s7 (.int j) ENV (by rw [hE]; rfl) _ fun v8 H8 Nr Nb c8 => ?_
  obtain ⟨_, st8, rfl, _⟩ := c8.quiet rfl
  have hv := (one_int c8.top).1
  cases hv
  refine ⟨j, j, rfl, rfl, !decide (j = j), rfl, ?_⟩
  dsimp only
  rw [if_neg (by simp)]
  show E.nx σ5 H8
  have st18 : Still H1 H8 := (st15.trans st57).trans st8
  have s8 := s7.stays st8
  rw [hE] at s8
  exact k σ5 H8 _ (fun i hi => by cases hi) s8 (c.ext.trans (Ext.of_still st18 fun b hb => .inl hb))
end TL

set_option Elab.async false
set_option linter.all false
set_option maxRecDepth 100000
namespace TL
open PySem PySem.Spec PyProof.Rows L2
noncomputable section
abbrev N_law_drawn : List PySem.Str := ["_law_script", "_law_cells"]
def B_law_drawn : Ev → Option Out :=
  sSeq (sAsg (eFrz (eBorrow (eOp gAdd (aCons (eOp gList (aCons (eVar 0) (aNil))) (aCons (eOp gMul (aCons (eOp gLst (aCons (eC (.int 0)) (aNil))) (aCons (eOp gInt (aCons (eOp gEq (aCons (eVar 0) (aCons (eOp gLst (aNil)) aNil))) (aNil))) aNil))) aNil))))) (tgName 1))
  (sRet (eBorrow (eDisp [.inr "cells", .inr "at", .inr "left", .inr "number", .inr "digits"] (aCons (eVar 1) (aCons (eC (.int 0)) (aCons (eC (.int 60)) (aCons (eOp gDiv (aCons (eOp gIx (aCons (eVar 1) (aCons (eC (.int 0)) aNil))) (aCons (eC (.int 2)) aNil))) (aCons (eOp gEq (aCons (eOp gMod (aCons (eOp gIx (aCons (eVar 1) (aCons (eC (.int 0)) aNil))) (aCons (eC (.int 2)) aNil))) (aCons (eC (.int 0)) aNil))) (aNil)))))))))
def F_law_drawn : List D → Option (D × List D) := fnD 2 1 [] B_law_drawn
abbrev N_law_pick : List PySem.Str := ["_law_draw", "_law_many", "_law_cells", "_law_value", "_law_k", "_law_m"]
def B_law_pick : Ev → Option Out :=
  sSeq (sAsg (eFrz (eBorrow (eOp gDGet (aCons (eVar 0) (aCons (eC (.str "cells")) aNil))))) (tgName 2))
  (sSeq (sIf (bBorrow (bTest (eOp gDGet (aCons (eVar 0) (aCons (eC (.str "digits")) aNil)))))
  (sSeq (sAsg (eFrz (eBorrow (eOp gMod (aCons (eOp gDGet (aCons (eVar 0) (aCons (eC (.str "number")) aNil))) (aCons (eVar 1) aNil))))) (tgName 3))
    (sSeq (sSetI 0 (eBorrow (eOp gDiv (aCons (eOp gDGet (aCons (eVar 0) (aCons (eC (.str "number")) aNil))) (aCons (eVar 1) aNil)))) (eC (.str "number")))
    (sSeq (sSetI 0 (eBorrow (eOp TL.gSub (aCons (eOp gDGet (aCons (eVar 0) (aCons (eC (.str "left")) aNil))) (aCons (eC (.int 1)) aNil)))) (eC (.str "left")))
    (sSeq (sIf (bBorrow (bTest (eOp gEq (aCons (eOp gDGet (aCons (eVar 0) (aCons (eC (.str "left")) aNil))) (aCons (eC (.int 0)) aNil)))))
    (sSeq (sSetI 0 (eBorrow (eOp gAdd (aCons (eOp gDGet (aCons (eVar 0) (aCons (eC (.str "at")) aNil))) (aCons (eC (.int 1)) aNil)))) (eC (.str "at")))
      (sSeq (sSetI 0 (eBorrow (eOp gIx (aCons (eVar 2) (aCons (eOp gMod (aCons (eOp gDGet (aCons (eVar 0) (aCons (eC (.str "at")) aNil))) (aCons (eOp gLen (aCons (eVar 2) (aNil))) aNil))) aNil)))) (eC (.str "number")))
      (sSetI 0 (eC (.int 60)) (eC (.str "left"))))) (sSkip))
    (sRet (eMove 3)))))) (sSkip))
  (sSeq (sSetI 0 (eBorrow (eOp gAdd (aCons (eOp gDGet (aCons (eVar 0) (aCons (eC (.str "at")) aNil))) (aCons (eC (.int 1)) aNil)))) (eC (.str "at")))
  (sSeq (sAsg (eFrz (eBorrow (eOp gDGet (aCons (eVar 0) (aCons (eC (.str "at")) aNil))))) (tgName 4))
  (sSeq (sAsg (eFrz (eBorrow (eOp gMod (aCons (eOp gMul (aCons (eOp gAdd (aCons (eOp gAdd (aCons (eOp gMod (aCons (eOp gIx (aCons (eVar 2) (aCons (eOp gMod (aCons (eVar 4) (aCons (eOp gLen (aCons (eVar 2) (aNil))) aNil))) aNil))) (aCons (eC (.int 2147483629)) aNil))) (aCons (eOp gMul (aCons (eOp gMul (aCons (eVar 4) (aCons (eVar 4) aNil))) (aCons (eC (.int 7919)) aNil))) aNil))) (aCons (eC (.int 11)) aNil))) (aCons (eC (.int 48271)) aNil))) (aCons (eC (.int 2147483647)) aNil))))) (tgName 5))
  (sSeq (sAsg (eFrz (eBorrow (eOp gMod (aCons (eOp gMul (aCons (eVar 5) (aCons (eVar 5) aNil))) (aCons (eC (.int 1999999973)) aNil))))) (tgName 5))
  (sRet (eBorrow (eOp gMod (aCons (eOp gDiv (aCons (eVar 5) (aCons (eC (.int 7)) aNil))) (aCons (eVar 1) aNil))))))))))
def F_law_pick : List D → Option (D × List D) := fnD 6 2 [0] B_law_pick
abbrev N_law : List PySem.Str := ["_law_script", "_law_draw", "_law_which", "_law_place", "_law_error", "_law_kinds", "_law_k"]
abbrev fsA : Ev → Option (List D × Ev) := aConsK (eVar 2) (aConsK (eMode [false, true, false, false, false, false, false] (eOp gIx (aCons (eOp gLst (aCons (eC (.str "")) (aCons (eC (.str "row")) (aCons (eC (.str "one row")) (aNil))))) (aCons (eCall 2 [some 1, none] F_law_pick (aCons (eMove 1) (aCons (eC (.int 3)) (aNil)))) aNil)))) (aConsK (eVar 3) (aNil)))
def W_law_1 : Ev → Option Out :=
  sSeq (sAsg (eFrz (eMode [false, true, false, false, false, false, false] (eOp gAdd (aCons (eC (.int 1)) (aCons (eCall 2 [some 1, none] F_law_pick (aCons (eMove 1) (aCons (eC (.int 2000)) (aNil)))) aNil))))) (tgName 3))
    (sMadeOk fsA)
def B_law : Ev → Option Out :=
  sSeq (sAsg (eBorrow (eCall 1 [none] F_law_drawn (aCons (eVar 0) (aNil)))) (tgName 1))
  (sSeq (sFor (itOp wR1 (aConsK (eC (.int 6)) (aNil))) (tgName 2) W_law_1)
  (sRet (eC (.bl true))))
def F_law : List D → Option (D × List D) := fnD 7 1 [] B_law
end
end TL

set_option Elab.async false
set_option linter.all false
set_option maxRecDepth 100000
namespace TL
open PySem PySem.Spec PyProof.Rows L2
/-! the text by places -/
def top (i : Nat) : Stmt := PySem.Challenge.pw_farbooks_k06_refusals_apart.main.body.getD i (.Pass ⟨0, 0, 0, 0⟩)
abbrev s_law_drawn : Stmt := top 8
abbrev s_law_pick : Stmt := top 9
abbrev s_law_made : Stmt := top 10
abbrev s_law : Stmt := top 11
abbrev s_init : Stmt := inClass (top 1) 0
abbrev N_init : List PySem.Str := ["self", "words", "place"]
abbrev N_law_made : List PySem.Str := ["_law_which", "_law_words", "_law_place"]
/-- the statements behind the place, in the loop -/
def blk : List Stmt := match (defBody s_law).getD 1 (.Pass ⟨0, 0, 0, 0⟩) with
  | .For _ _ b _ _ => b.drop 1
  | _ => []
def argsE : List Expr := match blk.getD 0 (.Pass ⟨0, 0, 0, 0⟩) with
  | .Assign _ (.Call _ a _ _) _ => a
  | _ => []
def kindsE : Expr := match blk.getD 3 (.Pass ⟨0, 0, 0, 0⟩) with
  | .If (.BoolOp _ (.Compare _ _ [e] _ :: _) _) _ _ _ => e
  | _ => .Constant .none 0 ⟨0, 0, 0, 0⟩
/-- what the top has written of the refusals -/
structure XTxt (K : PySem.W.Frag) (mg : PySem.Str → Option Value) (cl : Nat → Addr) (fI : Addr) (fdI : FuncData) : Prop where
  c : XCs K cl
  o : ∀ i, i < 6 → OexC K (cl i)
  i : ∀ i, i < 6 → PySem.W.findIn K (.ref (cl i)) "__init__" = some (some (.ref fI))
  n0 : mg "BadRow" = some (.ref (cl 0))
  n1 : mg "Misplaced" = some (.ref (cl 1))
  n2 : mg "Twice" = some (.ref (cl 2))
  n3 : mg "Uneven" = some (.ref (cl 3))
  n4 : mg "TooMany" = some (.ref (cl 4))
  n5 : mg "StoryError" = some (.ref (cl 5))
  tI : PySem.W.typeIn K (.ref fI) = some (.type "function")
  fI : L2.Fun K "__init__" "StoryError.__init__" s_init fI fdI
  bI : Binds K fdI ["self", "words", "place"] []
  vV : PySem.W.findCls K (.type "ValueError") (.type "type") "__init__" = some (.val (.builtin "ValueError.__init__"))
  b_VE : mg "ValueError" = none
  b_is : mg "isinstance" = none
structure Txt (K : PySem.W.Frag) (mg : PySem.Str → Option Value) : Prop where
  d_law_drawn : DefFct K mg "_law_drawn" s_law_drawn ["_law_script"]
  d_law_pick : DefFct K mg "_law_pick" s_law_pick ["_law_draw", "_law_many"]
  d_law : DefFct K mg "law" s_law ["_law_script"]
  d_law_made : DefFct K mg "_law_made" s_law_made ["_law_which", "_law_words", "_law_place"]
  b_int : mg "int" = none
  b_len : mg "len" = none
  b_list : mg "list" = none
  b_range : mg "range" = none
section
variable {P : Program} {w : World} {K : PySem.W.Frag} {mg : PySem.Str → Option Value} {base : Heap}
theorem sc_law_drawn : FnScope N_law_drawn ["_law_script"] (defScope s_law_drawn) := ⟨rfl, rfl, rfl, by decide +kernel, rfl, by decide +kernel, by decide +kernel⟩
theorem SB_law_drawn (T : Txt K mg) {ff : Addr} {cdv : Value} {β : Type} {mk : β → Around × List PySem.Env × Shared × Hp × XK} (FM : Fm (FamOf P w K mg base N_law_drawn "_law_drawn" s_law_drawn ff cdv mk) P w K mg base 0) : SB (FamOf P w K mg base N_law_drawn "_law_drawn" s_law_drawn ff cdv mk) K [] (defBody s_law_drawn) B_law_drawn :=
  sb_cons (ss_set (i := 1) (SEC.frz ((SE.borrow (se_bin v_add (fun _ => trivial) FM.K (se_list FM (sa_cons (se_var 0) (sa_nil)) T.b_list) (se_bin v_mul (fun _ => trivial) FM.K (se_lst (sa_cons (se_int) (sa_nil))) (se_intT FM (sa_cons (se_cmp v_eq FM.units FM.K (se_var 0) (se_lst (sa_nil))) (sa_nil)) T.b_int)))).c)) (hN := fun _ => sc_law_drawn.nd))
  (sb_one (ss_ret ((SE.borrow (se_disp (sp_str (se_var 1) (sp_str (se_int) (sp_str (se_int) (sp_str (se_bin v_div (fun _ => trivial) FM.K (se_ix FM.K (se_var 1) (se_int)) (se_int)) (sp_str (se_cmp v_eq FM.units FM.K (se_bin v_mod (fun _ => trivial) FM.K (se_ix FM.K (se_var 1) (se_int)) (se_int)) (se_int)) ((sp_nil (q := true)))))))))).c)))
theorem D_law_drawn (T : Txt K mg) : Def P w K mg base 1 "_law_drawn" 1 F_law_drawn := T.d_law_drawn.def (k := 0) (N := N_law_drawn) (pn := []) sc_law_drawn rfl (by decide) fun ff cdv β mk FM => SB.z (SB_law_drawn T FM)
theorem sc_law_pick : FnScope N_law_pick ["_law_draw", "_law_many"] (defScope s_law_pick) := ⟨rfl, rfl, rfl, by decide +kernel, rfl, by decide +kernel, by decide +kernel⟩
theorem SB_law_pick (T : Txt K mg) {ff : Addr} {cdv : Value} {β : Type} {mk : β → Around × List PySem.Env × Shared × Hp × XK} (FM : Fm (FamOf P w K mg base N_law_pick "_law_pick" s_law_pick ff cdv mk) P w K mg base 0) : SB (FamOf P w K mg base N_law_pick "_law_pick" s_law_pick ff cdv mk) K [0] (defBody s_law_pick) B_law_pick :=
  sb_cons (ss_set (i := 2) (SEC.frz ((SE.borrow (se_dget FM.u1 (se_var 0) (se_str))).c)) (hN := fun _ => sc_law_pick.nd))
  (sb_cons (ss_if ((STE.borrow (ste_val (se_dget FM.u1 (se_var 0) (se_str)))).c) (sb_cons (ss_set (i := 3) (SEC.frz ((SE.borrow (se_bin v_mod (fun _ => trivial) FM.K (se_dget FM.u1 (se_var 0) (se_str)) (se_var 1))).c)) (hN := fun _ => sc_law_pick.nd))
    (sb_cons (ss_setI (j := 0) FM ((SE.borrow (se_bin v_div (fun _ => trivial) FM.K (se_dget FM.u1 (se_var 0) (se_str)) (se_var 1))).c) (se_str))
    (sb_cons (ss_setI (j := 0) FM ((SE.borrow (se_bin v_sub (fun _ => trivial) FM.K (se_dget FM.u1 (se_var 0) (se_str)) (se_int))).c) (se_str))
    (sb_cons (ss_if ((STE.borrow (ste_cmp v_eq FM.units FM.K (se_dget FM.u1 (se_var 0) (se_str)) (se_int))).c) (sb_cons (ss_setI (j := 0) FM ((SE.borrow (se_bin v_add (fun _ => trivial) FM.K (se_dget FM.u1 (se_var 0) (se_str)) (se_int))).c) (se_str))
      (sb_cons (ss_setI (j := 0) FM ((SE.borrow (se_ix FM.K (se_var 2) (se_bin v_mod (fun _ => trivial) FM.K (se_dget FM.u1 (se_var 0) (se_str)) (se_len FM (sa_cons (se_var 2) (sa_nil)) T.b_len)))).c) (se_str))
      (sb_one (ss_setI (j := 0) FM ((se_int).c) (se_str))))) (sb_nil))
    (sb_one (ss_ret ((se_move 3).c))))))) (sb_nil))
  (sb_cons (ss_setI (j := 0) FM ((SE.borrow (se_bin v_add (fun _ => trivial) FM.K (se_dget FM.u1 (se_var 0) (se_str)) (se_int))).c) (se_str))
  (sb_cons (ss_set (i := 4) (SEC.frz ((SE.borrow (se_dget FM.u1 (se_var 0) (se_str))).c)) (hN := fun _ => sc_law_pick.nd))
  (sb_cons (ss_set (i := 5) (SEC.frz ((SE.borrow (se_bin v_mod (fun _ => trivial) FM.K (se_bin v_mul (fun _ => trivial) FM.K (se_bin v_add (fun _ => trivial) FM.K (se_bin v_add (fun _ => trivial) FM.K (se_bin v_mod (fun _ => trivial) FM.K (se_ix FM.K (se_var 2) (se_bin v_mod (fun _ => trivial) FM.K (se_var 4) (se_len FM (sa_cons (se_var 2) (sa_nil)) T.b_len))) (se_int)) (se_bin v_mul (fun _ => trivial) FM.K (se_bin v_mul (fun _ => trivial) FM.K (se_var 4) (se_var 4)) (se_int))) (se_int)) (se_int)) (se_int))).c)) (hN := fun _ => sc_law_pick.nd))
  (sb_cons (ss_set (i := 5) (SEC.frz ((SE.borrow (se_bin v_mod (fun _ => trivial) FM.K (se_bin v_mul (fun _ => trivial) FM.K (se_var 5) (se_var 5)) (se_int))).c)) (hN := fun _ => sc_law_pick.nd))
  (sb_one (ss_ret ((SE.borrow (se_bin v_mod (fun _ => trivial) FM.K (se_bin v_div (fun _ => trivial) FM.K (se_var 5) (se_int)) (se_var 1))).c))))))))
theorem D_law_pick (T : Txt K mg) : Def P w K mg base 1 "_law_pick" 2 F_law_pick := T.d_law_pick.def (k := 0) (N := N_law_pick) (pn := [0]) sc_law_pick rfl (by decide) fun ff cdv β mk FM => SB.z (SB_law_pick T FM)
variable {cl : Nat → Addr} {fI : Addr} {fdI : FuncData}
theorem sc_init : FnScope N_init ["self", "words", "place"] (defScope s_init) := ⟨rfl, rfl, rfl, by decide +kernel, rfl, by decide +kernel, by decide +kernel⟩
theorem ok_init (T : XTxt K mg cl fI fdI) : FnOk P w K mg base CX0 1 fI fdI ["self", "words", "place"] (spInit K) := by
  refine T.fI.ok sc_init (fun vs H Q E h => ?_) (fun cdv A outer s H vs Q E hr h => ⟨tSeq (tDrop (tVeI K (tCons (tVar 0) (tCons (tVar 1) tNil)))) (tOst K "place" (tVar 0) (tVar 2)), ?_, ?_⟩)
  · obtain ⟨a, C, x, y, rfl, _⟩ := h
    rfl
  · exact pss_cons (ps_expr (pe_veinit rfl T.b_VE T.vV (pa_cons (pv 0) (pa_cons (pv 1) pa_nil)))) (pss_one (ps_ost (pv 0) (pv 2)))
  · obtain ⟨a, C, x, y, rfl, o, hno, ha, q⟩ := h
    exact ⟨_, rfl, _, rfl, a, C, [x], rfl, by show 1 ≤ 1000; decide, o, ha, _, rfl, _, rfl, a, C, rfl, o, hno, .inl ⟨ha, fun d hd hne => q d hd hne⟩⟩
/-- one of them made, as the reading says -/
theorem made_run {C : Addr} {σ : L2.St} {H : Hp} {Q : VK} {z : V} {j : Int} (o : OexC K C) (hno : PySem.W.findIn K (.ref C) "place" = some none) (h1 : σ[1]? = some (some z)) (h2 : σ[2]? = some (some (.int j)))
    (q : ∀ a d, H a = none → H d = none → d ≠ a → Q (.ref a) (upd (upd H d (exd d [("place", .int j)])) a (exo a C (some d)))) : tOeV C (spInit K) (tCons (tVar 1) (tCons (tVar 2) tNil)) σ H Q := by
  refine ⟨z, h1, .int j, h2, by show 2 ≤ 1000; decide, fun a ha => ⟨a, C, z, .int j, rfl, o, hno, upd_same, fun d hd hne => ⟨rfl, ?_⟩⟩⟩
  rw [upd_ne hne] at hd
  have e : upd (upd (upd H a (exo a C none)) d (exd d [("place", .int j)])) a (exo a C (some d)) = upd (upd H d (exd d [("place", .int j)])) a (exo a C (some d)) := by
    funext b
    by_cases hb : b = a
    · rw [hb, upd_same, upd_same]
    · rw [upd_ne hb, upd_ne hb]
      by_cases hb2 : b = d
      · rw [hb2, upd_same, upd_same]
      · rw [upd_ne hb2, upd_ne hb2, upd_ne hb]
  rw [e]
  exact q a d ha hd hne
theorem if_no {A R : TS} {D : Ends} {σ : L2.St} {H : Hp} {i k : Int} (h0 : σ[0]? = some (some (.int i))) (hi : i ≠ k) (r : R D σ H) : tSeq (tIfS (tB (tEqI (tVar 0) (tC (.int k)))) A tNext) R D σ H := by
  refine ⟨.int i, h0, i, k, rfl, rfl, decide (i = k), rfl, ?_⟩
  dsimp only
  rw [if_neg (by rw [decide_eq_false hi]; exact Bool.false_ne_true)]
  exact r
theorem if_yes {A R : TS} {D : Ends} {σ : L2.St} {H : Hp} {i k : Int} (h0 : σ[0]? = some (some (.int i))) (hi : i = k) (r : A { D with nx := R D } σ H) : tSeq (tIfS (tB (tEqI (tVar 0) (tC (.int k)))) A tNext) R D σ H := by
  refine ⟨.int i, h0, i, k, rfl, rfl, decide (i = k), rfl, ?_⟩
  dsimp only
  rw [if_pos (decide_eq_true hi)]
  exact r
theorem sc_law_made : FnScope N_law_made ["_law_which", "_law_words", "_law_place"] (defScope s_law_made) := ⟨rfl, rfl, rfl, by decide +kernel, rfl, by decide +kernel, by decide +kernel⟩
abbrev arm (K : PySem.W.Frag) (C : Addr) : TS := tRet (tOeV C (spInit K) (tCons (tVar 1) (tCons (tVar 2) tNil)))
abbrev armIf (K : PySem.W.Frag) (C : Addr) (k : Int) : TS := tIfS (tB (tEqI (tVar 0) (tC (.int k)))) (arm K C) tNext
theorem ok_made (T : XTxt K mg cl fI fdI) {ff : Addr} {fd : FuncData} (F : L2.Fun K "_law_made" "_law_made" s_law_made ff fd) : FnOk P w K mg base CX0 3 ff fd ["_law_which", "_law_words", "_law_place"] (spMade cl) := by
  refine F.ok sc_law_made (fun vs H Q E h => ?_) (fun cdv A outer s H vs Q E hr h => ⟨tSeq (armIf K (cl 0) 0) (tSeq (armIf K (cl 1) 1) (tSeq (armIf K (cl 2) 2) (tSeq (armIf K (cl 3) 3) (tSeq (armIf K (cl 4) 4) (arm K (cl 5)))))), ?_, ?_⟩)
  · obtain ⟨i, z, j, rfl, _⟩ := h
    rfl
  · exact pss_cons (ps_if (pt_cmp (pc_eqI (pv 0) pe_int)) (pss_one (ps_ret (pe_oexV (T.o 0 (by decide)) (T.i 0 (by decide)) T.tI (ok_init T) hr T.bI pass0 rfl T.n0 (pa_cons (pv 1) (pa_cons (pv 2) pa_nil))))) pss_nil) (pss_cons (ps_if (pt_cmp (pc_eqI (pv 0) pe_int)) (pss_one (ps_ret (pe_oexV (T.o 1 (by decide)) (T.i 1 (by decide)) T.tI (ok_init T) hr T.bI pass0 rfl T.n1 (pa_cons (pv 1) (pa_cons (pv 2) pa_nil))))) pss_nil) (pss_cons (ps_if (pt_cmp (pc_eqI (pv 0) pe_int)) (pss_one (ps_ret (pe_oexV (T.o 2 (by decide)) (T.i 2 (by decide)) T.tI (ok_init T) hr T.bI pass0 rfl T.n2 (pa_cons (pv 1) (pa_cons (pv 2) pa_nil))))) pss_nil) (pss_cons (ps_if (pt_cmp (pc_eqI (pv 0) pe_int)) (pss_one (ps_ret (pe_oexV (T.o 3 (by decide)) (T.i 3 (by decide)) T.tI (ok_init T) hr T.bI pass0 rfl T.n3 (pa_cons (pv 1) (pa_cons (pv 2) pa_nil))))) pss_nil) (pss_cons (ps_if (pt_cmp (pc_eqI (pv 0) pe_int)) (pss_one (ps_ret (pe_oexV (T.o 4 (by decide)) (T.i 4 (by decide)) T.tI (ok_init T) hr T.bI pass0 rfl T.n4 (pa_cons (pv 1) (pa_cons (pv 2) pa_nil))))) pss_nil) (pss_one (ps_ret (pe_oexV (T.o 5 (by decide)) (T.i 5 (by decide)) T.tI (ok_init T) hr T.bI pass0 rfl T.n5 (pa_cons (pv 1) (pa_cons (pv 2) pa_nil)))))))))
  · obtain ⟨i, z, j, rfl, h0, h6, q⟩ := h
    have : i = 0 ∨ i = 1 ∨ i = 2 ∨ i = 3 ∨ i = 4 ∨ i = 5 := by omega
    rcases this with rfl | rfl | rfl | rfl | rfl | rfl
    · exact (if_yes rfl rfl (made_run (T.o 0 (by decide)) (T.c.n 0 (by decide)) rfl rfl q))
    · exact (if_no rfl (by decide) (if_yes rfl rfl (made_run (T.o 1 (by decide)) (T.c.n 1 (by decide)) rfl rfl q)))
    · exact (if_no rfl (by decide) (if_no rfl (by decide) (if_yes rfl rfl (made_run (T.o 2 (by decide)) (T.c.n 2 (by decide)) rfl rfl q))))
    · exact (if_no rfl (by decide) (if_no rfl (by decide) (if_no rfl (by decide) (if_yes rfl rfl (made_run (T.o 3 (by decide)) (T.c.n 3 (by decide)) rfl rfl q)))))
    · exact (if_no rfl (by decide) (if_no rfl (by decide) (if_no rfl (by decide) (if_no rfl (by decide) (if_yes rfl rfl (made_run (T.o 4 (by decide)) (T.c.n 4 (by decide)) rfl rfl q))))))
    · exact (if_no rfl (by decide) (if_no rfl (by decide) (if_no rfl (by decide) (if_no rfl (by decide) (if_no rfl (by decide) (made_run (T.o 5 (by decide)) (T.c.n 5 (by decide)) rfl rfl q))))))
theorem sc_law : FnScope N_law ["_law_script"] (defScope s_law) := ⟨rfl, rfl, rfl, by decide +kernel, rfl, by decide +kernel, by decide +kernel⟩
theorem boot_VE : bootBuiltins "ValueError" = some (.type "ValueError") := by decide +kernel
theorem boot_is : bootBuiltins "isinstance" = some (.builtin "isinstance") := by decide +kernel
theorem SB_made (T0 : Txt K mg) (T : XTxt K mg cl fI fdI) {ff : Addr} {cdv : Value} {β : Type} {mk : β → Around × List PySem.Env × Shared × Hp × XK} (FM : Fm (FamOf P w K mg base N_law "law" s_law ff cdv mk) P w K mg base 3) : SB (FamOf P w K mg base N_law "law" s_law ff cdv mk) K [] blk (sMadeOk fsA) := by
  have hA : SAC (FamOf P w K mg base N_law "law" s_law ff cdv mk) K argsE fsA := sac_cons ((se_var 2).c) (sac_cons (SE.mode [false, true, false, false, false, false, false] (se_ix FM.K (se_lst (sa_cons (se_str) (sa_cons (se_str) (sa_cons (se_str) (sa_nil))))) (se_call FM (D_law_pick T0) (by decide) (sa_lend 1 (sa_cons (se_int) (sa_nil)))))) (sac_cons ((se_var 3).c) (sac_nil)))
  have hL : SE (FamOf P w K mg base N_law "law" s_law ff cdv mk) K true kindsE fKinds := se_lc FM [("_law_k", 6)] (fun _ => sc_law.nd) (fun _ => (show blkC N_law (defScope s_law) _ [("_law_k", 6)] = true from by decide +kernel)) (sj_range1 FM T0.b_range (sa_cons (se_int) (sa_nil))) (sv_name (i := 6) (hN := fun _ => sc_law.nd)) (sts_nil) (se_cmp v_eq (FM.blk _).units (FM.blk _).K (se_var 6) (se_var 2))
  obtain ⟨ta, a1, a2⟩ := hA
  obtain ⟨tl, l1, l2⟩ := hL
  obtain ⟨rn, n1, n2⟩ := v_ne
  obtain ⟨fm, fdm, m1, m2, m3, m4⟩ := T0.d_law_made.ex
  have G : FnOk P w K mg base CX0 3 fm fdm ["_law_which", "_law_words", "_law_place"] (spMade cl) := ok_made T m4
  refine ⟨tBlk K cl ta tl (rn K), fun y => ?_, sat_blk T.c a2 l2 (n2 K)⟩
  exact pss_cons (ps_set (i := 4) sc_law.nd rfl (Or.inl rfl) (pe_call G (FM.room y) rfl m1 m2 m3 .nil pass0 (a1 y)))
    (pss_cons (ps_set (i := 5) sc_law.nd rfl (Or.inl rfl) (pe_lst (pa_cons (by exact (pe_callB call_isV rfl T.b_is boot_is (pa_cons (pv 4) (pa_cons (by exact (pe_glob rfl T.n0 rfl)) pa_nil)))) (pa_cons (by exact (pe_callB call_isV rfl T.b_is boot_is (pa_cons (pv 4) (pa_cons (by exact (pe_glob rfl T.n1 rfl)) pa_nil)))) pa_nil))))
    (pss_cons (ps_set (i := 5) sc_law.nd rfl (Or.inl rfl) (pe_op op_cat (pv 5) (pe_lst (pa_cons (by exact (pe_callB call_isV rfl T.b_is boot_is (pa_cons (pv 4) (pa_cons (by exact (pe_glob rfl T.n2 rfl)) pa_nil)))) (pa_cons (by exact (pe_callB call_isV rfl T.b_is boot_is (pa_cons (pv 4) (pa_cons (by exact (pe_glob rfl T.n3 rfl)) pa_nil)))) (pa_cons (by exact (pe_callB call_isV rfl T.b_is boot_is (pa_cons (pv 4) (pa_cons (by exact (pe_glob rfl T.n4 rfl)) pa_nil)))) pa_nil))))))
    (pss_cons (ps_if (PW.pt (pw_or (pt_cmpR (n1 _ (FM.units y)) (pv 5) (l1 y) rfl) (pw_or1 (pt_not (pt_val (by exact (pe_callB call_isV rfl T.b_is boot_is (pa_cons (pv 4) (pa_cons (by exact (pe_bltn rfl T.b_VE boot_VE rfl)) pa_nil))))))))) (pss_one (ps_ret pe_bl)) pss_nil)
    (pss_one (ps_if (PW.pt (pw_or (pt_not (pt_val (by exact (pe_callB call_isV rfl T.b_is boot_is (pa_cons (pv 4) (pa_cons (by exact (pe_glob rfl T.n5 rfl)) pa_nil)))))) (pw_or1 (pt_cmp (pc_neI (by exact (pe_plV (pv 4))) (pv 3)))))) (pss_one (ps_ret pe_bl)) pss_nil)))))
theorem SB_law (T : Txt K mg) (TX : XTxt K mg cl fI fdI) {ff : Addr} {cdv : Value} {β : Type} {mk : β → Around × List PySem.Env × Shared × Hp × XK} (FM : Fm (FamOf P w K mg base N_law "law" s_law ff cdv mk) P w K mg base 3) : SB (FamOf P w K mg base N_law "law" s_law ff cdv mk) K [] (defBody s_law) B_law :=
  sb_cons (ss_set (i := 1) ((SE.borrow (se_call FM (D_law_drawn T) (by decide) (sa_cons (se_var 0) (sa_nil)))).c) (hN := fun _ => sc_law.nd))
  (sb_cons (ss_for FM (si_range1 FM T.b_range (sac_cons ((se_int).c) (sac_nil))) (sg_name (i := 2) (hN := fun _ => sc_law.nd)) (sb_cons (ss_set (i := 3) (SEC.frz (SE.mode [false, true, false, false, false, false, false] (se_bin v_add (fun _ => trivial) FM.K (se_int) (se_call FM (D_law_pick T) (by decide) (sa_lend 1 (sa_cons (se_int) (sa_nil))))))) (hN := fun _ => sc_law.nd))
    (SB_made T TX FM)))
  (sb_one (ss_ret ((se_bl).c))))
theorem fn_law (T : Txt K mg) (TX : XTxt K mg cl fI fdI) {ff : Addr} {fd : FuncData} (F : L2.Fun K "law" "law" s_law ff fd) : FnOk P w K mg base CX0 4 ff fd ["_law_script"] (spF K 1 F_law) :=
  fn_ok (pn := []) F sc_law rfl (by decide) fun cdv β mk hr => SB.z (SB_law T TX ⟨fun _ => rfl, fun _ => rfl, fun _ => rfl, fun _ => rfl, fun _ => rfl, fun _ => rfl, hr⟩)
end
def clOf (C0 C1 C2 C3 C4 C5 : Addr) : Nat → Addr
  | 0 => C0
  | 1 => C1
  | 2 => C2
  | 3 => C3
  | 4 => C4
  | _ => C5
theorem refs_tail : PySem.HandSPX.refsVE [.type "ValueError", .type "Exception", .type "BaseException", .type "object"] = true := by decide +kernel
theorem refs_ref (c : Addr) : PySem.HandSPX.refsVE [.ref c, .type "ValueError", .type "Exception", .type "BaseException", .type "object"] = true := refs_tail
set_option maxHeartbeats 0 in
theorem all_mk {l : PySem.W.OpenLaw} {w : World} {K : PySem.W.Frag} {h : Heap} {mg : PySem.Str → Option Value} {fa : Addr} (X : K.In h) (G : h.Ns mainGlobals mg) (hfa : mg "law" = some (.ref fa))
    {oc_law_drawn kV_law_drawn dc_law_drawn pm_law_drawn cd_law_drawn ct_law_drawn : Value} {od_law_drawn an_law_drawn : Option Addr} {sl_law_drawn : Array (Option Value)} {f_law_drawn : Addr}
    {oc_law_pick kV_law_pick dc_law_pick pm_law_pick cd_law_pick ct_law_pick : Value} {od_law_pick an_law_pick : Option Addr} {sl_law_pick : Array (Option Value)} {f_law_pick : Addr}
    {oc_law kV_law dc_law pm_law cd_law ct_law : Value} {od_law an_law : Option Addr} {sl_law : Array (Option Value)} {f_law : Addr}
    {oc_law_made kV_law_made dc_law_made pm_law_made cd_law_made ct_law_made : Value} {od_law_made an_law_made : Option Addr} {sl_law_made : Array (Option Value)} {f_law_made : Addr}
    {oc_init kV_init dc_init pm_init cd_init ct_init : Value} {od_init an_init : Option Addr} {sl_init : Array (Option Value)} {f_init : Addr}
    {C0 : Addr} {nm0 q0 : PySem.Str} {N0 : Addr} {bs0 : List Value} {sn0 : List PySem.Str} {sub0 : List Value} {ab0 : Bool} {col0 : Option Bool} {dd0 : Option Addr} {ka0 kb0 kc0 kd0 ke0 : Option Value}
    {C1 : Addr} {nm1 q1 : PySem.Str} {N1 : Addr} {bs1 : List Value} {sn1 : List PySem.Str} {sub1 : List Value} {ab1 : Bool} {col1 : Option Bool} {dd1 : Option Addr} {ka1 kb1 kc1 kd1 ke1 : Option Value}
    {C2 : Addr} {nm2 q2 : PySem.Str} {N2 : Addr} {bs2 : List Value} {sn2 : List PySem.Str} {sub2 : List Value} {ab2 : Bool} {col2 : Option Bool} {dd2 : Option Addr} {ka2 kb2 kc2 kd2 ke2 : Option Value}
    {C3 : Addr} {nm3 q3 : PySem.Str} {N3 : Addr} {bs3 : List Value} {sn3 : List PySem.Str} {sub3 : List Value} {ab3 : Bool} {col3 : Option Bool} {dd3 : Option Addr} {ka3 kb3 kc3 kd3 ke3 : Option Value}
    {C4 : Addr} {nm4 q4 : PySem.Str} {N4 : Addr} {bs4 : List Value} {sn4 : List PySem.Str} {sub4 : List Value} {ab4 : Bool} {col4 : Option Bool} {dd4 : Option Addr} {ka4 kb4 kc4 kd4 ke4 : Option Value}
    {C5 : Addr} {nm5 q5 : PySem.Str} {N5 : Addr} {bs5 : List Value} {sn5 : List PySem.Str} {sub5 : List Value} {ab5 : Bool} {col5 : Option Bool} {dd5 : Option Addr} {ka5 kb5 kc5 kd5 ke5 : Option Value}
    (a_law_drawn : PySem.W.nsIn K mainGlobals "_law_drawn" = some (some (.ref f_law_drawn))) (l_law_drawn : K.lookup f_law_drawn = some ⟨oc_law_drawn, od_law_drawn, .func (PySem.W.fnOf "_law_drawn" "_law_drawn" (defArgs s_law_drawn) (defBody s_law_drawn) (defScope s_law_drawn) .none kV_law_drawn dc_law_drawn pm_law_drawn an_law_drawn cd_law_drawn ct_law_drawn), sl_law_drawn⟩) (c_law_drawn : PySem.W.codeIn K cd_law_drawn "_law_drawn" = true) (k_law_drawn : PySem.W.keepIn K (.ref f_law_drawn) = true)
    (a_law_pick : PySem.W.nsIn K mainGlobals "_law_pick" = some (some (.ref f_law_pick))) (l_law_pick : K.lookup f_law_pick = some ⟨oc_law_pick, od_law_pick, .func (PySem.W.fnOf "_law_pick" "_law_pick" (defArgs s_law_pick) (defBody s_law_pick) (defScope s_law_pick) .none kV_law_pick dc_law_pick pm_law_pick an_law_pick cd_law_pick ct_law_pick), sl_law_pick⟩) (c_law_pick : PySem.W.codeIn K cd_law_pick "_law_pick" = true) (k_law_pick : PySem.W.keepIn K (.ref f_law_pick) = true)
    (a_law : PySem.W.nsIn K mainGlobals "law" = some (some (.ref f_law))) (l_law : K.lookup f_law = some ⟨oc_law, od_law, .func (PySem.W.fnOf "law" "law" (defArgs s_law) (defBody s_law) (defScope s_law) .none kV_law dc_law pm_law an_law cd_law ct_law), sl_law⟩) (c_law : PySem.W.codeIn K cd_law "law" = true) (k_law : PySem.W.keepIn K (.ref f_law) = true)
    (z_int : PySem.W.nsIn K mainGlobals "int" = some none)
    (z_len : PySem.W.nsIn K mainGlobals "len" = some none)
    (z_list : PySem.W.nsIn K mainGlobals "list" = some none)
    (z_range : PySem.W.nsIn K mainGlobals "range" = some none)
    (a_law_made : PySem.W.nsIn K mainGlobals "_law_made" = some (some (.ref f_law_made)))
    (l_law_made : K.lookup f_law_made = some ⟨oc_law_made, od_law_made, .func (PySem.W.fnOf "_law_made" "_law_made" (defArgs s_law_made) (defBody s_law_made) (defScope s_law_made) .none kV_law_made dc_law_made pm_law_made an_law_made cd_law_made ct_law_made), sl_law_made⟩)
    (c_law_made : PySem.W.codeIn K cd_law_made "_law_made" = true)
    (k_law_made : PySem.W.keepIn K (.ref f_law_made) = true)
    (g0 : PySem.W.nsIn K mainGlobals "BadRow" = some (some (.ref C0)))
    (g1 : PySem.W.nsIn K mainGlobals "Misplaced" = some (some (.ref C1)))
    (g2 : PySem.W.nsIn K mainGlobals "Twice" = some (some (.ref C2)))
    (g3 : PySem.W.nsIn K mainGlobals "Uneven" = some (some (.ref C3)))
    (g4 : PySem.W.nsIn K mainGlobals "TooMany" = some (some (.ref C4)))
    (g5 : PySem.W.nsIn K mainGlobals "StoryError" = some (some (.ref C5)))
    (x0 : K.lookup C0 = some (excClassObj nm0 q0 C0 N0 bs0 [.ref C5, .type "ValueError", .type "Exception", .type "BaseException", .type "object"] true sn0 sub0 ab0 col0 dd0 ka0 kb0 kc0 kd0 ke0 "ValueError.__new__"))
    (sa0 : PySem.W.findIn K (.ref C0) "__setattr__" = some (some (.builtin "object.__setattr__")))
    (ga0 : PySem.W.findIn K (.ref C0) "__getattribute__" = some (some (.builtin "BaseException.__getattribute__")))
    (gg0 : PySem.W.findIn K (.ref C0) "__getattr__" = some none)
    (pl0 : PySem.W.findIn K (.ref C0) "place" = some none)
    (in0 : PySem.W.findIn K (.ref C0) "__init__" = some (some (.ref f_init)))
    (ca0 : PySem.W.findIn K (.ref C0) "__class__" = some (some (.builtin "object.__class__")))
    (kp0 : PySem.W.keepIn K (.ref C0) = true)
    (ex0 : PySem.W.subIn K (.ref C0) (.type "BaseException") = some true)
    (ty0 : PySem.W.typeIn K (.ref C0) = some (.type "type"))
    (hd0 : PySem.W.hasDictIn K C0 = true)
    (mo0 : PySem.W.mroIn K C0 (.type "object") = some true)
    (kv0 : PySem.W.kitOne K (.ref C0) (.type "ValueError") = some true)
    (k00 : PySem.W.kitOne K (.ref C0) (.ref C0) = some true)
    (k01 : PySem.W.kitOne K (.ref C0) (.ref C1) = some false)
    (k02 : PySem.W.kitOne K (.ref C0) (.ref C2) = some false)
    (k03 : PySem.W.kitOne K (.ref C0) (.ref C3) = some false)
    (k04 : PySem.W.kitOne K (.ref C0) (.ref C4) = some false)
    (k05 : PySem.W.kitOne K (.ref C0) (.ref C5) = some true)
    (x1 : K.lookup C1 = some (excClassObj nm1 q1 C1 N1 bs1 [.ref C5, .type "ValueError", .type "Exception", .type "BaseException", .type "object"] true sn1 sub1 ab1 col1 dd1 ka1 kb1 kc1 kd1 ke1 "ValueError.__new__"))
    (sa1 : PySem.W.findIn K (.ref C1) "__setattr__" = some (some (.builtin "object.__setattr__")))
    (ga1 : PySem.W.findIn K (.ref C1) "__getattribute__" = some (some (.builtin "BaseException.__getattribute__")))
    (gg1 : PySem.W.findIn K (.ref C1) "__getattr__" = some none)
    (pl1 : PySem.W.findIn K (.ref C1) "place" = some none)
    (in1 : PySem.W.findIn K (.ref C1) "__init__" = some (some (.ref f_init)))
    (ca1 : PySem.W.findIn K (.ref C1) "__class__" = some (some (.builtin "object.__class__")))
    (kp1 : PySem.W.keepIn K (.ref C1) = true)
    (ex1 : PySem.W.subIn K (.ref C1) (.type "BaseException") = some true)
    (ty1 : PySem.W.typeIn K (.ref C1) = some (.type "type"))
    (hd1 : PySem.W.hasDictIn K C1 = true)
    (mo1 : PySem.W.mroIn K C1 (.type "object") = some true)
    (kv1 : PySem.W.kitOne K (.ref C1) (.type "ValueError") = some true)
    (k10 : PySem.W.kitOne K (.ref C1) (.ref C0) = some false)
    (k11 : PySem.W.kitOne K (.ref C1) (.ref C1) = some true)
    (k12 : PySem.W.kitOne K (.ref C1) (.ref C2) = some false)
    (k13 : PySem.W.kitOne K (.ref C1) (.ref C3) = some false)
    (k14 : PySem.W.kitOne K (.ref C1) (.ref C4) = some false)
    (k15 : PySem.W.kitOne K (.ref C1) (.ref C5) = some true)
    (x2 : K.lookup C2 = some (excClassObj nm2 q2 C2 N2 bs2 [.ref C5, .type "ValueError", .type "Exception", .type "BaseException", .type "object"] true sn2 sub2 ab2 col2 dd2 ka2 kb2 kc2 kd2 ke2 "ValueError.__new__"))
    (sa2 : PySem.W.findIn K (.ref C2) "__setattr__" = some (some (.builtin "object.__setattr__")))
    (ga2 : PySem.W.findIn K (.ref C2) "__getattribute__" = some (some (.builtin "BaseException.__getattribute__")))
    (gg2 : PySem.W.findIn K (.ref C2) "__getattr__" = some none)
    (pl2 : PySem.W.findIn K (.ref C2) "place" = some none)
    (in2 : PySem.W.findIn K (.ref C2) "__init__" = some (some (.ref f_init)))
    (ca2 : PySem.W.findIn K (.ref C2) "__class__" = some (some (.builtin "object.__class__")))
    (kp2 : PySem.W.keepIn K (.ref C2) = true)
    (ex2 : PySem.W.subIn K (.ref C2) (.type "BaseException") = some true)
    (ty2 : PySem.W.typeIn K (.ref C2) = some (.type "type"))
    (hd2 : PySem.W.hasDictIn K C2 = true)
    (mo2 : PySem.W.mroIn K C2 (.type "object") = some true)
    (kv2 : PySem.W.kitOne K (.ref C2) (.type "ValueError") = some true)
    (k20 : PySem.W.kitOne K (.ref C2) (.ref C0) = some false)
    (k21 : PySem.W.kitOne K (.ref C2) (.ref C1) = some false)
    (k22 : PySem.W.kitOne K (.ref C2) (.ref C2) = some true)
    (k23 : PySem.W.kitOne K (.ref C2) (.ref C3) = some false)
    (k24 : PySem.W.kitOne K (.ref C2) (.ref C4) = some false)
    (k25 : PySem.W.kitOne K (.ref C2) (.ref C5) = some true)
    (x3 : K.lookup C3 = some (excClassObj nm3 q3 C3 N3 bs3 [.ref C5, .type "ValueError", .type "Exception", .type "BaseException", .type "object"] true sn3 sub3 ab3 col3 dd3 ka3 kb3 kc3 kd3 ke3 "ValueError.__new__"))
    (sa3 : PySem.W.findIn K (.ref C3) "__setattr__" = some (some (.builtin "object.__setattr__")))
    (ga3 : PySem.W.findIn K (.ref C3) "__getattribute__" = some (some (.builtin "BaseException.__getattribute__")))
    (gg3 : PySem.W.findIn K (.ref C3) "__getattr__" = some none)
    (pl3 : PySem.W.findIn K (.ref C3) "place" = some none)
    (in3 : PySem.W.findIn K (.ref C3) "__init__" = some (some (.ref f_init)))
    (ca3 : PySem.W.findIn K (.ref C3) "__class__" = some (some (.builtin "object.__class__")))
    (kp3 : PySem.W.keepIn K (.ref C3) = true)
    (ex3 : PySem.W.subIn K (.ref C3) (.type "BaseException") = some true)
    (ty3 : PySem.W.typeIn K (.ref C3) = some (.type "type"))
    (hd3 : PySem.W.hasDictIn K C3 = true)
    (mo3 : PySem.W.mroIn K C3 (.type "object") = some true)
    (kv3 : PySem.W.kitOne K (.ref C3) (.type "ValueError") = some true)
    (k30 : PySem.W.kitOne K (.ref C3) (.ref C0) = some false)
    (k31 : PySem.W.kitOne K (.ref C3) (.ref C1) = some false)
    (k32 : PySem.W.kitOne K (.ref C3) (.ref C2) = some false)
    (k33 : PySem.W.kitOne K (.ref C3) (.ref C3) = some true)
    (k34 : PySem.W.kitOne K (.ref C3) (.ref C4) = some false)
    (k35 : PySem.W.kitOne K (.ref C3) (.ref C5) = some true)
    (x4 : K.lookup C4 = some (excClassObj nm4 q4 C4 N4 bs4 [.ref C5, .type "ValueError", .type "Exception", .type "BaseException", .type "object"] true sn4 sub4 ab4 col4 dd4 ka4 kb4 kc4 kd4 ke4 "ValueError.__new__"))
    (sa4 : PySem.W.findIn K (.ref C4) "__setattr__" = some (some (.builtin "object.__setattr__")))
    (ga4 : PySem.W.findIn K (.ref C4) "__getattribute__" = some (some (.builtin "BaseException.__getattribute__")))
    (gg4 : PySem.W.findIn K (.ref C4) "__getattr__" = some none)
    (pl4 : PySem.W.findIn K (.ref C4) "place" = some none)
    (in4 : PySem.W.findIn K (.ref C4) "__init__" = some (some (.ref f_init)))
    (ca4 : PySem.W.findIn K (.ref C4) "__class__" = some (some (.builtin "object.__class__")))
    (kp4 : PySem.W.keepIn K (.ref C4) = true)
    (ex4 : PySem.W.subIn K (.ref C4) (.type "BaseException") = some true)
    (ty4 : PySem.W.typeIn K (.ref C4) = some (.type "type"))
    (hd4 : PySem.W.hasDictIn K C4 = true)
    (mo4 : PySem.W.mroIn K C4 (.type "object") = some true)
    (kv4 : PySem.W.kitOne K (.ref C4) (.type "ValueError") = some true)
    (k40 : PySem.W.kitOne K (.ref C4) (.ref C0) = some false)
    (k41 : PySem.W.kitOne K (.ref C4) (.ref C1) = some false)
    (k42 : PySem.W.kitOne K (.ref C4) (.ref C2) = some false)
    (k43 : PySem.W.kitOne K (.ref C4) (.ref C3) = some false)
    (k44 : PySem.W.kitOne K (.ref C4) (.ref C4) = some true)
    (k45 : PySem.W.kitOne K (.ref C4) (.ref C5) = some true)
    (x5 : K.lookup C5 = some (excClassObj nm5 q5 C5 N5 bs5 [.type "ValueError", .type "Exception", .type "BaseException", .type "object"] true sn5 sub5 ab5 col5 dd5 ka5 kb5 kc5 kd5 ke5 "ValueError.__new__"))
    (sa5 : PySem.W.findIn K (.ref C5) "__setattr__" = some (some (.builtin "object.__setattr__")))
    (ga5 : PySem.W.findIn K (.ref C5) "__getattribute__" = some (some (.builtin "BaseException.__getattribute__")))
    (gg5 : PySem.W.findIn K (.ref C5) "__getattr__" = some none)
    (pl5 : PySem.W.findIn K (.ref C5) "place" = some none)
    (in5 : PySem.W.findIn K (.ref C5) "__init__" = some (some (.ref f_init)))
    (ca5 : PySem.W.findIn K (.ref C5) "__class__" = some (some (.builtin "object.__class__")))
    (kp5 : PySem.W.keepIn K (.ref C5) = true)
    (ex5 : PySem.W.subIn K (.ref C5) (.type "BaseException") = some true)
    (ty5 : PySem.W.typeIn K (.ref C5) = some (.type "type"))
    (hd5 : PySem.W.hasDictIn K C5 = true)
    (mo5 : PySem.W.mroIn K C5 (.type "object") = some true)
    (kv5 : PySem.W.kitOne K (.ref C5) (.type "ValueError") = some true)
    (k50 : PySem.W.kitOne K (.ref C5) (.ref C0) = some false)
    (k51 : PySem.W.kitOne K (.ref C5) (.ref C1) = some false)
    (k52 : PySem.W.kitOne K (.ref C5) (.ref C2) = some false)
    (k53 : PySem.W.kitOne K (.ref C5) (.ref C3) = some false)
    (k54 : PySem.W.kitOne K (.ref C5) (.ref C4) = some false)
    (k55 : PySem.W.kitOne K (.ref C5) (.ref C5) = some true)
    (sp : PySem.W.specialIn K (.builtin "object.__class__") "__get__" = some (some (.builtin "getset_descriptor.__get__")))
    (tk : PySem.W.takesIn K (.builtin "object.__class__") = some true)
    (ti : PySem.W.typeIn K (.ref f_init) = some (.type "function"))
    (l_init : K.lookup f_init = some ⟨oc_init, od_init, .func (PySem.W.fnOf "__init__" "StoryError.__init__" (defArgs s_init) (defBody s_init) (defScope s_init) .none kV_init dc_init pm_init an_init cd_init ct_init), sl_init⟩)
    (c_init : PySem.W.codeIn K cd_init "StoryError.__init__" = true)
    (k_init : PySem.W.keepIn K (.ref f_init) = true)
    (vv : PySem.W.findCls K (.type "ValueError") (.type "type") "__init__" = some (.val (.builtin "ValueError.__init__")))
    (z_VE : PySem.W.nsIn K mainGlobals "ValueError" = some none)
    (z_is : PySem.W.nsIn K mainGlobals "isinstance" = some none) :
    ∃ fd : FuncData, (∀ (s : Shared) (v : Value), BindsTo s fd ⟨[v], []⟩ [("_law_script", v)]) ∧ ∀ base : Heap, K.In base → base.Ns mainGlobals mg → FnOk l.prog w K mg base CX0 4 fa fd ["_law_script"] (spF K 1 F_law) := by
  have T : Txt K mg := ⟨⟨⟨f_law_drawn, _, PySem.W.mg_of X G a_law_drawn, k_law_drawn, (fun_mk (st := s_law_drawn) l_law_drawn c_law_drawn k_law_drawn).binds (fun _ _ _ _ _ _ us hl => match us, hl with | [_], _ => rfl), fun_mk (st := s_law_drawn) l_law_drawn c_law_drawn k_law_drawn⟩⟩,
    ⟨⟨f_law_pick, _, PySem.W.mg_of X G a_law_pick, k_law_pick, (fun_mk (st := s_law_pick) l_law_pick c_law_pick k_law_pick).binds (fun _ _ _ _ _ _ us hl => match us, hl with | [_, _], _ => rfl), fun_mk (st := s_law_pick) l_law_pick c_law_pick k_law_pick⟩⟩,
    ⟨⟨f_law, _, PySem.W.mg_of X G a_law, k_law, (fun_mk (st := s_law) l_law c_law k_law).binds (fun _ _ _ _ _ _ us hl => match us, hl with | [_], _ => rfl), fun_mk (st := s_law) l_law c_law k_law⟩⟩,
    ⟨⟨f_law_made, _, PySem.W.mg_of X G a_law_made, k_law_made, (fun_mk (st := s_law_made) l_law_made c_law_made k_law_made).binds (fun _ _ _ _ _ _ us hl => match us, hl with | [_, _, _], _ => rfl), fun_mk (st := s_law_made) l_law_made c_law_made k_law_made⟩⟩,
    PySem.W.mg_none_of X G z_int,
    PySem.W.mg_none_of X G z_len,
    PySem.W.mg_none_of X G z_list,
    PySem.W.mg_none_of X G z_range⟩
  have CC : XCs K (clOf C0 C1 C2 C3 C4 C5) := ⟨fun i hi => match i, hi with | 0, _ => ⟨ga0, gg0, ex0, hd0, ca0, sp, tk, mo0⟩ | 1, _ => ⟨ga1, gg1, ex1, hd1, ca1, sp, tk, mo1⟩ | 2, _ => ⟨ga2, gg2, ex2, hd2, ca2, sp, tk, mo2⟩ | 3, _ => ⟨ga3, gg3, ex3, hd3, ca3, sp, tk, mo3⟩ | 4, _ => ⟨ga4, gg4, ex4, hd4, ca4, sp, tk, mo4⟩ | 5, _ => ⟨ga5, gg5, ex5, hd5, ca5, sp, tk, mo5⟩ | k + 6, h => absurd h (by omega),
    fun i hi => match i, hi with | 0, _ => ⟨ga0, gg0, ex0, hd0⟩ | 1, _ => ⟨ga1, gg1, ex1, hd1⟩ | 2, _ => ⟨ga2, gg2, ex2, hd2⟩ | 3, _ => ⟨ga3, gg3, ex3, hd3⟩ | 4, _ => ⟨ga4, gg4, ex4, hd4⟩ | 5, _ => ⟨ga5, gg5, ex5, hd5⟩ | k + 6, h => absurd h (by omega),
    fun i hi => match i, hi with | 0, _ => pl0 | 1, _ => pl1 | 2, _ => pl2 | 3, _ => pl3 | 4, _ => pl4 | 5, _ => pl5 | k + 6, h => absurd h (by omega),
    fun i j hi hj => match i, hi with | 0, _ => (match j, hj with | 0, _ => k00 | 1, _ => k01 | 2, _ => k02 | 3, _ => k03 | 4, _ => k04 | 5, _ => k05 | k + 6, h => absurd h (by omega)) | 1, _ => (match j, hj with | 0, _ => k10 | 1, _ => k11 | 2, _ => k12 | 3, _ => k13 | 4, _ => k14 | 5, _ => k15 | k + 6, h => absurd h (by omega)) | 2, _ => (match j, hj with | 0, _ => k20 | 1, _ => k21 | 2, _ => k22 | 3, _ => k23 | 4, _ => k24 | 5, _ => k25 | k + 6, h => absurd h (by omega)) | 3, _ => (match j, hj with | 0, _ => k30 | 1, _ => k31 | 2, _ => k32 | 3, _ => k33 | 4, _ => k34 | 5, _ => k35 | k + 6, h => absurd h (by omega)) | 4, _ => (match j, hj with | 0, _ => k40 | 1, _ => k41 | 2, _ => k42 | 3, _ => k43 | 4, _ => k44 | 5, _ => k45 | k + 6, h => absurd h (by omega)) | 5, _ => (match j, hj with | 0, _ => k50 | 1, _ => k51 | 2, _ => k52 | 3, _ => k53 | 4, _ => k54 | 5, _ => k55 | k + 6, h => absurd h (by omega)) | k + 6, h => absurd h (by omega),
    fun i hi => match i, hi with | 0, _ => kv0 | 1, _ => kv1 | 2, _ => kv2 | 3, _ => kv3 | 4, _ => kv4 | 5, _ => kv5 | k + 6, h => absurd h (by omega)⟩
  have TX : XTxt K mg (clOf C0 C1 C2 C3 C4 C5) f_init _ := ⟨CC, fun i hi => match i, hi with | 0, _ => ⟨⟨nm0, q0, N0, bs0, _, sn0, sub0, ab0, col0, dd0, ka0, kb0, kc0, kd0, ke0, x0, refs_ref C5⟩, sa0, ex0, ty0, kp0⟩ | 1, _ => ⟨⟨nm1, q1, N1, bs1, _, sn1, sub1, ab1, col1, dd1, ka1, kb1, kc1, kd1, ke1, x1, refs_ref C5⟩, sa1, ex1, ty1, kp1⟩ | 2, _ => ⟨⟨nm2, q2, N2, bs2, _, sn2, sub2, ab2, col2, dd2, ka2, kb2, kc2, kd2, ke2, x2, refs_ref C5⟩, sa2, ex2, ty2, kp2⟩ | 3, _ => ⟨⟨nm3, q3, N3, bs3, _, sn3, sub3, ab3, col3, dd3, ka3, kb3, kc3, kd3, ke3, x3, refs_ref C5⟩, sa3, ex3, ty3, kp3⟩ | 4, _ => ⟨⟨nm4, q4, N4, bs4, _, sn4, sub4, ab4, col4, dd4, ka4, kb4, kc4, kd4, ke4, x4, refs_ref C5⟩, sa4, ex4, ty4, kp4⟩ | 5, _ => ⟨⟨nm5, q5, N5, bs5, _, sn5, sub5, ab5, col5, dd5, ka5, kb5, kc5, kd5, ke5, x5, refs_tail⟩, sa5, ex5, ty5, kp5⟩ | k + 6, h => absurd h (by omega),
    fun i hi => match i, hi with | 0, _ => in0 | 1, _ => in1 | 2, _ => in2 | 3, _ => in3 | 4, _ => in4 | 5, _ => in5 | k + 6, h => absurd h (by omega),
    PySem.W.mg_of X G g0, PySem.W.mg_of X G g1, PySem.W.mg_of X G g2, PySem.W.mg_of X G g3, PySem.W.mg_of X G g4, PySem.W.mg_of X G g5,
    ti, fun_mk (st := s_init) l_init c_init k_init, (fun_mk (st := s_init) l_init c_init k_init).binds (fun _ _ _ _ _ _ us hl => match us, hl with | [_, _, _], _ => rfl), vv, PySem.W.mg_none_of X G z_VE, PySem.W.mg_none_of X G z_is⟩
  have e := hfa.symm.trans (PySem.W.mg_of X G a_law)
  cases e
  exact ⟨PySem.W.fnOf "law" "law" (defArgs s_law) (defBody s_law) (defScope s_law) .none kV_law dc_law pm_law an_law cd_law ct_law, fun s v => .of_eq rfl, fun base _ _ => fn_law T TX (fun_mk (st := s_law) l_law c_law k_law)⟩
end TL

set_option Elab.async false
set_option linter.all false
set_option maxRecDepth 100000
/-! PA: the draws of the first laws, on trees. -/
namespace TL
open PySem PySem.Spec PyProof.Rows L2

theorem scr_mapG (g : Fl → Fl) (ns : List Int) (h : g .ext = .ext) : D.mapF g (scr ns) = scr ns := by simp [scr, h]
@[simp] theorem scr_vw (ns : List Int) : D.mapF vw (scr ns) = scr ns := scr_mapG _ _ rfl
@[simp] theorem scr_v2p (ns : List Int) : D.mapF v2p (scr ns) = scr ns := scr_mapG _ _ rfl
@[simp] theorem scr_p2v (ns : List Int) : D.mapF p2v (scr ns) = scr ns := scr_mapG _ _ rfl
@[simp] theorem scr_zf (ns : List Int) : D.mapF zf (scr ns) = scr ns := scr_mapG _ _ rfl
@[simp] theorem scr_all (g : Fl → Bool) (ns : List Int) : D.allF g (scr ns) = g .ext := by simp [scr]
@[simp] theorem scr_und (ns : List Int) : (scr ns).isUnd = false := rfl
/-! short texts -/
@[simp] theorem ofStr_inj (a b : String) : Str.ofString a = Str.ofString b ↔ a = b := by
  constructor
  · intro h
    rw [Str.ofString_eq_toList, Str.ofString_eq_toList] at h
    have h1 : a.toList.map Char.toNat = b.toList.map Char.toNat := by simpa using h
    have h2 : a.toList = b.toList := List.map_inj_right (fun x y e => Char.toNat_inj.mp e) |>.mp h1
    exact String.toList_inj.mp h2
  · intro h
    rw [h]
def okS (s : Str) : Bool := PyData.strOk s && decide (s.length ≤ 9)
structure SK where
  s : Str
  p : okS s = true
  deriving DecidableEq
theorem inert_sk (k : SK) : (D.str k.1).inert := inert_str _
@[simp] theorem mapFs_sks (g : Fl → Fl) (xs : List SK) : D.mapFs g (xs.map fun k => .str k.1) = xs.map fun k => .str k.1 := inert_mapFs (inert_map inert_sk xs) g
@[simp] theorem allFs_sks (g : Fl → Bool) (xs : List SK) : D.allFs g (xs.map fun k => .str k.1) = true := inert_allFs (inert_map inert_sk xs) g
theorem SK.ok (k : SK) : PyData.strOk k.1 = true := ((Bool.and_eq_true _ _).mp k.2).1
theorem SK.len (k : SK) : k.1.length ≤ 9 := of_decide_eq_true ((Bool.and_eq_true _ _).mp k.2).2
def SK.e : SK := ⟨"", by decide +kernel⟩
@[simp] theorem gEq_sk (a b : SK) : gEq [.str a.1, .str b.1] = some (.bl (decide (a.1 = b.1))) := gEq_of (pyEq_str a.ok b.ok)
@[simp] theorem gNe_sk (a b : SK) : gNe [.str a.1, .str b.1] = some (.bl (!decide (a.1 = b.1))) := gNe_of (pyEq_str a.ok b.ok)
theorem ok_empty : PyData.strOk "" = true := by decide +kernel
@[simp] theorem gEq_sk0 (a : SK) : gEq [.str a.1, .str ""] = some (.bl (decide (a.1 = ""))) := gEq_of (pyEq_str a.ok ok_empty)
@[simp] theorem gNe_sk0 (a : SK) : gNe [.str a.1, .str ""] = some (.bl (!decide (a.1 = ""))) := gNe_of (pyEq_str a.ok ok_empty)

/-! the draw -/
structure Drw where
  cells : List Int
  pos : Int
  left : Int
  num : Int
  dig : Bool
def Drw.d (f : Fl) (x : Drw) : D := .dK f [(.inr "cells", .lst .frz (x.cells.map .int)), (.inr "at", .int x.pos), (.inr "left", .int x.left), (.inr "number", .int x.num), (.inr "digits", .bl x.dig)]
theorem Drw.mapG (g : Fl → Fl) (f : Fl) (x : Drw) (h : g .frz = .frz) : D.mapF g (x.d f) = x.d (g f) := by simp [Drw.d, h]
@[simp] theorem Drw.mvw (f : Fl) (x : Drw) : D.mapF vw (x.d f) = x.d (vw f) := Drw.mapG _ _ _ rfl
@[simp] theorem Drw.mv2p (f : Fl) (x : Drw) : D.mapF v2p (x.d f) = x.d (v2p f) := Drw.mapG _ _ _ rfl
@[simp] theorem Drw.mp2v (f : Fl) (x : Drw) : D.mapF p2v (x.d f) = x.d (p2v f) := Drw.mapG _ _ _ rfl
@[simp] theorem Drw.mzf (f : Fl) (x : Drw) : D.mapF zf (x.d f) = x.d (zf f) := Drw.mapG _ _ _ rfl
@[simp] theorem Drw.allG (g : Fl → Bool) (f : Fl) (x : Drw) : D.allF g (x.d f) = (g f && g .frz) := by simp [Drw.d]
@[simp] theorem Drw.und (f : Fl) (x : Drw) : (x.d f).isUnd = false := rfl
theorem Drw.nd : ((.inr "cells" : Key) :: [.inr "at", .inr "left", .inr "number", .inr "digits"]).Nodup := by decide +kernel
@[simp] theorem Drw.get_cells (f : Fl) (x : Drw) : gDGet [x.d f, .str "cells"] = some (.lst .frz (x.cells.map .int)) := by
  simp [gDGet, Drw.d, dictLook, D.key, lookD]
@[simp] theorem Drw.get_at (f : Fl) (x : Drw) : gDGet [x.d f, .str "at"] = some (.int x.pos) := by
  simp [gDGet, Drw.d, dictLook, D.key, lookD, List.find?_cons]
@[simp] theorem Drw.get_left (f : Fl) (x : Drw) : gDGet [x.d f, .str "left"] = some (.int x.left) := by
  simp [gDGet, Drw.d, dictLook, D.key, lookD, List.find?_cons]
@[simp] theorem Drw.get_num (f : Fl) (x : Drw) : gDGet [x.d f, .str "number"] = some (.int x.num) := by
  simp [gDGet, Drw.d, dictLook, D.key, lookD, List.find?_cons]
@[simp] theorem Drw.get_dig (f : Fl) (x : Drw) : gDGet [x.d f, .str "digits"] = some (.bl x.dig) := by
  simp [gDGet, Drw.d, dictLook, D.key, lookD, List.find?_cons]
theorem mSet_dK {kds : List (Key × D)} {x : Str} {d : D} (h : kds.length < sizeLine) (nd : (kds.map (·.1)).Nodup) : mSet (.dK .own kds) [d, .str x] = some (.non, .dK .own (putKD kds (.inr x) d)) := by
  show ((D.key (.str x)).bind fun kk => if kds.length < sizeLine ∧ (kds.map (·.1)).Nodup then some (D.non, D.dK .own (putKD kds kk d)) else none) = _
  show (if kds.length < sizeLine ∧ (kds.map (·.1)).Nodup then some (D.non, D.dK .own (putKD kds (.inr x) d)) else none) = _
  rw [if_pos ⟨h, nd⟩]
@[simp] theorem Drw.set_at (x : Drw) (i : Int) : mSet (x.d .own) [.int i, .str "at"] = some (.non, ({ x with pos := i } : Drw).d .own) := by
  refine (mSet_dK (kds := [(.inr "cells", .lst .frz (x.cells.map .int)), (.inr "at", .int x.pos), (.inr "left", .int x.left), (.inr "number", .int x.num), (.inr "digits", .bl x.dig)]) (by simp [sizeLine]) Drw.nd).trans ?_
  simp [putKD, Drw.d]
@[simp] theorem Drw.set_left (x : Drw) (i : Int) : mSet (x.d .own) [.int i, .str "left"] = some (.non, ({ x with left := i } : Drw).d .own) := by
  refine (mSet_dK (kds := [(.inr "cells", .lst .frz (x.cells.map .int)), (.inr "at", .int x.pos), (.inr "left", .int x.left), (.inr "number", .int x.num), (.inr "digits", .bl x.dig)]) (by simp [sizeLine]) Drw.nd).trans ?_
  simp [putKD, Drw.d]
@[simp] theorem Drw.set_num (x : Drw) (i : Int) : mSet (x.d .own) [.int i, .str "number"] = some (.non, ({ x with num := i } : Drw).d .own) := by
  refine (mSet_dK (kds := [(.inr "cells", .lst .frz (x.cells.map .int)), (.inr "at", .int x.pos), (.inr "left", .int x.left), (.inr "number", .int x.num), (.inr "digits", .bl x.dig)]) (by simp [sizeLine]) Drw.nd).trans ?_
  simp [putKD, Drw.d]

/-- the draw is in order: n picks at most are behind it -/
structure Drw.Ok (x : Drw) (n : Nat) : Prop where
  ne : x.cells ≠ []
  len : x.cells.length ≤ 64
  lo : 0 ≤ x.pos
  hi : x.pos ≤ n
theorem atI_ints {xs : List Int} {i : Int} (h0 : 0 ≤ i) (h : i < xs.length) : ∃ v : Int, gIx [.lst .frz (xs.map .int), .int i] = some (.int v) := by
  have hj : i.toNat < xs.length := by omega
  refine ⟨xs[i.toNat], ?_⟩
  show ((atI (xs.map D.int) i).bind fun d => if d.isUnd then none else some d) = _
  unfold atI ixN
  rw [List.length_map, if_pos h0, if_pos h]
  simp [hj]
end TL

set_option Elab.async false
set_option linter.all false
set_option maxRecDepth 100000
namespace TL
open PySem PySem.Spec PyProof.Rows L2
theorem pick_ok {x : Drw} {n : Nat} (hx : x.Ok n) (hn : n < 1000000) {m : Int} (h0 : 0 < m) (h1 : m < 1000000) :
    ∃ (v : Int) (y : Drw), F_law_pick [x.d .own, .int m] = some (.int v, [y.d .own, .und]) ∧ 0 ≤ v ∧ v < m ∧ y.Ok (n + 1) := by
  have hl : 0 < x.cells.length := List.length_pos_iff.mpr hx.ne
  have hl' : (0 : Int) < (x.cells.length : Int) := by omega
  have a1 := hx.lo
  have a2 := hx.hi
  obtain ⟨v1, e1⟩ := atI_ints (xs := x.cells) (i := (x.pos + 1) % (x.cells.length : Int)) (Int.emod_nonneg _ (by omega)) (Int.emod_lt_of_pos _ (by omega))
  have hm : m < 18446744073709551616 := by omega
  unfold F_law_pick B_law_pick
  rw [ev_fn]
  by_cases hd : x.dig = true
  · by_cases hz : x.left - 1 = 0
    · refine ⟨x.num % m, ⟨x.cells, x.pos + 1, 60, v1, true⟩, ?_, Int.emod_nonneg _ (by omega), Int.emod_lt_of_pos _ h0, ⟨hx.ne, hx.len, by simp; omega, by simp; omega⟩⟩
      simp [hd, hz, gMod_int h0, gDiv_int h0 hm, gMod_int hl', e1]
    · refine ⟨x.num % m, ⟨x.cells, x.pos, x.left - 1, x.num / m, true⟩, ?_, Int.emod_nonneg _ (by omega), Int.emod_lt_of_pos _ h0, ⟨hx.ne, hx.len, by simp; omega, by simp; omega⟩⟩
      simp [hd, hz, gMod_int h0, gDiv_int h0 hm, gMod_int hl', e1]
  · rw [Bool.not_eq_true] at hd
    have s1 : smallI (x.pos + 1) = true := by unfold smallI; exact decide_eq_true (by omega)
    have m2 : ∀ a : Int, gMul [.int a, .int 7919] = some (.int (a * 7919)) := fun a => gMul_int (.inr (by decide))
    have m3 : ∀ a : Int, gMul [.int a, .int 48271] = some (.int (a * 48271)) := fun a => gMul_int (.inr (by decide))
    have m4 : ∀ a : Int, gMul [.int (a % 2147483647), .int (a % 2147483647)] = some (.int (a % 2147483647 * (a % 2147483647))) := fun a => gMul_int (.inl (by unfold smallI; exact decide_eq_true (by omega)))
    have hv : ∃ v1' : Int, gIx [.lst .frz (x.cells.map .int), .int ((x.pos + 1) % (x.cells.length : Int))] = some (.int v1') := ⟨v1, e1⟩
    obtain ⟨w, hw⟩ : ∃ w : Int, w = (v1 % 2147483629 + (x.pos + 1) * (x.pos + 1) * 7919 + 11) * 48271 := ⟨_, rfl⟩
    refine ⟨(w % 2147483647 * (w % 2147483647)) % 1999999973 / 7 % m, ⟨x.cells, x.pos + 1, x.left, x.num, false⟩, ?_, Int.emod_nonneg _ (by omega), Int.emod_lt_of_pos _ h0, ⟨hx.ne, hx.len, by simp; omega, by simp; omega⟩⟩
    simp [hd, gMod_int h0, gDiv_int, gMod_int, gMod_int hl', e1, gMul_int (.inl s1), m2, m3, ← hw, m4]
end TL

set_option Elab.async false
set_option linter.all false
set_option maxRecDepth 100000
/-! L06: refusals apart. -/
namespace TL
open PySem PySem.Spec PyProof.Rows L2
theorem pys_ints (ys : List Int) : D.pys (ys.map .int) = some (ys.map .int) := by
  induction ys with
  | nil => rfl
  | cons y r ih => simp [D.pys, D.py, ih]
theorem shaped_ints (ys : List Int) : SeqAt.shaped (.list (ys.map .int)) = true := by
  have h1 : PyData.canLayAll0 (ys.map PyData.int) = true := by
    induction ys with
    | nil => rfl
    | cons y r ih => simp [PyData.canLayAll0, PyData.canLay0, ih]
  have h2 : PyData.depthAll (ys.map PyData.int) = 0 := by
    clear h1
    induction ys with
    | nil => rfl
    | cons y r ih => simp [PyData.depthAll, PyData.depth] at ih ⊢; exact ih
  simp [SeqAt.shaped, PyData.canLay0, PyData.depth, h1, h2]
theorem eq_nil_ints (f g : Fl) (ns : List Int) : gEq [.lst f (ns.map .int), .lst g []] = some (.bl (decide (ns = []))) := by
  refine gEq_of ?_
  have e : D.py (.lst f (ns.map .int)) = some (.list (ns.map .int)) := by
    show (D.pys (ns.map .int)).map PyData.list = _
    rw [pys_ints]
    rfl
  unfold pyEq
  rw [e]
  show (if SeqAt.shaped (.list (ns.map PyData.int)) && SeqAt.shaped (.list []) then some (PyData.eqv (.list (ns.map PyData.int)) (.list [])) else none) = _
  rw [shaped_ints]
  cases ns <;> rfl
theorem drawn_ok (ns : List Int) (h : ns.length ≤ 63) : ∃ x : Drw, F_law_drawn [scr ns] = some (x.d .own, [.und]) ∧ x.Ok 0 := by
  unfold F_law_drawn B_law_drawn scr
  rw [ev_fn]
  cases ns with
  | nil =>
    have r : gMul [.lst .own [.int 0], .int 1] = some (.lst .own [.int 0]) := rfl
    have a : gAdd [.lst .own [], .lst .own [.int 0]] = some (.lst .own [.int 0]) := rfl
    have i : gIx [.lst .frz [.int 0], .int 0] = some (.int 0) := rfl
    refine ⟨⟨[0], 0, 60, 0, true⟩, ?_, ⟨by simp, by simp, by simp, by simp⟩⟩
    have en := eq_nil_ints .ext .own []
    rw [List.map_nil] at en
    simp [r, a, i, en, gDiv_int, gMod_int, Drw.d]
  | cons n ns =>
    have en := eq_nil_ints .ext .own (n :: ns)
    rw [decide_eq_false (by simp), List.map_cons] at en
    have r : gMul [.lst .own [.int 0], .int 0] = some (.lst .own []) := rfl
    have a : gAdd [.lst .own (.int n :: ns.map .int), .lst .own []] = some (.lst .own (.int n :: ns.map .int)) := by
      rw [gAdd_lst (by decide) (by decide) (by rw [List.length_nil, List.length_cons, List.length_map]; rw [List.length_cons] at h; exact Nat.le_trans h (by decide)), List.append_nil]
    have i : gIx [.lst .frz (.int n :: ns.map .int), .int 0] = some (.int n) := by
      show ((atI (D.int n :: ns.map D.int) 0).bind fun d => if d.isUnd then none else some d) = _
      unfold atI ixN
      rw [if_pos (by decide), if_pos (by rw [List.length_cons]; omega)]
      rfl
    refine ⟨⟨n :: ns, 0, 60, n / 2, decide (n % 2 = 0)⟩, ?_, ⟨by simp, by rw [List.length_cons] at h ⊢; simp at h ⊢; omega, by simp, by simp⟩⟩
    simp [r, a, i, en, gDiv_int, gMod_int, Drw.d]
/-- what is asked -/
theorem W_nx6 {s t : Ev → Option Out} {env e : Ev} {Q : Out → Prop} (h1 : s env = some (.nx e)) (h2 : W (t e) Q) : W (sSeq s t env) Q := by
  obtain ⟨o2, e2, q⟩ := h2
  refine ⟨o2, ?_, q⟩
  simp [h1, e2]
theorem gLst_w (ds : List D) : gLst ds = (if ds.length ≤ sizeLine then some (.lst .own ds) else none) := rfl
theorem turn06 (ns : List Int) {x : Drw} {n : Nat} (hx : x.Ok n) (hn : n < 1000) {i : Int} (i0 : 0 ≤ i) (i6 : i < 6) (c3 : D) : ∃ (y : Drw) (p : Int), W_law_1 [scr ns, x.d .own, .int i, c3, .und, .und, .und] = some (.nx [scr ns, y.d .own, .int i, .int p, .und, .und, .und]) ∧ y.Ok (n + 2) := by
  obtain ⟨v, y, e1, v0, v1, hy⟩ := pick_ok hx (by omega) (m := 2000) (by decide) (by decide)
  obtain ⟨u, z, e2, u0, u1, hz⟩ := pick_ok hy (by omega) (m := 3) (by decide) (by decide)
  have li : ∀ v : Int, 0 ≤ v → v < 3 → ∃ d : Str, gIx [.lst .own [.str (Str.ofString ""), .str (Str.ofString "row"), .str (Str.ofString "one row")], .int v] = some (.str d) := fun v v0 v1 => by
    have : v = 0 ∨ v = 1 ∨ v = 2 := by omega
    rcases this with rfl | rfl | rfl
    all_goals exact ⟨_, rfl⟩
  obtain ⟨d, hd⟩ := li u u0 u1
  refine ⟨z, 1 + v, ?_, hz⟩
  have ef : fsA [scr ns, y.d .own, .int i, .int (1 + v), .und, .und, .und] = some ([.int i, .str d, .int (1 + v)], [scr ns, z.d .own, .int i, .int (1 + v), .und, .und, .und]) := by
    unfold fsA
    have h3 : 3 ≤ sizeLine := by decide
    simp [e2, hd, gLst_w, h3]
  unfold W_law_1
  have e0 : (sAsg (eFrz (eMode [false, true, false, false, false, false, false] (eOp gAdd (aCons (eC (.int 1)) (aCons (eCall 2 [some 1, none] F_law_pick (aCons (eMove 1) (aCons (eC (.int 2000)) (aNil)))) aNil))))) (tgName 3)) [scr ns, x.d .own, .int i, c3, .und, .und, .und] = some (.nx [scr ns, y.d .own, .int i, .int (1 + v), .und, .und, .und]) := by
    simp [e1]
  show (match (sAsg (eFrz (eMode [false, true, false, false, false, false, false] (eOp gAdd (aCons (eC (.int 1)) (aCons (eCall 2 [some 1, none] F_law_pick (aCons (eMove 1) (aCons (eC (.int 2000)) (aNil)))) aNil))))) (tgName 3)) [scr ns, x.d .own, .int i, c3, .und, .und, .und] with
    | some (.nx e) => sMadeOk fsA e
    | r => r) = _
  rw [e0]
  show (fsA _).bind _ = _
  rw [ef]
  show (if 0 ≤ i ∧ i < 6 ∧ i = i ∧ 1 + v = 1 + v then _ else none) = _
  rw [if_pos ⟨i0, i6, rfl, rfl⟩]
theorem plain (ns : List Int) (h : ns.length ≤ 63) (_ : ∀ z ∈ ns, Builtin.Int.intBits z ≤ 1048576) : ∃ ds', F_law [scr ns] = some (.bl true, ds') := by
  suffices hh : W (F_law [scr ns]) fun r => r.1 = .bl true by
    obtain ⟨⟨r, ds⟩, e, q⟩ := hh
    cases q
    exact ⟨ds, e⟩
  refine W_fn rfl ?_
  unfold B_law
  obtain ⟨x, e0, hx⟩ := drawn_ok ns h
  refine W_nx6 (e := [scr ns, x.d .own, .und, .und, .und, .und, .und]) (by simp [e0]) ?_
  simp
  rw [wR1_ok (by decide) (by decide)]
  simp only [W_some]
  refine for_W (g := fun i : Nat => D.int ((i : Nat) : Int)) (I := fun done rest env => ∃ (x : Drw) (c2 c3 : D), env = [scr ns, x.d .own, c2, c3, .und, .und, .und] ∧ x.Ok (2 * done.length)) ⟨x, _, _, rfl, hx⟩ ?_ ?_
  · rintro done y rest env hys ⟨x, c2, c3, rfl, hx⟩
    have dl : done.length < 6 := by
      have := congrArg List.length hys
      rw [List.length_append, List.length_cons] at this
      simp at this
      omega
    have yl : y < 6 := by
      have : y ∈ List.range (6 : Int).toNat := by rw [hys]; simp
      rw [List.mem_range] at this
      simpa using this
    rw [show tgName 2 (D.int ((y : Nat) : Int)) [scr ns, x.d .own, c2, c3, .und, .und, .und] = some [scr ns, x.d .own, .int ((y : Nat) : Int), c3, .und, .und, .und] from rfl, W_some]
    obtain ⟨z, p, ez, hz⟩ := turn06 ns hx (by omega) (i := ((y : Nat) : Int)) (by omega) (by omega) c3
    rw [ez]
    refine ⟨_, rfl, z, _, _, rfl, ?_⟩
    rw [List.length_append]
    exact hz
  · rintro env ⟨x, c2, c3, rfl, hx⟩
    trivial
end TL

set_option Elab.async false
set_option maxRecDepth 100000
open PySem PySem.W PyProof.Rows
set_option maxRecDepth 100000 in
set_option maxHeartbeats 0 in
theorem PySem.Challenge.cw_farbooks_k06_refusals_apart_holds : PySem.Challenge.rw_farbooks_k06_refusals_apart.Holds := by
  w_on; o_law; k_head; (case hw => w_witness2)
  k_fill
  refine TL.ends (l := PySem.Challenge.rw_farbooks_k06_refusals_apart) (k := 4) (x := "_law_script") (F := TL.F_law) rfl rfl ⟨rfl, by decide, by decide⟩ (fun w h Y => PySem.W.kIn_of Y) ?F TL.plain
  case F =>
    intro w mg fa h KX G hmg
    refine' TL.all_mk KX G hmg ?a_law_drawn ?l_law_drawn ?c_law_drawn ?k_law_drawn ?a_law_pick ?l_law_pick ?c_law_pick ?k_law_pick ?a_law ?l_law ?c_law ?k_law ?z_int ?z_len ?z_list ?z_range ?xq_a_law_made ?xq_l_law_made ?xq_c_law_made ?xq_k_law_made ?xq_g0 ?xq_g1 ?xq_g2 ?xq_g3 ?xq_g4 ?xq_g5 ?xq_x0 ?xq_sa0 ?xq_ga0 ?xq_gg0 ?xq_pl0 ?xq_in0 ?xq_ca0 ?xq_kp0 ?xq_ex0 ?xq_ty0 ?xq_hd0 ?xq_mo0 ?xq_kv0 ?xq_k00 ?xq_k01 ?xq_k02 ?xq_k03 ?xq_k04 ?xq_k05 ?xq_x1 ?xq_sa1 ?xq_ga1 ?xq_gg1 ?xq_pl1 ?xq_in1 ?xq_ca1 ?xq_kp1 ?xq_ex1 ?xq_ty1 ?xq_hd1 ?xq_mo1 ?xq_kv1 ?xq_k10 ?xq_k11 ?xq_k12 ?xq_k13 ?xq_k14 ?xq_k15 ?xq_x2 ?xq_sa2 ?xq_ga2 ?xq_gg2 ?xq_pl2 ?xq_in2 ?xq_ca2 ?xq_kp2 ?xq_ex2 ?xq_ty2 ?xq_hd2 ?xq_mo2 ?xq_kv2 ?xq_k20 ?xq_k21 ?xq_k22 ?xq_k23 ?xq_k24 ?xq_k25 ?xq_x3 ?xq_sa3 ?xq_ga3 ?xq_gg3 ?xq_pl3 ?xq_in3 ?xq_ca3 ?xq_kp3 ?xq_ex3 ?xq_ty3 ?xq_hd3 ?xq_mo3 ?xq_kv3 ?xq_k30 ?xq_k31 ?xq_k32 ?xq_k33 ?xq_k34 ?xq_k35 ?xq_x4 ?xq_sa4 ?xq_ga4 ?xq_gg4 ?xq_pl4 ?xq_in4 ?xq_ca4 ?xq_kp4 ?xq_ex4 ?xq_ty4 ?xq_hd4 ?xq_mo4 ?xq_kv4 ?xq_k40 ?xq_k41 ?xq_k42 ?xq_k43 ?xq_k44 ?xq_k45 ?xq_x5 ?xq_sa5 ?xq_ga5 ?xq_gg5 ?xq_pl5 ?xq_in5 ?xq_ca5 ?xq_kp5 ?xq_ex5 ?xq_ty5 ?xq_hd5 ?xq_mo5 ?xq_kv5 ?xq_k50 ?xq_k51 ?xq_k52 ?xq_k53 ?xq_k54 ?xq_k55 ?xq_sp ?xq_tk ?xq_ti ?xq_l_init ?xq_c_init ?xq_k_init ?xq_vv ?xq_z_VE ?xq_z_is
    (case a_law_drawn => k_is); (case l_law_drawn => k_is); (case c_law_drawn => k_is); (case k_law_drawn => k_is); (case a_law_pick => k_is); (case l_law_pick => k_is)
    (case c_law_pick => k_is); (case k_law_pick => k_is); (case a_law => k_is); (case l_law => k_is); (case c_law => k_is); (case k_law => k_is)
    (case z_int => k_is); (case z_len => k_is); (case z_list => k_is); (case z_range => k_is)
    (case xq_a_law_made => first | k_is | kit_is | rfl); (case xq_l_law_made => first | k_is | kit_is | rfl); (case xq_c_law_made => first | k_is | kit_is | rfl); (case xq_k_law_made => first | k_is | kit_is | rfl); (case xq_g0 => first | k_is | kit_is | rfl); (case xq_g1 => first | k_is | kit_is | rfl)
    (case xq_g2 => first | k_is | kit_is | rfl); (case xq_g3 => first | k_is | kit_is | rfl); (case xq_g4 => first | k_is | kit_is | rfl); (case xq_g5 => first | k_is | kit_is | rfl); (case xq_x0 => first | k_is | kit_is | rfl); (case xq_sa0 => first | k_is | kit_is | rfl)
    (case xq_ga0 => first | k_is | kit_is | rfl); (case xq_gg0 => first | k_is | kit_is | rfl); (case xq_pl0 => first | k_is | kit_is | rfl); (case xq_in0 => first | k_is | kit_is | rfl); (case xq_ca0 => first | k_is | kit_is | rfl); (case xq_kp0 => first | k_is | kit_is | rfl)
    (case xq_ex0 => first | k_is | kit_is | rfl); (case xq_ty0 => first | k_is | kit_is | rfl); (case xq_hd0 => first | k_is | kit_is | rfl); (case xq_mo0 => first | k_is | kit_is | rfl); (case xq_kv0 => first | k_is | kit_is | rfl); (case xq_k00 => first | k_is | kit_is | rfl)
    (case xq_k01 => first | k_is | kit_is | rfl); (case xq_k02 => first | k_is | kit_is | rfl); (case xq_k03 => first | k_is | kit_is | rfl); (case xq_k04 => first | k_is | kit_is | rfl); (case xq_k05 => first | k_is | kit_is | rfl); (case xq_x1 => first | k_is | kit_is | rfl)
    (case xq_sa1 => first | k_is | kit_is | rfl); (case xq_ga1 => first | k_is | kit_is | rfl); (case xq_gg1 => first | k_is | kit_is | rfl); (case xq_pl1 => first | k_is | kit_is | rfl); (case xq_in1 => first | k_is | kit_is | rfl); (case xq_ca1 => first | k_is | kit_is | rfl)
    (case xq_kp1 => first | k_is | kit_is | rfl); (case xq_ex1 => first | k_is | kit_is | rfl); (case xq_ty1 => first | k_is | kit_is | rfl); (case xq_hd1 => first | k_is | kit_is | rfl); (case xq_mo1 => first | k_is | kit_is | rfl); (case xq_kv1 => first | k_is | kit_is | rfl)
    (case xq_k10 => first | k_is | kit_is | rfl); (case xq_k11 => first | k_is | kit_is | rfl); (case xq_k12 => first | k_is | kit_is | rfl); (case xq_k13 => first | k_is | kit_is | rfl); (case xq_k14 => first | k_is | kit_is | rfl); (case xq_k15 => first | k_is | kit_is | rfl)
    (case xq_x2 => first | k_is | kit_is | rfl); (case xq_sa2 => first | k_is | kit_is | rfl); (case xq_ga2 => first | k_is | kit_is | rfl); (case xq_gg2 => first | k_is | kit_is | rfl); (case xq_pl2 => first | k_is | kit_is | rfl); (case xq_in2 => first | k_is | kit_is | rfl)
    (case xq_ca2 => first | k_is | kit_is | rfl); (case xq_kp2 => first | k_is | kit_is | rfl); (case xq_ex2 => first | k_is | kit_is | rfl); (case xq_ty2 => first | k_is | kit_is | rfl); (case xq_hd2 => first | k_is | kit_is | rfl); (case xq_mo2 => first | k_is | kit_is | rfl)
    (case xq_kv2 => first | k_is | kit_is | rfl); (case xq_k20 => first | k_is | kit_is | rfl); (case xq_k21 => first | k_is | kit_is | rfl); (case xq_k22 => first | k_is | kit_is | rfl); (case xq_k23 => first | k_is | kit_is | rfl); (case xq_k24 => first | k_is | kit_is | rfl)
    (case xq_k25 => first | k_is | kit_is | rfl); (case xq_x3 => first | k_is | kit_is | rfl); (case xq_sa3 => first | k_is | kit_is | rfl); (case xq_ga3 => first | k_is | kit_is | rfl); (case xq_gg3 => first | k_is | kit_is | rfl); (case xq_pl3 => first | k_is | kit_is | rfl)
    (case xq_in3 => first | k_is | kit_is | rfl); (case xq_ca3 => first | k_is | kit_is | rfl); (case xq_kp3 => first | k_is | kit_is | rfl); (case xq_ex3 => first | k_is | kit_is | rfl); (case xq_ty3 => first | k_is | kit_is | rfl); (case xq_hd3 => first | k_is | kit_is | rfl)
    (case xq_mo3 => first | k_is | kit_is | rfl); (case xq_kv3 => first | k_is | kit_is | rfl); (case xq_k30 => first | k_is | kit_is | rfl); (case xq_k31 => first | k_is | kit_is | rfl); (case xq_k32 => first | k_is | kit_is | rfl); (case xq_k33 => first | k_is | kit_is | rfl)
    (case xq_k34 => first | k_is | kit_is | rfl); (case xq_k35 => first | k_is | kit_is | rfl); (case xq_x4 => first | k_is | kit_is | rfl); (case xq_sa4 => first | k_is | kit_is | rfl); (case xq_ga4 => first | k_is | kit_is | rfl); (case xq_gg4 => first | k_is | kit_is | rfl)
    (case xq_pl4 => first | k_is | kit_is | rfl); (case xq_in4 => first | k_is | kit_is | rfl); (case xq_ca4 => first | k_is | kit_is | rfl); (case xq_kp4 => first | k_is | kit_is | rfl); (case xq_ex4 => first | k_is | kit_is | rfl); (case xq_ty4 => first | k_is | kit_is | rfl)
    (case xq_hd4 => first | k_is | kit_is | rfl); (case xq_mo4 => first | k_is | kit_is | rfl); (case xq_kv4 => first | k_is | kit_is | rfl); (case xq_k40 => first | k_is | kit_is | rfl); (case xq_k41 => first | k_is | kit_is | rfl); (case xq_k42 => first | k_is | kit_is | rfl)
    (case xq_k43 => first | k_is | kit_is | rfl); (case xq_k44 => first | k_is | kit_is | rfl); (case xq_k45 => first | k_is | kit_is | rfl); (case xq_x5 => first | k_is | kit_is | rfl); (case xq_sa5 => first | k_is | kit_is | rfl); (case xq_ga5 => first | k_is | kit_is | rfl)
    (case xq_gg5 => first | k_is | kit_is | rfl); (case xq_pl5 => first | k_is | kit_is | rfl); (case xq_in5 => first | k_is | kit_is | rfl); (case xq_ca5 => first | k_is | kit_is | rfl); (case xq_kp5 => first | k_is | kit_is | rfl); (case xq_ex5 => first | k_is | kit_is | rfl)
    (case xq_ty5 => first | k_is | kit_is | rfl); (case xq_hd5 => first | k_is | kit_is | rfl); (case xq_mo5 => first | k_is | kit_is | rfl); (case xq_kv5 => first | k_is | kit_is | rfl); (case xq_k50 => first | k_is | kit_is | rfl); (case xq_k51 => first | k_is | kit_is | rfl)
    (case xq_k52 => first | k_is | kit_is | rfl); (case xq_k53 => first | k_is | kit_is | rfl); (case xq_k54 => first | k_is | kit_is | rfl); (case xq_k55 => first | k_is | kit_is | rfl); (case xq_sp => first | k_is | kit_is | rfl); (case xq_tk => first | k_is | kit_is | rfl)
    (case xq_ti => first | k_is | kit_is | rfl); (case xq_l_init => first | k_is | kit_is | rfl); (case xq_c_init => first | k_is | kit_is | rfl); (case xq_k_init => first | k_is | kit_is | rfl); (case xq_vv => first | k_is | kit_is | rfl); (case xq_z_VE => first | k_is | kit_is | rfl)
    (case xq_z_is => first | k_is | kit_is | rfl)
