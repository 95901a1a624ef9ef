/- What is proved: nothing: the data types of the plain laws. No condition. -/
import Init
namespace Go.Proofs.YtbcdcakcmdcafaaGreat
structure DPut where
  at_ : Int
  words : List Int
  deriving DecidableEq, Inhabited
structure DDisk where
  blocks : List (List Int)
  cache : List DPut
  deriving DecidableEq, Inhabited
structure DExt where
  frm : Int
  cnt : Int
  key : Int
  deriving DecidableEq, Inhabited
structure DKern where
  disk : DDisk
  exts : List DExt
  deriving DecidableEq, Inhabited
structure RDisk where
  code : Int
  disk : DDisk
  deriving DecidableEq, Inhabited
structure RInt where
  code : Int
  val : Int
  deriving DecidableEq, Inhabited
structure RInts where
  code : Int
  list : List Int
  deriving DecidableEq, Inhabited
structure RBytes where
  code : Int
  bytes : List UInt8
  deriving DecidableEq, Inhabited
structure RText where
  code : Int
  text : ByteArray
  deriving DecidableEq, Inhabited
structure RKern where
  code : Int
  words : List Int
  kern : DKern
  deriving DecidableEq, Inhabited
structure RNames where
  code : Int
  names : List ByteArray
  deriving DecidableEq, Inhabited
structure DEnt where
  name : ByteArray
  ino : Int
  deriving DecidableEq, Inhabited
structure DInode where
  kind : Int
  links : Int
  size : Int
  blocks : List Int
  ents : List DEnt
  deriving DecidableEq, Inhabited
structure RInode where
  code : Int
  inode : DInode
  deriving DecidableEq, Inhabited
structure DFs where
  inodes : List DInode
  data : List (List UInt8)
  deriving DecidableEq, Inhabited
structure RFs where
  code : Int
  fs : DFs
  deriving DecidableEq, Inhabited
structure RStat where
  code : Int
  inode : Int
  kind : Int
  links : Int
  size : Int
  deriving DecidableEq, Inhabited
structure DSrc where
  code : List UInt8
  at_ : Int
  deriving DecidableEq, Inhabited
end Go.Proofs.YtbcdcakcmdcafaaGreat
